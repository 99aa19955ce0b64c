import PyProof.Rows.All
import Wide.All
import OpenK.AllK
import Wide.FinOn
import PySem.Challenge.RW_wonbyturns_k46_whole_alike_and_least_con
import HandS.ForExc
import HandS.Head0
import HandS.Head1
import HandS.Head2
import HandS.HeadEnd
import HandS.HeadHook1
import HandS.HeadHook2
import HandS.HeadHook3
import HandS.HeadHook4
import HandS.Defaults
import HandS.ForMost
import HandS.Conv
import HandS.DictComp
import HandS.Star
import HandS.Zip
import HandS.SortInts
import HandS.Strs
import HandS.IsInst
import HandS.ListItems
import HandS.Words
import HandS.WordsList
import HandS.WordsDict
import HandS.Style
import HandS.TupAny
import KE.KEqNest
import PyProof.NeKinds
import HandS.Deep
import HandS.Sort
import HandS.SetFor
import PyProof.Rows.RuleB_pow
import HandS.Codes
import KE.KDictList
import KE.SortData
import HandS.Zip0
import KE.KItemsList
import KE.KDictZip
import PyProof.ListNew
import HandS.TryOnly
import HandS.ExcOwn
import HandS.WordsExc
set_option Elab.async false
set_option linter.all false
set_option maxRecDepth 100000
namespace K46
open PySem PySem.Spec PyProof.Rows L2
def top (i : Nat) : Stmt := PySem.Challenge.pw_wonbyturns_k46_whole_alike_and_least_con.main.body.getD i (.Pass ⟨0, 0, 0, 0⟩)
abbrev Sis_integer : Stmt := top 15
abbrev Sis_within : Stmt := top 16
abbrev Sis_word : Stmt := top 17
abbrev Sdivisor_of : Stmt := top 18
abbrev Sis_fraction : Stmt := top 19
abbrev Sis_chance : Stmt := top 20
abbrev Sfraction_of : Stmt := top 21
abbrev Splus : Stmt := top 22
abbrev Ssum_of : Stmt := top 24
abbrev Sascending_rows : Stmt := top 25
abbrev Sis_move : Stmt := top 36
abbrev Sare_moves : Stmt := top 37
abbrev Sis_game : Stmt := top 38
abbrev Sare_games : Stmt := top 39
abbrev Srequire_house : Stmt := top 45
abbrev Sgains_in : Stmt := top 48
abbrev Sis_state_in : Stmt := top 52
abbrev Sis_controller_in : Stmt := top 53
abbrev Srequire_controller : Stmt := top 54
abbrev Sstate_behind : Stmt := top 55
abbrev Sgame_behind : Stmt := top 56
abbrev Sparting_in : Stmt := top 57
abbrev Srequire_both : Stmt := top 58
abbrev Sparting_sight : Stmt := top 59
abbrev Sare_alike : Stmt := top 60
abbrev Sbegun_at : Stmt := top 61
abbrev Sreordered_states : Stmt := top 62
abbrev Sleast_in : Stmt := top 63
abbrev Sleast_controller : Stmt := top 64
abbrev Sis_least : Stmt := top 65
abbrev S_law_dice : Stmt := top 67
abbrev S_law_roll : Stmt := top 68
abbrev S_law_pick : Stmt := top 69
abbrev S_law_some : Stmt := top 70
abbrev S_law_chances : Stmt := top 71
abbrev S_law_moves : Stmt := top 72
abbrev S_law_game : Stmt := top 73
abbrev S_law_house : Stmt := top 74
abbrev S_law_known_house : Stmt := top 75
abbrev S_law_made : Stmt := top 76
abbrev S_law_gains : Stmt := top 77
abbrev S_law_controller : Stmt := top 78
abbrev S_law_state : Stmt := top 79
abbrev S_law_parting : Stmt := top 80
abbrev S_law_from : Stmt := top 81
abbrev S_law_sorts : Stmt := top 82
abbrev S_law_told_behind : Stmt := top 83
abbrev S_law_least_right : Stmt := top 84
abbrev S_law_right : Stmt := top 85
abbrev Slaw : Stmt := top 86
abbrev S_House_init : Stmt := inClass (top 44) 0
end K46

set_option Elab.async false
set_option linter.all false
set_option maxRecDepth 100000
set_option maxHeartbeats 0
namespace K46
open PySem PySem.Spec PyProof.Rows L2
def Dis_integer : He.DefD := ⟨("is_integer", none), "is_integer", "is_integer", defArgs Sis_integer, defBody Sis_integer, defScope Sis_integer, [], []⟩
def Dis_within : He.DefD := ⟨("is_within", none), "is_within", "is_within", defArgs Sis_within, defBody Sis_within, defScope Sis_within, [], []⟩
def Dis_word : He.DefD := ⟨("is_word", none), "is_word", "is_word", defArgs Sis_word, defBody Sis_word, defScope Sis_word, [], []⟩
def Ddivisor_of : He.DefD := ⟨("divisor_of", none), "divisor_of", "divisor_of", defArgs Sdivisor_of, defBody Sdivisor_of, defScope Sdivisor_of, [], []⟩
def Dis_fraction : He.DefD := ⟨("is_fraction", none), "is_fraction", "is_fraction", defArgs Sis_fraction, defBody Sis_fraction, defScope Sis_fraction, [], []⟩
def Dis_chance : He.DefD := ⟨("is_chance", none), "is_chance", "is_chance", defArgs Sis_chance, defBody Sis_chance, defScope Sis_chance, [], []⟩
def Dfraction_of : He.DefD := ⟨("fraction_of", none), "fraction_of", "fraction_of", defArgs Sfraction_of, defBody Sfraction_of, defScope Sfraction_of, [], []⟩
def Dplus : He.DefD := ⟨("plus", none), "plus", "plus", defArgs Splus, defBody Splus, defScope Splus, [], []⟩
def Dsum_of : He.DefD := ⟨("sum_of", none), "sum_of", "sum_of", defArgs Ssum_of, defBody Ssum_of, defScope Ssum_of, [], []⟩
def Dascending_rows : He.DefD := ⟨("ascending_rows", none), "ascending_rows", "ascending_rows", defArgs Sascending_rows, defBody Sascending_rows, defScope Sascending_rows, [], []⟩
def Dis_move : He.DefD := ⟨("is_move", none), "is_move", "is_move", defArgs Sis_move, defBody Sis_move, defScope Sis_move, [], []⟩
def Dare_moves : He.DefD := ⟨("are_moves", none), "are_moves", "are_moves", defArgs Sare_moves, defBody Sare_moves, defScope Sare_moves, [], []⟩
def Dis_game : He.DefD := ⟨("is_game", none), "is_game", "is_game", defArgs Sis_game, defBody Sis_game, defScope Sis_game, [], []⟩
def Dare_games : He.DefD := ⟨("are_games", none), "are_games", "are_games", defArgs Sare_games, defBody Sare_games, defScope Sare_games, [], []⟩
def Drequire_house : He.DefD := ⟨("require_house", none), "require_house", "require_house", defArgs Srequire_house, defBody Srequire_house, defScope Srequire_house, [], []⟩
def Dgains_in : He.DefD := ⟨("gains_in", none), "gains_in", "gains_in", defArgs Sgains_in, defBody Sgains_in, defScope Sgains_in, [], []⟩
def Dis_state_in : He.DefD := ⟨("is_state_in", none), "is_state_in", "is_state_in", defArgs Sis_state_in, defBody Sis_state_in, defScope Sis_state_in, [], []⟩
def Dis_controller_in : He.DefD := ⟨("is_controller_in", none), "is_controller_in", "is_controller_in", defArgs Sis_controller_in, defBody Sis_controller_in, defScope Sis_controller_in, [], []⟩
def Drequire_controller : He.DefD := ⟨("require_controller", none), "require_controller", "require_controller", defArgs Srequire_controller, defBody Srequire_controller, defScope Srequire_controller, [], []⟩
def Dstate_behind : He.DefD := ⟨("state_behind", none), "state_behind", "state_behind", defArgs Sstate_behind, defBody Sstate_behind, defScope Sstate_behind, [], []⟩
def Dgame_behind : He.DefD := ⟨("game_behind", none), "game_behind", "game_behind", defArgs Sgame_behind, defBody Sgame_behind, defScope Sgame_behind, [], []⟩
def Dparting_in : He.DefD := ⟨("parting_in", none), "parting_in", "parting_in", defArgs Sparting_in, defBody Sparting_in, defScope Sparting_in, [], []⟩
def Drequire_both : He.DefD := ⟨("require_both", none), "require_both", "require_both", defArgs Srequire_both, defBody Srequire_both, defScope Srequire_both, [], []⟩
def Dparting_sight : He.DefD := ⟨("parting_sight", none), "parting_sight", "parting_sight", defArgs Sparting_sight, defBody Sparting_sight, defScope Sparting_sight, [], []⟩
def Dare_alike : He.DefD := ⟨("are_alike", none), "are_alike", "are_alike", defArgs Sare_alike, defBody Sare_alike, defScope Sare_alike, [], []⟩
def Dbegun_at : He.DefD := ⟨("begun_at", none), "begun_at", "begun_at", defArgs Sbegun_at, defBody Sbegun_at, defScope Sbegun_at, [], []⟩
def Dreordered_states : He.DefD := ⟨("reordered_states", none), "reordered_states", "reordered_states", defArgs Sreordered_states, defBody Sreordered_states, defScope Sreordered_states, [], []⟩
def Dleast_in : He.DefD := ⟨("least_in", none), "least_in", "least_in", defArgs Sleast_in, defBody Sleast_in, defScope Sleast_in, [], []⟩
def Dleast_controller : He.DefD := ⟨("least_controller", none), "least_controller", "least_controller", defArgs Sleast_controller, defBody Sleast_controller, defScope Sleast_controller, [], []⟩
def Dis_least : He.DefD := ⟨("is_least", none), "is_least", "is_least", defArgs Sis_least, defBody Sis_least, defScope Sis_least, [], []⟩
def D_law_dice : He.DefD := ⟨("_law_dice", none), "_law_dice", "_law_dice", defArgs S_law_dice, defBody S_law_dice, defScope S_law_dice, [], []⟩
def D_law_roll : He.DefD := ⟨("_law_roll", none), "_law_roll", "_law_roll", defArgs S_law_roll, defBody S_law_roll, defScope S_law_roll, [], []⟩
def D_law_pick : He.DefD := ⟨("_law_pick", none), "_law_pick", "_law_pick", defArgs S_law_pick, defBody S_law_pick, defScope S_law_pick, [], []⟩
def D_law_some : He.DefD := ⟨("_law_some", none), "_law_some", "_law_some", defArgs S_law_some, defBody S_law_some, defScope S_law_some, [], []⟩
def D_law_chances : He.DefD := ⟨("_law_chances", none), "_law_chances", "_law_chances", defArgs S_law_chances, defBody S_law_chances, defScope S_law_chances, [], []⟩
def D_law_moves : He.DefD := ⟨("_law_moves", none), "_law_moves", "_law_moves", defArgs S_law_moves, defBody S_law_moves, defScope S_law_moves, [], []⟩
def D_law_game : He.DefD := ⟨("_law_game", none), "_law_game", "_law_game", defArgs S_law_game, defBody S_law_game, defScope S_law_game, [], []⟩
def D_law_house : He.DefD := ⟨("_law_house", none), "_law_house", "_law_house", defArgs S_law_house, defBody S_law_house, defScope S_law_house, [], []⟩
def D_law_known_house : He.DefD := ⟨("_law_known_house", none), "_law_known_house", "_law_known_house", defArgs S_law_known_house, defBody S_law_known_house, defScope S_law_known_house, [], []⟩
def D_law_made : He.DefD := ⟨("_law_made", none), "_law_made", "_law_made", defArgs S_law_made, defBody S_law_made, defScope S_law_made, [], []⟩
def D_law_gains : He.DefD := ⟨("_law_gains", none), "_law_gains", "_law_gains", defArgs S_law_gains, defBody S_law_gains, defScope S_law_gains, [], []⟩
def D_law_controller : He.DefD := ⟨("_law_controller", none), "_law_controller", "_law_controller", defArgs S_law_controller, defBody S_law_controller, defScope S_law_controller, [], []⟩
def D_law_state : He.DefD := ⟨("_law_state", none), "_law_state", "_law_state", defArgs S_law_state, defBody S_law_state, defScope S_law_state, [], []⟩
def D_law_parting : He.DefD := ⟨("_law_parting", none), "_law_parting", "_law_parting", defArgs S_law_parting, defBody S_law_parting, defScope S_law_parting, [], []⟩
def D_law_from : He.DefD := ⟨("_law_from", none), "_law_from", "_law_from", defArgs S_law_from, defBody S_law_from, defScope S_law_from, [], []⟩
def D_law_sorts : He.DefD := ⟨("_law_sorts", none), "_law_sorts", "_law_sorts", defArgs S_law_sorts, defBody S_law_sorts, defScope S_law_sorts, [], []⟩
def D_law_told_behind : He.DefD := ⟨("_law_told_behind", none), "_law_told_behind", "_law_told_behind", defArgs S_law_told_behind, defBody S_law_told_behind, defScope S_law_told_behind, [], []⟩
def D_law_least_right : He.DefD := ⟨("_law_least_right", none), "_law_least_right", "_law_least_right", defArgs S_law_least_right, defBody S_law_least_right, defScope S_law_least_right, [], []⟩
def D_law_right : He.DefD := ⟨("_law_right", none), "_law_right", "_law_right", defArgs S_law_right, defBody S_law_right, defScope S_law_right, [], []⟩
def Dlaw : He.DefD := ⟨("law", none), "law", "law", defArgs Slaw, defBody Slaw, defScope Slaw, [], []⟩
def D_House_init : He.DefD := ⟨("House", some "__init__"), "__init__", "House.__init__", defArgs S_House_init, defBody S_House_init, defScope S_House_init, [], []⟩
def hfn0 : List He.DefD := [Dis_integer, Dis_within, Dis_word, Ddivisor_of, Dis_fraction, Dis_chance, Dfraction_of, Dplus, Dsum_of, Dascending_rows, Dis_move, Dare_moves, Dis_game, Dare_games, Drequire_house, Dgains_in, Dis_state_in, Dis_controller_in, Drequire_controller, Dstate_behind]
def hfn1 : List He.DefD := [Dgame_behind, Dparting_in, Drequire_both, Dparting_sight, Dare_alike, Dbegun_at, Dreordered_states, Dleast_in, Dleast_controller, Dis_least, D_law_dice, D_law_roll, D_law_pick, D_law_some, D_law_chances, D_law_moves, D_law_game, D_law_house, D_law_known_house, D_law_made]
def hfn2 : List He.DefD := [D_law_gains, D_law_controller, D_law_state, D_law_parting, D_law_from, D_law_sorts, D_law_told_behind, D_law_least_right, D_law_right, Dlaw, D_House_init]
def hfn : List He.DefD := hfn0 ++ hfn1 ++ hfn2
def hfa0 : List He.Fa := [.glo "is_integer", .glo "is_within", .glo "is_word", .glo "divisor_of", .glo "is_fraction", .glo "is_chance", .glo "fraction_of", .glo "plus", .glo "sum_of", .glo "ascending_rows", .glo "is_move", .glo "are_moves", .glo "is_game", .glo "are_games", .glo "require_house", .glo "gains_in", .glo "is_state_in", .glo "is_controller_in", .glo "require_controller", .glo "state_behind"]
def hfa1 : List He.Fa := [.glo "game_behind", .glo "parting_in", .glo "require_both", .glo "parting_sight", .glo "are_alike", .glo "begun_at", .glo "reordered_states", .glo "least_in", .glo "least_controller", .glo "is_least", .glo "_law_dice", .glo "_law_roll", .glo "_law_pick", .glo "_law_some", .glo "_law_chances", .glo "_law_moves", .glo "_law_game", .glo "_law_house", .glo "_law_known_house", .glo "_law_made"]
def hfa2 : List He.Fa := [.glo "_law_gains", .glo "_law_controller", .glo "_law_state", .glo "_law_parting", .glo "_law_from", .glo "_law_sorts", .glo "_law_told_behind", .glo "_law_least_right", .glo "_law_right", .glo "law", .glo "House", .glo "InvalidOperation", .cls "House", .mkr "House", .noat "House" "own_games", .noat "House" "own_names", .noat "House" "own_size", .exc "InvalidOperation", .exm "InvalidOperation" "InvalidOperation" true, .int "MAX_LETTERS" 8]
def hfa3 : List He.Fa := [.int "MAX_DIGITS" 300, .int "LONGEST" (10 ^ 300), .int "MAX_GAMES" 4, .int "MAX_STANDINGS" 8, .int "MAX_MOVES" 12, .int "MAX_GAIN" 99, .int "MAX_STATES" 4, .str "LETTERS" "abcdefghijklmnopqrstuvwxyz", .free "isinstance", .free "int", .free "bool", .free "tuple", .free "str", .free "dict", .free "len", .free "all", .free "abs", .free "list", .free "zip", .free "set"]
def hfa4 : List He.Fa := [.free "sorted", .free "range", .free "enumerate", .free "max", .free "min"]
def hfa : List He.Fa := hfa0 ++ hfa1 ++ hfa2 ++ hfa3 ++ hfa4
abbrev HR : PySem.W.OpenRow := PySem.W.OpenLaw.row PySem.Challenge.rw_wonbyturns_k46_whole_alike_and_least_con
/-- what isinstance(x, House) asks -/
def hex1 (K : PySem.W.Frag) : Bool := He.eqO (PySem.W.findIn K (.ref (He.ga K "House")) "__class__") (some (some (.builtin "object.__class__")))
def hex2 (K : PySem.W.Frag) : Bool := He.eqO (PySem.W.specialIn K (.builtin "object.__class__") "__get__") (some (some (.builtin "getset_descriptor.__get__")))
def hex3 (K : PySem.W.Frag) : Bool := decide (PySem.W.takesIn K (.builtin "object.__class__") = some true)
def hex4 (K : PySem.W.Frag) : Bool := decide (PySem.W.mroIn K (He.ga K "House") (.type "object") = some true)
def hex5 (K : PySem.W.Frag) : Bool := decide (PySem.W.kitOne K (.ref (He.ga K "House")) (.ref (He.ga K "House")) = some true)
def hex (K : PySem.W.Frag) : Bool := hex1 K && (hex2 K && (hex3 K && (hex4 K && hex5 K)))
/-- what an object names that is looked at: a dict's values; a def's code; a class's dict and its bases -/
def refsV (o : Obj) : List Addr := match o.data with
  | .dict es _ => es.toList.flatMap fun e => He.refV e.val
  | _ => []
def refsF (o : Obj) : List Addr := match o.data with
  | .func fd => He.refV fd.code
  | .cls cd => cd.ns :: cd.mro.flatMap He.refV
  | _ => []
def hopO (g : Addr → Option Obj) (f : Obj → List Addr) (as : List Addr) : List Addr := as.flatMap fun a => match g a with
  | some o => f o
  | none => []
def asO (g : Addr → Option Obj) : List Addr :=
  let l1 := hopO g refsV [mainGlobals]
  let l2 := hopO g refsF l1
  let l3 := hopO g refsV l2
  mainGlobals :: (l1 ++ (l2 ++ (l3 ++ hopO g refsF l3)))
def obsO (K : PySem.W.Frag) : He.AlD × Bool := (He.obsD hfa hfn K, hex K)
structure SaysO (K : PySem.W.Frag) : Prop where
  d : He.SaysD hfa hfn K
  more : hex K = true
def hhk : PySem.W.Hook where
  α := He.AlD × Bool
  obs := fun s => obsO (He.frG s.heap.get? (asO s.heap.get?))
  val := fun _ => (He.valD hfn, true)
  says := fun _ h => ∃ K : PySem.W.Frag, K.In h ∧ SaysO K
  of := fun _ _ e => ⟨_, He.frG_in, congrArg (fun z : He.AlD × Bool => z.1) e, congrArg (fun z : He.AlD × Bool => z.2) e⟩
  keeps := fun _ _ _ ⟨K, hK, c⟩ k => ⟨K, PySem.W.Frag.In.keeps hK k, c⟩
def hob (s : PySem.W.SharedT) : He.AlD × Bool := obsO (He.frG (HandSHeadRun.getT s) (asO (HandSHeadRun.getT s)))
theorem hob_eq (s : PySem.W.SharedT) : hob s = hhk.obs s.abs := by
  have e : HandSHeadRun.getT s = s.abs.heap.get? := funext fun a => HandSHeadRun.getT_eq s a
  show obsO (He.frG (HandSHeadRun.getT s) (asO (HandSHeadRun.getT s))) = _
  rw [e] <;> rfl
def hloose : List PySem.Str := (["_wall", "GameError", "InvalidHouse", "InvalidController", "InvalidOperation", "ParseError", "UnknownGame", "TooMany", "InvalidNumber", "MAX_LETTERS", "MAX_DIGITS", "LETTERS", "LONGEST", "is_integer", "is_within", "is_word", "divisor_of", "is_fraction", "is_chance", "fraction_of", "plus", "times", "sum_of", "ascending_rows", "DIGITS", "integer_of_text", "pair_of_text", "text_of_pair", "MAX_GAMES", "MAX_STANDINGS"] : List PySem.Str) ++ (["MAX_MOVES", "MAX_GAIN", "is_move", "are_moves", "is_game", "are_games", "small_number", "move_of_line", "lines_of_game", "games_of_rows", "House", "require_house", "chance_in", "gain_in", "gains_in", "united_house", "MAX_STATES", "is_state_in", "is_controller_in", "require_controller", "state_behind", "game_behind", "parting_in", "require_both", "parting_sight", "are_alike", "begun_at", "reordered_states", "least_in", "least_controller"] : List PySem.Str) ++ (["is_least", "_law_dice", "_law_roll", "_law_pick", "_law_some", "_law_chances", "_law_moves", "_law_game", "_law_house", "_law_known_house", "_law_made", "_law_gains", "_law_controller", "_law_state", "_law_parting", "_law_from", "_law_sorts", "_law_told_behind", "_law_least_right", "_law_right"] : List PySem.Str)
theorem hrun (w : World) : HandSHeadRun.RunEq HR (PySem.W.view HR.prog [86]) hhk hob 40000 hloose w := by
  intro os
  kernel_rfl
end K46

set_option Elab.async false
set_option linter.all false
set_option maxRecDepth 100000
set_option maxHeartbeats 1000000
/-! The data layer: what a value holds (D), data-level judgements over the hand layer's rules. -/
namespace K46
open PySem PySem.Spec PyProof.Rows L2

/-- data -/
inductive D where
  | non | bl (b : Bool) | int (i : Int) | str (x : Str)
  | tup (ds : List D) | lst (ds : List D) | dic (ks : List Key) (ds : List D) | set (ns : List Int) | hou (ds : List D)

/-- a house's attributes, as its maker stores them -/
def hfs : List V → List (Str × V)
  | [a] => putF "own_games" a []
  | [a, b] => putF "own_names" b (putF "own_games" a [])
  | [a, b, c] => putF "own_size" c (putF "own_names" b (putF "own_games" a []))
  | _ => []

section
variable (w : World) (C : Addr) (F : Hp)
mutual
def Has : D → V → Prop
  | .non, v => v = .non
  | .bl b, v => v = .bl b
  | .int i, v => v = .int i
  | .str x, v => v = .str x
  | .tup ds, v => ∃ a vs, v = .ref a ∧ F a = some (.tup vs) ∧ HasL ds vs
  | .lst ds, v => ∃ a vs, v = .ref a ∧ F a = some (.lst vs) ∧ HasL ds vs
  | .dic ks ds, v => ∃ a vs, v = .ref a ∧ F a = some (.dK (ks.zip vs)) ∧ ks.length = vs.length ∧ HasL ds vs
  | .set ns, v => ∃ a, v = .ref a ∧ F a = some (SetO w a (fun k => decide (k ∈ ns)) ns.length)
  | .hou ds, v => ∃ a dx vs, v = .ref a ∧ F a = some (.ins C dx (hfs vs)) ∧ HasL ds vs
def HasL : List D → List V → Prop
  | [], vs => vs = []
  | d :: ds, vs => ∃ v r, vs = v :: r ∧ Has d v ∧ HasL ds r
end
end

def Le (F F' : Hp) : Prop := ∀ a o, F a = some o → F' a = some o
theorem Le.refl (F : Hp) : Le F F := fun _ _ h => h
theorem Le.trans {F F' F2 : Hp} (a : Le F F') (b : Le F' F2) : Le F F2 := fun x o h => b x o (a x o h)

section
variable {w : World} {C : Addr} {F F' : Hp}
mutual
theorem Has.mono (h : Le F F') : ∀ {d : D} {v : V}, Has w C F d v → Has w C F' d v
  | .non, _, e => by simpa only [Has] using e
  | .bl _, _, e => by simpa only [Has] using e
  | .int _, _, e => by simpa only [Has] using e
  | .str _, _, e => by simpa only [Has] using e
  | .tup ds, _, e => by
    simp only [Has] at e ⊢
    obtain ⟨a, vs, e1, e2, e3⟩ := e
    exact ⟨a, vs, e1, h _ _ e2, HasL.mono h e3⟩
  | .lst ds, _, e => by
    simp only [Has] at e ⊢
    obtain ⟨a, vs, e1, e2, e3⟩ := e
    exact ⟨a, vs, e1, h _ _ e2, HasL.mono h e3⟩
  | .dic ks ds, _, e => by
    simp only [Has] at e ⊢
    obtain ⟨a, vs, e1, e2, e4, e3⟩ := e
    exact ⟨a, vs, e1, h _ _ e2, e4, HasL.mono h e3⟩
  | .set ns, _, e => by
    simp only [Has] at e ⊢
    obtain ⟨a, e1, e2⟩ := e
    exact ⟨a, e1, h _ _ e2⟩
  | .hou ds, _, e => by
    simp only [Has] at e ⊢
    obtain ⟨a, dx, vs, e1, e2, e3⟩ := e
    exact ⟨a, dx, vs, e1, h _ _ e2, HasL.mono h e3⟩
theorem HasL.mono (h : Le F F') : ∀ {ds : List D} {vs : List V}, HasL w C F ds vs → HasL w C F' ds vs
  | [], _, e => by simpa only [HasL] using e
  | d :: ds, _, e => by
    simp only [HasL] at e ⊢
    obtain ⟨v, r, e1, e2, e3⟩ := e
    exact ⟨v, r, e1, Has.mono h e2, HasL.mono h e3⟩
end
theorem has_non {v : V} : Has w C F .non v ↔ v = .non := by simp only [Has]
theorem has_bl {b : Bool} {v : V} : Has w C F (.bl b) v ↔ v = .bl b := by simp only [Has]
theorem has_int {i : Int} {v : V} : Has w C F (.int i) v ↔ v = .int i := by simp only [Has]
theorem has_str {x : Str} {v : V} : Has w C F (.str x) v ↔ v = .str x := by simp only [Has]
theorem has_tup {ds : List D} {v : V} : Has w C F (.tup ds) v ↔ ∃ a vs, v = .ref a ∧ F a = some (.tup vs) ∧ HasL w C F ds vs := by simp only [Has]
theorem has_lst {ds : List D} {v : V} : Has w C F (.lst ds) v ↔ ∃ a vs, v = .ref a ∧ F a = some (.lst vs) ∧ HasL w C F ds vs := by simp only [Has]
theorem has_dic {ks : List Key} {ds : List D} {v : V} : Has w C F (.dic ks ds) v ↔ ∃ a vs, v = .ref a ∧ F a = some (.dK (ks.zip vs)) ∧ ks.length = vs.length ∧ HasL w C F ds vs := by simp only [Has]
theorem has_set {ns : List Int} {v : V} : Has w C F (.set ns) v ↔ ∃ a, v = .ref a ∧ F a = some (SetO w a (fun k => decide (k ∈ ns)) ns.length) := by simp only [Has]
theorem has_hou {ds : List D} {v : V} : Has w C F (.hou ds) v ↔ ∃ a dx vs, v = .ref a ∧ F a = some (.ins C dx (hfs vs)) ∧ HasL w C F ds vs := by simp only [Has]
theorem hasL_nil {vs : List V} : HasL w C F [] vs ↔ vs = [] := by simp only [HasL]
theorem hasL_cons {d : D} {ds : List D} {vs : List V} : HasL w C F (d :: ds) vs ↔ ∃ v r, vs = v :: r ∧ Has w C F d v ∧ HasL w C F ds r := by simp only [HasL]
theorem HasL.length : ∀ {ds : List D} {vs : List V}, HasL w C F ds vs → vs.length = ds.length
  | [], _, h => by
    rw [hasL_nil.mp h]
    rfl
  | d :: ds, _, h => by
    obtain ⟨v, r, rfl, _, h3⟩ := hasL_cons.mp h
    simp [HasL.length h3]
theorem HasL.cons {d : D} {ds : List D} {v : V} {vs : List V} (h : Has w C F d v) (t : HasL w C F ds vs) : HasL w C F (d :: ds) (v :: vs) := hasL_cons.mpr ⟨v, vs, rfl, h, t⟩
theorem HasL.nil : HasL w C F [] [] := hasL_nil.mpr rfl
theorem HasL.get : ∀ {ds : List D} {vs : List V} {i : Nat} {d : D}, HasL w C F ds vs → ds[i]? = some d → ∃ v, vs[i]? = some v ∧ Has w C F d v
  | [], _, i, d, _, e => by simp at e
  | x :: ds, _, i, d, h, e => by
    obtain ⟨v, r, rfl, h2, h3⟩ := hasL_cons.mp h
    cases i with
    | zero => simp at e; subst e; exact ⟨v, rfl, h2⟩
    | succ i => simp at e; obtain ⟨u, e1, e2⟩ := HasL.get h3 e; exact ⟨u, by simpa using e1, e2⟩
theorem HasL.get' {ds : List D} {vs : List V} {i : Nat} {v : V} (h : HasL w C F ds vs) (e : vs[i]? = some v) : ∃ d, ds[i]? = some d ∧ Has w C F d v := by
  have hi : i < ds.length := by rw [← h.length]; exact (List.getElem?_eq_some_iff.mp e).1
  obtain ⟨u, e1, e2⟩ := h.get (List.getElem?_eq_getElem hi)
  rw [e] at e1; cases e1
  exact ⟨_, List.getElem?_eq_getElem hi, e2⟩
theorem HasL.append : ∀ {ds es : List D} {vs us : List V}, HasL w C F ds vs → HasL w C F es us → HasL w C F (ds ++ es) (vs ++ us)
  | [], es, _, us, h, t => by rw [hasL_nil.mp h]; exact t
  | d :: ds, es, _, us, h, t => by
    obtain ⟨v, r, rfl, h2, h3⟩ := hasL_cons.mp h
    exact .cons h2 (HasL.append h3 t)
theorem HasL.take : ∀ {ds : List D} {vs : List V} (n : Nat), HasL w C F ds vs → HasL w C F (ds.take n) (vs.take n)
  | _, _, 0, h => by simp; exact .nil
  | [], _, n + 1, h => by rw [hasL_nil.mp h]; exact .nil
  | d :: ds, _, n + 1, h => by
    obtain ⟨v, r, rfl, h2, h3⟩ := hasL_cons.mp h
    exact .cons h2 (HasL.take n h3)
theorem HasL.drop : ∀ {ds : List D} {vs : List V} (n : Nat), HasL w C F ds vs → HasL w C F (ds.drop n) (vs.drop n)
  | _, _, 0, h => by simpa using h
  | [], _, n + 1, h => by rw [hasL_nil.mp h]; exact .nil
  | d :: ds, _, n + 1, h => by
    obtain ⟨v, r, rfl, h2, h3⟩ := hasL_cons.mp h
    exact HasL.drop n h3
theorem HasL.set {d : D} {v : V} (hd : Has w C F d v) : ∀ {ds : List D} {vs : List V} (i : Nat), HasL w C F ds vs → HasL w C F (ds.set i d) (vs.set i v)
  | [], _, i, h => by rw [hasL_nil.mp h]; exact .nil
  | x :: ds, _, 0, h => by
    obtain ⟨u, r, rfl, h2, h3⟩ := hasL_cons.mp h
    exact .cons hd h3
  | x :: ds, _, i + 1, h => by
    obtain ⟨u, r, rfl, h2, h3⟩ := hasL_cons.mp h
    exact .cons h2 (HasL.set hd i h3)
theorem HasL.erase : ∀ {ds : List D} {vs : List V} (i : Nat), HasL w C F ds vs → HasL w C F (ds.eraseIdx i) (vs.eraseIdx i)
  | [], _, i, h => by rw [hasL_nil.mp h]; simp; exact .nil
  | x :: ds, _, 0, h => by
    obtain ⟨u, r, rfl, h2, h3⟩ := hasL_cons.mp h
    exact h3
  | x :: ds, _, i + 1, h => by
    obtain ⟨u, r, rfl, h2, h3⟩ := hasL_cons.mp h
    exact .cons h2 (HasL.erase i h3)
theorem HasL.ints : ∀ {ns : List Int} {vs : List V}, HasL w C F (ns.map D.int) vs ↔ vs = ns.map V.int
  | [], vs => by simp [hasL_nil]
  | n :: ns, vs => by
    rw [List.map_cons, List.map_cons, hasL_cons]
    constructor
    · rintro ⟨v, r, rfl, h1, h2⟩
      rw [has_int.mp h1, HasL.ints.mp h2]
    · intro e
      exact ⟨_, _, e, has_int.mpr rfl, HasL.ints.mpr rfl⟩
theorem HasL.strs : ∀ {ns : List Str} {vs : List V}, HasL w C F (ns.map D.str) vs ↔ vs = ns.map V.str
  | [], vs => by simp [hasL_nil]
  | n :: ns, vs => by
    rw [List.map_cons, List.map_cons, hasL_cons]
    constructor
    · rintro ⟨v, r, rfl, h1, h2⟩
      rw [has_str.mp h1, HasL.strs.mp h2]
    · intro e
      exact ⟨_, _, e, has_str.mpr rfl, HasL.strs.mpr rfl⟩
theorem HasL.bls : ∀ {ns : List Bool} {vs : List V}, HasL w C F (ns.map D.bl) vs ↔ vs = ns.map V.bl
  | [], vs => by simp [hasL_nil]
  | n :: ns, vs => by
    rw [List.map_cons, List.map_cons, hasL_cons]
    constructor
    · rintro ⟨v, r, rfl, h1, h2⟩
      rw [has_bl.mp h1, HasL.bls.mp h2]
    · intro e
      exact ⟨_, _, e, has_bl.mpr rfl, HasL.bls.mpr rfl⟩
end

/-- the data heap F is what stands in H; m: the dict that is locked -/
def Fit (m : Option Addr) (F H : Hp) : Prop := ∀ a o, F a = some o → H a = some o ∨ (m = some a ∧ (∃ kvs, o = .dK kvs) ∧ ∃ ob, H a = some (.frz ob o))
theorem Fit.rd {m : Option Addr} {F H : Hp} (f : Fit m F H) {a : Addr} {o : HO} (e : F a = some o) : Rd H a o := by
  rcases f a o e with h | ⟨_, _, ob, h⟩
  · exact .inl h
  · exact .inr ⟨ob, h⟩
theorem Fit.lst {m : Option Addr} {F H : Hp} (f : Fit m F H) {a : Addr} {xs : List V} (e : F a = some (.lst xs)) : H a = some (.lst xs) := by
  rcases f a _ e with h | ⟨_, ⟨_, z⟩, _⟩
  · exact h
  · cases z
theorem Fit.tup {m : Option Addr} {F H : Hp} (f : Fit m F H) {a : Addr} {xs : List V} (e : F a = some (.tup xs)) : H a = some (.tup xs) := by
  rcases f a _ e with h | ⟨_, ⟨_, z⟩, _⟩
  · exact h
  · cases z
theorem Fit.ins {m : Option Addr} {F H : Hp} (f : Fit m F H) {a C dx : Addr} {fs : List (Str × V)} (e : F a = some (.ins C dx fs)) : H a = some (.ins C dx fs) := by
  rcases f a _ e with h | ⟨_, ⟨_, z⟩, _⟩
  · exact h
  · cases z
theorem Fit.ext {m : Option Addr} {F H : Hp} (f : Fit m F H) {a : Addr} {p : Heap → Prop} (e : F a = some (.ext p)) : H a = some (.ext p) := by
  rcases f a _ e with h | ⟨_, ⟨_, z⟩, _⟩
  · exact h
  · cases z
theorem Fit.dK {F H : Hp} (f : Fit none F H) {a : Addr} {o : HO} (e : F a = some o) : H a = some o := by
  rcases f a _ e with h | ⟨z, _⟩
  · exact h
  · cases z
theorem Fit.none_of {m : Option Addr} {F H : Hp} (f : Fit m F H) {a : Addr} (e : H a = none) : F a = none := by
  cases q : F a with
  | none => rfl
  | some o =>
    rcases f a o q with h | ⟨_, _, _, h⟩
    · rw [e] at h; cases h
    · rw [e] at h; cases h
theorem Fit.sqL {m : Option Addr} {F H : Hp} (f : Fit m F H) {K : PySem.W.Frag} {a : Addr} {xs : List V} (e : F a = some (.lst xs)) : SqL K H a xs := .inl (.inl (f.lst e))
theorem Fit.sqT {m : Option Addr} {F H : Hp} (f : Fit m F H) {K : PySem.W.Frag} {a : Addr} {xs : List V} (e : F a = some (.tup xs)) : SqT K H a xs := .inl (.inl (f.tup e))

/-- a step: data grows by new objects, others' objects stay but at dty -/
structure Stp (dty : Addr → Prop) (F H F' H' : Hp) : Prop where
  up : Le F F'
  new : ∀ a o, F' a = some o → F a = some o ∨ H a = none ∨ dty a
  keep : ∀ a o, H a = some o → F a = none → ¬ dty a → H' a = some o
  live : ∀ a o, H a = some o → ∃ o', H' a = some o'
  frz : ∀ a ob u, H a = some (.frz ob u) → H' a = some (.frz ob u)
abbrev Stp0 := Stp fun _ => False
section
variable {dty dty' : Addr → Prop} {F H F1 H1 F2 H2 : Hp} {m : Option Addr}
theorem Stp.refl : Stp dty F H F H := ⟨.refl F, fun _ _ h => .inl h, fun _ _ h _ _ => h, fun _ o h => ⟨o, h⟩, fun _ _ _ h => h⟩
theorem Stp.weak (s : Stp dty F H F1 H1) (h : ∀ a, dty a → dty' a) : Stp dty' F H F1 H1 := ⟨s.up, fun a o e => (s.new a o e).imp id (Or.imp id (h a)), fun a o e n d => s.keep a o e n fun z => d (h a z), s.live, s.frz⟩
theorem Stp.trans (s : Stp dty F H F1 H1) (t : Stp dty' F1 H1 F2 H2) (h : ∀ a, dty' a → dty a ∨ H a = none) : Stp dty F H F2 H2 where
  up := s.up.trans t.up
  new := fun a o e => by
    rcases t.new a o e with q | q | q
    · exact s.new a o q
    · right
      left
      cases z : H a with
      | none => rfl
      | some u =>
        obtain ⟨u', e'⟩ := s.live a u z
        rw [q] at e'; cases e'
    · rcases h a q with z | z
      · exact .inr (.inr z)
      · exact .inr (.inl z)
  keep := fun a o e n d => by
    have e1 := s.keep a o e n d
    refine t.keep a o e1 ?_ fun z => ?_
    · cases q : F1 a with
      | none => rfl
      | some u =>
        rcases s.new a u q with z | z | z
        · rw [n] at z; cases z
        · rw [e] at z; cases z
        · exact (d z).elim
    · rcases h a z with z | z
      · exact d z
      · rw [e] at z; cases z
  live := fun a o e => by
    obtain ⟨o1, e1⟩ := s.live a o e
    exact t.live a o1 e1
  frz := fun a ob u e => t.frz a ob u (s.frz a ob u e)
theorem Stp.trans0 (s : Stp dty F H F1 H1) (t : Stp dty F1 H1 F2 H2) : Stp dty F H F2 H2 := s.trans t fun a h => .inl h
theorem Stp0.any (s : Stp0 F H F1 H1) : Stp dty F H F1 H1 := s.weak fun _ z => z.elim
/-- a new object -/
theorem Stp.alloc {p : Addr} {o : HO} (hp : H p = none) (hF : F p = none) : Stp dty F H (upd F p o) (upd H p o) where
  up := fun a u e => by rw [upd_ne (ne_of_none e hF)]; exact e
  new := fun a u e => by
    by_cases z : a = p
    · subst z; exact .inr (.inl hp)
    · rw [upd_ne z] at e; exact .inl e
  keep := fun a u e n d => by rw [upd_ne (ne_of_none e hp)]; exact e
  live := fun a u e => ⟨u, by rw [upd_ne (ne_of_none e hp)]; exact e⟩
  frz := fun a ob u e => by rw [upd_ne (ne_of_none e hp)]; exact e
theorem Fit.alloc {p : Addr} {o : HO} (f : Fit m F H) (hp : H p = none) : Fit m (upd F p o) (upd H p o) := fun a u e => by
  by_cases z : a = p
  · subst z; rw [upd_same] at e ⊢; exact .inl e
  · rw [upd_ne z] at e; rw [upd_ne z]; exact f a u e
/-- a new object that is not data yet -/
theorem Stp.allocM {p : Addr} {o : HO} (hp : H p = none) : Stp dty F H F (upd H p o) where
  up := .refl F
  new := fun a u e => .inl e
  keep := fun a u e n d => by rw [upd_ne (ne_of_none e hp)]; exact e
  live := fun a u e => ⟨u, by rw [upd_ne (ne_of_none e hp)]; exact e⟩
  frz := fun a ob u e => by rw [upd_ne (ne_of_none e hp)]; exact e
theorem Fit.updM {p : Addr} {o : HO} (f : Fit m F H) (hp : F p = none) : Fit m F (upd H p o) := fun a u e => by
  have z : a ≠ p := ne_of_none e hp
  rw [upd_ne z]; exact f a u e
/-- a thing of our own is changed -/
theorem Stp.write {p : Addr} {o : HO} (hp : dty p) (hF : F p = none) (hn : ∀ ob u, H p ≠ some (.frz ob u)) : Stp dty F H F (upd H p o) where
  up := .refl F
  new := fun a u e => .inl e
  keep := fun a u e n d => by rw [upd_ne (show a ≠ p from fun z => d (by rw [z]; exact hp))]; exact e
  live := fun a u e => by
    by_cases z : a = p
    · subst z; exact ⟨o, upd_same⟩
    · exact ⟨u, by rw [upd_ne z]; exact e⟩
  frz := fun a ob u e => by
    have z : a ≠ p := fun z => hn ob u (by rw [← z]; exact e)
    rw [upd_ne z]; exact e
/-- it becomes data -/
theorem Stp.froze {p : Addr} {o : HO} (hp : dty p) (hF : F p = none) : Stp dty F H (upd F p o) H where
  up := fun a u e => by rw [upd_ne (ne_of_none e hF)]; exact e
  new := fun a u e => by
    by_cases z : a = p
    · subst z; exact .inr (.inr hp)
    · rw [upd_ne z] at e; exact .inl e
  keep := fun a u e n d => e
  live := fun a u e => ⟨u, e⟩
  frz := fun a ob u e => e
theorem Fit.froze {p : Addr} {o : HO} (f : Fit m F H) (ho : H p = some o) : Fit m (upd F p o) H := fun a u e => by
  by_cases z : a = p
  · subst z; rw [upd_same] at e; rw [ho]; exact .inl e
  · rw [upd_ne z] at e; exact f a u e
end

/-- what a slot is known to hold: nothing; data; an own list; an own dict -/
inductive Sl where
  | no | im (d : D) | ml (ds : List D) | md (ks : List Key) (ds : List D)
def isM : Option Sl → Bool
  | some (.ml _) => true
  | some (.md _ _) => true
  | _ => false
structure Bnd (w : World) (C : Addr) (pr : Option Addr) (F H : Hp) (al : Nat → Addr) (dty : Addr → Prop) (δ : List Sl) (σ : L2.St) : Prop where
  len : σ.length = δ.length
  im : ∀ (i : Nat) (d : D), δ[i]? = some (.im d) → ∃ v, σ[i]? = some (some v) ∧ Has w C F d v
  at_ : ∀ (i : Nat), isM δ[i]? = true → σ[i]? = some (some (.ref (al i))) ∧ F (al i) = none ∧ dty (al i)
  ml : ∀ (i : Nat) (ds : List D), δ[i]? = some (.ml ds) → ∃ vs, H (al i) = some (.lst vs) ∧ HasL w C F ds vs
  md : ∀ (i : Nat) (ks : List Key) (ds : List D), δ[i]? = some (.md ks ds) → ∃ vs, H (al i) = some (.dK (ks.zip vs)) ∧ ks.length = vs.length ∧ HasL w C F ds vs
  inj : ∀ (i j : Nat), i ≠ j → isM δ[i]? = true → isM δ[j]? = true → al i ≠ al j
  pr : ∀ p, pr = some p → al 0 = p
section
variable {w : World} {C : Addr} {pr m : Option Addr} {F H F1 H1 : Hp} {al : Nat → Addr} {dty dty' : Addr → Prop} {δ : List Sl} {σ : L2.St}
theorem Bnd.has (b : Bnd w C pr F H al dty δ σ) {i : Nat} (h : isM δ[i]? = true) : ∃ o, H (al i) = some o ∧ ∀ ob u, o ≠ .frz ob u := by
  cases e : δ[i]? with
  | none => rw [e] at h; cases h
  | some s =>
    cases s with
    | no => rw [e] at h; cases h
    | im d => rw [e] at h; cases h
    | ml ds =>
      obtain ⟨vs, e1, _⟩ := b.ml i ds e
      exact ⟨_, e1, fun _ _ z => by cases z⟩
    | md ks ds =>
      obtain ⟨vs, e1, _⟩ := b.md i ks ds e
      exact ⟨_, e1, fun _ _ z => by cases z⟩
/-- behind a step that left our own things alone -/
theorem Bnd.step (b : Bnd w C pr F H al dty δ σ) (s : Stp dty' F H F1 H1) (h : ∀ (i : Nat), isM δ[i]? = true → ¬ dty' (al i)) : Bnd w C pr F1 H1 al dty δ σ where
  len := b.len
  im := fun i d e => by
    obtain ⟨v, e1, e2⟩ := b.im i d e
    exact ⟨v, e1, e2.mono s.up⟩
  at_ := fun i e => by
    obtain ⟨e1, e2, e3⟩ := b.at_ i e
    refine ⟨e1, ?_, e3⟩
    obtain ⟨o, ho, _⟩ := b.has e
    cases q : F1 (al i) with
    | none => rfl
    | some u =>
      rcases s.new _ u q with z | z | z
      · rw [e2] at z; cases z
      · rw [ho] at z; cases z
      · exact (h i e z).elim
  ml := fun i ds e => by
    obtain ⟨vs, e1, e2⟩ := b.ml i ds e
    have hm : isM δ[i]? = true := by rw [e]; rfl
    exact ⟨vs, s.keep _ _ e1 (b.at_ i hm).2.1 (h i hm), e2.mono s.up⟩
  md := fun i ks ds e => by
    obtain ⟨vs, e1, e2, e3⟩ := b.md i ks ds e
    have hm : isM δ[i]? = true := by rw [e]; rfl
    exact ⟨vs, s.keep _ _ e1 (b.at_ i hm).2.1 (h i hm), e2, e3.mono s.up⟩
  inj := b.inj
  pr := b.pr
theorem Bnd.step0 (b : Bnd w C pr F H al dty δ σ) (s : Stp0 F H F1 H1) : Bnd w C pr F1 H1 al dty δ σ := b.step s fun _ _ z => z
/-- the i-th slot is stored: data -/
theorem Bnd.setI (b : Bnd w C pr F H al dty δ σ) {d : D} {v : V} (i : Nat) (h : Has w C F d v) : Bnd w C pr F H al dty (δ.set i (.im d)) (σ.set i (some v)) where
  len := by rw [List.length_set, List.length_set]; exact b.len
  im := fun j e hj => by
    by_cases z : i = j
    · subst z
      have hi : i < δ.length := by
        have := (List.getElem?_eq_some_iff.mp hj).1
        simpa using this
      rw [List.getElem?_set_self hi] at hj
      cases hj
      exact ⟨v, by rw [List.getElem?_set_self (by rw [b.len]; exact hi)], h⟩
    · rw [List.getElem?_set_ne z] at hj
      obtain ⟨u, e1, e2⟩ := b.im j e hj
      exact ⟨u, by rw [List.getElem?_set_ne z]; exact e1, e2⟩
  at_ := fun j hj => by
    by_cases z : i = j
    · subst z
      exfalso
      by_cases hi : i < δ.length
      · rw [List.getElem?_set_self hi] at hj; cases hj
      · rw [List.getElem?_eq_none (by simpa using hi)] at hj; cases hj
    · rw [List.getElem?_set_ne z] at hj
      rw [List.getElem?_set_ne z]
      exact b.at_ j hj
  ml := fun j ds hj => by
    by_cases z : i = j
    · subst z
      exfalso
      by_cases hi : i < δ.length
      · rw [List.getElem?_set_self hi] at hj; cases hj
      · rw [List.getElem?_eq_none (by simpa using hi)] at hj; cases hj
    · rw [List.getElem?_set_ne z] at hj
      exact b.ml j ds hj
  md := fun j ks ds hj => by
    by_cases z : i = j
    · subst z
      exfalso
      by_cases hi : i < δ.length
      · rw [List.getElem?_set_self hi] at hj; cases hj
      · rw [List.getElem?_eq_none (by simpa using hi)] at hj; cases hj
    · rw [List.getElem?_set_ne z] at hj
      exact b.md j ks ds hj
  inj := fun j k hjk hj hk => by
    have g : ∀ (j : Nat), isM (δ.set i (.im d))[j]? = true → isM δ[j]? = true := fun j hj => by
      by_cases z : i = j
      · subst z
        exfalso
        by_cases hi : i < δ.length
        · rw [List.getElem?_set_self hi] at hj; cases hj
        · rw [List.getElem?_eq_none (by simpa using hi)] at hj; cases hj
      · rw [List.getElem?_set_ne z] at hj
        exact hj
    exact b.inj j k hjk (g j hj) (g k hk)
  pr := b.pr
end
end K46

set_option Elab.async false
set_option linter.all false
set_option maxRecDepth 100000
set_option maxHeartbeats 1000000
namespace K46
open PySem PySem.Spec PyProof.Rows L2

theorem PE.imp {X : Cx} {e : Expr} {t t' : TE} (h : PE X e t) (i : ∀ σ H Q, t' σ H Q → t σ H Q) : PE X e t' := ⟨fun pins s σ H Q I q => h.run pins s σ H Q I (i σ H Q q)⟩
theorem PT.imp {X : Cx} {e : Expr} {t t' : TT} (h : PT X e t) (i : ∀ σ H Q, t' σ H Q → t σ H Q) : PT X e t' := ⟨fun pins s σ H Q I q => h.run pins s σ H Q I (i σ H Q q)⟩
theorem PA.imp {X : Cx} {e : List Expr} {t t' : TA} (h : PA X e t) (i : ∀ σ H Q, t' σ H Q → t σ H Q) : PA X e t' := ⟨fun pos pins s σ H Q I q => h.run pos pins s σ H Q I (i σ H Q q)⟩
theorem PS.imp {X : Cx} {e : Stmt} {t t' : TS} (h : PS X e t) (i : ∀ D σ H, t' D σ H → t D σ H) : PS X e t' := ⟨fun pins s σ H D I q => h.run pins s σ H D I (i D σ H q)⟩
theorem PSs.imp {X : Cx} {e : List Stmt} {t t' : TS} (h : PSs X e t) (i : ∀ D σ H, t' D σ H → t D σ H) : PSs X e t' := ⟨fun pins s σ H D I q => h.run pins s σ H D I (i D σ H q)⟩
theorem PI.imp {X : Cx} {tg e : Expr} {t t' : TI} (h : PI X tg e t) (i : ∀ σ H Q, t' σ H Q → t σ H Q) : PI X tg e t' := ⟨fun pins s σ H Q I q => h.run pins s σ H Q I (i σ H Q q)⟩

structure Pm where
  w : World
  C : Addr
  pr : Option Addr
  m : Option Addr
structure Cf (q : Pm) (F H : Hp) (al : Nat → Addr) (dty : Addr → Prop) (δ : List Sl) (σ : L2.St) : Prop where
  liv : ∀ a, dty a → ∃ o, H a = some o
  fit : Fit q.m F H
  bnd : Bnd q.w q.C q.pr F H al dty δ σ
abbrev Hs (q : Pm) (F : Hp) (d : D) (v : V) : Prop := Has q.w q.C F d v
abbrev HsL (q : Pm) (F : Hp) (d : List D) (v : List V) : Prop := HasL q.w q.C F d v
abbrev DTE := List Sl → (D → List Sl → Prop) → Prop
abbrev DTT := List Sl → (Bool → List Sl → Prop) → Prop
abbrev DTA := List Sl → (List D → List Sl → Prop) → Prop
structure DEnds where
  nx : List Sl → Prop
  rt : D → List Sl → Prop
  bk : List Sl → Prop := fun _ => False
  ct : List Sl → Prop := fun _ => False
abbrev DTS := DEnds → List Sl → Prop
def lE (q : Pm) (t : DTE) : TE := fun σ H Q => ∃ F al dty δ R, Cf q F H al dty δ σ ∧ t δ R ∧ ∀ v d δ' F' H', Stp dty F H F' H' → Cf q F' H' al dty δ' σ → Hs q F' d v → R d δ' → Q v H'
def lT (q : Pm) (t : DTT) : TT := fun σ H Q => ∃ F al dty δ R, Cf q F H al dty δ σ ∧ t δ R ∧ ∀ b δ' F' H', Stp dty F H F' H' → Cf q F' H' al dty δ' σ → R b δ' → Q b H'
def lA (q : Pm) (t : DTA) : TA := fun σ H Q => ∃ F al dty δ R, Cf q F H al dty δ σ ∧ t δ R ∧ ∀ vs ds δ' F' H', Stp dty F H F' H' → Cf q F' H' al dty δ' σ → HsL q F' ds vs → R ds δ' → Q vs H'
abbrev DE (X : Cx) (q : Pm) (e : Expr) (t : DTE) : Prop := PE X e (lE q t)
abbrev DT (X : Cx) (q : Pm) (e : Expr) (t : DTT) : Prop := PT X e (lT q t)
abbrev DA (X : Cx) (q : Pm) (e : List Expr) (t : DTA) : Prop := PA X e (lA q t)
section
variable {q : Pm} {F H F1 H1 F2 H2 : Hp} {al : Nat → Addr} {dty : Addr → Prop} {δ : List Sl} {σ : L2.St}
theorem Cf.step0 (c : Cf q F H al dty δ σ) (s : Stp0 F H F1 H1) (f : Fit q.m F1 H1) : Cf q F1 H1 al dty δ σ := ⟨fun a h => by obtain ⟨o, e⟩ := c.liv a h; exact s.live a o e, f, c.bnd.step0 s⟩
end

/-! ### names, constants -/
def dVar (i : Nat) : DTE := fun δ R => ∃ d, δ[i]? = some (.im d) ∧ R d δ
def dC (d : D) : DTE := fun δ R => R d δ
section
variable {X : Cx} {q : Pm}
theorem de_var (i : Nat) {x : Str} {pos : Pos} (hN : X.N[i]? = some x := by rfl) (hv : Vis X.env.scope x := by first | exact Or.inl rfl | exact Or.inr (Or.inl rfl) | exact Or.inr (Or.inr rfl)) (hd : (x == ("__debug__" : Str)) = false := by decide)
    (hcd : (x == ("__classdict__" : Str)) = false := by decide) : DE X q (.Name x pos) (dVar i) := by
  refine PE.imp (pe_var hN hv hd hcd) fun σ H Q h => ?_
  obtain ⟨F, al, dty, δ, R, c, ⟨d, e, r⟩, k⟩ := h
  obtain ⟨v, e1, e2⟩ := c.bnd.im i d e
  exact ⟨v, e1, k v d δ F H .refl c e2 r⟩
theorem de_c {e : Expr} {v : V} {d : D} (h : PE X e (tC v)) (hd : ∀ F, Hs q F d v) : DE X q e (dC d) := by
  refine PE.imp h fun σ H Q h => ?_
  obtain ⟨F, al, dty, δ, R, c, r, k⟩ := h
  exact k v d δ F H .refl c (hd F) r
theorem de_int {i j pos} : DE X q (.Constant (.int i) j pos) (dC (.int i)) := de_c pe_int fun F => has_int.mpr rfl
theorem de_bl {b j pos} : DE X q (.Constant (.bool b) j pos) (dC (.bl b)) := de_c pe_bl fun F => has_bl.mpr rfl
theorem de_non {j pos} : DE X q (.Constant .none j pos) (dC .non) := de_c pe_non fun F => has_non.mpr rfl
theorem de_str {x j pos} : DE X q (.Constant (.str x) j pos) (dC (.str x)) := de_c pe_str fun F => has_str.mpr rfl
theorem de_globI {x : Str} {i : Int} {pos : Pos} (hg : Gl X x) (hm : ∃ t, X.mg x = some (.int i t)) (hd : (x == ("__debug__" : Str)) = false := by decide) : DE X q (.Name x pos) (dC (.int i)) := by
  obtain ⟨t, hm⟩ := hm
  exact de_c (pe_glob hg hm (v := .int i) ⟨t, rfl⟩ hd) fun F => has_int.mpr rfl
theorem de_globS {x z : Str} {pos : Pos} (hg : Gl X x) (hm : ∃ t, X.mg x = some (.str z t)) (hd : (x == ("__debug__" : Str)) = false := by decide) : DE X q (.Name x pos) (dC (.str z)) := by
  obtain ⟨t, hm⟩ := hm
  exact de_c (pe_glob hg hm (v := .str z) ⟨t, rfl⟩ hd) fun F => has_str.mpr rfl
end

/-! ### operations on values -/
def OpS (q : Pm) (r : R2) (f : D → D → Option D) : Prop := ∀ F H x y dx dy d Q, Fit q.m F H → Hs q F dx x → Hs q F dy y → f dx dy = some d → (∀ v F' H', Stp0 F H F' H' → Fit q.m F' H' → Hs q F' d v → Q v H') → r x y H Q
def UnS (q : Pm) (r : V → Hp → VK → Prop) (f : D → Option D) : Prop := ∀ F H x dx d Q, Fit q.m F H → Hs q F dx x → f dx = some d → (∀ v F' H', Stp0 F H F' H' → Fit q.m F' H' → Hs q F' d v → Q v H') → r x H Q
def CallS (q : Pm) (r : List V → Hp → VK → Prop) (f : List D → Option D) : Prop := ∀ F H xs ds d Q, Fit q.m F H → HsL q F ds xs → f ds = some d → (∀ v F' H', Stp0 F H F' H' → Fit q.m F' H' → Hs q F' d v → Q v H') → r xs H Q
def d1 (f : D → Option D) (ta : DTE) : DTE := fun δ R => ta δ fun x δ1 => ∃ d, f x = some d ∧ R d δ1
def d2 (f : D → D → Option D) (ta tb : DTE) : DTE := fun δ R => ta δ fun x δ1 => tb δ1 fun y δ2 => ∃ d, f x y = some d ∧ R d δ2
def dL (f : List D → Option D) (ta : DTA) : DTE := fun δ R => ta δ fun xs δ1 => ∃ d, f xs = some d ∧ R d δ1
def daNil : DTA := fun δ R => R [] δ
def daCons (ta : DTE) (tr : DTA) : DTA := fun δ R => ta δ fun x δ1 => tr δ1 fun xs δ2 => R (x :: xs) δ2
section
variable {q : Pm} {σ : L2.St} {H : Hp} {Q : VK}
theorem l_op {r : R2} {f : D → D → Option D} {ta tb : DTE} (hs : OpS q r f) (h : lE q (d2 f ta tb) σ H Q) : tOp r (lE q ta) (lE q tb) σ H Q := by
  obtain ⟨F, al, dty, δ, R, c, t, k⟩ := h
  refine ⟨F, al, dty, δ, _, c, t, fun x dx δ1 F1 H1 s1 c1 hx t1 => ?_⟩
  refine ⟨F1, al, dty, δ1, _, c1, t1, fun y dy δ2 F2 H2 s2 c2 hy t2 => ?_⟩
  obtain ⟨d, hf, hR⟩ := t2
  exact hs F2 H2 x y dx dy d Q c2.fit (hx.mono s2.up) hy hf fun v F3 H3 s3 f3 hv => k v d δ2 F3 H3 ((s1.trans0 s2).trans0 s3.any) (c2.step0 s3 f3) hv hR
theorem l_un {r : V → Hp → VK → Prop} {f : D → Option D} {ta : DTE} (hs : UnS q r f) (h : lE q (d1 f ta) σ H Q) : tUn r (lE q ta) σ H Q := by
  obtain ⟨F, al, dty, δ, R, c, t, k⟩ := h
  refine ⟨F, al, dty, δ, _, c, t, fun x dx δ1 F1 H1 s1 c1 hx t1 => ?_⟩
  obtain ⟨d, hf, hR⟩ := t1
  exact hs F1 H1 x dx d Q c1.fit hx hf fun v F3 H3 s3 f3 hv => k v d δ1 F3 H3 (s1.trans0 s3.any) (c1.step0 s3 f3) hv hR
theorem l_call {r : List V → Hp → VK → Prop} {f : List D → Option D} {ta : DTA} (hs : CallS q r f) (h : lE q (dL f ta) σ H Q) : tCB r (lA q ta) σ H Q := by
  obtain ⟨F, al, dty, δ, R, c, t, k⟩ := h
  refine ⟨F, al, dty, δ, _, c, t, fun xs ds δ1 F1 H1 s1 c1 hx t1 => ?_⟩
  obtain ⟨d, hf, hR⟩ := t1
  exact hs F1 H1 xs ds d Q c1.fit hx hf fun v F3 H3 s3 f3 hv => k v d δ1 F3 H3 (s1.trans0 s3.any) (c1.step0 s3 f3) hv hR
end
section
variable {X : Cx} {q : Pm} {e a b : Expr} {es : List Expr} {ta tb te : DTE} {t tr : DTA} {pos : Pos}
theorem da_nil : DA X q [] daNil := PA.imp pa_nil fun σ H Q h => by
  obtain ⟨F, al, dty, δ, R, c, r, k⟩ := h
  exact k [] [] δ F H .refl c .nil r
theorem da_cons (ha : DE X q e te) (hr : DA X q es tr) (hs : starEach (e :: es) X.env = (false, eval e X.env) :: starEach es X.env := by rfl) : DA X q (e :: es) (daCons te tr) := PA.imp (pa_cons ha hr hs) fun σ H Q h => by
  obtain ⟨F, al, dty, δ, R, c, t, k⟩ := h
  refine ⟨F, al, dty, δ, _, c, t, fun x dx δ1 F1 H1 s1 c1 hx t1 => ?_⟩
  exact ⟨F1, al, dty, δ1, _, c1, t1, fun ys dys δ2 F2 H2 s2 c2 hy t2 => k _ _ δ2 F2 H2 (s1.trans0 s2) c2 (.cons (hx.mono s2.up) hy) t2⟩
theorem de_binop {op : Operator} {r : R2} {f : D → D → Option D} (ho : OpR X (binaryOp op) r) (hs : OpS q r f) (ha : DE X q a ta) (hb : DE X q b tb) : DE X q (.BinOp a op b pos) (d2 f ta tb) := PE.imp (pe_op ho ha hb) fun σ H Q h => l_op hs h
theorem de_cmp {op : CmpOp} {r : R2} {f : D → D → Option D} (ho : OpR X (compareOp op) r) (hs : OpS q r f) (ha : DE X q a ta) (hb : DE X q b tb) (hm : behindInMarks op b = false := by first | exact nobehind _ (by decide) (by decide) | rfl) : DE X q (.Compare a [op] [b] pos) (d2 f ta tb) :=
  PE.imp (pe_cmpR ho ha hb hm) fun σ H Q h => l_op hs h
theorem de_ix {r : R2} {f : D → D → Option D} (ho : IxR X r) (hs : OpS q r f) (ha : DE X q a ta) (hb : DE X q b tb) (hp : PlainIx b) : DE X q (.Subscript a b pos) (d2 f ta tb) := PE.imp (pe_ix ho ha hb hp) fun σ H Q h => l_op hs h
theorem de_un {op : UnaryOp} {r : V → Hp → VK → Prop} {f : D → Option D} (ho : UnR X (unaryOp op) r) (hs : UnS q r f) (ha : DE X q a ta) : DE X q (.UnaryOp op a pos) (d1 f ta) := PE.imp (pe_un ho ha) fun σ H Q h => l_un hs h
end
/-! ### tests -/
def dTst (te : DTE) : DTT := fun δ R => te δ fun x δ1 => ∃ b, x = .bl b ∧ R b δ1
def dAnd (t u : DTT) : DTT := fun δ R => t δ fun c δ1 => (c = true → u δ1 R) ∧ (c = false → R false δ1)
def dOr (t u : DTT) : DTT := fun δ R => t δ fun c δ1 => (c = true → R true δ1) ∧ (c = false → u δ1 R)
def dNot (t : DTT) : DTT := fun δ R => t δ fun c δ1 => R (!c) δ1
def dAndV (ta tb : DTE) : DTE := fun δ R => ta δ fun x δ1 => ∃ c, x = .bl c ∧ (c = true → tb δ1 R) ∧ (c = false → R (.bl false) δ1)
def dOrV (ta tb : DTE) : DTE := fun δ R => ta δ fun x δ1 => ∃ c, x = .bl c ∧ (c = true → R (.bl true) δ1) ∧ (c = false → tb δ1 R)
def dNotV (ta : DTE) : DTE := fun δ R => ta δ fun x δ1 => ∃ c, x = .bl c ∧ R (.bl (!c)) δ1
def dIfE (t : DTT) (ta tb : DTE) : DTE := fun δ R => t δ fun c δ1 => (c = true → ta δ1 R) ∧ (c = false → tb δ1 R)
section
variable {X : Cx} {q : Pm} {e a b c : Expr} {rest : List Expr} {ta tb te : DTE} {t u : DTT} {pos : Pos}
theorem l_tst {σ : L2.St} {H : Hp} {Q : Bool → Hp → Prop} (h : lT q (dTst te) σ H Q) : tB (lE q te) σ H Q := by
  obtain ⟨F, al, dty, δ, R, c, t, k⟩ := h
  refine ⟨F, al, dty, δ, _, c, t, fun x dx δ1 F1 H1 s1 c1 hx t1 => ?_⟩
  obtain ⟨b, rfl, hR⟩ := t1
  exact ⟨b, has_bl.mp hx, k b δ1 F1 H1 s1 c1 hR⟩
/-- an expression whose value is a bool, as a test -/
theorem dt_val (h : DE X q e te) (he : ∀ whole, isTrue e X.env whole = (do let v ← whole; standAt e.pos; holding [v] (truthy v)) := by intro _; rfl) : DT X q e (dTst te) := PT.imp (pt_val h he) fun σ H Q h => l_tst h
/-- a comparison as a test -/
theorem dt_cmp {op : CmpOp} {r : R2} {f : D → D → Option D} (ho : OpR X (compareOp op) r) (hs : OpS q r f) (ha : DE X q a ta) (hb : DE X q b tb) (hm : behindInMarks op b = false := by first | exact nobehind _ (by decide) (by decide) | rfl) : DT X q (.Compare a [op] [b] pos) (dTst (d2 f ta tb)) :=
  PT.imp (pt_cmpR ho ha hb hm) fun σ H Q h => by
    obtain ⟨F, al, dty, δ, R, c, t, k⟩ := h
    refine ⟨F, al, dty, δ, _, c, t, fun x dx δ1 F1 H1 s1 c1 hx t1 => ?_⟩
    refine ⟨F1, al, dty, δ1, _, c1, t1, fun y dy δ2 F2 H2 s2 c2 hy t2 => ?_⟩
    obtain ⟨d, hf, b, rfl, hR⟩ := t2
    exact hs F2 H2 x y dx dy _ _ c2.fit (hx.mono s2.up) hy hf fun v F3 H3 s3 f3 hv => ⟨b, has_bl.mp hv, k b δ2 F3 H3 ((s1.trans0 s2).trans0 s3.any) (c2.step0 s3 f3) hR⟩
theorem dt_not (ha : DT X q a t) : DT X q (.UnaryOp .Not a pos) (dNot t) := PT.imp (pt_not ha) fun σ H Q h => by
  obtain ⟨F, al, dty, δ, R, c, t, k⟩ := h
  exact ⟨F, al, dty, δ, _, c, t, fun b δ1 F1 H1 s1 c1 hR => k (!b) δ1 F1 H1 s1 c1 hR⟩
abbrev DW (X : Cx) (q : Pm) (e : Expr) (t : DTT) : Prop := PW X e (lT q t)
theorem PW.imp {t t' : TT} (h : PW X e t) (i : ∀ σ H Q, t' σ H Q → t σ H Q) : PW X e t' := ⟨fun wh pins s σ H Q I q => h.run wh pins s σ H Q I (i σ H Q q)⟩
theorem dw_and1 (ha : DT X q a t) : DW X q (.BoolOp .And [a] pos) t := pw_and1 ha
theorem dw_or1 (ha : DT X q a t) : DW X q (.BoolOp .Or [a] pos) t := pw_or1 ha
theorem dw_and (ha : DT X q a t) (hb : DW X q (.BoolOp .And (b :: rest) pos) u) : DW X q (.BoolOp .And (a :: b :: rest) pos) (dAnd t u) := PW.imp (pw_and ha hb) fun σ H Q h => by
  obtain ⟨F, al, dty, δ, R, c, t, k⟩ := h
  refine ⟨F, al, dty, δ, _, c, t, fun b δ1 F1 H1 s1 c1 hR => ?_⟩
  cases b with
  | true => exact ⟨F1, al, dty, δ1, R, c1, hR.1 rfl, fun b δ2 F2 H2 s2 c2 hR => k b δ2 F2 H2 (s1.trans0 s2) c2 hR⟩
  | false => exact k false δ1 F1 H1 s1 c1 (hR.2 rfl)
theorem dw_or (ha : DT X q a t) (hb : DW X q (.BoolOp .Or (b :: rest) pos) u) : DW X q (.BoolOp .Or (a :: b :: rest) pos) (dOr t u) := PW.imp (pw_or ha hb) fun σ H Q h => by
  obtain ⟨F, al, dty, δ, R, c, t, k⟩ := h
  refine ⟨F, al, dty, δ, _, c, t, fun b δ1 F1 H1 s1 c1 hR => ?_⟩
  cases b with
  | true => exact k true δ1 F1 H1 s1 c1 (hR.1 rfl)
  | false => exact ⟨F1, al, dty, δ1, R, c1, hR.2 rfl, fun b δ2 F2 H2 s2 c2 hR => k b δ2 F2 H2 (s1.trans0 s2) c2 hR⟩
theorem dt_w (h : DW X q e t) : DT X q e t := h.pt
theorem de_one {op} (h : DE X q a te) : DE X q (.BoolOp op [a] pos) te := pe_one h
theorem de_and (ha : DE X q a ta) (hb : DE X q (.BoolOp .And (b :: rest) pos) tb) : DE X q (.BoolOp .And (a :: b :: rest) pos) (dAndV ta tb) := PE.imp (pe_and ha hb) fun σ H Q h => by
  obtain ⟨F, al, dty, δ, R, c, t, k⟩ := h
  refine ⟨F, al, dty, δ, _, c, t, fun x dx δ1 F1 H1 s1 c1 hx t1 => ?_⟩
  obtain ⟨b, rfl, h1, h2⟩ := t1
  refine ⟨b, has_bl.mp hx, ?_⟩
  cases b with
  | true => exact ⟨F1, al, dty, δ1, R, c1, h1 rfl, fun v d δ2 F2 H2 s2 c2 hv hR => k v d δ2 F2 H2 (s1.trans0 s2) c2 hv hR⟩
  | false => exact k _ _ δ1 F1 H1 s1 c1 (has_bl.mpr rfl) (h2 rfl)
theorem de_or (ha : DE X q a ta) (hb : DE X q (.BoolOp .Or (b :: rest) pos) tb) : DE X q (.BoolOp .Or (a :: b :: rest) pos) (dOrV ta tb) := PE.imp (pe_or ha hb) fun σ H Q h => by
  obtain ⟨F, al, dty, δ, R, c, t, k⟩ := h
  refine ⟨F, al, dty, δ, _, c, t, fun x dx δ1 F1 H1 s1 c1 hx t1 => ?_⟩
  obtain ⟨b, rfl, h1, h2⟩ := t1
  refine ⟨b, has_bl.mp hx, ?_⟩
  cases b with
  | true => exact k _ _ δ1 F1 H1 s1 c1 (has_bl.mpr rfl) (h1 rfl)
  | false => exact ⟨F1, al, dty, δ1, R, c1, h2 rfl, fun v d δ2 F2 H2 s2 c2 hv hR => k v d δ2 F2 H2 (s1.trans0 s2) c2 hv hR⟩
theorem de_not (ha : DE X q a ta) : DE X q (.UnaryOp .Not a pos) (dNotV ta) := PE.imp (pe_not ha) fun σ H Q h => by
  obtain ⟨F, al, dty, δ, R, c, t, k⟩ := h
  refine ⟨F, al, dty, δ, _, c, t, fun x dx δ1 F1 H1 s1 c1 hx t1 => ?_⟩
  obtain ⟨b, rfl, h1⟩ := t1
  exact ⟨b, has_bl.mp hx, k _ _ δ1 F1 H1 s1 c1 (has_bl.mpr rfl) h1⟩
theorem de_ifE (hc : DT X q c t) (ha : DE X q a ta) (hb : DE X q b tb) : DE X q (.IfExp c a b pos) (dIfE t ta tb) := PE.imp (pe_ifExp hc ha hb) fun σ H Q h => by
  obtain ⟨F, al, dty, δ, R, c, t, k⟩ := h
  refine ⟨F, al, dty, δ, _, c, t, fun b δ1 F1 H1 s1 c1 hR => ?_⟩
  cases b with
  | true => exact ⟨F1, al, dty, δ1, R, c1, hR.1 rfl, fun v d δ2 F2 H2 s2 c2 hv hR => k v d δ2 F2 H2 (s1.trans0 s2) c2 hv hR⟩
  | false => exact ⟨F1, al, dty, δ1, R, c1, hR.2 rfl, fun v d δ2 F2 H2 s2 c2 hv hR => k v d δ2 F2 H2 (s1.trans0 s2) c2 hv hR⟩
end
end K46

set_option Elab.async false
set_option linter.all false
set_option maxRecDepth 100000
set_option maxHeartbeats 1000000
namespace K46
open PySem PySem.Spec PyProof.Rows L2

/-! ### statements -/
def Kon (q : Pm) (E : DEnds) (Dn : Ends) (F H : Hp) (dty : Addr → Prop) : Prop := ∀ σ' δ' F' H' al' dty', Stp dty F H F' H' → (∀ a, dty' a → dty a ∨ H a = none) → Cf q F' H' al' dty' δ' σ' →
  (E.nx δ' → Dn.nx σ' H') ∧ (E.bk δ' → Dn.bk σ' H') ∧ (E.ct δ' → Dn.ct σ' H') ∧ ∀ d v, Hs q F' d v → E.rt d δ' → Dn.rt v H'
def lS (q : Pm) (t : DTS) : TS := fun Dn σ H => ∃ F al dty δ E, Cf q F H al dty δ σ ∧ t E δ ∧ Kon q E Dn F H dty
abbrev DS (X : Cx) (q : Pm) (e : Stmt) (t : DTS) : Prop := PS X e (lS q t)
abbrev DSs (X : Cx) (q : Pm) (e : List Stmt) (t : DTS) : Prop := PSs X e (lS q t)
section
variable {q : Pm} {E : DEnds} {Dn : Ends} {F H F1 H1 : Hp} {dty dty1 : Addr → Prop} {al : Nat → Addr} {δ : List Sl} {σ : L2.St}
theorem dty_through (s : Stp dty F H F1 H1) (h : ∀ a, dty1 a → dty a ∨ H a = none) {dty2 : Addr → Prop} (h2 : ∀ a, dty2 a → dty1 a ∨ H1 a = none) : ∀ a, dty2 a → dty a ∨ H a = none := fun a z => by
  rcases h2 a z with y | y
  · exact h a y
  · right
    cases e : H a with
    | none => rfl
    | some o =>
      obtain ⟨o', e'⟩ := s.live a o e
      rw [y] at e'; cases e'
theorem Kon.go (k : Kon q E Dn F H dty) (s : Stp dty F H F1 H1) (h : ∀ a, dty1 a → dty a ∨ H a = none) : Kon q E Dn F1 H1 dty1 := fun σ' δ' F' H' al' dty' s2 h2 c => k σ' δ' F' H' al' dty' (s.trans s2 h) (dty_through s h h2) c
theorem Kon.go0 (k : Kon q E Dn F H dty) (s : Stp dty F H F1 H1) : Kon q E Dn F1 H1 dty := k.go s fun a h => .inl h
theorem Kon.nx (k : Kon q E Dn F H dty) (c : Cf q F H al dty δ σ) (h : E.nx δ) : Dn.nx σ H := (k σ δ F H al dty .refl (fun a h => .inl h) c).1 h
theorem Kon.nxS (k : Kon q E Dn F H dty) (s : Stp dty F H F1 H1) (h : ∀ a, dty1 a → dty a ∨ H a = none) (c : Cf q F1 H1 al dty1 δ σ) (e : E.nx δ) : Dn.nx σ H1 := (k σ δ F1 H1 al dty1 s h c).1 e
end
def dNext : DTS := fun E δ => E.nx δ
def dSeq (t u : DTS) : DTS := fun E δ => t { E with nx := u E } δ
def dIfS (c : DTT) (t u : DTS) : DTS := fun E δ => c δ fun b δ1 => (b = true → t E δ1) ∧ (b = false → u E δ1)
def dRet (te : DTE) : DTS := fun E δ => te δ fun d δ1 => E.rt d δ1
def dDrop (te : DTE) : DTS := fun E δ => te δ fun _ δ1 => E.nx δ1
def dSet (i : Nat) (te : DTE) : DTS := fun E δ => te δ fun d δ1 => E.nx (δ1.set i (.im d))
def dAug (i : Nat) (te : DTE) : DTS := fun E δ => ∃ a, δ[i]? = some (.im (.int a)) ∧ te δ fun d δ1 => ∃ b, d = .int b ∧ E.nx (δ1.set i (.im (.int (a + b))))
def setAll : List Sl → List Nat → List D → List Sl
  | δ, i :: is, d :: ds => setAll (δ.set i (.im d)) is ds
  | δ, _, _ => δ
/-- a target: a name, names in a row -/
inductive Tg where
  | nm (i : Nat) | tp (is : List Nat)
def Tg.set : Tg → D → List Sl → Option (List Sl)
  | .nm i, d, δ => some (δ.set i (.im d))
  | .tp is, .tup ds, δ => if ds.length = is.length then some (setAll δ is ds) else none
  | _, _, _ => none
def Tg.slots : Tg → List Nat
  | .nm i => [i]
  | .tp is => is
def gSets : List Nat → TGs
  | [] => gNil
  | i :: is => gCons (gName i) (gSets is)
def Tg.g (K : PySem.W.Frag) : Tg → TG
  | .nm i => gName i
  | .tp is => gTup K is.length (gSets is)
def dUnp (tg : Tg) (te : DTE) : DTS := fun E δ => te δ fun d δ1 => ∃ δ2, tg.set d δ1 = some δ2 ∧ E.nx δ2
def setV : L2.St → List Nat → List V → L2.St
  | σ, i :: is, v :: vs => setV (σ.set i (some v)) is vs
  | σ, _, _ => σ
section
variable {q : Pm} {F H : Hp} {al : Nat → Addr} {dty : Addr → Prop} {δ : List Sl} {σ : L2.St}
theorem Cf.setI (c : Cf q F H al dty δ σ) {d : D} {v : V} (i : Nat) (h : Hs q F d v) : Cf q F H al dty (δ.set i (.im d)) (σ.set i (some v)) := ⟨c.liv, c.fit, c.bnd.setI i h⟩
theorem cf_sets : ∀ {is : List Nat} {ds : List D} {vs : List V} {δ : List Sl} {σ : L2.St}, Cf q F H al dty δ σ → HsL q F ds vs → ds.length = is.length → Cf q F H al dty (setAll δ is ds) (setV σ is vs)
  | [], [], vs, δ, σ, c, h, _ => by
    rw [hasL_nil.mp h]
    exact c
  | i :: is, d :: ds, vs, δ, σ, c, h, e => by
    obtain ⟨v, r, rfl, h2, h3⟩ := hasL_cons.mp h
    show Cf q F H al dty (setAll (δ.set i (.im d)) is ds) (setV (σ.set i (some v)) is r)
    exact cf_sets (c.setI i h2) h3 (by simpa using e)
theorem gSets_ok : ∀ {is : List Nat} {vs : List V} {σ : L2.St} {H : Hp} {Q : L2.St → Hp → Prop}, vs.length = is.length → Q (setV σ is vs) H → gSets is vs σ H Q
  | [], [], σ, H, Q, _, h => ⟨rfl, h⟩
  | i :: is, v :: vs, σ, H, Q, e, h => ⟨v, vs, rfl, gSets_ok (by simpa using e) h⟩
theorem Tg.ok {K : PySem.W.Frag} (tg : Tg) {d : D} {v : V} {δ2 : List Sl} {Q : L2.St → Hp → Prop} (c : Cf q F H al dty δ σ) (h : Hs q F d v) (e : tg.set d δ = some δ2) (k : ∀ σ2, Cf q F H al dty δ2 σ2 → (∃ vs, σ2 = setV σ tg.slots vs) → Q σ2 H) : tg.g K v σ H Q := by
  cases tg with
  | nm i =>
    cases e
    exact k _ (c.setI i h) ⟨[v], rfl⟩
  | tp is =>
    cases d with
    | tup ds =>
      have e : (if ds.length = is.length then some (setAll δ is ds) else none) = some δ2 := e
      split at e
      · rename_i hl
        cases e
        obtain ⟨a, vs, rfl, hF, hv⟩ := has_tup.mp h
        have hl2 : vs.length = is.length := by rw [hv.length]; exact hl
        exact ⟨a, vs, rfl, c.fit.sqT hF, hl2, gSets_ok hl2 (k _ (cf_sets c hv hl) ⟨vs, rfl⟩)⟩
      · cases e
    | _ => cases e
end
section
variable {X : Cx} {q : Pm} {st : Stmt} {rest : List Stmt} {t u : DTS} {e c : Expr} {te : DTE} {tc : DTT} {pos : Pos} {b b' : List Stmt}
theorem dss_nil : DSs X q [] dNext := PSs.imp pss_nil fun Dn σ H ⟨F, al, dty, δ, E, c, h, k⟩ => k.nx c h
theorem l_seq {T U : TS} (hT : ∀ D σ H, lS q t D σ H → T D σ H) (hU : ∀ D σ H, lS q u D σ H → U D σ H) {Dn : Ends} {σ : L2.St} {H : Hp} (h : lS q (dSeq t u) Dn σ H) : tSeq (lS q t) (lS q u) Dn σ H := by
  obtain ⟨F, al, dty, δ, E, c, h, k⟩ := h
  refine ⟨F, al, dty, δ, _, c, h, fun σ' δ' F' H' al' dty' s h2 c2 => ?_⟩
  obtain ⟨k1, k2, k3, k4⟩ := k σ' δ' F' H' al' dty' s h2 c2
  exact ⟨fun hu => ⟨F', al', dty', δ', E, c2, hu, k.go s h2⟩, k2, k3, k4⟩
theorem dss_cons (h1 : DS X q st t) (h2 : DSs X q rest u) : DSs X q (st :: rest) (dSeq t u) := PSs.imp (pss_cons h1 h2) fun Dn σ H h => l_seq (fun _ _ _ h => h) (fun _ _ _ h => h) h
theorem dss_one (h1 : DS X q st t) : DSs X q [st] t := pss_one h1
theorem ds_if (hc : DT X q c tc) (h1 : DSs X q b t) (h2 : DSs X q b' u) : DS X q (.If c b b' pos) (dIfS tc t u) := PS.imp (ps_if hc h1 h2) fun Dn σ H h => by
  obtain ⟨F, al, dty, δ, E, c, h, k⟩ := h
  refine ⟨F, al, dty, δ, _, c, h, fun b δ1 F1 H1 s1 c1 hR => ?_⟩
  cases b with
  | true => exact ⟨F1, al, dty, δ1, E, c1, hR.1 rfl, k.go0 s1⟩
  | false => exact ⟨F1, al, dty, δ1, E, c1, hR.2 rfl, k.go0 s1⟩
theorem ds_ret (h : DE X q e te) : DS X q (.Return (some e) pos) (dRet te) := PS.imp (ps_ret h) fun Dn σ H h => by
  obtain ⟨F, al, dty, δ, E, c, h, k⟩ := h
  exact ⟨F, al, dty, δ, _, c, h, fun v d δ1 F1 H1 s1 c1 hv hR => (k σ δ1 F1 H1 al dty s1 (fun a h => .inl h) c1).2.2.2 d v hv hR⟩
theorem ds_expr (h : DE X q e te) (hs : swapsWith e none pos.line X.env = pure false := by rfl) : DS X q (.Expr e pos) (dDrop te) := PS.imp (ps_expr h hs) fun Dn σ H h => by
  obtain ⟨F, al, dty, δ, E, c, h, k⟩ := h
  exact ⟨F, al, dty, δ, _, c, h, fun v d δ1 F1 H1 s1 c1 hv hR => (k.go0 s1).nx c1 hR⟩
theorem ds_set {i : Nat} {x : Str} {pos' : Pos} (hN : X.N.Nodup) (h : DE X q e te) (hi : X.N[i]? = some x := by rfl) (hx : Loc X.env.scope x := by first | exact Or.inl rfl | exact Or.inr rfl)
    (hf : X.fn x = true ∨ X.env.scope.names.lookup x = some .local := by first | exact .inl rfl | exact .inr rfl | assumption) (hs : swapsWith e (some (.Name x pos')) pos.line X.env = pure false := by rfl) : DS X q (.Assign [.Name x pos'] e pos) (dSet i te) :=
  PS.imp (ps_asg (e := e) h (pg_name (i := i) hN hi hx hf) hs) fun Dn σ H h => by
    obtain ⟨F, al, dty, δ, E, c, h, k⟩ := h
    exact ⟨F, al, dty, δ, _, c, h, fun v d δ1 F1 H1 s1 c1 hv hR => (k.go0 s1).nx (c1.setI i hv) hR⟩
theorem ds_unp {tg : Tg} {tge : Expr} (hg : PG X tge (tg.g X.K)) (h : DE X q e te) (hs : swapsWithSole [tge] e pos.line X.env = pure false := by rfl) (hw : swappedStores [tge] e X.env = pure none := by rfl)
    (h1 : (assignEach [tge] X.env).map (·.2) = [assign tge X.env] := by rfl) : DS X q (.Assign [tge] e pos) (dUnp tg te) :=
  PS.imp (ps_asg (e := e) h hg hs hw h1) fun Dn σ H h => by
    obtain ⟨F, al, dty, δ, E, c, h, k⟩ := h
    refine ⟨F, al, dty, δ, _, c, h, fun v d δ1 F1 H1 s1 c1 hv hR => ?_⟩
    obtain ⟨δ2, e2, hn⟩ := hR
    exact tg.ok c1 hv e2 fun σ2 c2 _ => by
      exact (k σ2 δ2 F1 H1 al dty s1 (fun a h => .inl h) c2).1 hn
theorem ds_aug {i : Nat} {x : Str} {pos' : Pos} (hN : X.N.Nodup) (h : DE X q e te) (hi : X.N[i]? = some x := by rfl) (hx : Loc X.env.scope x := by first | exact Or.inl rfl | exact Or.inr rfl)
    (hf : X.fn x = true ∨ X.env.scope.names.lookup x = some .local := by first | exact .inl rfl | exact .inr rfl | assumption) : DS X q (.AugAssign (.Name x pos') .Add e pos) (dAug i te) :=
  PS.imp (ps_aug (i := i) hN hi hx h ip_add (hf := hf)) fun Dn σ H h => by
    obtain ⟨F, al, dty, δ, E, c, ⟨a, e1, h⟩, k⟩ := h
    obtain ⟨v, e2, e3⟩ := c.bnd.im i _ e1
    refine ⟨v, e2, F, al, dty, δ, _, c, h, fun y d δ1 F1 H1 s1 c1 hv hR => ?_⟩
    obtain ⟨b, rfl, hn⟩ := hR
    exact ⟨a, b, has_int.mp e3, has_int.mp hv, (k.go0 s1).nx (c1.setI i (has_int.mpr rfl)) hn⟩
theorem ds_never (st : Stmt) : DS X q st (fun _ _ => False) := PS.imp ps_never fun Dn σ H ⟨_, _, _, _, _, _, h, _⟩ => h
end
/-! ### loops -/
def dWhile (c : DTT) (b : DTS) : DTS := fun E δ => ∃ W : Nat → List Sl → Prop, (∃ m, W m δ) ∧ ∀ m δ', W m δ' → c δ' fun k δ1 => (k = true → b { E with nx := fun δ2 => ∃ m', m' < m ∧ W m' δ2, ct := fun δ2 => ∃ m', m' < m ∧ W m' δ2, bk := E.nx } δ1) ∧ (k = false → E.nx δ1)
section
variable {X : Cx} {q : Pm} {c : Expr} {body : List Stmt} {tc : DTT} {tb : DTS} {pos : Pos}
theorem ds_while (hc : DT X q c tc) (hb : DSs X q body tb) (hp : PassesOwn (model X.prog X.w) X.A X.env X.xe) : DS X q (.While c body [] pos) (dWhile tc tb) := PS.imp (ps_while hp hc hb) fun Dn σ H h => by
  obtain ⟨F, al, dty, δ, E, c0, ⟨W, ⟨m0, w0⟩, hW⟩, k⟩ := h
  refine ⟨fun m σ' H' => ∃ F' al' dty' δ', Stp dty F H F' H' ∧ (∀ a, dty' a → dty a ∨ H a = none) ∧ Cf q F' H' al' dty' δ' σ' ∧ W m δ', ⟨m0, F, al, dty, δ, .refl, fun a h => .inl h, c0, w0⟩, ?_⟩
  rintro m σ' H' ⟨F1, al1, dty1, δ1, s1, h1, c1, w1⟩
  refine ⟨F1, al1, dty1, δ1, _, c1, hW m δ1 w1, fun b δ2 F2 H2 s2 c2 hR => ?_⟩
  have s12 : Stp dty F H F2 H2 := s1.trans s2 h1
  cases b with
  | true =>
    show (if true = true then _ else _)
    rw [if_pos rfl]
    refine ⟨fun σ'' H'' => ∃ m', m' < m ∧ ∃ F' al' dty' δ', Stp dty F H F' H'' ∧ (∀ a, dty' a → dty a ∨ H a = none) ∧ Cf q F' H'' al' dty' δ' σ'' ∧ W m' δ', fun σ'' H'' z => z, ?_⟩
    refine ⟨F2, al1, dty1, δ2, _, c2, hR.1 rfl, fun σ3 δ3 F3 H3 al3 dty3 s3 h3 c3 => ?_⟩
    have s13 : Stp dty F H F3 H3 := s12.trans s3 h1
    have h13 := dty_through s12 h1 h3
    obtain ⟨k1, k2, k3, k4⟩ := k σ3 δ3 F3 H3 al3 dty3 s13 h13 c3
    exact ⟨fun ⟨m', hm, w'⟩ => ⟨m', hm, F3, al3, dty3, δ3, s13, h13, c3, w'⟩, k1, fun ⟨m', hm, w'⟩ => ⟨m', hm, F3, al3, dty3, δ3, s13, h13, c3, w'⟩, k4⟩
  | false =>
    show (if false = true then _ else _)
    rw [if_neg Bool.false_ne_true]
    exact (k σ' δ2 F2 H2 al1 dty1 s12 h1 c2).1 (hR.2 rfl)
end
/-! ### what is walked -/
def FrzLe (H H' : Hp) : Prop := ∀ a ob u, H a = some (.frz ob u) → H' a = some (.frz ob u)
structure Wk (q : Pm) (J : It) (ds : List D) (F Hr : Hp) : Prop where
  go : ∀ (i : Nat) (d : D) F' H', ds[i]? = some d → Le F F' → Fit q.m F' H' → FrzLe Hr H' → J.go i H' ∧ ∀ x H2, J.yld i H' x H2 → ∃ F2, Stp0 F' H' F2 H2 ∧ Fit q.m F2 H2 ∧ Hs q F2 d x
  stop : ∀ (i : Nat) F' H', ds.length ≤ i → Le F F' → Fit q.m F' H' → FrzLe Hr H' → J.stop i H'
abbrev DTI := List Sl → (List D → List Sl → Prop) → Prop
def lI (q : Pm) (t : DTI) : TI := fun σ H R => ∃ F al dty δ RR, Cf q F H al dty δ σ ∧ t δ RR ∧ ∀ J ds δ' F' H', Stp dty F H F' H' → Cf q F' H' al dty δ' σ → Wk q J ds F' H' → RR ds δ' → R J H'
abbrev DI (X : Cx) (q : Pm) (tg e : Expr) (t : DTI) : Prop := PI X tg e (lI q t)
def dFor (ti : DTI) (tg : Tg) (b : DTS) : DTS := fun E δ => ti δ fun ds δ1 => ∃ Iv : Nat → List Sl → Prop, Iv 0 δ1 ∧
  (∀ (i : Nat) (d : D) δ2, ds[i]? = some d → Iv i δ2 → ∃ δ3, tg.set d δ2 = some δ3 ∧ b { E with nx := Iv (i + 1), ct := Iv (i + 1), bk := E.nx } δ3) ∧ ∀ δ2, Iv ds.length δ2 → E.nx δ2
section
variable {X : Cx} {q : Pm} {tge iter : Expr} {body : List Stmt} {ti : DTI} {tg : Tg} {tb : DTS} {pos : Pos}
theorem ds_for (hp : PassesOwn (model X.prog X.w) X.A X.env X.xe) (hc : X.calm = true) (hi : DI X q tge iter ti) (hg : PG X tge (tg.g X.K)) (hb : DSs X q body tb) (hs : ∀ x, foldedSetIterable iter X.env x = pure x := by intro _; rfl) : DS X q (.For tge iter body [] pos) (dFor ti tg tb) := PS.imp (ps_for hp hc hi hg hb hs) fun Dn σ H h => by
  obtain ⟨F, al, dty, δ, E, c0, h, k⟩ := h
  refine ⟨F, al, dty, δ, _, c0, h, fun J ds δ1 F1 H1 s1 c1 wk hR => ?_⟩
  obtain ⟨Iv, i0, ht, hd⟩ := hR
  refine ⟨fun i m σ' H' => m = ds.length - i ∧ i ≤ ds.length ∧ ∃ F' al' dty' δ', Stp dty F1 H1 F' H' ∧ (∀ a, dty' a → dty a ∨ H1 a = none) ∧ Cf q F' H' al' dty' δ' σ' ∧ Iv i δ', ⟨ds.length, rfl, Nat.zero_le _, F1, al, dty, δ1, .refl, fun a h => .inl h, c1, i0⟩, ?_⟩
  rintro i m σ2 H2 ⟨rfl, hi, F2, al2, dty2, δ2, s2, h2, c2, iv⟩
  have s12 : Stp dty F H F2 H2 := s1.trans0 s2
  have h12 : ∀ a, dty2 a → dty a ∨ H a = none := dty_through s1 (fun a h => .inl h) h2
  by_cases hlt : i < ds.length
  · right
    obtain ⟨g1, g2⟩ := wk.go i ds[i] F2 H2 (List.getElem?_eq_getElem hlt) s2.up c2.fit s2.frz
    refine ⟨g1, fun σ' H' => ∃ m', m' < ds.length - i ∧ m' = ds.length - (i + 1) ∧ i + 1 ≤ ds.length ∧ ∃ F' al' dty' δ', Stp dty F1 H1 F' H' ∧ (∀ a, dty' a → dty a ∨ H1 a = none) ∧ Cf q F' H' al' dty' δ' σ' ∧ Iv (i + 1) δ', fun σ' H' ⟨m', a, b⟩ => ⟨m', a, b⟩, fun x H3 hy => ?_⟩
    obtain ⟨F3, s3, f3, hx⟩ := g2 x H3 hy
    have c3 := c2.step0 s3 f3
    obtain ⟨δ3, e3, hbd⟩ := ht i ds[i] δ2 (List.getElem?_eq_getElem hlt) iv
    have s13 : Stp dty F1 H1 F3 H3 := s2.trans0 s3.any
    refine tg.ok c3 hx e3 fun σ4 c4 _ => ⟨F3, al2, dty2, δ3, _, c4, hbd, fun σ5 δ5 F5 H5 al5 dty5 s5 h5 c5 => ?_⟩
    have s15 : Stp dty F1 H1 F5 H5 := s13.trans s5 h2
    have h15 := dty_through s13 h2 h5
    have h05 := dty_through s1 (fun a (h : dty a) => Or.inl h) h15
    obtain ⟨k1, k2, k3, k4⟩ := k σ5 δ5 F5 H5 al5 dty5 (s1.trans0 s15) h05 c5
    exact ⟨fun z => ⟨_, by omega, rfl, hlt, F5, al5, dty5, δ5, s15, h15, c5, z⟩, k1, fun z => ⟨_, by omega, rfl, hlt, F5, al5, dty5, δ5, s15, h15, c5, z⟩, k4⟩
  · left
    have e : i = ds.length := by omega
    subst e
    exact ⟨wk.stop _ F2 H2 (Nat.le_refl _) s2.up c2.fit s2.frz, (k σ2 δ2 F2 H2 al2 dty2 s12 h12 c2).1 (hd δ2 iv)⟩
end
end K46

set_option Elab.async false
set_option linter.all false
set_option maxRecDepth 100000
set_option maxHeartbeats 1000000
namespace K46
open PySem PySem.Spec PyProof.Rows L2

/-! ### new things of one's own -/
inductive Rv where
  | dat (d : D) | nl (ds : List D) | nd
def Rv.new : Rv → Prop
  | .dat _ => False
  | _ => True
def RvHs (q : Pm) (F H H0 : Hp) : Rv → V → Prop
  | .dat d, v => Hs q F d v
  | .nl ds, v => ∃ p vs, v = .ref p ∧ H0 p = none ∧ F p = none ∧ H p = some (.lst vs) ∧ HsL q F ds vs
  | .nd, v => ∃ p, v = .ref p ∧ H0 p = none ∧ F p = none ∧ H p = some (.dK [])
def RvL (q : Pm) (F H H0 : Hp) : List Rv → List V → Prop
  | [], vs => vs = []
  | r :: rs, vs => ∃ v t, vs = v :: t ∧ RvHs q F H H0 r v ∧ RvL q F H H0 rs t ∧ (∀ p, v = .ref p → r.new → ∀ v' ∈ t, v' ≠ .ref p)
abbrev DTR := List Sl → (Rv → List Sl → Prop) → Prop
abbrev DTRA := List Sl → (List Rv → List Sl → Prop) → Prop
def lR (q : Pm) (t : DTR) : TE := fun σ H Q => ∃ F al dty δ R, Cf q F H al dty δ σ ∧ t δ R ∧ ∀ v r δ' F' H', Stp dty F H F' H' → Cf q F' H' al dty δ' σ → RvHs q F' H' H r v → R r δ' → Q v H'
def lRA (q : Pm) (t : DTRA) : TA := fun σ H Q => ∃ F al dty δ R, Cf q F H al dty δ σ ∧ t δ R ∧ ∀ vs rs δ' F' H', Stp dty F H F' H' → Cf q F' H' al dty δ' σ → RvL q F' H' H rs vs → R rs δ' → Q vs H'
abbrev DR (X : Cx) (q : Pm) (e : Expr) (t : DTR) : Prop := PE X e (lR q t)
abbrev DRA (X : Cx) (q : Pm) (e : List Expr) (t : DTRA) : Prop := PA X e (lRA q t)
def Rv.d : Rv → D
  | .dat d => d
  | .nl ds => .lst ds
  | .nd => .dic [] []
def deR (t : DTR) : DTE := fun δ R => t δ fun r δ1 => R r.d δ1
def drE (t : DTE) : DTR := fun δ R => t δ fun d δ1 => R (.dat d) δ1
def draNil : DTRA := fun δ R => R [] δ
def draCons (ta : DTR) (tr : DTRA) : DTRA := fun δ R => ta δ fun x δ1 => tr δ1 fun xs δ2 => R (x :: xs) δ2
theorem has_ref {w : World} {C : Addr} {F : Hp} {d : D} {p : Addr} (h : Has w C F d (.ref p)) : ∃ o, F p = some o := by
  cases d with
  | non => cases has_non.mp h
  | bl b => cases has_bl.mp h
  | int b => cases has_int.mp h
  | str b => cases has_str.mp h
  | tup ds => obtain ⟨a, vs, e, h2, _⟩ := has_tup.mp h; cases e; exact ⟨_, h2⟩
  | lst ds => obtain ⟨a, vs, e, h2, _⟩ := has_lst.mp h; cases e; exact ⟨_, h2⟩
  | dic ks ds => obtain ⟨a, vs, e, h2, _⟩ := has_dic.mp h; cases e; exact ⟨_, h2⟩
  | set ns => obtain ⟨a, e, h2⟩ := has_set.mp h; cases e; exact ⟨_, h2⟩
  | hou ds => obtain ⟨a, dx, vs, e, h2, _⟩ := has_hou.mp h; cases e; exact ⟨_, h2⟩
section
variable {X : Cx} {q : Pm} {e : Expr} {es : List Expr} {te : DTE} {tr : DTR} {ta : DTRA} {F H F1 H1 H0 : Hp} {al : Nat → Addr} {dty : Addr → Prop} {δ δ' : List Sl} {σ : L2.St}
/-- an object that is freed becomes data -/
theorem Cf.take (c : Cf q F H al dty δ σ) {p : Addr} {o : HO} (hF : F p = none) (hH : H p = some o) (hd : ¬ dty p) : Cf q (upd F p o) H al dty δ σ where
  liv := c.liv
  fit := c.fit.froze hH
  bnd := by
    have ne : ∀ i, isM δ[i]? = true → al i ≠ p := fun i hi z => hd (by rw [← z]; exact (c.bnd.at_ i hi).2.2)
    have up : Le F (upd F p o) := fun a u e => by rw [upd_ne (ne_of_none e hF)]; exact e
    refine ⟨c.bnd.len, fun i d e => ?_, fun i hi => ?_, fun i ds e => ?_, fun i ks ds e => ?_, c.bnd.inj, c.bnd.pr⟩
    · obtain ⟨v, e1, e2⟩ := c.bnd.im i d e
      exact ⟨v, e1, e2.mono up⟩
    · obtain ⟨e1, e2, e3⟩ := c.bnd.at_ i hi
      exact ⟨e1, by rw [upd_ne (ne i hi)]; exact e2, e3⟩
    · obtain ⟨vs, e1, e2⟩ := c.bnd.ml i ds e
      exact ⟨vs, e1, e2.mono up⟩
    · obtain ⟨vs, e1, e2, e3⟩ := c.bnd.md i ks ds e
      exact ⟨vs, e1, e2, e3.mono up⟩
theorem Stp.take (s : Stp dty F H F1 H1) {p : Addr} {o : HO} (h0 : H p = none) (hF : F1 p = none) : Stp dty F H (upd F1 p o) H1 where
  up := s.up.trans fun a u e => by rw [upd_ne (ne_of_none e hF)]; exact e
  new := fun a u e => by
    by_cases z : a = p
    · subst z; exact .inr (.inl h0)
    · rw [upd_ne z] at e; exact s.new a u e
  keep := s.keep
  live := s.live
  frz := s.frz
theorem l_ofR {Q : VK} (h : lE q (deR tr) σ H Q) : lR q tr σ H Q := by
  obtain ⟨F, al, dty, δ, R, c, t, k⟩ := h
  refine ⟨F, al, dty, δ, _, c, t, fun v r δ1 F1 H1 s1 c1 hv hR => ?_⟩
  have nd : ∀ p, H p = none → ¬ dty p := fun p h0 z => by
    obtain ⟨o, e⟩ := c.liv p z
    rw [h0] at e; cases e
  cases r with
  | dat d => exact k v d δ1 F1 H1 s1 c1 hv hR
  | nl ds =>
    obtain ⟨p, vs, rfl, h0, hF, hH, hv⟩ := hv
    have up : Le F1 (upd F1 p (.lst vs)) := fun a u e => by rw [upd_ne (ne_of_none e hF)]; exact e
    exact k _ _ δ1 _ H1 (s1.take h0 hF) (c1.take hF hH (nd p h0)) (has_lst.mpr ⟨p, vs, rfl, upd_same, hv.mono up⟩) hR
  | nd =>
    obtain ⟨p, rfl, h0, hF, hH⟩ := hv
    exact k _ _ δ1 _ H1 (s1.take h0 hF) (c1.take hF hH (nd p h0)) (has_dic.mpr ⟨p, [], rfl, upd_same, rfl, hasL_nil.mpr rfl⟩) hR
theorem de_ofR (h : DR X q e tr) : DE X q e (deR tr) := PE.imp h fun σ H Q h => l_ofR h
theorem dr_ofE (h : DE X q e te) : DR X q e (drE te) := PE.imp h fun σ H Q h => by
  obtain ⟨F, al, dty, δ, R, c, t, k⟩ := h
  exact ⟨F, al, dty, δ, _, c, t, fun v d δ1 F1 H1 s1 c1 hv hR => k v (.dat d) δ1 F1 H1 s1 c1 hv hR⟩
theorem dra_nil : DRA X q [] draNil := PA.imp pa_nil fun σ H Q h => by
  obtain ⟨F, al, dty, δ, R, c, r, k⟩ := h
  exact k [] [] δ F H .refl c rfl r
theorem RvHs.step {r : Rv} {v : V} (h : RvHs q F H H0 r v) (s : Stp dty F H F1 H1) (hd : ∀ p, H0 p = none → ¬ dty p) : RvHs q F1 H1 H0 r v := by
  have key : ∀ p o, H0 p = none → F p = none → H p = some o → F1 p = none ∧ H1 p = some o := fun p o h0 hF hH => by
    refine ⟨?_, s.keep p o hH hF (hd p h0)⟩
    cases e : F1 p with
    | none => rfl
    | some u =>
      rcases s.new p u e with z | z | z
      · rw [hF] at z; cases z
      · rw [hH] at z; cases z
      · exact (hd p h0 z).elim
  cases r with
  | dat d => exact Has.mono s.up h
  | nl ds =>
    obtain ⟨p, vs, rfl, h0, hF, hH, hv⟩ := h
    obtain ⟨a, b⟩ := key p _ h0 hF hH
    exact ⟨p, vs, rfl, h0, a, b, hv.mono s.up⟩
  | nd =>
    obtain ⟨p, rfl, h0, hF, hH⟩ := h
    obtain ⟨a, b⟩ := key p _ h0 hF hH
    exact ⟨p, rfl, h0, a, b⟩
theorem RvHs.back {r : Rv} {v : V} {H2 : Hp} (h : RvHs q F H H2 r v) (hl : ∀ a o, H0 a = some o → ∃ o', H2 a = some o') : RvHs q F H H0 r v := by
  have key : ∀ p, H2 p = none → H0 p = none := fun p e => by
    cases z : H0 p with
    | none => rfl
    | some o =>
      obtain ⟨o', e'⟩ := hl p o z
      rw [e] at e'; cases e'
  cases r with
  | dat d => exact h
  | nl ds =>
    obtain ⟨p, vs, rfl, h0, hF, hH, hv⟩ := h
    exact ⟨p, vs, rfl, key p h0, hF, hH, hv⟩
  | nd =>
    obtain ⟨p, rfl, h0, hF, hH⟩ := h
    exact ⟨p, rfl, key p h0, hF, hH⟩
theorem RvL.back {H2 : Hp} (hl : ∀ a o, H0 a = some o → ∃ o', H2 a = some o') : ∀ {rs : List Rv} {vs : List V}, RvL q F H H2 rs vs → RvL q F H H0 rs vs
  | [], vs, h => h
  | r :: rs, vs, h => by
    obtain ⟨v, t, rfl, h1, h2, h3⟩ := h
    exact ⟨v, t, rfl, h1.back hl, RvL.back hl h2, h3⟩
/-- what comes later stands apart from an older thing -/
theorem RvL.apart {H2 : Hp} {p : Addr} (hF : F p = none) (hp : ∃ o, H2 p = some o) : ∀ {rs : List Rv} {vs : List V}, RvL q F H H2 rs vs → ∀ v ∈ vs, v ≠ .ref p
  | [], vs, h, v, hv => by
    have e : vs = [] := h
    subst e; cases hv
  | r :: rs, vs, h, v, hv => by
    obtain ⟨v', t, rfl, h1, h2, h3⟩ := h
    rcases List.mem_cons.mp hv with e | hv
    · subst e
      intro z
      subst z
      obtain ⟨o, e⟩ := hp
      cases r with
      | dat d =>
        obtain ⟨u, e2⟩ := has_ref h1
        rw [hF] at e2; cases e2
      | nl ds =>
        obtain ⟨p', vs, z, h0, _⟩ := h1
        cases z
        rw [e] at h0; cases h0
      | nd =>
        obtain ⟨p', z, h0, _⟩ := h1
        cases z
        rw [e] at h0; cases h0
    · exact RvL.apart hF hp h2 v hv
theorem dra_cons (ha : DR X q e tr) (hr : DRA X q es ta) (hs : starEach (e :: es) X.env = (false, eval e X.env) :: starEach es X.env := by rfl) : DRA X q (e :: es) (draCons tr ta) := PA.imp (pa_cons ha hr hs) fun σ H Q h => by
  obtain ⟨F, al, dty, δ, R, c, t, k⟩ := h
  refine ⟨F, al, dty, δ, _, c, t, fun x r δ1 F1 H1 s1 c1 hx t1 => ?_⟩
  refine ⟨F1, al, dty, δ1, _, c1, t1, fun ys rs δ2 F2 H2 s2 c2 hy t2 => ?_⟩
  have hd : ∀ p, H p = none → ¬ dty p := fun p h0 z => by
    obtain ⟨o, e⟩ := c.liv p z
    rw [h0] at e; cases e
  have hx2 := hx.step s2 hd
  refine k (x :: ys) (r :: rs) δ2 F2 H2 (s1.trans0 s2) c2 ⟨x, ys, rfl, hx2, hy.back fun a o e => s1.live a o e, fun p e hn => ?_⟩ t2
  subst e
  cases r with
  | dat d => exact hn.elim
  | nl ds =>
    obtain ⟨p', vs, z, h0, hF, hH, _⟩ := hx
    cases z
    obtain ⟨p', vs', z, _, hF2, _⟩ := hx2
    cases z
    exact hy.apart hF2 ⟨_, hH⟩
  | nd =>
    obtain ⟨p', z, h0, hF, hH⟩ := hx
    cases z
    obtain ⟨p', z, _, hF2, _⟩ := hx2
    cases z
    exact hy.apart hF2 ⟨_, hH⟩
end
/-! ### stores of new things -/
def setR (δ : List Sl) (i : Nat) : Rv → List Sl
  | .dat d => δ.set i (.im d)
  | .nl ds => δ.set i (.ml ds)
  | .nd => δ.set i (.md [] [])
def setRs : List Sl → List Nat → List Rv → List Sl
  | δ, i :: is, r :: rs => setRs (setR δ i r) is rs
  | δ, _, _ => δ
theorem isM_set {δ : List Sl} {i j : Nat} {s : Sl} : isM (δ.set i s)[j]? = true → (i = j ∧ isM (some s) = true) ∨ (i ≠ j ∧ isM δ[j]? = true) := fun h => by
  by_cases z : i = j
  · subst z
    left
    refine ⟨rfl, ?_⟩
    by_cases hi : i < δ.length
    · rw [List.getElem?_set_self hi] at h; exact h
    · rw [List.getElem?_eq_none (by simpa using hi)] at h; cases h
  · rw [List.getElem?_set_ne z] at h
    exact .inr ⟨z, h⟩
section
variable {q : Pm} {F H H0 : Hp} {al : Nat → Addr} {dty : Addr → Prop} {δ : List Sl} {σ : L2.St}
def alSet (al : Nat → Addr) (i : Nat) (p : Addr) : Nat → Addr := fun j => if j = i then p else al j
theorem Cf.setNew (c : Cf q F H al dty δ σ) {i : Nat} {p : Addr} {o : HO} {s : Sl} (hi : 0 < i) (hF : F p = none) (hH : H p = some o) (hn : ∀ j, isM δ[j]? = true → al j ≠ p) (hs : isM (some s) = true)
    (hml : ∀ ds, s = .ml ds → ∃ vs, o = .lst vs ∧ HsL q F ds vs) (hmd : ∀ ks ds, s = .md ks ds → ∃ vs, o = .dK (ks.zip vs) ∧ ks.length = vs.length ∧ HsL q F ds vs) :
    Cf q F H (alSet al i p) (fun a => dty a ∨ a = p) (δ.set i s) (σ.set i (some (.ref p))) where
  liv := fun a h => by
    rcases h with h | h
    · exact c.liv a h
    · rw [h]; exact ⟨o, hH⟩
  fit := c.fit
  bnd := by
    have get : ∀ (j : Nat) (x : Sl), (δ.set i s)[j]? = some x → (i = j ∧ x = s ∧ i < δ.length) ∨ (i ≠ j ∧ δ[j]? = some x) := fun j x e => by
      by_cases z : i = j
      · subst z
        by_cases hl : i < δ.length
        · rw [List.getElem?_set_self hl] at e
          cases e
          exact .inl ⟨rfl, rfl, hl⟩
        · rw [List.getElem?_eq_none (by simpa using hl)] at e; cases e
      · rw [List.getElem?_set_ne z] at e
        exact .inr ⟨z, e⟩
    have isx : ∀ j, isM (δ.set i s)[j]? = true → (i = j ∧ i < δ.length) ∨ (i ≠ j ∧ isM δ[j]? = true) := fun j e => by
      cases z : (δ.set i s)[j]? with
      | none => rw [z] at e; cases e
      | some x =>
        rcases get j x z with ⟨a, _, b⟩ | ⟨a, b⟩
        · exact .inl ⟨a, b⟩
        · rw [z] at e
          exact .inr ⟨a, by rw [b]; exact e⟩
    have alE : ∀ j, i ≠ j → alSet al i p j = al j := fun j h => by
      unfold alSet
      rw [if_neg (Ne.symm h)]
    have alI : alSet al i p i = p := by
      unfold alSet
      rw [if_pos rfl]
    refine ⟨by rw [List.length_set, List.length_set]; exact c.bnd.len, fun j d e => ?_, fun j e => ?_, fun j ds e => ?_, fun j ks ds e => ?_, fun j k hjk ej ek => ?_, fun p' hp' => ?_⟩
    · rcases get j _ e with ⟨_, z, _⟩ | ⟨a, b⟩
      · rw [← z] at hs; cases hs
      · obtain ⟨v, e1, e2⟩ := c.bnd.im j d b
        exact ⟨v, by rw [List.getElem?_set_ne a]; exact e1, e2⟩
    · rcases isx j e with ⟨a, b⟩ | ⟨a, b⟩
      · subst a
        rw [alI]
        exact ⟨by rw [List.getElem?_set_self (by rw [c.bnd.len]; exact b)], hF, .inr rfl⟩
      · obtain ⟨e1, e2, e3⟩ := c.bnd.at_ j b
        rw [alE j a]
        exact ⟨by rw [List.getElem?_set_ne a]; exact e1, e2, .inl e3⟩
    · rcases get j _ e with ⟨a, z, _⟩ | ⟨a, b⟩
      · subst a
        obtain ⟨vs, e1, e2⟩ := hml ds z.symm
        rw [alI]
        exact ⟨vs, by rw [hH, e1], e2⟩
      · rw [alE j a]
        exact c.bnd.ml j ds b
    · rcases get j _ e with ⟨a, z, _⟩ | ⟨a, b⟩
      · subst a
        obtain ⟨vs, e1, e2⟩ := hmd ks ds z.symm
        rw [alI]
        exact ⟨vs, by rw [hH, e1], e2⟩
      · rw [alE j a]
        exact c.bnd.md j ks ds b
    · rcases isx j ej with ⟨a, _⟩ | ⟨a, b⟩
      · subst a
        rcases isx k ek with ⟨a', _⟩ | ⟨a', b'⟩
        · exact absurd a' hjk
        · rw [alI, alE k a']
          exact fun z => hn k b' z.symm
      · rcases isx k ek with ⟨a', _⟩ | ⟨a', b'⟩
        · subst a'
          rw [alI, alE j a]
          exact hn j b
        · rw [alE j a, alE k a']
          exact c.bnd.inj j k hjk b b'
    · rw [alE 0 (by omega)]
      exact c.bnd.pr p' hp'
theorem Cf.setR (c : Cf q F H al dty δ σ) {i : Nat} {r : Rv} {v : V} (hi : 0 < i) (h : RvHs q F H H0 r v) (hn : ∀ p, v = .ref p → r.new → ∀ j, isM δ[j]? = true → al j ≠ p) :
    ∃ al' dty', Cf q F H al' dty' (K46.setR δ i r) (σ.set i (some v)) ∧ (∀ a, dty' a → dty a ∨ H0 a = none) ∧ ∀ j, isM (K46.setR δ i r)[j]? = true → (isM δ[j]? = true ∧ al' j = al j) ∨ v = .ref (al' j) := by
  cases r with
  | dat d =>
    refine ⟨al, dty, c.setI i h, fun a z => .inl z, fun j hj => .inl ?_⟩
    rcases isM_set hj with ⟨_, z⟩ | ⟨_, z⟩
    · cases z
    · exact ⟨z, rfl⟩
  | nl ds =>
    obtain ⟨p, vs, rfl, h0, hF, hH, hv⟩ := h
    refine ⟨_, _, c.setNew (s := .ml ds) hi hF hH (hn p rfl trivial) rfl (fun ds' e => ?_) (fun _ _ e => ?_), fun a z => ?_, fun j hj => ?_⟩
    · cases e; exact ⟨vs, rfl, hv⟩
    · cases e
    · rcases z with z | z
      · exact .inl z
      · rw [z]; exact .inr h0
    · rcases isM_set hj with ⟨z, _⟩ | ⟨z, z2⟩
      · subst z
        right
        unfold alSet
        rw [if_pos rfl]
      · left
        refine ⟨z2, ?_⟩
        unfold alSet
        rw [if_neg (Ne.symm z)]
  | nd =>
    obtain ⟨p, rfl, h0, hF, hH⟩ := h
    refine ⟨_, _, c.setNew (s := .md [] []) hi hF hH (hn p rfl trivial) rfl (fun ds' e => ?_) (fun ks ds e => ?_), fun a z => ?_, fun j hj => ?_⟩
    · cases e
    · cases e; exact ⟨[], rfl, rfl, hasL_nil.mpr rfl⟩
    · rcases z with z | z
      · exact .inl z
      · rw [z]; exact .inr h0
    · rcases isM_set hj with ⟨z, _⟩ | ⟨z, z2⟩
      · subst z
        right
        unfold alSet
        rw [if_pos rfl]
      · left
        refine ⟨z2, ?_⟩
        unfold alSet
        rw [if_neg (Ne.symm z)]
theorem cf_setRs : ∀ {is : List Nat} {rs : List Rv} {vs : List V} {al : Nat → Addr} {dty : Addr → Prop} {δ : List Sl} {σ : L2.St}, Cf q F H al dty δ σ → (∀ i ∈ is, 0 < i) → RvL q F H H0 rs vs → rs.length = is.length →
    (∀ (k : Nat) (r : Rv) (p : Addr), rs[k]? = some r → vs[k]? = some (.ref p) → r.new → ∀ j, isM δ[j]? = true → al j ≠ p) →
    ∃ al' dty', Cf q F H al' dty' (setRs δ is rs) (setV σ is vs) ∧ ∀ a, dty' a → dty a ∨ H0 a = none
  | [], [], vs, al, dty, δ, σ, c, _, h, _, _ => by
    have e : vs = [] := h
    subst e
    exact ⟨al, dty, c, fun a z => .inl z⟩
  | i :: is, r :: rs, vs, al, dty, δ, σ, c, hi, h, hl, hn => by
    obtain ⟨v, t, rfl, h1, h2, h3⟩ := h
    obtain ⟨al1, dty1, c1, d1, m1⟩ := c.setR (hi i List.mem_cons_self) h1 (fun p e hnew => hn 0 r p rfl (by rw [e]; rfl) hnew)
    obtain ⟨al2, dty2, c2, d2⟩ := cf_setRs (is := is) (rs := rs) (vs := t) c1 (fun i h => hi i (List.mem_cons_of_mem _ h)) h2 (by simpa using hl) (fun k r' p e1 e2 hnew j hj => by
      rcases m1 j hj with ⟨a, b⟩ | a
      · rw [b]
        exact hn (k + 1) r' p (by simpa using e1) (by simpa using e2) hnew j a
      · intro z
        rw [z] at a
        have mem : V.ref p ∈ t := List.mem_of_getElem? e2
        cases r with
        | dat d =>
          subst a
          -- a datum's address is not new
          obtain ⟨o, ho⟩ := has_ref h1
          have : ∀ {rs : List Rv} {vs : List V} {k : Nat}, RvL q F H H0 rs vs → rs[k]? = some r' → vs[k]? = some (.ref p) → F p = none := by
            intro rs
            induction rs with
            | nil => intro vs k _ e; simp at e
            | cons x xs ih =>
              intro vs k h e1 e2
              obtain ⟨v, t, rfl, h1, h2, _⟩ := h
              cases k with
              | zero =>
                simp at e1 e2
                subst e1 e2
                cases x with
                | dat d => exact hnew.elim
                | nl ds => obtain ⟨p', vs, z, _, hF, _⟩ := h1; cases z; exact hF
                | nd => obtain ⟨p', z, _, hF, _⟩ := h1; cases z; exact hF
              | succ k => exact ih h2 (by simpa using e1) (by simpa using e2)
          rw [this h2 e1 e2] at ho; cases ho
        | nl ds => exact h3 p a trivial _ mem rfl
        | nd => exact h3 p a trivial _ mem rfl)
    refine ⟨al2, dty2, c2, fun a z => ?_⟩
    rcases d2 a z with z | z
    · exact d1 a z
    · exact .inr z
theorem RvL.len : ∀ {rs : List Rv} {vs : List V}, RvL q F H H0 rs vs → vs.length = rs.length
  | [], vs, h => by
    have e : vs = [] := h
    rw [e]
    rfl
  | r :: rs, vs, h => by
    obtain ⟨v, t, rfl, _, h2, _⟩ := h
    simp [RvL.len h2]
end
theorem len2 {α : Type} : ∀ {vs : List α}, vs.length = 2 → ∃ v w, vs = [v, w]
  | [v, w], _ => ⟨v, w, rfl⟩
theorem len3 {α : Type} : ∀ {vs : List α}, vs.length = 3 → ∃ u v w, vs = [u, v, w]
  | [u, v, w], _ => ⟨u, v, w, rfl⟩
def dSetR (i : Nat) (te : DTR) : DTS := fun E δ => te δ fun r δ1 => E.nx (setR δ1 i r)
def dPar (is : List Nat) (ta : DTRA) : DTS := fun E δ => ta δ fun rs δ1 => rs.length = is.length ∧ E.nx (setRs δ1 is rs)
section
variable {X : Cx} {q : Pm} {e a b c : Expr} {tr : DTR} {ta : DTRA} {pos : Pos} {F H F1 H1 : Hp} {al : Nat → Addr} {dty : Addr → Prop} {δ δ1 : List Sl} {σ : L2.St} {E : DEnds} {Dn : Ends}
theorem l_par {is : List Nat} {rs : List Rv} {vs : List V} (c0 : Cf q F H al dty δ σ) (k : Kon q E Dn F H dty) (s1 : Stp dty F H F1 H1) (c1 : Cf q F1 H1 al dty δ1 σ) (hv : RvL q F1 H1 H rs vs) (hi : ∀ i ∈ is, 0 < i) (hl : rs.length = is.length) (hR : E.nx (setRs δ1 is rs)) : Dn.nx (setV σ is vs) H1 := by
  obtain ⟨al', dty', c2, d2⟩ := cf_setRs c1 hi hv hl (fun kx r p e1 e2 hnew j hj => by
    have hd := (c1.bnd.at_ j hj).2.2
    obtain ⟨o, ho⟩ := c0.liv _ hd
    have hp : ∀ {rs : List Rv} {vs : List V} {k : Nat}, RvL q F1 H1 H rs vs → rs[k]? = some r → vs[k]? = some (.ref p) → H p = none := by
      intro rs
      induction rs with
      | nil => intro vs k _ e; simp at e
      | cons x xs ih =>
        intro vs k h e1 e2
        obtain ⟨v, t, rfl, h1, h2, _⟩ := h
        cases k with
        | zero =>
          simp at e1 e2
          subst e1 e2
          cases x with
          | dat d => exact hnew.elim
          | nl ds => obtain ⟨p', vs, z, h0, _⟩ := h1; cases z; exact h0
          | nd => obtain ⟨p', z, h0, _⟩ := h1; cases z; exact h0
        | succ k => exact ih h2 (by simpa using e1) (by simpa using e2)
    intro z
    rw [z, hp hv e1 e2] at ho; cases ho)
  exact k.nxS s1 d2 c2 hR
theorem ds_setR {i : Nat} {x : Str} {pos' : Pos} (hN : X.N.Nodup) (h : DR X q e tr) (hi0 : 0 < i) (hi : X.N[i]? = some x := by rfl) (hx : Loc X.env.scope x := by first | exact Or.inl rfl | exact Or.inr rfl)
    (hf : X.fn x = true ∨ X.env.scope.names.lookup x = some .local := by first | exact .inl rfl | exact .inr rfl | assumption) (hs : swapsWith e (some (.Name x pos')) pos.line X.env = pure false := by rfl) : DS X q (.Assign [.Name x pos'] e pos) (dSetR i tr) :=
  PS.imp (ps_asg (e := e) h (pg_name (i := i) hN hi hx hf) hs) fun Dn σ H h => by
    obtain ⟨F, al, dty, δ, E, c, h, k⟩ := h
    refine ⟨F, al, dty, δ, _, c, h, fun v r δ1 F1 H1 s1 c1 hv hR => ?_⟩
    exact l_par (is := [i]) (rs := [r]) (vs := [v]) c k s1 c1 ⟨v, [], rfl, hv, rfl, fun _ _ _ _ z => nomatch z⟩ (fun j hj => by simp at hj; rw [hj]; exact hi0) rfl hR
theorem ds_par2 {i j : Nat} {x y : Str} {px py pt : Pos} {kt k2 pt2} (hc : X.calm = true) (hN : X.N.Nodup) (hi : X.N[i]? = some x) (hj : X.N[j]? = some y) (hij : i ≠ j) (h0 : ∀ l ∈ [i, j], 0 < l)
    (hx : X.env.scope.names.lookup x = some .local) (hy : X.env.scope.names.lookup y = some .local) (ha : DRA X q [a, b] ta)
    (hw : swappedStores [.Tuple [.Name x px, .Name y py] kt pt] (.Tuple [a, b] k2 pt2) X.env = pure (some [x, y]))
    (hs : swapsWithSole [.Tuple [.Name x px, .Name y py] kt pt] (.Tuple [a, b] k2 pt2) pos.line X.env = pure false := by rfl) :
    DS X q (.Assign [.Tuple [.Name x px, .Name y py] kt pt] (.Tuple [a, b] k2 pt2) pos) (dPar [i, j] ta) := PS.imp (ps_par hc hN hi hj hij hx hy ha hw hs) fun Dn σ H h => by
  obtain ⟨F, al, dty, δ, E, c, h, k⟩ := h
  refine ⟨F, al, dty, δ, _, c, h, fun vs rs δ1 F1 H1 s1 c1 hv hR => ?_⟩
  obtain ⟨hl, hR⟩ := hR
  have e : vs.length = 2 := by rw [hv.len, hl]; rfl
  obtain ⟨v, w, rfl⟩ : ∃ v w, vs = [v, w] := len2 e
  exact ⟨v, w, rfl, l_par (is := [i, j]) c k s1 c1 hv h0 hl hR⟩
theorem ds_par3 {i j l : Nat} {x y z : Str} {px py pz pt : Pos} {kt k2 pt2} (hc : X.calm = true) (hN : X.N.Nodup) (hi : X.N[i]? = some x) (hj : X.N[j]? = some y) (hl : X.N[l]? = some z) (hij : i ≠ j) (hil : i ≠ l) (hjl : j ≠ l) (h0 : ∀ m ∈ [i, j, l], 0 < m)
    (hx : X.env.scope.names.lookup x = some .local) (hy : X.env.scope.names.lookup y = some .local) (hz : X.env.scope.names.lookup z = some .local) (ha : DRA X q [a, b, c] ta)
    (hw : swappedStores [.Tuple [.Name x px, .Name y py, .Name z pz] kt pt] (.Tuple [a, b, c] k2 pt2) X.env = pure (some [x, y, z]))
    (hs : swapsWithSole [.Tuple [.Name x px, .Name y py, .Name z pz] kt pt] (.Tuple [a, b, c] k2 pt2) pos.line X.env = pure false := by rfl) :
    DS X q (.Assign [.Tuple [.Name x px, .Name y py, .Name z pz] kt pt] (.Tuple [a, b, c] k2 pt2) pos) (dPar [i, j, l] ta) := PS.imp (ps_par3 hc hN hi hj hl hij hil hjl hx hy hz ha hw hs) fun Dn σ H h => by
  obtain ⟨F, al, dty, δ, E, c, h, k⟩ := h
  refine ⟨F, al, dty, δ, _, c, h, fun vs rs δ1 F1 H1 s1 c1 hv hR => ?_⟩
  obtain ⟨hl, hR⟩ := hR
  have e : vs.length = 3 := by rw [hv.len, hl]; rfl
  obtain ⟨u, v, w, rfl⟩ : ∃ u v w, vs = [u, v, w] := len3 e
  exact ⟨u, v, w, rfl, l_par (is := [i, j, l]) c k s1 c1 hv h0 hl hR⟩
end
end K46

set_option Elab.async false
set_option linter.all false
set_option maxRecDepth 100000
set_option maxHeartbeats 1000000
namespace K46
open PySem PySem.Spec PyProof.Rows L2

theorem sz {n : Nat} (h : n ≤ 100000) : n ≤ sizeLine := Nat.le_trans h (by decide)
theorem szlt {n : Nat} (h : n < 100000) : n < sizeLine := Nat.lt_of_lt_of_le h (by decide)

/-! ### displays -/
def dTup (t : DTA) : DTE := fun δ R => t δ fun ds δ1 => ds.length ≤ 100000 ∧ R (.tup ds) δ1
def drLst (t : DTA) : DTR := fun δ R => t δ fun ds δ1 => ds.length ≤ 100000 ∧ R (.nl ds) δ1
def drNd : DTR := fun δ R => R .nd δ
def itemsD : D → Option (List D)
  | .tup ds => some ds
  | .lst ds => some ds
  | _ => none
def daStar (te : DTE) (tr : DTA) : DTA := fun δ R => te δ fun x δ1 => ∃ xs, itemsD x = some xs ∧ tr δ1 fun ys δ2 => R (xs ++ ys) δ2
section
variable {X : Cx} {q : Pm} {e : Expr} {es : List Expr} {te : DTE} {t tr : DTA} {pos p : Pos}
theorem de_tup {x1} (h : DA X q es t) : DE X q (.Tuple es x1 pos) (dTup t) := PE.imp (pe_tup h) fun σ H Q h => by
  obtain ⟨F, al, dty, δ, R, c, t, k⟩ := h
  refine ⟨F, al, dty, δ, _, c, t, fun vs ds δ1 F1 H1 s1 c1 hv hR => ⟨sz (by rw [hv.length]; exact hR.1), fun p hp => ?_⟩⟩
  have hF : F1 p = none := c1.fit.none_of hp
  have st : Stp0 F1 H1 (upd F1 p (.tup vs)) (upd H1 p (.tup vs)) := .alloc hp hF
  exact k _ _ δ1 _ _ (s1.trans0 st.any) (c1.step0 st (c1.fit.alloc hp)) (has_tup.mpr ⟨p, vs, rfl, upd_same, hv.mono st.up⟩) hR.2
theorem dr_lst (h : DA X q es t) : DR X q (.List es pos) (drLst t) := PE.imp (pe_lst h) fun σ H Q h => by
  obtain ⟨F, al, dty, δ, R, c, t, k⟩ := h
  refine ⟨F, al, dty, δ, _, c, t, fun vs ds δ1 F1 H1 s1 c1 hv hR => ⟨sz (by rw [hv.length]; exact hR.1), fun p hp => ?_⟩⟩
  have hF : F1 p = none := c1.fit.none_of hp
  have st : Stp0 F1 H1 F1 (upd H1 p (.lst vs)) := .allocM hp
  have h0 : H p = none := by
    cases z : H p with
    | none => rfl
    | some o =>
      obtain ⟨o', e'⟩ := s1.live p o z
      rw [hp] at e'; cases e'
  exact k _ (.nl ds) δ1 _ _ (s1.trans0 st.any) (c1.step0 st (c1.fit.updM hF)) ⟨p, vs, rfl, h0, hF, upd_same, hv⟩ hR.2
theorem dr_nd : DR X q (.Dict [] [] pos) drNd := PE.imp pe_dnewK fun σ H Q h => by
  obtain ⟨F, al, dty, δ, R, c, t, k⟩ := h
  intro p hp
  have hF : F p = none := c.fit.none_of hp
  have st : Stp0 F H F (upd H p (.dK [])) := .allocM hp
  exact k _ .nd δ _ _ st.any (c.step0 st (c.fit.updM hF)) ⟨p, rfl, hp, hF, upd_same⟩ t
theorem da_star (he : DE X q e te) (hr : DA X q es tr) (hs : starEach (.Starred e p :: es) X.env = (true, eval e X.env) :: starEach es X.env := by rfl) : DA X q (.Starred e p :: es) (daStar te tr) := PA.imp (StX.pa_star he hr hs) fun σ H Q h => by
  obtain ⟨F, al, dty, δ, R, c, t, k⟩ := h
  refine ⟨F, al, dty, δ, _, c, t, fun x d δ1 F1 H1 s1 c1 hx hR => ?_⟩
  obtain ⟨xs, ex, hR⟩ := hR
  have got : ∃ p vs, x = V.ref p ∧ (SqT X.K H1 p vs ∨ SqL X.K H1 p vs) ∧ HsL q F1 xs vs := by
    cases d with
    | tup ds =>
      cases ex
      obtain ⟨a, vs, rfl, hF, hv⟩ := has_tup.mp hx
      exact ⟨a, vs, rfl, .inl (c1.fit.sqT hF), hv⟩
    | lst ds =>
      cases ex
      obtain ⟨a, vs, rfl, hF, hv⟩ := has_lst.mp hx
      exact ⟨a, vs, rfl, .inr (c1.fit.sqL hF), hv⟩
    | _ => cases ex
  obtain ⟨a, vs, rfl, hsq, hv⟩ := got
  exact ⟨a, vs, rfl, hsq, F1, al, dty, δ1, _, c1, hR, fun ys dys δ2 F2 H2 s2 c2 hy h2 => k _ _ δ2 F2 H2 (s1.trans0 s2) c2 ((hv.mono s2.up).append hy) h2⟩
end

/-! ### borrowing: own things looked at -/
def frzS : Sl → Sl
  | .ml ds => .im (.lst ds)
  | .md ks ds => .im (.dic ks ds)
  | s => s
def sca : D → Bool
  | .non => true
  | .bl _ => true
  | .int _ => true
  | .str _ => true
  | _ => false
theorem Has.sca {w : World} {C : Addr} {F F' : Hp} {d : D} {v : V} (s : K46.sca d = true) (h : Has w C F d v) : Has w C F' d v := by
  cases d with
  | non => exact has_non.mpr (has_non.mp h)
  | bl b => exact has_bl.mpr (has_bl.mp h)
  | int b => exact has_int.mpr (has_int.mp h)
  | str b => exact has_str.mpr (has_str.mp h)
  | _ => cases s
theorem HasL.sca {w : World} {C : Addr} {F F' : Hp} : ∀ {ds : List D} {vs : List V}, (∀ d ∈ ds, K46.sca d = true) → HasL w C F ds vs → HasL w C F' ds vs
  | [], vs, _, h => by rw [hasL_nil.mp h]; exact .nil
  | d :: ds, vs, s, h => by
    obtain ⟨v, r, rfl, h2, h3⟩ := hasL_cons.mp h
    exact .cons (h2.sca (s d List.mem_cons_self)) (HasL.sca (fun d h => s d (List.mem_cons_of_mem _ h)) h3)
open Classical in
/-- F with the own things -/
noncomputable def plusM (F H : Hp) (al : Nat → Addr) (δ : List Sl) : Hp := fun a => if ∃ i : Nat, isM δ[i]? = true ∧ al i = a then H a else F a
open Classical in
noncomputable def minusM (F : Hp) (al : Nat → Addr) (δ : List Sl) : Hp := fun a => if ∃ i : Nat, isM δ[i]? = true ∧ al i = a then none else F a
section
variable {q : Pm} {F H F1 H1 : Hp} {al : Nat → Addr} {dty : Addr → Prop} {δ δ1 : List Sl} {σ : L2.St}
theorem plusM_le (c : Cf q F H al dty δ σ) : Le F (plusM F H al δ) := fun a o e => by
  unfold plusM
  rw [if_neg ?_]
  · exact e
  · rintro ⟨i, hi, rfl⟩
    rw [(c.bnd.at_ i hi).2.1] at e; cases e
theorem plusM_at {i : Nat} (hi : isM δ[i]? = true) : plusM F H al δ (al i) = H (al i) := by
  unfold plusM
  rw [if_pos ⟨i, hi, rfl⟩]
theorem frz_get {i : Nat} {d : D} (e : (δ.map frzS)[i]? = some (.im d)) : δ[i]? = some (.im d) ∨ (∃ ds, δ[i]? = some (.ml ds) ∧ d = .lst ds) ∨ ∃ ks ds, δ[i]? = some (.md ks ds) ∧ d = .dic ks ds := by
  rw [List.getElem?_map] at e
  cases z : δ[i]? with
  | none => rw [z] at e; cases e
  | some s =>
    rw [z] at e
    cases s with
    | no => cases e
    | im d' => cases e; exact .inl rfl
    | ml ds => cases e; exact .inr (.inl ⟨ds, rfl, rfl⟩)
    | md ks ds => cases e; exact .inr (.inr ⟨ks, ds, rfl, rfl⟩)
theorem frz_no {i : Nat} : isM (δ.map frzS)[i]? = false := by
  rw [List.getElem?_map]
  cases z : δ[i]? with
  | none => rfl
  | some s => cases s <;> rfl
theorem Cf.borrow (c : Cf q F H al dty δ σ) : Cf q (plusM F H al δ) H al (fun _ => False) (δ.map frzS) σ where
  liv := fun _ z => z.elim
  fit := fun a o e => by
    unfold plusM at e
    split at e
    · exact .inl e
    · exact c.fit a o e
  bnd := by
    have up := plusM_le c
    refine ⟨by rw [List.length_map]; exact c.bnd.len, fun i d e => ?_, fun i e => (by rw [frz_no] at e; cases e), fun i ds e => ?_, fun i ks ds e => ?_, fun i j _ e _ => (by rw [frz_no] at e; cases e), c.bnd.pr⟩
    · rcases frz_get e with e9 | ⟨ds, e9, rfl⟩ | ⟨ks, ds, e9, rfl⟩
      · clear e
        have e := e9
        obtain ⟨v, e1, e2⟩ := c.bnd.im i d e
        exact ⟨v, e1, e2.mono up⟩
      · clear e
        have e := e9
        have hm : isM δ[i]? = true := by rw [e]; rfl
        obtain ⟨vs, e1, e2⟩ := c.bnd.ml i ds e
        exact ⟨_, (c.bnd.at_ i hm).1, has_lst.mpr ⟨al i, vs, rfl, by rw [plusM_at hm]; exact e1, e2.mono up⟩⟩
      · clear e
        have e := e9
        have hm : isM δ[i]? = true := by rw [e]; rfl
        obtain ⟨vs, e1, e2, e3⟩ := c.bnd.md i ks ds e
        exact ⟨_, (c.bnd.at_ i hm).1, has_dic.mpr ⟨al i, vs, rfl, by rw [plusM_at hm]; exact e1, e2, e3.mono up⟩⟩
    · have z := frz_no (δ := δ) (i := i)
      rw [e] at z; cases z
    · have z := frz_no (δ := δ) (i := i)
      rw [e] at z; cases z
theorem Cf.giveBack (hm : q.m = none) (c : Cf q F H al dty δ σ) (s : Stp0 (plusM F H al δ) H F1 H1) (f : Fit q.m F1 H1) : Stp dty F H (minusM F1 al δ) H1 ∧ Cf q (minusM F1 al δ) H1 al dty δ σ := by
  have up : Le F (minusM F1 al δ) := fun a o e => by
    unfold minusM
    rw [if_neg ?_]
    · exact s.up a o (plusM_le c a o e)
    · rintro ⟨i, hi, rfl⟩
      rw [(c.bnd.at_ i hi).2.1] at e; cases e
  have st : Stp dty F H (minusM F1 al δ) H1 := by
    refine ⟨up, fun a o e => ?_, fun a o e n d => ?_, s.live, s.frz⟩
    · unfold minusM at e
      split at e
      · cases e
      · rename_i hn
        rcases s.new a o e with z | z | z
        · unfold plusM at z
          rw [if_neg hn] at z
          exact .inl z
        · exact .inr (.inl z)
        · exact z.elim
    · refine s.keep a o e ?_ fun z => z
      unfold plusM
      rw [if_neg ?_]
      · exact n
      · rintro ⟨i, hi, rfl⟩
        exact d (c.bnd.at_ i hi).2.2
  refine ⟨st, fun a h => by obtain ⟨o, e⟩ := c.liv a h; exact s.live a o e, fun a o e => ?_, ?_⟩
  · unfold minusM at e
    split at e
    · cases e
    · exact f a o e
  · rw [hm] at f
    have at1 : ∀ (i : Nat) o, isM δ[i]? = true → H (al i) = some o → H1 (al i) = some o := fun i o hi e => f.dK (s.up _ _ (by rw [plusM_at hi]; exact e))
    refine ⟨c.bnd.len, fun i d e => ?_, fun i hi => ?_, fun i ds e => ?_, fun i ks ds e => ?_, c.bnd.inj, c.bnd.pr⟩
    · obtain ⟨v, e1, e2⟩ := c.bnd.im i d e
      exact ⟨v, e1, e2.mono up⟩
    · obtain ⟨e1, e2, e3⟩ := c.bnd.at_ i hi
      refine ⟨e1, ?_, e3⟩
      unfold minusM
      rw [if_pos ⟨i, hi, rfl⟩]
    · have hi : isM δ[i]? = true := by rw [e]; rfl
      obtain ⟨vs, e1, e2⟩ := c.bnd.ml i ds e
      exact ⟨vs, at1 i _ hi e1, e2.mono up⟩
    · have hi : isM δ[i]? = true := by rw [e]; rfl
      obtain ⟨vs, e1, e2, e3⟩ := c.bnd.md i ks ds e
      exact ⟨vs, at1 i _ hi e1, e2, e3.mono up⟩
end
def dBor (t : DTE) : DTE := fun δ R => t (δ.map frzS) fun d _ => sca d = true ∧ R d δ
def dBorT (t : DTT) : DTT := fun δ R => t (δ.map frzS) fun b _ => R b δ
def dBorR (t : DTR) : DTR := fun δ R => t (δ.map frzS) fun r _ => ∃ ds, r = .nl ds ∧ (∀ d ∈ ds, sca d = true) ∧ R r δ
section
variable {X : Cx} {q : Pm} {e : Expr} {te : DTE} {tt : DTT} {tr : DTR}
theorem de_bor (hm : q.m = none) (h : DE X q e te) : DE X q e (dBor te) := PE.imp h fun σ H Q h => by
  obtain ⟨F, al, dty, δ, R, c, t, k⟩ := h
  refine ⟨_, al, _, _, _, c.borrow, t, fun v d δ1 F1 H1 s1 c1 hv hR => ?_⟩
  obtain ⟨st, c2⟩ := c.giveBack hm s1 c1.fit
  exact k v d δ _ H1 st c2 (hv.sca hR.1) hR.2
theorem dt_bor (hm : q.m = none) (h : DT X q e tt) : DT X q e (dBorT tt) := PT.imp h fun σ H Q h => by
  obtain ⟨F, al, dty, δ, R, c, t, k⟩ := h
  refine ⟨_, al, _, _, _, c.borrow, t, fun b δ1 F1 H1 s1 c1 hR => ?_⟩
  obtain ⟨st, c2⟩ := c.giveBack hm s1 c1.fit
  exact k b δ _ H1 st c2 hR
theorem dr_bor (hm : q.m = none) (h : DR X q e tr) : DR X q e (dBorR tr) := PE.imp h fun σ H Q h => by
  obtain ⟨F, al, dty, δ, R, c, t, k⟩ := h
  refine ⟨_, al, _, _, _, c.borrow, t, fun v r δ1 F1 H1 s1 c1 hv hR => ?_⟩
  obtain ⟨st, c2⟩ := c.giveBack hm s1 c1.fit
  obtain ⟨ds, rfl, hsc, hR⟩ := hR
  obtain ⟨p, vs, rfl, h0, hF, hH, hvs⟩ := hv
  refine k (.ref p) (.nl ds) δ _ H1 st c2 ⟨p, vs, rfl, h0, ?_, hH, hvs.sca hsc⟩ hR
  unfold minusM
  split
  · rfl
  · exact hF
end
/-! ### an own thing becomes data -/
def dFrz (i : Nat) (t : DTS) : DTS := fun E δ => isM δ[i]? = true ∧ t E (δ.set i (frzS (δ.getD i .no)))
theorem l_frz {q : Pm} {t : DTS} {i : Nat} {Dn : Ends} {σ : L2.St} {H : Hp} (h : lS q (dFrz i t) Dn σ H) : lS q t Dn σ H := by
  obtain ⟨F, al, dty, δ, E, c, ⟨hi, h⟩, k⟩ := h
  obtain ⟨e1, e2, e3⟩ := c.bnd.at_ i hi
  obtain ⟨o, ho, _⟩ := c.bnd.has hi
  have hl : i < δ.length := by
    cases z : δ[i]? with
    | none => rw [z] at hi; cases hi
    | some s => exact (List.getElem?_eq_some_iff.mp z).1
  have st : Stp dty F H (upd F (al i) o) H := .froze e3 e2
  have gd : ∀ s, δ[i]? = some s → δ.getD i .no = s := fun s e => by simp [List.getD, e]
  have key : Cf q (upd F (al i) o) H al dty (δ.set i (frzS (δ.getD i .no))) σ := by
    have up := st.up
    have get : ∀ (j : Nat) (x : Sl), (δ.set i (frzS (δ.getD i .no)))[j]? = some x → (i = j ∧ x = frzS (δ.getD i .no)) ∨ (i ≠ j ∧ δ[j]? = some x) := fun j x e => by
      by_cases z : i = j
      · subst z
        rw [List.getElem?_set_self hl] at e
        cases e
        exact .inl ⟨rfl, rfl⟩
      · rw [List.getElem?_set_ne z] at e
        exact .inr ⟨z, e⟩
    have noM : isM (some (frzS (δ.getD i .no))) = false := by
      cases δ.getD i .no <;> rfl
    have isx : ∀ j, isM (δ.set i (frzS (δ.getD i .no)))[j]? = true → i ≠ j ∧ isM δ[j]? = true := fun j e => by
      rcases isM_set e with ⟨a, b⟩ | z
      · rw [noM] at b; cases b
      · exact z
    refine ⟨c.liv, c.fit.froze ho, ⟨by rw [List.length_set]; exact c.bnd.len, fun j d e => ?_, fun j e => ?_, fun j ds e => ?_, fun j ks ds e => ?_, fun j k hjk ej ek => c.bnd.inj j k hjk (isx j ej).2 (isx k ek).2, c.bnd.pr⟩⟩
    · rcases get j _ e with ⟨a, z⟩ | ⟨a, b⟩
      · subst a
        cases zs : δ[i]? with
        | none => rw [zs] at hi; cases hi
        | some s =>
          rw [gd s zs] at z
          cases s with
          | no => rw [zs] at hi; cases hi
          | im d => rw [zs] at hi; cases hi
          | ml ds =>
            cases z
            obtain ⟨vs, f1, f2⟩ := c.bnd.ml i ds zs
            rw [ho] at f1; cases f1
            exact ⟨_, e1, has_lst.mpr ⟨al i, vs, rfl, upd_same, f2.mono up⟩⟩
          | md ks ds =>
            cases z
            obtain ⟨vs, f1, f2, f3⟩ := c.bnd.md i ks ds zs
            rw [ho] at f1; cases f1
            exact ⟨_, e1, has_dic.mpr ⟨al i, vs, rfl, upd_same, f2, f3.mono up⟩⟩
      · obtain ⟨v, f1, f2⟩ := c.bnd.im j d b
        exact ⟨v, f1, f2.mono up⟩
    · obtain ⟨a, b⟩ := isx j e
      obtain ⟨f1, f2, f3⟩ := c.bnd.at_ j b
      exact ⟨f1, by rw [upd_ne (fun z => c.bnd.inj i j a hi b z.symm)]; exact f2, f3⟩
    · obtain ⟨a, b⟩ := isx j (by rw [e]; rfl)
      rcases get j _ e with ⟨z, _⟩ | ⟨_, z⟩
      · exact absurd z a
      · obtain ⟨vs, f1, f2⟩ := c.bnd.ml j ds z
        exact ⟨vs, f1, f2.mono up⟩
    · obtain ⟨a, b⟩ := isx j (by rw [e]; rfl)
      rcases get j _ e with ⟨z, _⟩ | ⟨_, z⟩
      · exact absurd z a
      · obtain ⟨vs, f1, f2, f3⟩ := c.bnd.md j ks ds z
        exact ⟨vs, f1, f2, f3.mono up⟩
  exact ⟨_, al, dty, _, E, key, h, k.go0 st⟩
theorem dss_frz {X : Cx} {q : Pm} {st : List Stmt} {t : DTS} (i : Nat) (h : DSs X q st t) : DSs X q st (dFrz i t) := PSs.imp h fun Dn σ H h => l_frz h

/-! ### own lists and dicts changed -/
section
variable {q : Pm} {F H F1 H1 : Hp} {al : Nat → Addr} {dty : Addr → Prop} {δ δ1 : List Sl} {σ : L2.St}
/-- the own thing in slot i is changed -/
theorem Cf.write (c : Cf q F H al dty δ σ) {i : Nat} {o : HO} {s : Sl} (hi : isM δ[i]? = true) (hs : isM (some s) = true) (hml : ∀ ds, s = .ml ds → ∃ vs, o = .lst vs ∧ HsL q F ds vs)
    (hmd : ∀ ks ds, s = .md ks ds → ∃ vs, o = .dK (ks.zip vs) ∧ ks.length = vs.length ∧ HsL q F ds vs) : Stp dty F H F (upd H (al i) o) ∧ Cf q F (upd H (al i) o) al dty (δ.set i s) σ := by
  obtain ⟨e1, e2, e3⟩ := c.bnd.at_ i hi
  obtain ⟨o0, ho, hnf⟩ := c.bnd.has hi
  have hl : i < δ.length := by
    cases z : δ[i]? with
    | none => rw [z] at hi; cases hi
    | some s => exact (List.getElem?_eq_some_iff.mp z).1
  have st : Stp dty F H F (upd H (al i) o) := .write e3 e2 fun ob u z => by rw [ho] at z; cases z; exact hnf _ _ rfl
  have get : ∀ (j : Nat) (x : Sl), (δ.set i s)[j]? = some x → (i = j ∧ x = s) ∨ (i ≠ j ∧ δ[j]? = some x) := fun j x e => by
    by_cases z : i = j
    · subst z
      rw [List.getElem?_set_self hl] at e
      cases e
      exact .inl ⟨rfl, rfl⟩
    · rw [List.getElem?_set_ne z] at e
      exact .inr ⟨z, e⟩
  have isx : ∀ j, isM (δ.set i s)[j]? = true → isM δ[j]? = true := fun j e => by
    rcases isM_set e with ⟨a, b⟩ | z
    · rw [← a]; exact hi
    · exact z.2
  refine ⟨st, fun a h => by obtain ⟨o, e⟩ := c.liv a h; exact st.live a o e, c.fit.updM e2, ⟨by rw [List.length_set]; exact c.bnd.len, fun j d e => ?_, fun j e => c.bnd.at_ j (isx j e), fun j ds e => ?_, fun j ks ds e => ?_, fun j k hjk ej ek => c.bnd.inj j k hjk (isx j ej) (isx k ek), c.bnd.pr⟩⟩
  · rcases get j _ e with ⟨_, z⟩ | ⟨_, z⟩
    · rw [← z] at hs; cases hs
    · exact c.bnd.im j d z
  · rcases get j _ e with ⟨a, z⟩ | ⟨a, z⟩
    · subst a
      obtain ⟨vs, rfl, f2⟩ := hml ds z.symm
      exact ⟨vs, upd_same, f2⟩
    · have hj : isM δ[j]? = true := by rw [z]; rfl
      obtain ⟨vs, f1, f2⟩ := c.bnd.ml j ds z
      exact ⟨vs, by rw [upd_ne (fun z => c.bnd.inj i j a hi hj z.symm)]; exact f1, f2⟩
  · rcases get j _ e with ⟨a, z⟩ | ⟨a, z⟩
    · subst a
      obtain ⟨vs, rfl, f2⟩ := hmd ks ds z.symm
      exact ⟨vs, upd_same, f2⟩
    · have hj : isM δ[j]? = true := by rw [z]; rfl
      obtain ⟨vs, f1, f2⟩ := c.bnd.md j ks ds z
      exact ⟨vs, by rw [upd_ne (fun z => c.bnd.inj i j a hi hj z.symm)]; exact f1, f2⟩
end
/-- x.append(e), x an own list -/
def dApp (i : Nat) (te : DTE) : DTS := fun E δ => (∃ ds, δ[i]? = some (.ml ds)) ∧ te δ fun d δ1 => ∃ ds, δ1[i]? = some (.ml ds) ∧ ds.length < 100000 ∧ E.nx (δ1.set i (.ml (ds ++ [d])))
/-- x.pop(k) -/
def dPop (i : Nat) (te : DTE) : DTE := fun δ R => (∃ ds, δ[i]? = some (.ml ds)) ∧ te δ fun k δ1 => ∃ ds n d, k = .int n ∧ δ1[i]? = some (.ml ds) ∧ 0 ≤ n ∧ ds.length < 100000 ∧ ds[n.toNat]? = some d ∧ R d (δ1.set i (.ml (ds.eraseIdx n.toNat)))
/-- x[k], x an own list of data -/
def dIxM (i : Nat) (te : DTE) : DTE := fun δ R => (∃ ds, δ[i]? = some (.ml ds)) ∧ te δ fun k δ1 => ∃ ds n d, k = .int n ∧ δ1[i]? = some (.ml ds) ∧ 0 ≤ n ∧ ds[n.toNat]? = some d ∧ R d δ1
/-- x[k] = e, x an own list -/
def dStL (i : Nat) (ti te : DTE) : DTS := fun E δ => te δ fun d δ1 => (∃ ds, δ1[i]? = some (.ml ds)) ∧ ti δ1 fun k δ2 => ∃ ds n, k = .int n ∧ δ2[i]? = some (.ml ds) ∧ 0 ≤ n ∧ n.toNat < ds.length ∧ E.nx (δ2.set i (.ml (ds.set n.toNat d)))
/-- x[k] = e, x an own dict, the key new -/
def dStD (i : Nat) (ti te : DTE) : DTS := fun E δ => te δ fun d δ1 => (∃ ks ds, δ1[i]? = some (.md ks ds)) ∧ ti δ1 fun k δ2 => ∃ ks ds n, k = .int n ∧ δ2[i]? = some (.md ks ds) ∧ ks.length < 100000 ∧ (Sum.inl n : Key) ∉ ks ∧ E.nx (δ2.set i (.md (ks ++ [.inl n]) (ds ++ [d])))
theorem putK_app {ks : List Key} {vs : List V} {k : Key} {v : V} (hl : ks.length = vs.length) (hk : k ∉ ks) : putK (ks.zip vs) k v = (ks ++ [k]).zip (vs ++ [v]) := by
  unfold putK
  rw [if_neg ?_]
  · rw [List.zip_append hl]
    rfl
  · rw [List.any_eq_true]
    rintro ⟨⟨k', v'⟩, hm, he⟩
    have e : k' = k := of_decide_eq_true he
    exact hk (by rw [← e]; exact (List.of_mem_zip hm).1)
theorem ixN_nat {n : Int} {l : Nat} (h0 : 0 ≤ n) (h : n.toNat < l) : ixN l n = some n.toNat := by
  unfold ixN
  rw [if_pos h0, if_pos (by omega)]
theorem atI_get {xs : List V} {n : Int} {v : V} (h0 : 0 ≤ n) (h : xs[n.toNat]? = some v) : atI xs n = some v := by
  unfold atI
  rw [ixN_nat h0 (List.getElem?_eq_some_iff.mp h).1]
  exact h
section
variable {X : Cx} {q : Pm} {e ie : Expr} {te ti : DTE} {pos pos' apos cpos : Pos} {x : Str}
theorem at_ml {F H : Hp} {al : Nat → Addr} {dty : Addr → Prop} {δ : List Sl} {σ : L2.St} (c : Cf q F H al dty δ σ) {i : Nat} {ds : List D} (h : δ[i]? = some (.ml ds)) : σ[i]? = some (some (.ref (al i))) ∧ ∃ vs, H (al i) = some (.lst vs) ∧ HsL q F ds vs := by
  have hm : isM δ[i]? = true := by rw [h]; rfl
  exact ⟨(c.bnd.at_ i hm).1, c.bnd.ml i ds h⟩
theorem ds_app (i : Nat) (h : DE X q e te) (hN : X.N[i]? = some x := by rfl) (hv : Vis X.env.scope x := by first | exact Or.inl rfl | exact Or.inr (Or.inl rfl) | exact Or.inr (Or.inr rfl)) (hd : (x == ("__debug__" : Str)) = false := by decide)
    (hcd : (x == ("__classdict__" : Str)) = false := by decide)
    (hbase : attributeBase (.Name x pos') "append" X.env (eval (.Name x pos') X.env) = eval (.Name x pos') X.env := by rfl)
    (hfew : ((backTo cpos (starEach [e] X.env)).all (fun x => !x.1) && (backToKw cpos (keywordEach [] X.env)).all (fun x => x.1.isSome)
      && decide ([e].length + ([] : List Keyword).length + (if ([] : List Keyword).isEmpty then 0 else 1) < 30)) = true := by rfl)
    (hline : (apos.endLine == cpos.line) = true := by rfl) (hs : starEach [e] X.env = (false, eval e X.env) :: starEach [] X.env := by rfl) (hplain : (backTo cpos (starEach [] X.env)).any (·.1) = false := by rfl)
    (hs2 : swapsWith (.Call (.Attribute (.Name x pos') "append" apos) [e] [] cpos) none pos.line X.env = pure false := by rfl) :
    DS X q (.Expr (.Call (.Attribute (.Name x pos') "append" apos) [e] [] cpos) pos) (dApp i te) :=
  PS.imp (ps_expr (pe_bm PySem.F.plainAttrs_list PySem.F.slot_list_append PySem.F.type_list_append mt_append (pe_var hN hv hd hcd) (pa_cons h pa_nil hs) hbase hfew hline hs hplain) hs2) fun Dn σ H h => by
    obtain ⟨F, al, dty, δ, E, c, ⟨⟨ds0, e0⟩, h⟩, k⟩ := h
    obtain ⟨g1, vs0, g2, g3⟩ := at_ml c e0
    refine ⟨_, g1, .inl ⟨rfl, _, .inl (.inl g2)⟩, F, al, dty, δ, _, c, h, fun v d δ1 F1 H1 s1 c1 hv hR => ?_⟩
    obtain ⟨ds, e1, hl, hn⟩ := hR
    obtain ⟨_, vs, g5, g6⟩ := at_ml c1 e1
    have hm : isM δ1[i]? = true := by rw [e1]; rfl
    obtain ⟨st, c2⟩ := c1.write (o := .lst (vs ++ [v])) (s := .ml (ds ++ [d])) hm rfl (fun ds' z => by cases z; exact ⟨_, rfl, g6.append (.cons hv .nil)⟩) (fun _ _ z => by cases z)
    refine ⟨al i, vs, v, rfl, rfl, g5, szlt (by rw [g6.length]; exact hl), ?_⟩
    exact (k.go0 (s1.trans0 st)).nx c2 hn
theorem de_pop (i : Nat) (h : DE X q e te) (hN : X.N[i]? = some x := by rfl) (hv : Vis X.env.scope x := by first | exact Or.inl rfl | exact Or.inr (Or.inl rfl) | exact Or.inr (Or.inr rfl)) (hd : (x == ("__debug__" : Str)) = false := by decide)
    (hcd : (x == ("__classdict__" : Str)) = false := by decide)
    (hbase : attributeBase (.Name x pos') "pop" X.env (eval (.Name x pos') X.env) = eval (.Name x pos') X.env := by rfl)
    (hfew : ((backTo cpos (starEach [e] X.env)).all (fun x => !x.1) && (backToKw cpos (keywordEach [] X.env)).all (fun x => x.1.isSome)
      && decide ([e].length + ([] : List Keyword).length + (if ([] : List Keyword).isEmpty then 0 else 1) < 30)) = true := by rfl)
    (hline : (apos.endLine == cpos.line) = true := by rfl) (hs : starEach [e] X.env = (false, eval e X.env) :: starEach [] X.env := by rfl) (hplain : (backTo cpos (starEach [] X.env)).any (·.1) = false := by rfl) :
    DE X q (.Call (.Attribute (.Name x pos') "pop" apos) [e] [] cpos) (dPop i te) :=
  PE.imp (pe_bm PySem.F.plainAttrs_list PySem.F.slot_list_pop PySem.F.type_list_pop mt_popAt (pe_var hN hv hd hcd) (pa_cons h pa_nil hs) hbase hfew hline hs hplain) fun σ H Q h => by
    obtain ⟨F, al, dty, δ, R, c, ⟨⟨ds0, e0⟩, h⟩, k⟩ := h
    obtain ⟨g1, vs0, g2, g3⟩ := at_ml c e0
    refine ⟨_, g1, .inl ⟨rfl, _, .inl (.inl g2)⟩, F, al, dty, δ, _, c, h, fun v dk δ1 F1 H1 s1 c1 hv hR => ?_⟩
    obtain ⟨ds, n, d, rfl, e1, hn0, hl, hd, hR⟩ := hR
    obtain ⟨_, vs, g5, g6⟩ := at_ml c1 e1
    have hm : isM δ1[i]? = true := by rw [e1]; rfl
    obtain ⟨st, c2⟩ := c1.write (o := .lst (vs.eraseIdx n.toNat)) (s := .ml (ds.eraseIdx n.toNat)) hm rfl (fun ds' z => by cases z; exact ⟨_, rfl, g6.erase _⟩) (fun _ _ z => by cases z)
    obtain ⟨y, hy, hy2⟩ := g6.get hd
    have hlt : n.toNat < vs.length := (List.getElem?_eq_some_iff.mp hy).1
    have hl2 := g6.length
    have e2 : seqIndex? n vs.length = some n.toNat := by
      have : n < vs.length := by omega
      simp [seqIndex?, hn0, this]
      try omega
    rw [has_int.mp hv]
    exact ⟨al i, vs, n, n.toNat, y, rfl, rfl, g5, by omega, by omega, e2, hy, k y d _ F1 _ (s1.trans0 st) c2 hy2 hR⟩
theorem de_ixM (i : Nat) (h : DE X q e te) (hp : PlainIx e) (hN : X.N[i]? = some x := by rfl) (hv : Vis X.env.scope x := by first | exact Or.inl rfl | exact Or.inr (Or.inl rfl) | exact Or.inr (Or.inr rfl)) (hd : (x == ("__debug__" : Str)) = false := by decide)
    (hcd : (x == ("__classdict__" : Str)) = false := by decide) : DE X q (.Subscript (.Name x pos') e pos) (dIxM i te) :=
  PE.imp (pe_ix ix_list (pe_var hN hv hd hcd) h hp) fun σ H Q h => by
    obtain ⟨F, al, dty, δ, R, c, ⟨⟨ds0, e0⟩, h⟩, k⟩ := h
    obtain ⟨g1, vs0, g2, g3⟩ := at_ml c e0
    refine ⟨_, g1, F, al, dty, δ, _, c, h, fun v dk δ1 F1 H1 s1 c1 hv hR => ?_⟩
    obtain ⟨ds, n, d, rfl, e1, hn0, hd, hR⟩ := hR
    obtain ⟨_, vs, g5, g6⟩ := at_ml c1 e1
    obtain ⟨y, hy, hy2⟩ := g6.get hd
    rw [has_int.mp hv]
    exact ⟨al i, vs, n, y, rfl, rfl, .inl (.inl g5), atI_get hn0 hy, k y d δ1 F1 H1 s1 c1 hy2 hR⟩
theorem ds_stL (i : Nat) (h : DE X q e te) (hi : DE X q ie ti) (hN : X.N[i]? = some x := by rfl) (hv : Vis X.env.scope x := by first | exact Or.inl rfl | exact Or.inr (Or.inl rfl) | exact Or.inr (Or.inr rfl)) (hd : (x == ("__debug__" : Str)) = false := by decide)
    (hcd : (x == ("__classdict__" : Str)) = false := by decide) {spos : Pos}
    (ha : ∀ v, assign (.Subscript (.Name x pos') ie spos) X.env v = (do
      let ov ← holding [v] (eval (.Name x pos') X.env)
      let iv ← holding [v, ov] (eval ie X.env)
      standAt spos
      holding [v, ov, iv] (setItem ov iv v)
      release [v, ov, iv] []) := by intro _; rfl)
    (hs : swapsWithSole [.Subscript (.Name x pos') ie spos] e pos.line X.env = pure false := by rfl) (hw : swappedStores [.Subscript (.Name x pos') ie spos] e X.env = pure none := by rfl)
    (h1 : (assignEach [.Subscript (.Name x pos') ie spos] X.env).map (·.2) = [assign (.Subscript (.Name x pos') ie spos) X.env] := by rfl) : DS X q (.Assign [.Subscript (.Name x pos') ie spos] e pos) (dStL i ti te) :=
  PS.imp (ps_asg (e := e) h (pg_sub (pe_var hN hv hd hcd) hi set_list ha) hs hw h1) fun Dn σ H h => by
    obtain ⟨F, al, dty, δ, E, c, h, k⟩ := h
    refine ⟨F, al, dty, δ, _, c, h, fun v d δ1 F1 H1 s1 c1 hv hR => ?_⟩
    obtain ⟨⟨ds0, e0⟩, hR⟩ := hR
    obtain ⟨g1, vs0, g2, g3⟩ := at_ml c1 e0
    refine ⟨_, g1, F1, al, dty, δ1, _, c1, hR, fun kv dk δ2 F2 H2 s2 c2 hk hR => ?_⟩
    obtain ⟨ds, n, rfl, e1, hn0, hlt, hR⟩ := hR
    obtain ⟨_, vs, g5, g6⟩ := at_ml c2 e1
    have hm : isM δ2[i]? = true := by rw [e1]; rfl
    obtain ⟨st, c3⟩ := c2.write (o := .lst (vs.set n.toNat v)) (s := .ml (ds.set n.toNat d)) hm rfl (fun ds' z => by cases z; exact ⟨_, rfl, g6.set (hv.mono s2.up) _⟩) (fun _ _ z => by cases z)
    rw [has_int.mp hk]
    exact ⟨al i, vs, n, n.toNat, rfl, rfl, g5, ixN_nat hn0 (by rw [g6.length]; exact hlt), (k.go0 ((s1.trans0 s2).trans0 st)).nx c3 hR⟩
theorem ds_stD (i : Nat) (hu : X.A.units + 1 < cLine) (h : DE X q e te) (hi : DE X q ie ti) (hN : X.N[i]? = some x := by rfl) (hv : Vis X.env.scope x := by first | exact Or.inl rfl | exact Or.inr (Or.inl rfl) | exact Or.inr (Or.inr rfl)) (hd : (x == ("__debug__" : Str)) = false := by decide)
    (hcd : (x == ("__classdict__" : Str)) = false := by decide) {spos : Pos}
    (hs : swapsWith e (some (.Subscript (.Name x pos') ie spos)) pos.line X.env = pure false := by rfl) : DS X q (.Assign [.Subscript (.Name x pos') ie spos] e pos) (dStD i ti te) :=
  PS.imp (ps_dput hu (pe_var hN hv hd hcd) hi h hs) fun Dn σ H h => by
    obtain ⟨F, al, dty, δ, E, c, h, k⟩ := h
    refine ⟨F, al, dty, δ, _, c, h, fun v d δ1 F1 H1 s1 c1 hv hR => ?_⟩
    obtain ⟨⟨ks0, ds0, e0⟩, hR⟩ := hR
    have hm0 : isM δ1[i]? = true := by rw [e0]; rfl
    refine ⟨_, (c1.bnd.at_ i hm0).1, F1, al, dty, δ1, _, c1, hR, fun kv dk δ2 F2 H2 s2 c2 hk hR => ?_⟩
    obtain ⟨ks, ds, n, rfl, e1, hl, hnk, hR⟩ := hR
    have hm : isM δ2[i]? = true := by rw [e1]; rfl
    obtain ⟨vs, g5, g6, g7⟩ := c2.bnd.md i ks ds e1
    obtain ⟨st, c3⟩ := c2.write (o := .dK (putK (ks.zip vs) (.inl n) v)) (s := .md (ks ++ [.inl n]) (ds ++ [d])) hm rfl (fun _ z => by cases z) (fun ks' ds' z => by
      cases z
      exact ⟨vs ++ [v], by rw [putK_app g6 hnk], by simp [g6], g7.append (.cons (hv.mono s2.up) .nil)⟩)
    rw [has_int.mp hk]
    refine ⟨al i, _, rfl, .inl ⟨_, .inl n, g5, rfl, szlt (by rw [List.length_zip, g6, Nat.min_self, ← g6]; exact hl), rfl⟩, ?_⟩
    exact (k.go0 ((s1.trans0 s2).trans0 st)).nx c3 hR
end
end K46

set_option Elab.async false
set_option linter.all false
set_option maxRecDepth 100000
set_option maxHeartbeats 1000000
namespace K46
open PySem PySem.Spec PyProof.Rows L2

/-! ### the slots of a comprehension -/
def wpD (δ : List Sl) : List Nat → List Sl
  | [] => δ
  | v :: vs => (wpD δ vs).set v .no
def unD (δ1 : List Sl) : List Nat → List Sl → List Sl
  | [], δ2 => δ2
  | v :: vs, δ2 => (unD δ1 vs δ2).set v (δ1.getD v .no)
def wOk (δ : List Sl) (vs : List Nat) : Bool := vs.all fun i => !isM δ[i]?
theorem wpD_get (δ : List Sl) (i : Nat) : ∀ vs : List Nat, (wpD δ vs)[i]? = if i ∈ vs then (δ[i]?).map fun _ => .no else δ[i]?
  | [] => by simp [wpD]
  | v :: vs => by
    have ih := wpD_get δ i vs
    unfold wpD
    by_cases h : v = i
    · subst h
      rw [if_pos List.mem_cons_self]
      rw [List.getElem?_set]
      rw [if_pos rfl]
      by_cases hl : v < δ.length
      · have : v < (wpD δ vs).length := by
          have e : (wpD δ vs)[v]?.isSome = true := by rw [ih]; split <;> simp [hl]
          rw [Option.isSome_iff_exists] at e
          obtain ⟨s, e⟩ := e
          exact (List.getElem?_eq_some_iff.mp e).1
        rw [if_pos this]
        simp [hl]
      · have : ¬ v < (wpD δ vs).length := fun z => by
          have e : (wpD δ vs)[v]? = none := by rw [ih]; split <;> simp [hl] <;> omega
          rw [List.getElem?_eq_getElem z] at e; cases e
        rw [if_neg this]
        rw [List.getElem?_eq_none (by omega)]
        rfl
    · rw [List.getElem?_set_ne h, ih]
      by_cases h2 : i ∈ vs
      · rw [if_pos h2, if_pos (List.mem_cons_of_mem _ h2)]
      · rw [if_neg h2, if_neg (by simp only [List.mem_cons, not_or]; exact ⟨fun z => h z.symm, h2⟩)]
theorem wpD_length (δ : List Sl) : ∀ vs : List Nat, (wpD δ vs).length = δ.length
  | [] => rfl
  | v :: vs => by unfold wpD; rw [List.length_set, wpD_length δ vs]
theorem unD_length (δ δ2 : List Sl) : ∀ vs : List Nat, (unD δ vs δ2).length = δ2.length
  | [] => rfl
  | v :: vs => by unfold unD; rw [List.length_set, unD_length δ δ2 vs]
theorem unD_get (δ δ2 : List Sl) (i : Nat) : ∀ vs : List Nat, (unD δ vs δ2)[i]? = if i ∈ vs then (δ2[i]?).map fun _ => δ.getD i .no else δ2[i]?
  | [] => by simp [unD]
  | v :: vs => by
    have ih := unD_get δ δ2 i vs
    unfold unD
    by_cases h : v = i
    · subst h
      rw [if_pos List.mem_cons_self, List.getElem?_set, if_pos rfl, unD_length]
      by_cases hl : v < δ2.length
      · rw [if_pos hl, List.getElem?_eq_getElem hl]; rfl
      · rw [if_neg hl, List.getElem?_eq_none (by omega)]; rfl
    · rw [List.getElem?_set_ne h, ih]
      by_cases h2 : i ∈ vs
      · rw [if_pos h2, if_pos (List.mem_cons_of_mem _ h2)]
      · rw [if_neg h2, if_neg (by simp only [List.mem_cons, not_or]; exact ⟨fun z => h z.symm, h2⟩)]
theorem unD_wpD (δ : List Sl) (vs : List Nat) : unD δ vs (wpD δ vs) = δ := by
  apply List.ext_getElem?
  intro i
  rw [unD_get, wpD_get]
  by_cases h : i ∈ vs
  · rw [if_pos h, if_pos h]
    cases e : δ[i]? with
    | none => rfl
    | some s => simp [List.getD, e]
  · rw [if_neg h, if_neg h]
theorem wpD_wpD (δ : List Sl) (vs : List Nat) : wpD (wpD δ vs) vs = wpD δ vs := by
  apply List.ext_getElem?
  intro i
  rw [wpD_get, wpD_get]
  by_cases h : i ∈ vs
  · rw [if_pos h, if_pos h, Option.map_map]; rfl
  · rw [if_neg h, if_neg h]
theorem wipe_get (σ : L2.St) (i : Nat) : ∀ vs : List Nat, (wipe σ vs)[i]? = if i ∈ vs then (σ[i]?).map fun _ => none else σ[i]?
  | [] => by simp [wipe]
  | v :: vs => by
    have ih := wipe_get σ i vs
    unfold wipe
    by_cases h : v = i
    · subst h
      rw [if_pos List.mem_cons_self, List.getElem?_set, if_pos rfl, wipe_length]
      by_cases hl : v < σ.length
      · rw [if_pos hl, List.getElem?_eq_getElem hl]; rfl
      · rw [if_neg hl, List.getElem?_eq_none (by omega)]; rfl
    · rw [List.getElem?_set_ne h, ih]
      by_cases h2 : i ∈ vs
      · rw [if_pos h2, if_pos (List.mem_cons_of_mem _ h2)]
      · rw [if_neg h2, if_neg (by simp only [List.mem_cons, not_or]; exact ⟨fun z => h z.symm, h2⟩)]
theorem setV_len : ∀ (is : List Nat) (xs : List V) (σ : L2.St), (setV σ is xs).length = σ.length
  | [], _, _ => rfl
  | i :: is, [], _ => rfl
  | i :: is, x :: xs, σ => by
    show (setV (σ.set i (some x)) is xs).length = σ.length
    rw [setV_len is xs, List.length_set]
theorem setV_get : ∀ (is : List Nat) (xs : List V) (σ : L2.St) (j : Nat), j ∉ is → (setV σ is xs)[j]? = σ[j]?
  | [], _, _, _, _ => rfl
  | i :: is, [], _, _, _ => rfl
  | i :: is, x :: xs, σ, j, h => by
    show (setV (σ.set i (some x)) is xs)[j]? = σ[j]?
    rw [setV_get is xs _ j (fun z => h (List.mem_cons_of_mem _ z)), List.getElem?_set_ne (fun z => h (by rw [z]; exact List.mem_cons_self))]
theorem wipe_setV {σ : L2.St} {vs is : List Nat} {xs : List V} (h : ∀ i ∈ is, i ∈ vs) : wipe (setV (wipe σ vs) is xs) vs = wipe σ vs := by
  apply List.ext_getElem?
  intro i
  rw [wipe_get]
  by_cases hi : i ∈ vs
  · rw [if_pos hi, wipe_get, if_pos hi]
    have e1 : (setV (wipe σ vs) is xs).length = σ.length := by rw [setV_len, wipe_length]
    by_cases hl : i < σ.length
    · rw [List.getElem?_eq_getElem (show i < (setV (wipe σ vs) is xs).length by rw [e1]; exact hl), List.getElem?_eq_getElem hl]; rfl
    · rw [List.getElem?_eq_none (by rw [e1]; omega), List.getElem?_eq_none (by omega)]
  · rw [if_neg hi, setV_get is xs _ i (fun z => hi (h i z))]
section
variable {q : Pm} {F H F1 H1 : Hp} {al : Nat → Addr} {dty : Addr → Prop} {δ δ1 δ2 : List Sl} {σ : L2.St} {vs : List Nat}
theorem wp_is {i : Nat} (h : isM (wpD δ vs)[i]? = true) : i ∉ vs ∧ isM δ[i]? = true := by
  rw [wpD_get] at h
  by_cases hi : i ∈ vs
  · rw [if_pos hi] at h
    cases e : δ[i]? with
    | none => rw [e] at h; cases h
    | some s => rw [e] at h; cases h
  · rw [if_neg hi] at h; exact ⟨hi, h⟩
theorem wp_some {i : Nat} {s : Sl} (h : (wpD δ vs)[i]? = some s) (hs : s ≠ .no) : i ∉ vs ∧ δ[i]? = some s := by
  rw [wpD_get] at h
  by_cases hi : i ∈ vs
  · rw [if_pos hi] at h
    cases e : δ[i]? with
    | none => rw [e] at h; cases h
    | some s => rw [e] at h; cases h; exact absurd rfl hs
  · rw [if_neg hi] at h; exact ⟨hi, h⟩
theorem Cf.wipe (c : Cf q F H al dty δ σ) : Cf q F H al dty (wpD δ vs) (L2.wipe σ vs) := by
  have sg : ∀ i, i ∉ vs → (L2.wipe σ vs)[i]? = σ[i]? := fun i h => by rw [wipe_get, if_neg h]
  refine ⟨c.liv, c.fit, ⟨by rw [wipe_length, wpD_length]; exact c.bnd.len, fun i d e => ?_, fun i e => ?_, fun i ds e => ?_, fun i ks ds e => ?_, fun i j h a b => c.bnd.inj i j h (wp_is a).2 (wp_is b).2, c.bnd.pr⟩⟩
  · obtain ⟨a, b⟩ := wp_some e (fun z => by cases z)
    rw [sg i a]
    exact c.bnd.im i d b
  · obtain ⟨a, b⟩ := wp_is e
    rw [sg i a]
    exact c.bnd.at_ i b
  · exact c.bnd.ml i ds (wp_some e (fun z => by cases z)).2
  · exact c.bnd.md i ks ds (wp_some e (fun z => by cases z)).2
theorem Cf.unw (c1 : Cf q F1 H1 al dty δ1 σ) (c : Cf q F H al dty δ2 (L2.wipe σ vs)) (hw : wOk δ1 vs = true) (up : Le F1 F) : Cf q F H al dty (unD δ1 vs δ2) σ := by
  have sg : ∀ i, i ∉ vs → (L2.wipe σ vs)[i]? = σ[i]? := fun i h => by rw [wipe_get, if_neg h]
  have nm : ∀ i, i ∈ vs → isM δ1[i]? = false := fun i h => by
    have z := List.all_eq_true.mp hw i h
    simpa using z
  have get : ∀ (i : Nat) (s : Sl), (unD δ1 vs δ2)[i]? = some s → s ≠ .no → (i ∈ vs ∧ δ1[i]? = some s) ∨ (i ∉ vs ∧ δ2[i]? = some s) := fun i s e hs => by
    rw [unD_get] at e
    by_cases hi : i ∈ vs
    · rw [if_pos hi] at e
      left
      refine ⟨hi, ?_⟩
      cases z : δ2[i]? with
      | none => rw [z] at e; cases e
      | some t =>
        rw [z] at e
        have e : δ1.getD i .no = s := Option.some.inj e
        cases y : δ1[i]? with
        | none =>
          simp [List.getD, y] at e
          first | done | exact absurd e.symm hs
        | some u => simp [List.getD, y] at e; rw [e]
    · rw [if_neg hi] at e
      exact .inr ⟨hi, e⟩
  have isx : ∀ i, isM (unD δ1 vs δ2)[i]? = true → i ∉ vs ∧ isM δ2[i]? = true := fun i e => by
    cases z : (unD δ1 vs δ2)[i]? with
    | none => rw [z] at e; cases e
    | some s =>
      have hs : s ≠ .no := fun y => by rw [z, y] at e; cases e
      rcases get i s z hs with ⟨a, b⟩ | ⟨a, b⟩
      · have := nm i a
        rw [b] at this
        rw [z, this] at e; cases e
      · rw [z] at e
        exact ⟨a, by rw [b]; exact e⟩
  refine ⟨c.liv, c.fit, ⟨by rw [unD_length, ← c.bnd.len, wipe_length], fun i d e => ?_, fun i e => ?_, fun i ds e => ?_, fun i ks ds e => ?_, fun i j h a b => c.bnd.inj i j h (isx i a).2 (isx j b).2, c.bnd.pr⟩⟩
  · rcases get i _ e (fun z => by cases z) with ⟨a, b⟩ | ⟨a, b⟩
    · obtain ⟨v, e1, e2⟩ := c1.bnd.im i d b
      exact ⟨v, e1, e2.mono up⟩
    · rw [← sg i a]
      exact c.bnd.im i d b
  · obtain ⟨a, b⟩ := isx i e
    rw [← sg i a]
    exact c.bnd.at_ i b
  · rcases get i _ e (fun z => by cases z) with ⟨a, b⟩ | ⟨a, b⟩
    · have := nm i a
      rw [b] at this; cases this
    · exact c.bnd.ml i ds b
  · rcases get i _ e (fun z => by cases z) with ⟨a, b⟩ | ⟨a, b⟩
    · have := nm i a
      rw [b] at this; cases this
    · exact c.bnd.md i ks ds b
/-- a private new object, made or changed -/
theorem Stp.own {p : Addr} {o : HO} (s : Stp dty F H F1 H1) (hp : H p = none) : Stp dty F H F1 (upd H1 p o) where
  up := s.up
  new := s.new
  keep := fun a u e n d => by rw [upd_ne (ne_of_none e hp)]; exact s.keep a u e n d
  live := fun a u e => by rw [upd_ne (ne_of_none e hp)]; exact s.live a u e
  frz := fun a ob u e => by rw [upd_ne (ne_of_none e hp)]; exact s.frz a ob u e
theorem Cf.own (c : Cf q F H al dty δ σ) {p : Addr} {o : HO} (hF : F p = none) (hd : ¬ dty p) : Cf q F (upd H p o) al dty δ σ := by
  have ne : ∀ i, isM δ[i]? = true → al i ≠ p := fun i hi z => hd (by rw [← z]; exact (c.bnd.at_ i hi).2.2)
  refine ⟨fun a h => by
    by_cases z : a = p
    · exact absurd (by rw [← z]; exact h) hd
    · rw [upd_ne z]; exact c.liv a h, c.fit.updM hF, ⟨c.bnd.len, c.bnd.im, c.bnd.at_, fun i ds e => ?_, fun i ks ds e => ?_, c.bnd.inj, c.bnd.pr⟩⟩
  · rw [upd_ne (ne i (by rw [e]; rfl))]
    exact c.bnd.ml i ds e
  · rw [upd_ne (ne i (by rw [e]; rfl))]
    exact c.bnd.md i ks ds e
end

/-! ### list comprehensions -/
def lTs (q : Pm) : Option DTT → TT
  | none => tYes
  | some t => lT q t
def tstD : Option DTT → DTT
  | none => fun δ R => R true δ
  | some t => t
/-- what a turn of a comprehension asks -/
def LcTurn (tg : Tg) (tt : Option DTT) (te : DTE) (vs : List Nat) (ds : List D) (Iv : Nat → List D → List Sl → Prop) : Prop :=
  ∀ (i : Nat) (d : D) acc δ2, ds[i]? = some d → acc.length ≤ i → Iv i acc δ2 → ∃ δ3, tg.set d δ2 = some δ3 ∧ tstD tt δ3 fun b δ4 => (b = true → te δ4 fun y δ5 => Iv (i + 1) (acc ++ [y]) (wpD δ5 vs)) ∧ (b = false → Iv (i + 1) acc (wpD δ4 vs))
theorem l_tst0 {q : Pm} {tt : Option DTT} {F H : Hp} {al : Nat → Addr} {dty : Addr → Prop} {δ : List Sl} {σ : L2.St} {R : Bool → List Sl → Prop} {Q : Bool → Hp → Prop} (c : Cf q F H al dty δ σ) (h : tstD tt δ R)
    (k : ∀ b δ' F' H', Stp dty F H F' H' → Cf q F' H' al dty δ' σ → R b δ' → Q b H') : lTs q tt σ H Q := by
  cases tt with
  | none => exact k true δ F H .refl c h
  | some t => exact ⟨F, al, dty, δ, R, c, h, k⟩
theorem lcW {q : Pm} {K : PySem.W.Frag} {F1 H1 : Hp} {al : Nat → Addr} {dty : Addr → Prop} {δ1 : List Sl} {σ : L2.St} {J : It} {ds : List D} {Q : VK} {vs : List Nat} {tg : Tg} {tt : Option DTT} {te : DTE} {Iv : Nat → List D → List Sl → Prop}
    (c1 : Cf q F1 H1 al dty δ1 σ) (wk : Wk q J ds F1 H1) (hsub : ∀ i ∈ tg.slots, i ∈ vs) (hw : wOk δ1 vs = true) (i0 : Iv 0 [] (wpD δ1 vs)) (turn : LcTurn tg tt te vs ds Iv) (hlen : ds.length ≤ 100000)
    (fin : ∀ acc avs δ2 F' H' D, H1 D = none → Stp dty F1 H1 F' H' → Cf q F' H' al dty (unD δ1 vs δ2) σ → F' D = none → H' D = some (.lst avs) → HsL q F' acc avs → acc.length ≤ ds.length → Iv ds.length acc δ2 → Q (.ref D) H') :
    ∀ D, H1 D = none → ∃ W : Nat → Nat → Hp → Prop, (∃ m, W 0 m (upd H1 D (.lst []))) ∧ ∀ i m H, W i m H →
      (J.stop i H ∧ Q (.ref D) H) ∨ (J.go i H ∧ ∃ Nx : Hp → Prop, (∀ H', Nx H' → ∃ m', m' < m ∧ W (i + 1) m' H') ∧ ∀ x H', J.yld i H x H' → tg.g K x (wipe σ vs) H' fun σ2 H2 => wipe σ2 vs = wipe σ vs ∧ lTs q tt σ2 H2 fun b H3 =>
        if b = true then lE q te σ2 H3 fun y H4 => ∃ acc, H4 D = some (.lst acc) ∧ acc.length < sizeLine ∧ Nx (upd H4 D (.lst (acc ++ [y]))) else Nx H3) := by
  intro D hD
  have ndD : ¬ dty D := fun z => by
    obtain ⟨o, e⟩ := c1.liv D z
    rw [hD] at e; cases e
  have freeD : ∀ F' H', Stp dty F1 H1 F' H' → F' D = none → ∀ F2 H2, Stp dty F' H' F2 H2 → (∃ o, H' D = some o) → F2 D = none := fun F' H' s1 h1 F2 H2 s2 ho => by
    cases e : F2 D with
    | none => rfl
    | some o =>
      rcases s2.new D o e with z | z | z
      · rw [h1] at z; cases z
      · obtain ⟨o', e'⟩ := ho
        rw [z] at e'; cases e'
      · exact (ndD z).elim
  refine ⟨fun i m H' => m = ds.length - i ∧ i ≤ ds.length ∧ ∃ F' δ' acc avs, Stp dty F1 H1 F' H' ∧ Cf q F' H' al dty δ' (wipe σ vs) ∧ F' D = none ∧ H' D = some (.lst avs) ∧ HsL q F' acc avs ∧ acc.length ≤ i ∧ Iv i acc δ', ⟨ds.length, rfl, Nat.zero_le _, F1, wpD δ1 vs, [], [], Stp.refl.own hD, ?_, c1.fit.none_of hD, upd_same, .nil, Nat.le_refl _, i0⟩, ?_⟩
  · exact (c1.wipe (vs := vs)).own (c1.fit.none_of hD) ndD
  rintro i m H2 ⟨rfl, hi, F2, δ2, acc, avs, s2, c2, hFD, hHD, hacc, hal, iv⟩
  by_cases hlt : i < ds.length
  · right
    obtain ⟨g1, g2⟩ := wk.go i ds[i] F2 H2 (List.getElem?_eq_getElem hlt) s2.up c2.fit s2.frz
    refine ⟨g1, fun H' => ∃ m', m' < ds.length - i ∧ m' = ds.length - (i + 1) ∧ i + 1 ≤ ds.length ∧ ∃ F' δ' acc avs, Stp dty F1 H1 F' H' ∧ Cf q F' H' al dty δ' (wipe σ vs) ∧ F' D = none ∧ H' D = some (.lst avs) ∧ HsL q F' acc avs ∧ acc.length ≤ i + 1 ∧ Iv (i + 1) acc δ', fun H' ⟨m', a, b⟩ => ⟨m', a, b⟩, fun x H3 hy => ?_⟩
    obtain ⟨F3, s3, f3, hx⟩ := g2 x H3 hy
    have c3 := c2.step0 s3 f3
    have s13 : Stp dty F1 H1 F3 H3 := s2.trans0 s3.any
    have hF3 := freeD F2 H2 s2 hFD F3 H3 s3.any ⟨_, hHD⟩
    have hH3 : H3 D = some (.lst avs) := s3.keep D _ hHD hFD fun z => z
    have hacc3 := hacc.mono s3.up
    obtain ⟨δ3, e3, hb⟩ := turn i ds[i] acc δ2 (List.getElem?_eq_getElem hlt) hal iv
    refine tg.ok c3 hx e3 fun σ4 c4 hσ => ?_
    obtain ⟨xs, rfl⟩ := hσ
    have hwp : wipe (setV (wipe σ vs) tg.slots xs) vs = wipe σ vs := wipe_setV hsub
    refine ⟨hwp, l_tst0 c4 hb fun b δ5 F5 H5 s5 c5 hR => ?_⟩
    have s15 := s13.trans0 s5
    have hF5 := freeD F3 H3 s13 hF3 F5 H5 s5 ⟨_, hH3⟩
    have hH5 : H5 D = some (.lst avs) := s5.keep D _ hH3 hF3 ndD
    have hacc5 := hacc3.mono s5.up
    cases b with
    | true =>
      rw [if_pos rfl]
      refine ⟨F5, al, dty, δ5, _, c5, hR.1 rfl, fun y dy δ6 F6 H6 s6 c6 hy2 hiv => ?_⟩
      have hF6 := freeD F5 H5 s15 hF5 F6 H6 s6 ⟨_, hH5⟩
      have hH6 : H6 D = some (.lst avs) := s6.keep D _ hH5 hF5 ndD
      have hacc6 := hacc5.mono s6.up
      refine ⟨avs, hH6, szlt (by rw [hacc6.length]; omega), _, by omega, rfl, hlt, F6, wpD δ6 vs, acc ++ [dy], avs ++ [y], (s15.trans0 s6).own hD, ?_, hF6, upd_same, hacc6.append (.cons hy2 .nil), by rw [List.length_append, List.length_singleton]; omega, hiv⟩
      have c7 := (c6.wipe (vs := vs)).own (o := .lst (avs ++ [y])) hF6 ndD
      rw [hwp] at c7
      exact c7
    | false =>
      rw [if_neg Bool.false_ne_true]
      refine ⟨_, by omega, rfl, hlt, F5, wpD δ5 vs, acc, avs, s15, ?_, hF5, hH5, hacc5, by omega, hR.2 rfl⟩
      have c7 := c5.wipe (vs := vs)
      rw [hwp] at c7
      exact c7
  · left
    have e : i = ds.length := by omega
    subst e
    refine ⟨wk.stop _ F2 H2 (Nat.le_refl _) s2.up c2.fit s2.frz, fin acc avs δ2 F2 H2 D hD s2 (Cf.unw c1 c2 hw s2.up) hFD hHD hacc hal iv⟩
def drLc (ti : DTI) (tg : Tg) (tt : Option DTT) (te : DTE) (vs : List Nat) : DTR := fun δ R => ti δ fun ds δ1 => ∃ Iv : Nat → List D → List Sl → Prop, wOk δ1 vs = true ∧ ds.length ≤ 100000 ∧ Iv 0 [] (wpD δ1 vs) ∧ LcTurn tg tt te vs ds Iv ∧ ∀ acc δ2, acc.length ≤ ds.length → Iv ds.length acc δ2 → R (.nl acc) (unD δ1 vs δ2)
theorem l_lc {q : Pm} {K : PySem.W.Frag} {σ : L2.St} {H : Hp} {Q : VK} {ti : DTI} {tg : Tg} {tt : Option DTT} {te : DTE} {vs : List Nat} (hsub : ∀ i ∈ tg.slots, i ∈ vs) (h : lR q (drLc ti tg tt te vs) σ H Q) : tLc (lI q ti) (tg.g K) (lTs q tt) (lE q te) vs σ H Q := by
  obtain ⟨F, al, dty, δ, R, c, t, k⟩ := h
  refine ⟨F, al, dty, δ, _, c, t, fun J ds δ1 F1 H1 s1 c1 wk hR => ?_⟩
  obtain ⟨Iv, hw, hlen, i0, turn, hfin⟩ := hR
  refine lcW c1 wk hsub hw i0 turn hlen fun acc avs δ2 F' H' D hD s2 c2 hF hH hacc hal iv => ?_
  have h0 : H D = none := by
    cases z : H D with
    | none => rfl
    | some o =>
      obtain ⟨o', e'⟩ := s1.live D o z
      rw [hD] at e'; cases e'
  exact k (.ref D) (.nl acc) _ F' H' (s1.trans0 s2) c2 ⟨D, avs, rfl, h0, hF, hH, hacc⟩ (hfin acc δ2 hal iv)
section
variable {X : Cx} {q : Pm} {elt tge iter : Expr} {ifs : List Expr} {scope : Scope} {own : List (Str × Nat)} {pos : Pos} {ti : DTI} {tg : Tg} {tt : Option DTT} {te : DTE}
theorem dr_lc (hc : X.calm = true) (hN : X.N.Nodup) (hi : DI X q tge iter ti) (ok : BlkOk X.N X.env.scope scope own) (hsub : ∀ i ∈ tg.slots, i ∈ own.map (·.2))
    (hg : ∀ (s : Shared) (H : Hp) (C : Addr) (cl : List (Str × Addr)) (fp : List Addr), PG (X.blk s H scope (compEnvC scope cl C X.env) fp) tge (tg.g X.K)) (ht : ∀ (s : Shared) (H : Hp) (C : Addr) (cl : List (Str × Addr)) (fp : List Addr), PTs (X.blk s H scope (compEnvC scope cl C X.env) fp) ifs (lTs q tt))
    (he : ∀ (s : Shared) (H : Hp) (C : Addr) (cl : List (Str × Addr)) (fp : List Addr), DE (X.blk s H scope (compEnvC scope cl C X.env) fp) q elt te) (hs : ∀ x, foldedSetIterable iter X.env x = pure x := by intro _; rfl) :
    DR X q (.ListComp elt [⟨tge, iter, ifs, 0⟩] scope pos) (drLc ti tg tt te (own.map (·.2))) := PE.imp (pe_lc hc hN hi ok hg ht he hs) fun σ H Q h => l_lc hsub h
theorem ds_setLc {i : Nat} {y : Str} {py spos : Pos} (hc : X.calm = true) (hN : X.N.Nodup) (hi0 : 0 < i) (hy : X.N[i]? = some y) (hyl : X.env.scope.names.lookup y = some .local)
    (hsw : swapsWith (.ListComp elt [⟨tge, iter, ifs, 0⟩] scope pos) (some (.Name y py)) spos.line X.env = pure true) (hi : DI X q tge iter ti) (ok : BlkOk X.N X.env.scope scope own) (hsub : ∀ i ∈ tg.slots, i ∈ own.map (·.2))
    (hg : ∀ (s : Shared) (H : Hp) (C : Addr) (cl : List (Str × Addr)) (fp : List Addr), PG (X.blk s H scope (compEnvC scope cl C X.env) fp) tge (tg.g X.K)) (ht : ∀ (s : Shared) (H : Hp) (C : Addr) (cl : List (Str × Addr)) (fp : List Addr), PTs (X.blk s H scope (compEnvC scope cl C X.env) fp) ifs (lTs q tt))
    (he : ∀ (s : Shared) (H : Hp) (C : Addr) (cl : List (Str × Addr)) (fp : List Addr), DE (X.blk s H scope (compEnvC scope cl C X.env) fp) q elt te) (hs : ∀ x, foldedSetIterable iter X.env x = pure x := by intro _; rfl) :
    DS X q (.Assign [.Name y py] (.ListComp elt [⟨tge, iter, ifs, 0⟩] scope pos) spos) (dSetR i (drLc ti tg tt te (own.map (·.2)))) := PS.imp (ps_setLc hc hN hy hyl hsw hi ok hg ht he hs) fun Dn σ H h => by
  obtain ⟨F, al, dty, δ, E, c, h, k⟩ := h
  refine l_lc hsub ⟨F, al, dty, δ, _, c, h, fun v r δ1 F1 H1 s1 c1 hv hR => ?_⟩
  exact l_par (is := [i]) (rs := [r]) (vs := [v]) c k s1 c1 ⟨v, [], rfl, hv, rfl, fun _ _ _ _ z => nomatch z⟩ (fun j hj => by simp at hj; rw [hj]; exact hi0) rfl hR
theorem dts_nil : PTs X [] (lTs q none) := pts_nil
theorem dts_one {c : Expr} {t : DTT} (h : DT X q c t) : PTs X [c] (lTs q (some t)) := pts_one h
end
/-! ### dict comprehensions -/
def keyD : D → Option Key
  | .int n => some (.inl n)
  | .str x => some (.inr x)
  | _ => none
theorem keyD_v {w : World} {C : Addr} {F : Hp} {d : D} {v : V} {k : Key} (h : Has w C F d v) (e : keyD d = some k) : v = kV k := by
  cases d with
  | int n => cases e; exact has_int.mp h
  | str n => cases e; exact has_str.mp h
  | _ => cases e
def DcTurn (tg : Tg) (tk tv : DTE) (vs : List Nat) (ds : List D) (Iv : Nat → List Key → List D → List Sl → Prop) : Prop :=
  ∀ (i : Nat) (d : D) ks acc δ2, ds[i]? = some d → ks.length ≤ i → Iv i ks acc δ2 → ∃ δ3, tg.set d δ2 = some δ3 ∧ tk δ3 fun dk δ4 => tv δ4 fun y δ5 => ∃ k, keyD dk = some k ∧ k ∉ ks ∧ Iv (i + 1) (ks ++ [k]) (acc ++ [y]) (wpD δ5 vs)
theorem dcW {q : Pm} {K : PySem.W.Frag} {F1 H1 : Hp} {al : Nat → Addr} {dty : Addr → Prop} {δ1 : List Sl} {σ : L2.St} {J : It} {ds : List D} {Q : VK} {vs : List Nat} {tg : Tg} {tk tv : DTE} {Iv : Nat → List Key → List D → List Sl → Prop}
    (c1 : Cf q F1 H1 al dty δ1 σ) (wk : Wk q J ds F1 H1) (hsub : ∀ i ∈ tg.slots, i ∈ vs) (hw : wOk δ1 vs = true) (i0 : Iv 0 [] [] (wpD δ1 vs)) (turn : DcTurn tg tk tv vs ds Iv) (hlen : ds.length ≤ 100000)
    (fin : ∀ ks acc avs δ2 F' H' D, H1 D = none → Stp dty F1 H1 F' H' → Cf q F' H' al dty (unD δ1 vs δ2) σ → F' D = none → H' D = some (.dK (ks.zip avs)) → ks.length = avs.length → HsL q F' acc avs → Iv ds.length ks acc δ2 → Q (.ref D) H') :
    ∀ D, H1 D = none → ∃ W : Nat → Nat → Hp → Prop, (∃ m, W 0 m (upd H1 D (.dK []))) ∧ ∀ i m H, W i m H →
      (J.stop i H ∧ Q (.ref D) H) ∨ (J.go i H ∧ ∃ Nx : Hp → Prop, (∀ H', Nx H' → ∃ m', m' < m ∧ W (i + 1) m' H') ∧ ∀ x H', J.yld i H x H' → tg.g K x (wipe σ vs) H' fun σ2 H2 => wipe σ2 vs = wipe σ vs ∧ tYes σ2 H2 fun b H3 =>
        if b = true then lE q tk σ2 H3 fun y H4 => lE q tv σ2 H4 fun z H5 => ∃ kvs k, y = kV k ∧ H5 D = some (.dK kvs) ∧ kvs.length < sizeLine ∧ Nx (upd H5 D (.dK (putK kvs k z))) else Nx H3) := by
  intro D hD
  have ndD : ¬ dty D := fun z => by
    obtain ⟨o, e⟩ := c1.liv D z
    rw [hD] at e; cases e
  have freeD : ∀ F' H', F' D = none → ∀ F2 H2, Stp dty F' H' F2 H2 → (∃ o, H' D = some o) → F2 D = none := fun F' H' h1 F2 H2 s2 ho => by
    cases e : F2 D with
    | none => rfl
    | some o =>
      rcases s2.new D o e with z | z | z
      · rw [h1] at z; cases z
      · obtain ⟨o', e'⟩ := ho
        rw [z] at e'; cases e'
      · exact (ndD z).elim
  refine ⟨fun i m H' => m = ds.length - i ∧ i ≤ ds.length ∧ ∃ F' δ' ks acc avs, Stp dty F1 H1 F' H' ∧ Cf q F' H' al dty δ' (wipe σ vs) ∧ F' D = none ∧ H' D = some (.dK (ks.zip avs)) ∧ ks.length = avs.length ∧ HsL q F' acc avs ∧ ks.length ≤ i ∧ Iv i ks acc δ', ⟨ds.length, rfl, Nat.zero_le _, F1, wpD δ1 vs, [], [], [], Stp.refl.own hD, ?_, c1.fit.none_of hD, upd_same, rfl, .nil, Nat.le_refl _, i0⟩, ?_⟩
  · exact (c1.wipe (vs := vs)).own (c1.fit.none_of hD) ndD
  rintro i m H2 ⟨rfl, hi, F2, δ2, ks, acc, avs, s2, c2, hFD, hHD, hka, hacc, hal, iv⟩
  by_cases hlt : i < ds.length
  · right
    obtain ⟨g1, g2⟩ := wk.go i ds[i] F2 H2 (List.getElem?_eq_getElem hlt) s2.up c2.fit s2.frz
    refine ⟨g1, fun H' => ∃ m', m' < ds.length - i ∧ m' = ds.length - (i + 1) ∧ i + 1 ≤ ds.length ∧ ∃ F' δ' ks acc avs, Stp dty F1 H1 F' H' ∧ Cf q F' H' al dty δ' (wipe σ vs) ∧ F' D = none ∧ H' D = some (.dK (ks.zip avs)) ∧ ks.length = avs.length ∧ HsL q F' acc avs ∧ ks.length ≤ i + 1 ∧ Iv (i + 1) ks acc δ', fun H' ⟨m', a, b⟩ => ⟨m', a, b⟩, fun x H3 hy => ?_⟩
    obtain ⟨F3, s3, f3, hx⟩ := g2 x H3 hy
    have c3 := c2.step0 s3 f3
    have s13 : Stp dty F1 H1 F3 H3 := s2.trans0 s3.any
    have hF3 := freeD F2 H2 hFD F3 H3 (s3.any (dty := dty)) ⟨_, hHD⟩
    have hH3 : H3 D = some (.dK (ks.zip avs)) := s3.keep D _ hHD hFD fun z => z
    have hacc3 := hacc.mono s3.up
    obtain ⟨δ3, e3, hb⟩ := turn i ds[i] ks acc δ2 (List.getElem?_eq_getElem hlt) hal iv
    refine tg.ok c3 hx e3 fun σ4 c4 hσ => ?_
    obtain ⟨xs, rfl⟩ := hσ
    have hwp : wipe (setV (wipe σ vs) tg.slots xs) vs = wipe σ vs := wipe_setV hsub
    refine ⟨hwp, ?_⟩
    unfold tYes
    refine (if_pos (rfl : true = true)).mpr ?_
    refine ⟨F3, al, dty, δ3, _, c4, hb, fun y dk δ5 F5 H5 s5 c5 hk hR => ?_⟩
    have s15 := s13.trans0 s5
    have hF5 := freeD F3 H3 hF3 F5 H5 s5 ⟨_, hH3⟩
    have hH5 : H5 D = some (.dK (ks.zip avs)) := s5.keep D _ hH3 hF3 ndD
    have hacc5 := hacc3.mono s5.up
    refine ⟨F5, al, dty, δ5, _, c5, hR, fun z dz δ6 F6 H6 s6 c6 hz hiv => ?_⟩
    obtain ⟨k, hk2, hnk, hiv⟩ := hiv
    have hF6 := freeD F5 H5 hF5 F6 H6 s6 ⟨_, hH5⟩
    have hH6 : H6 D = some (.dK (ks.zip avs)) := s6.keep D _ hH5 hF5 ndD
    have hacc6 := hacc5.mono s6.up
    have c7 := (c6.wipe (vs := vs)).own (o := .dK (putK (ks.zip avs) k z)) hF6 ndD
    rw [hwp] at c7
    refine ⟨ks.zip avs, k, keyD_v (hk.mono s6.up) hk2, hH6, szlt (by rw [List.length_zip, hka, Nat.min_self, ← hka]; omega), _, by omega, rfl, hlt, F6, wpD δ6 vs, ks ++ [k], acc ++ [dz], avs ++ [z], (s15.trans0 s6).own hD, c7, hF6, by rw [upd_same, putK_app hka hnk], by simp [hka], hacc6.append (.cons hz .nil), by rw [List.length_append, List.length_singleton]; omega, hiv⟩
  · left
    have e : i = ds.length := by omega
    subst e
    exact ⟨wk.stop _ F2 H2 (Nat.le_refl _) s2.up c2.fit s2.frz, fin ks acc avs δ2 F2 H2 D hD s2 (Cf.unw c1 c2 hw s2.up) hFD hHD hka hacc iv⟩
def dDc (ti : DTI) (tg : Tg) (tk tv : DTE) (vs : List Nat) : DTE := fun δ R => ti δ fun ds δ1 => ∃ Iv : Nat → List Key → List D → List Sl → Prop, wOk δ1 vs = true ∧ ds.length ≤ 100000 ∧ Iv 0 [] [] (wpD δ1 vs) ∧ DcTurn tg tk tv vs ds Iv ∧ ∀ ks acc δ2, Iv ds.length ks acc δ2 → R (.dic ks acc) (unD δ1 vs δ2)
theorem l_dc {q : Pm} {K : PySem.W.Frag} {σ : L2.St} {H : Hp} {Q : VK} {ti : DTI} {tg : Tg} {tk tv : DTE} {vs : List Nat} (hsub : ∀ i ∈ tg.slots, i ∈ vs) (h : lE q (dDc ti tg tk tv vs) σ H Q) : tDc (lI q ti) (tg.g K) tYes (lE q tk) (lE q tv) vs σ H Q := by
  obtain ⟨F, al, dty, δ, R, c, t, k⟩ := h
  refine ⟨F, al, dty, δ, _, c, t, fun J ds δ1 F1 H1 s1 c1 wk hR => ?_⟩
  obtain ⟨Iv, hw, hlen, i0, turn, hfin⟩ := hR
  refine dcW c1 wk hsub hw i0 turn hlen fun ks acc avs δ2 F' H' D hD s2 c2 hF hH hka hacc iv => ?_
  have h0 : H D = none := by
    cases z : H D with
    | none => rfl
    | some o =>
      obtain ⟨o', e'⟩ := s1.live D o z
      rw [hD] at e'; cases e'
  have ndD : ¬ dty D := fun z => by
    obtain ⟨o, e⟩ := c.liv D z
    rw [h0] at e; cases e
  have up : Le F' (upd F' D (.dK (ks.zip avs))) := fun a u e => by rw [upd_ne (ne_of_none e hF)]; exact e
  exact k (.ref D) (.dic ks acc) _ _ H' ((s1.trans0 s2).take h0 hF) (c2.take hF hH ndD) (has_dic.mpr ⟨D, avs, rfl, upd_same, hka, hacc.mono up⟩) (hfin ks acc δ2 iv)
section
variable {X : Cx} {q : Pm} {kx vx tge iter : Expr} {scope : Scope} {own : List (Str × Nat)} {pos : Pos} {ti : DTI} {tg : Tg} {tk tv : DTE}
theorem de_dc (hc : X.calm = true) (hN : X.N.Nodup) (hi : DI X q tge iter ti) (ok : BlkOk X.N X.env.scope scope own) (hsub : ∀ i ∈ tg.slots, i ∈ own.map (·.2))
    (hg : ∀ (s : Shared) (H : Hp) (C : Addr) (cl : List (Str × Addr)) (fp : List Addr), PG (X.blk s H scope (compEnvC scope cl C X.env) fp) tge (tg.g X.K))
    (hk : ∀ (s : Shared) (H : Hp) (C : Addr) (cl : List (Str × Addr)) (fp : List Addr), DE (X.blk s H scope (compEnvC scope cl C X.env) fp) q kx tk)
    (he : ∀ (s : Shared) (H : Hp) (C : Addr) (cl : List (Str × Addr)) (fp : List Addr), DE (X.blk s H scope (compEnvC scope cl C X.env) fp) q vx tv) (hs : ∀ x, foldedSetIterable iter X.env x = pure x := by intro _; rfl) :
    DE X q (.DictComp kx vx [⟨tge, iter, [], 0⟩] scope pos) (dDc ti tg tk tv (own.map (·.2))) := PE.imp (pe_dc hc hN hi ok hg (fun _ _ _ _ _ => pts_nil) hk he hs) fun σ H Q h => l_dc hsub h
/-- name = {..} on one line, the name a local (as L2.ps_setLc) -/
theorem ps_setDc {wi : TI} {g : TG} {tk tv : TE} {i : Nat} {y : Str} {py spos : Pos} (hc : X.calm = true) (hN : X.N.Nodup) (hy : X.N[i]? = some y) (hyl : X.env.scope.names.lookup y = some .local)
    (hsw : swapsWith (.DictComp kx vx [⟨tge, iter, [], 0⟩] scope pos) (some (.Name y py)) spos.line X.env = pure true) (hi : PI X tge iter wi) (ok : BlkOk X.N X.env.scope scope own)
    (hg : ∀ (s : Shared) (H : Hp) (C : Addr) (cl : List (Str × Addr)) (fp : List Addr), PG (X.blk s H scope (compEnvC scope cl C X.env) fp) tge g)
    (hk : ∀ (s : Shared) (H : Hp) (C : Addr) (cl : List (Str × Addr)) (fp : List Addr), PE (X.blk s H scope (compEnvC scope cl C X.env) fp) kx tk)
    (he : ∀ (s : Shared) (H : Hp) (C : Addr) (cl : List (Str × Addr)) (fp : List Addr), PE (X.blk s H scope (compEnvC scope cl C X.env) fp) vx tv) (hs : ∀ x, foldedSetIterable iter X.env x = pure x := by intro _; rfl) :
    PS X (.Assign [.Name y py] (.DictComp kx vx [⟨tge, iter, [], 0⟩] scope pos) spos) (tAsg (tDc wi g tYes tk tv (own.map (·.2))) (gName i)) := by
  refine ⟨fun pins s σ H D I h => ?_⟩
  rw [exec_Assign_Name_used _ _ _ _ hsw]
  refine wpAny_bind (wpAny_standAt (wpAny_bind ?_))
  show wpAny _ X.A (do let _ ← comprehension (.DictComp kx vx [⟨tge, iter, [], 0⟩] scope pos) scope X.env (firstIterPos [⟨tge, iter, [], 0⟩] pos) newDict false (eval iter X.env) (some (assign (.Name y py) X.env))) _ _ s
  have h : tDc wi g tYes tk tv (own.map (·.2)) σ H (fun x H1 => gName i x σ H1 D.nx) := h
  refine wpAny_bind (thn (dc_core (Qf := fun _ s' => SP X pins D .next s') hc hN I hi ok hg (fun _ _ _ _ _ => pts_nil) hk he hs h fun L C s' m H' I' q hn f => ?_) fun _ s' hq => wpAny_pure (wpAny_pure hq))
  show wpAny _ _ (assign (.Name y py) X.env (.ref L)) _ _ _
  refine wpAny_assign_Name (store_ok2 (v := V.ref L) I' hN hy (.inl hyl) rfl (fun s2 I2 ⟨a, sb, ha⟩ => ?_) (.inr hyl))
  obtain ⟨f0, f1, f2, f3, f4, f5⟩ := f
  have haC : C ≠ a := by
    rcases ha with z | z
    · rw [z]; exact f1
    · exact fun e => f4 y a z e.symm
  refine ⟨m, hn.sameBut sb haC, fun h3 sb3 => ?_⟩
  exact ⟨_, H', I2.turned (t' := s2.toks) (fun b o hb e => (sb3.2 b hb).trans e) f0 f1 f3 f4 f5, q⟩
theorem ds_setDc {i : Nat} {y : Str} {py spos : Pos} (hc : X.calm = true) (hN : X.N.Nodup) (hy : X.N[i]? = some y) (hyl : X.env.scope.names.lookup y = some .local)
    (hsw : swapsWith (.DictComp kx vx [⟨tge, iter, [], 0⟩] scope pos) (some (.Name y py)) spos.line X.env = pure true) (hi : DI X q tge iter ti) (ok : BlkOk X.N X.env.scope scope own) (hsub : ∀ i ∈ tg.slots, i ∈ own.map (·.2))
    (hg : ∀ (s : Shared) (H : Hp) (C : Addr) (cl : List (Str × Addr)) (fp : List Addr), PG (X.blk s H scope (compEnvC scope cl C X.env) fp) tge (tg.g X.K))
    (hk : ∀ (s : Shared) (H : Hp) (C : Addr) (cl : List (Str × Addr)) (fp : List Addr), DE (X.blk s H scope (compEnvC scope cl C X.env) fp) q kx tk)
    (he : ∀ (s : Shared) (H : Hp) (C : Addr) (cl : List (Str × Addr)) (fp : List Addr), DE (X.blk s H scope (compEnvC scope cl C X.env) fp) q vx tv) (hs : ∀ x, foldedSetIterable iter X.env x = pure x := by intro _; rfl) :
    DS X q (.Assign [.Name y py] (.DictComp kx vx [⟨tge, iter, [], 0⟩] scope pos) spos) (dSet i (dDc ti tg tk tv (own.map (·.2)))) := PS.imp (ps_setDc hc hN hy hyl hsw hi ok hg hk he hs) fun Dn σ H h => by
  obtain ⟨F, al, dty, δ, E, c, h, k⟩ := h
  exact l_dc hsub ⟨F, al, dty, δ, _, c, h, fun v d δ1 F1 H1 s1 c1 hv hR => (k.go0 s1).nx (c1.setI i hv) hR⟩
end
end K46

set_option Elab.async false
set_option linter.all false
set_option maxRecDepth 100000
set_option maxHeartbeats 1000000
namespace K46
open PySem PySem.Spec PyProof.Rows L2

/-! ### sources -/
def diLst (te : DTE) : DTI := fun δ R => te δ fun x δ1 => ∃ ds, x = .lst ds ∧ R ds δ1
def diTup (te : DTE) : DTI := fun δ R => te δ fun x δ1 => ∃ ds, x = .tup ds ∧ R ds δ1
def rngD (n : Nat) : List D := (List.range n).map fun (i : Nat) => D.int (i : Int)
def diRng (te : DTE) : DTI := fun δ R => te δ fun x δ1 => ∃ j : Int, x = .int j ∧ -100000 ≤ j ∧ j ≤ 100000 ∧ R (rngD j.toNat) δ1
def diStr (te : DTE) : DTI := fun δ R => te δ fun x δ1 => ∃ z : Str, x = .str z ∧ R (z.cps.toList.map fun c => D.str ⟨#[c]⟩) δ1
def enumD (ds : List D) : List D := (List.range ds.length).map fun (i : Nat) => D.tup [.int (i : Int), ds.getD i .non]
def diEnum (te : DTE) : DTI := fun δ R => te δ fun x δ1 => ∃ ds, x = .lst ds ∧ R (enumD ds) δ1
section
variable {q : Pm} {F H : Hp}
theorem wk_lst {K : PySem.W.Frag} {a : Addr} {vs : List V} {ds : List D} (hF : F a = some (.lst vs)) (hv : HsL q F ds vs) : Wk q (Itl K a) ds F H where
  go := fun i d F' H' e le f fr => by
    have hF' := le _ _ hF
    obtain ⟨v, e1, e2⟩ := (hv.mono le).get e
    have hq : SqL K H' a vs := f.sqL hF'
    refine ⟨⟨vs, v, hq, e1⟩, fun x H2 hy => ?_⟩
    obtain ⟨rfl, hy⟩ := hy
    have := hy vs hq
    rw [e1] at this; cases this
    exact ⟨F', .refl, f, e2⟩
  stop := fun i F' H' h le f fr => ⟨vs, f.sqL (le _ _ hF), by rw [hv.length]; exact h⟩
theorem wk_tup {K : PySem.W.Frag} {a : Addr} {vs : List V} {ds : List D} (hF : F a = some (.tup vs)) (hv : HsL q F ds vs) : Wk q (Itt K a) ds F H where
  go := fun i d F' H' e le f fr => by
    have hF' := le _ _ hF
    obtain ⟨v, e1, e2⟩ := (hv.mono le).get e
    have hq : SqT K H' a vs := f.sqT hF'
    refine ⟨⟨vs, v, hq, e1⟩, fun x H2 hy => ?_⟩
    obtain ⟨rfl, hy⟩ := hy
    have := hy vs hq
    rw [e1] at this; cases this
    exact ⟨F', .refl, f, e2⟩
  stop := fun i F' H' h le f fr => ⟨vs, f.sqT (le _ _ hF), by rw [hv.length]; exact h⟩
theorem wk_rng {n : Nat} : Wk q (Itr 0 n) (rngD n) F H where
  go := fun i d F' H' e le f fr => by
    have hi : i < n := by
      have := (List.getElem?_eq_some_iff.mp e).1
      simpa [rngD] using this
    refine ⟨hi, fun x H2 hy => ?_⟩
    obtain ⟨rfl, rfl⟩ := hy
    refine ⟨F', .refl, f, ?_⟩
    have e2 : d = .int (i : Int) := by
      unfold rngD at e
      rw [List.getElem?_map, List.getElem?_range hi] at e
      exact (Option.some.inj e).symm
    rw [e2, show (0 : Int) + (i : Int) = (i : Int) from Int.zero_add _]
    exact has_int.mpr rfl
  stop := fun i F' H' h le f fr => by
    have : (rngD n).length = n := by simp [rngD]
    rw [this] at h
    exact h
theorem wk_str {z : Str} : Wk q (Its z) (z.cps.toList.map fun c => D.str ⟨#[c]⟩) F H where
  go := fun i d F' H' e le f fr => by
    rw [List.getElem?_map] at e
    cases hc : z.cps.toList[i]? with
    | none => rw [hc] at e; cases e
    | some c =>
      rw [hc] at e
      cases e
      have hc2 : z.cps[i]? = some c := by simpa using hc
      refine ⟨by
        have := (List.getElem?_eq_some_iff.mp hc).1
        show i < z.cps.size
        simpa using this, fun x H2 hy => ?_⟩
      obtain ⟨rfl, c', h1, rfl⟩ := hy
      rw [hc2] at h1; cases h1
      exact ⟨F', .refl, f, has_str.mpr rfl⟩
  stop := fun i F' H' h le f fr => by
    show z.cps.size ≤ i
    simpa using h
theorem wk_enum {K : PySem.W.Frag} {a : Addr} {vs : List V} {ds : List D} (hF : F a = some (.lst vs)) (hv : HsL q F ds vs) : Wk q (Ite K a) (enumD ds) F H where
  go := fun i d F' H' e le f fr => by
    have hF' := le _ _ hF
    have hl : (enumD ds).length = ds.length := by simp [enumD]
    have hi : i < ds.length := by
      have := (List.getElem?_eq_some_iff.mp e).1
      rw [hl] at this
      exact this
    have e0 : d = .tup [.int (i : Int), ds[i]] := by
      unfold enumD at e
      rw [List.getElem?_map, List.getElem?_range hi] at e
      have z := (Option.some.inj e).symm
      rw [z]
      simp [List.getD, List.getElem?_eq_getElem hi]
    obtain ⟨v, e1, e2⟩ := (hv.mono le).get (List.getElem?_eq_getElem hi)
    have hq : SqL K H' a vs := f.sqL hF'
    refine ⟨⟨vs, v, hq, e1⟩, fun x H2 hy => ?_⟩
    obtain ⟨T, y, rfl, hT, rfl, hy⟩ := hy
    have := hy vs hq
    rw [e1] at this; cases this
    have hFT := f.none_of hT
    have st : Stp0 F' H' (upd F' T (.tup [.int (i : Int), v])) (upd H' T (.tup [.int (i : Int), v])) := .alloc hT hFT
    refine ⟨_, st, f.alloc hT, ?_⟩
    rw [e0]
    exact has_tup.mpr ⟨T, _, rfl, upd_same, .cons (has_int.mpr rfl) (.cons (e2.mono st.up) .nil)⟩
  stop := fun i F' H' h le f fr => by
    have hl : (enumD ds).length = ds.length := by simp [enumD]
    rw [hl] at h
    exact ⟨vs, f.sqL (le _ _ hF), by rw [hv.length]; exact h⟩
end
section
variable {X : Cx} {q : Pm} {tge e : Expr} {te : DTE}
theorem di_lst (h : DE X q e te) : DI X q tge e (diLst te) := PI.imp (pi_list h) fun σ H R h => by
  obtain ⟨F, al, dty, δ, RR, c, t, k⟩ := h
  refine ⟨F, al, dty, δ, _, c, t, fun v d δ1 F1 H1 s1 c1 hv hR => ?_⟩
  obtain ⟨ds, rfl, hR⟩ := hR
  obtain ⟨a, vs, rfl, hF, hvs⟩ := has_lst.mp hv
  exact ⟨a, rfl, ⟨vs, c1.fit.sqL hF⟩, k _ ds δ1 F1 H1 s1 c1 (wk_lst hF hvs) hR⟩
theorem di_tup (h : DE X q e te) : DI X q tge e (diTup te) := PI.imp (pi_tup h) fun σ H R h => by
  obtain ⟨F, al, dty, δ, RR, c, t, k⟩ := h
  refine ⟨F, al, dty, δ, _, c, t, fun v d δ1 F1 H1 s1 c1 hv hR => ?_⟩
  obtain ⟨ds, rfl, hR⟩ := hR
  obtain ⟨a, vs, rfl, hF, hvs⟩ := has_tup.mp hv
  exact ⟨a, rfl, ⟨vs, c1.fit.sqT hF⟩, k _ ds δ1 F1 H1 s1 c1 (wk_tup hF hvs) hR⟩
theorem di_rng {p pos : Pos} (hg : Gl X "range") (hm : X.mg "range" = none) (h : DE X q e te) (hs : starEach [e] X.env = [(false, eval e X.env)] := by rfl) (hs2 : starEach (e :: []) X.env = (false, eval e X.env) :: starEach [] X.env := by rfl) : DI X q tge (.Call (.Name "range" p) [e] [] pos) (diRng te) :=
  PI.imp (pi_range1 hg hm (pa_cons h pa_nil hs2) hs) fun σ H R h => by
    obtain ⟨F, al, dty, δ, RR, c, t, k⟩ := h
    refine ⟨F, al, dty, δ, _, c, t, fun v d δ1 F1 H1 s1 c1 hv hR => ?_⟩
    obtain ⟨j, rfl, h1, h2, hR⟩ := hR
    rw [has_int.mp hv]
    exact ⟨j, rfl, by omega, by omega, k _ _ δ1 F1 H1 s1 c1 wk_rng hR⟩
theorem di_str (h : DE X q e te) : DI X q tge e (diStr te) := PI.imp (pi_str h) fun σ H R h => by
  obtain ⟨F, al, dty, δ, RR, c, t, k⟩ := h
  refine ⟨F, al, dty, δ, _, c, t, fun v d δ1 F1 H1 s1 c1 hv hR => ?_⟩
  obtain ⟨z, rfl, hR⟩ := hR
  exact ⟨z, has_str.mp hv, k _ _ δ1 F1 H1 s1 c1 wk_str hR⟩
theorem di_enum {p pos tpos : Pos} {elts : List Expr} {kk : Nat} (hg : Gl X "enumerate") (hm : X.mg "enumerate" = none) (h : DE X q e te) (hs : starEach [e] X.env = [(false, eval e X.env)] := by rfl) (hs2 : starEach (e :: []) X.env = (false, eval e X.env) :: starEach [] X.env := by rfl) :
    DI X q (.Tuple elts kk tpos) (.Call (.Name "enumerate" p) [e] [] pos) (diEnum te) := PI.imp (pi_enum hg hm (pa_cons h pa_nil hs2) hs) fun σ H R h => by
  obtain ⟨F, al, dty, δ, RR, c, t, k⟩ := h
  refine ⟨F, al, dty, δ, _, c, t, fun v d δ1 F1 H1 s1 c1 hv hR => ?_⟩
  obtain ⟨ds, rfl, hR⟩ := hR
  obtain ⟨a, vs, rfl, hF, hvs⟩ := has_lst.mp hv
  exact ⟨a, vs, rfl, c1.fit.sqL hF, k _ _ δ1 F1 H1 s1 c1 (wk_enum hF hvs) hR⟩
end

/-! ### comprehensions over a dict, which is locked -/
def kD : Key → D
  | .inl i => .int i
  | .inr x => .str x
theorem has_kD {w : World} {C : Addr} {F : Hp} (k : Key) : Has w C F (kD k) (kV k) := by
  cases k with
  | inl i => exact has_int.mpr rfl
  | inr x => exact has_str.mpr rfl
/-- where a dict is found: a slot, or an item of the tuple in a slot -/
inductive DPath where
  | sl (i : Nat) | it (i : Nat) (k : Nat)
def DPath.get : DPath → List Sl → Option (List Key × List D)
  | .sl i, δ => match δ[i]? with
    | some (.im (.dic ks ds)) => some (ks, ds)
    | _ => none
  | .it i k, δ => match δ[i]? with
    | some (.im (.tup es)) => (match es[k]? with
      | some (.dic ks ds) => some (ks, ds)
      | _ => none)
    | _ => none
def DPath.te (K : PySem.W.Frag) : DPath → TE
  | .sl i => tVar i
  | .it i k => tOp (rIxT K) (tVar i) (tC (.int (k : Int)))
theorem DPath.at {q : Pm} {K : PySem.W.Frag} {F H : Hp} {al : Nat → Addr} {dty : Addr → Prop} {δ : List Sl} {σ : L2.St} (p : DPath) {ks : List Key} {ds : List D} (c : Cf q F H al dty δ σ) (h : p.get δ = some (ks, ds)) :
    ∃ a vs, F a = some (.dK (ks.zip vs)) ∧ ks.length = vs.length ∧ HsL q F ds vs ∧ ∀ (m : Option Addr) H' (Q : VK), Fit m F H' → Q (.ref a) H' → p.te K σ H' Q := by
  cases p with
  | sl i =>
    unfold DPath.get at h
    cases e : δ[i]? with
    | none => simp [e] at h
    | some s =>
      cases s with
      | im d =>
        cases d with
        | dic ks' ds' =>
          simp [e] at h
          obtain ⟨rfl, rfl⟩ := h
          obtain ⟨v, e1, e2⟩ := c.bnd.im i _ e
          obtain ⟨a, vs, rfl, hF, hl, hv⟩ := has_dic.mp e2
          exact ⟨a, vs, hF, hl, hv, fun m H' Q f hq => ⟨_, e1, hq⟩⟩
        | _ => simp [e] at h
      | _ => simp [e] at h
  | it i k =>
    unfold DPath.get at h
    cases e : δ[i]? with
    | none => simp [e] at h
    | some s =>
      cases s with
      | im d =>
        cases d with
        | tup es =>
          simp [e] at h
          cases ek : es[k]? with
          | none => simp [ek] at h
          | some x =>
            cases x with
            | dic ks' ds' =>
              simp [ek] at h
              obtain ⟨rfl, rfl⟩ := h
              obtain ⟨v, e1, e2⟩ := c.bnd.im i _ e
              obtain ⟨b, us, rfl, hF, hu⟩ := has_tup.mp e2
              obtain ⟨u, f1, f2⟩ := hu.get ek
              obtain ⟨a, vs, rfl, hF2, hl, hv⟩ := has_dic.mp f2
              refine ⟨a, vs, hF2, hl, hv, fun m H' Q f hq => ⟨_, e1, b, us, (k : Int), .ref a, rfl, rfl, f.sqT hF, atI_get (by omega) (by simpa using f1), hq⟩⟩
            | _ => simp [ek] at h
        | _ => simp [e] at h
      | _ => simp [e] at h
def drLcK (p : DPath) (vals : Bool) (tg : Tg) (tt : Option DTT) (te : DTE) (vs : List Nat) : DTR := fun δ R => ∃ ks ds, p.get δ = some (ks, ds) ∧ ∃ Iv : Nat → List D → List Sl → Prop, wOk δ vs = true ∧ ks.length ≤ 100000 ∧ Iv 0 [] (wpD δ vs) ∧ LcTurn tg tt te vs (if vals = true then ds else ks.map kD) Iv ∧
  ∀ acc δ2, Iv (if vals = true then ds else ks.map kD).length acc δ2 → R (.nl acc) (unD δ vs δ2)
section
variable {q : Pm} {F H F1 H1 : Hp} {al : Nat → Addr} {dty : Addr → Prop} {δ : List Sl} {σ : L2.St} {a : Addr} {kvs : List (Key × V)} {od : Obj}
theorem Cf.lock (hm : q.m = none) (c : Cf q F H al dty δ σ) (hF : F a = some (.dK kvs)) : Cf { q with m := some a } F (upd H a (.frz od (.dK kvs))) al dty δ σ := by
  have ha : ∀ i, isM δ[i]? = true → al i ≠ a := fun i hi z => by
    have := (c.bnd.at_ i hi).2.1
    rw [z, hF] at this; cases this
  have f := c.fit
  rw [hm] at f
  refine ⟨fun b h => ?_, fun b o e => ?_, ⟨c.bnd.len, c.bnd.im, c.bnd.at_, fun i ds e => ?_, fun i ks ds e => ?_, c.bnd.inj, c.bnd.pr⟩⟩
  · by_cases z : b = a
    · subst z; exact ⟨_, upd_same⟩
    · rw [upd_ne z]; exact c.liv b h
  · by_cases z : b = a
    · subst z
      rw [hF] at e; cases e
      exact .inr ⟨rfl, ⟨_, rfl⟩, od, upd_same⟩
    · rw [upd_ne z]; exact .inl (f.dK e)
  · rw [upd_ne (ha i (by rw [e]; rfl))]; exact c.bnd.ml i ds e
  · rw [upd_ne (ha i (by rw [e]; rfl))]; exact c.bnd.md i ks ds e
theorem Cf.unlock (hm : q.m = none) (c : Cf { q with m := some a } F1 H1 al dty δ σ) (hF : F1 a = some (.dK kvs)) (hH : ∃ o, H1 a = some o) : Cf q F1 (upd H1 a (.dK kvs)) al dty δ σ := by
  have ha : ∀ i, isM δ[i]? = true → al i ≠ a := fun i hi z => by
    have := (c.bnd.at_ i hi).2.1
    rw [z, hF] at this; cases this
  refine ⟨fun b h => ?_, fun b o e => ?_, ⟨c.bnd.len, c.bnd.im, c.bnd.at_, fun i ds e => ?_, fun i ks ds e => ?_, c.bnd.inj, c.bnd.pr⟩⟩
  · by_cases z : b = a
    · subst z; exact ⟨_, upd_same⟩
    · rw [upd_ne z]; exact c.liv b h
  · by_cases z : b = a
    · subst z
      rw [hF] at e; cases e
      exact .inl upd_same
    · rw [upd_ne z]
      rcases c.fit b o e with y | ⟨y, _⟩
      · exact .inl y
      · exact absurd (Option.some.inj y).symm z
  · rw [upd_ne (ha i (by rw [e]; rfl))]; exact c.bnd.ml i ds e
  · rw [upd_ne (ha i (by rw [e]; rfl))]; exact c.bnd.md i ks ds e
theorem Stp.unlock (s : Stp dty F (upd H a (.frz od (.dK kvs))) F1 H1) (hH : H a = some (.dK kvs)) (hF : F a = some (.dK kvs)) : Stp dty F H F1 (upd H1 a (.dK kvs)) where
  up := s.up
  new := fun b o e => by
    rcases s.new b o e with z | z | z
    · exact .inl z
    · by_cases y : b = a
      · subst y; rw [upd_same] at z; cases z
      · rw [upd_ne y] at z; exact .inr (.inl z)
    · exact .inr (.inr z)
  keep := fun b o e n d => by
    have y : b ≠ a := fun z => by rw [z, hF] at n; cases n
    rw [upd_ne y]
    exact s.keep b o (by rw [upd_ne y]; exact e) n d
  live := fun b o e => by
    by_cases y : b = a
    · subst y; exact ⟨_, upd_same⟩
    · rw [upd_ne y]; exact s.live b o (by rw [upd_ne y]; exact e)
  frz := fun b ob u e => by
    have y : b ≠ a := fun z => by rw [z, hH] at e; cases e
    rw [upd_ne y]
    exact s.frz b ob u (by rw [upd_ne y]; exact e)
theorem wk_keys {ks : List Key} {vs : List V} (hl : ks.length = vs.length) (hH : H a = some (.frz od (.dK (ks.zip vs)))) : Wk q (Itk a od (ks.zip vs)) (ks.map kD) F H where
  go := fun i d F' H' e le f fr => by
    have hz : (ks.zip vs).length = ks.length := by rw [List.length_zip, hl, Nat.min_self]
    rw [List.getElem?_map] at e
    cases hk : ks[i]? with
    | none => rw [hk] at e; cases e
    | some k =>
      rw [hk] at e
      cases e
      have hi : i < ks.length := (List.getElem?_eq_some_iff.mp hk).1
      refine ⟨⟨fr _ _ _ hH, by rw [hz]; exact hi⟩, fun x H2 hy => ?_⟩
      obtain ⟨rfl, k', v', h1, rfl⟩ := hy
      have : k' = k := by
        rw [List.getElem?_zip_eq_some] at h1
        rw [hk] at h1
        exact (Option.some.inj h1.1).symm
      subst this
      exact ⟨F', .refl, f, has_kD k'⟩
  stop := fun i F' H' h le f fr => ⟨fr _ _ _ hH, by rw [List.length_zip, hl, Nat.min_self]; simpa [← hl] using h⟩
theorem wk_vals {ks : List Key} {vs : List V} {ds : List D} (hl : ks.length = vs.length) (hv : HsL q F ds vs) (hH : H a = some (.frz od (.dK (ks.zip vs)))) : Wk q (Itd a od (ks.zip vs)) ds F H where
  go := fun i d F' H' e le f fr => by
    have hz : (ks.zip vs).length = ks.length := by rw [List.length_zip, hl, Nat.min_self]
    obtain ⟨v, e1, e2⟩ := (hv.mono le).get e
    have hi : i < ks.length := by rw [hl]; exact (List.getElem?_eq_some_iff.mp e1).1
    refine ⟨⟨fr _ _ _ hH, by rw [hz]; exact hi⟩, fun x H2 hy => ?_⟩
    obtain ⟨rfl, k', h1⟩ := hy
    rw [List.getElem?_zip_eq_some] at h1
    rw [e1] at h1
    cases h1.2
    exact ⟨F', .refl, f, e2⟩
  stop := fun i F' H' h le f fr => ⟨fr _ _ _ hH, by rw [List.length_zip, hl, Nat.min_self, ← hv.length] at *; exact h⟩
end
section
variable {X : Cx} {q : Pm} {elt tge e : Expr} {ifs : List Expr} {scope : Scope} {own : List (Str × Nat)} {pos : Pos} {tg : Tg} {tt : Option DTT} {te : DTE} {p : DPath}
theorem l_lcK {iw : TE → TI} {vals : Bool} (hm : q.m = none) (hsub : ∀ i ∈ tg.slots, i ∈ own.map (·.2)) {σ : L2.St} {H : Hp} {Q : VK} {V1 : Option Addr → TT} {V2 : Option Addr → TE}
    (hV1 : ∀ m, V1 m = lTs { q with m := m } tt) (hV2 : ∀ m, V2 m = lE { q with m := m } te)
    (hiw : ∀ (a : Addr) (od : Obj) (ks : List Key) (vs : List V) (ds : List D) (F H' : Hp) (R : It → Hp → Prop), ks.length = vs.length → HsL { q with m := some a } F ds vs → H' a = some (.frz od (.dK (ks.zip vs))) → (∀ Q : VK, Q (.ref a) H' → p.te X.K σ H' Q) →
      (∀ J, Wk { q with m := some a } J (if vals = true then ds else ks.map kD) F H' → R J H') → iw (p.te X.K) σ H' R)
    (h : lR q (drLcK p vals tg tt te (own.map (·.2))) σ H Q) : ∃ d u, H d = some u ∧ Mut (some u) ∧ ∀ od, tLc (iw (p.te X.K)) (tg.g X.K) (V1 (some d)) (V2 (some d)) (own.map (·.2)) σ (upd H d (.frz od u)) fun v H' => H' d = some (.frz od u) ∧ Q v (upd H' d u) := by
  obtain ⟨F, al, dty, δ, R, c, ⟨ks, ds, hp, Iv, hw, hlen, i0, turn, hfin⟩, k⟩ := h
  obtain ⟨a, vs, hF, hl, hv, hte⟩ := p.at (K := X.K) c hp
  have f := c.fit
  rw [hm] at f
  have hH := f.dK hF
  refine ⟨a, _, hH, trivial, fun od => ?_⟩
  have c1 : Cf { q with m := some a } F (upd H a (.frz od (.dK (ks.zip vs)))) al dty δ σ := c.lock hm hF
  refine hiw a od ks vs ds F _ _ hl hv upd_same (fun Q hq => hte _ _ Q c1.fit hq) fun J wk => ?_
  have hlen2 : (if vals = true then ds else ks.map kD).length ≤ 100000 := by
    have := hv.length
    split
    · omega
    · rw [List.length_map]; exact hlen
  rw [hV1, hV2]
  refine lcW (K := X.K) (Q := fun v H' => H' a = some (.frz od (.dK (ks.zip vs))) ∧ Q v (upd H' a (.dK (ks.zip vs)))) c1 wk hsub hw i0 turn hlen2 fun acc avs δ2 F' H' D hD s2 c2 hFD hHD hacc hal iv => ?_
  have hF' := s2.up _ _ hF
  have nDa : D ≠ a := fun z => by rw [z, upd_same] at hD; cases hD
  have hfz : H' a = some (.frz od (.dK (ks.zip vs))) := s2.frz _ _ _ upd_same
  refine ⟨hfz, k (.ref D) (.nl acc) _ F' _ (s2.unlock hH hF) (c2.unlock hm hF' ⟨_, hfz⟩) ⟨D, avs, rfl, ?_, hFD, by rw [upd_ne nDa]; exact hHD, hacc⟩ (hfin acc δ2 iv)⟩
  rw [upd_ne nDa] at hD
  exact hD
theorem dr_lcKeys (hc : X.calm = true) (hN : X.N.Nodup) (hm : q.m = none) (hi : PE X e (p.te X.K)) (ok : BlkOk X.N X.env.scope scope own) (hsub : ∀ i ∈ tg.slots, i ∈ own.map (·.2))
    (hg : ∀ (s : Shared) (H : Hp) (C : Addr) (cl : List (Str × Addr)) (fp : List Addr), PG (X.blk s H scope (compEnvC scope cl C X.env) fp) tge (tg.g X.K))
    (ht : ∀ (m : Option Addr) (s : Shared) (H : Hp) (C : Addr) (cl : List (Str × Addr)) (fp : List Addr), PTs (X.blk s H scope (compEnvC scope cl C X.env) fp) ifs (lTs { q with m := m } tt))
    (he : ∀ (m : Option Addr) (s : Shared) (H : Hp) (C : Addr) (cl : List (Str × Addr)) (fp : List Addr), DE (X.blk s H scope (compEnvC scope cl C X.env) fp) { q with m := m } elt te) (hs : ∀ x, foldedSetIterable e X.env x = pure x := by intro _; rfl) :
    DR X q (.ListComp elt [⟨tge, e, ifs, 0⟩] scope pos) (drLcK p false tg tt te (own.map (·.2))) := by
  refine ⟨fun pins s σ H Q I h => ?_⟩
  obtain ⟨d, u, hd, mu, hw⟩ := l_lcK (X := X) (vals := false) (iw := fun td => iKeys td) (V1 := fun m => lTs { q with m := m } tt) (V2 := fun m => lE { q with m := m } te) hm hsub (fun _ => rfl) (fun _ => rfl) (fun a od ks vs ds F H' R hl hv hH hte hR => hte _ ⟨a, od, rfl, .inl ⟨_, hH, hR _ (wk_keys hl hH)⟩⟩) h
  exact (pe_lock (pe_lc hc hN (pi_keys hi) ok hg (ht (some d)) (he (some d)) hs)).run pins s σ H Q I ⟨d, u, hd, mu, hw⟩
theorem dr_lcVals {apos cpos : Pos} (hc : X.calm = true) (hN : X.N.Nodup) (hm : q.m = none) (hi : PE X e (p.te X.K)) (ok : BlkOk X.N X.env.scope scope own) (hsub : ∀ i ∈ tg.slots, i ∈ own.map (·.2))
    (hg : ∀ (s : Shared) (H : Hp) (C : Addr) (cl : List (Str × Addr)) (fp : List Addr), PG (X.blk s H scope (compEnvC scope cl C X.env) fp) tge (tg.g X.K))
    (ht : ∀ (m : Option Addr) (s : Shared) (H : Hp) (C : Addr) (cl : List (Str × Addr)) (fp : List Addr), PTs (X.blk s H scope (compEnvC scope cl C X.env) fp) ifs (lTs { q with m := m } tt))
    (he : ∀ (m : Option Addr) (s : Shared) (H : Hp) (C : Addr) (cl : List (Str × Addr)) (fp : List Addr), DE (X.blk s H scope (compEnvC scope cl C X.env) fp) { q with m := m } elt te)
    (hbase : attributeBase e "values" X.env (eval e X.env) = eval e X.env := by rfl) (hline : (apos.endLine == cpos.line) = true := by rfl) (hs : ∀ x, foldedSetIterable (.Call (.Attribute e "values" apos) [] [] cpos) X.env x = pure x := by intro _; rfl) :
    DR X q (.ListComp elt [⟨tge, .Call (.Attribute e "values" apos) [] [] cpos, ifs, 0⟩] scope pos) (drLcK p true tg tt te (own.map (·.2))) := by
  refine ⟨fun pins s σ H Q I h => ?_⟩
  obtain ⟨d, u, hd, mu, hw⟩ := l_lcK (X := X) (vals := true) (iw := fun td => iVals td) (V1 := fun m => lTs { q with m := m } tt) (V2 := fun m => lE { q with m := m } te) hm hsub (fun _ => rfl) (fun _ => rfl) (fun a od ks vs ds F H' R hl hv hH hte hR => hte _ ⟨a, od, _, rfl, hH, hR _ (wk_vals hl hv hH)⟩) h
  exact (pe_lock (pe_lc hc hN (pi_values hi hbase hline) ok hg (ht (some d)) (he (some d)) hs)).run pins s σ H Q I ⟨d, u, hd, mu, hw⟩
end

/-! ### defs: promises, calls -/
abbrev Pre := List D → (D → Prop) → Prop
def spD (w : World) (C : Addr) (m : Option Addr) (n : Nat) (pre : Pre) : Sp := fun vs H Q _ => ∃ F ds R, Fit m F H ∧ HasL w C F ds vs ∧ ds.length = n ∧ pre ds R ∧ ∀ v d F' H', Stp0 F H F' H' → Fit m F' H' → Has w C F' d v → R d → Q v H'
abbrev PreM := List D → List D → (D → List D → Prop) → Prop
def spM (w : World) (C : Addr) (m : Option Addr) (n : Nat) (pre : PreM) : Sp := fun vs H Q _ => ∃ F p dv dc vs' ds R, vs = .ref p :: vs' ∧ Fit m F H ∧ F p = none ∧ H p = some (.lst dv) ∧ HasL w C F dc dv ∧ HasL w C F ds vs' ∧ ds.length = n ∧ pre dc ds R ∧
  ∀ v d dv' dc' F' H', Stp (fun a => a = p) F H F' H' → Fit m F' H' → F' p = none → H' p = some (.lst dv') → HasL w C F' dc' dv' → Has w C F' d v → R d dc' → Q v H'
def dCall (n : Nat) (pre : Pre) (t : DTA) : DTE := fun δ R => t δ fun ds δ1 => ds.length = n ∧ pre ds fun d => R d δ1
def dCallM (i n : Nat) (pre : PreM) (t : DTA) : DTE := fun δ R => (∃ dc, δ[i]? = some (.ml dc)) ∧ t δ fun ds δ1 => ds.length = n ∧ ∃ dc, δ1[i]? = some (.ml dc) ∧ pre dc ds fun d dc' => R d (δ1.set i (.ml dc'))
section
variable {X : Cx} {q : Pm} {k n : Nat} {f : Addr} {fd : FuncData} {ps : List Str} {pre : Pre} {preM : PreM} {x y : Str} {p pos pos' : Pos} {e : Expr} {es : List Expr} {t : DTA}
theorem de_call (G : FnOk X.prog X.w X.K X.mg X.base CX0 k f fd ps (spD q.w q.C q.m n pre)) (hr : Room k X.A) (hg : Gl X x) (hm : X.mg x = some (.ref f)) (hk : PySem.W.keepIn X.K (.ref f) = true) (hb : Binds X.K fd ps []) (ha : DA X q (e :: es) t)
    (hdb : (x == ("__debug__" : Str)) = false := by decide) (he : starEach (e :: es) X.env = (false, eval e X.env) :: starEach es X.env := by rfl) (hpl : (backTo pos (starEach es X.env)).any (·.1) = false := by rfl) : DE X q (.Call (.Name x p) (e :: es) [] pos) (dCall n pre t) :=
  PE.imp (pe_call G hr hg hm hk hb .nil pass0 ha hdb he hpl) fun σ H Q h => by
    obtain ⟨F, al, dty, δ, R, c, h, k⟩ := h
    refine ⟨F, al, dty, δ, _, c, h, fun vs ds δ1 F1 H1 s1 c1 hv hR => ?_⟩
    refine ⟨F1, ds, _, c1.fit, by rw [List.append_nil]; exact hv, hR.1, hR.2, fun v d F2 H2 s2 f2 hv2 hd => ?_⟩
    exact k v d δ1 F2 H2 (s1.trans0 s2.any) (c1.step0 s2 f2) hv2 hd
theorem de_callM (i : Nat) (G : FnOk X.prog X.w X.K X.mg X.base CX0 k f fd ps (spM q.w q.C q.m n preM)) (hr : Room k X.A) (hg : Gl X x) (hm : X.mg x = some (.ref f)) (hk : PySem.W.keepIn X.K (.ref f) = true) (hb : Binds X.K fd ps []) (ha : DA X q es t)
    (hN : X.N[i]? = some y := by rfl) (hv : Vis X.env.scope y := by first | exact Or.inl rfl | exact Or.inr (Or.inl rfl) | exact Or.inr (Or.inr rfl)) (hd : (y == ("__debug__" : Str)) = false := by decide) (hcd : (y == ("__classdict__" : Str)) = false := by decide)
    (hdb : (x == ("__debug__" : Str)) = false := by decide) (he : starEach (.Name y pos' :: es) X.env = (false, eval (.Name y pos') X.env) :: starEach es X.env := by rfl) (hpl : (backTo pos (starEach es X.env)).any (·.1) = false := by rfl) :
    DE X q (.Call (.Name x p) (.Name y pos' :: es) [] pos) (dCallM i n preM t) :=
  PE.imp (pe_call G hr hg hm hk hb .nil pass0 (pa_cons (pe_var hN hv hd hcd) ha he) hdb he hpl) fun σ H Q h => by
    obtain ⟨F, al, dty, δ, R, c, ⟨⟨dc0, e0⟩, h⟩, k⟩ := h
    have hm0 : isM δ[i]? = true := by rw [e0]; rfl
    refine ⟨_, (c.bnd.at_ i hm0).1, F, al, dty, δ, _, c, h, fun vs ds δ1 F1 H1 s1 c1 hv hR => ?_⟩
    obtain ⟨hl, dc, e1, hp⟩ := hR
    have hm1 : isM δ1[i]? = true := by rw [e1]; rfl
    obtain ⟨g1, g2, g3⟩ := c1.bnd.at_ i hm1
    obtain ⟨dv, g4, g5⟩ := c1.bnd.ml i dc e1
    refine ⟨F1, al i, dv, dc, vs, ds, _, by rw [List.append_nil], c1.fit, g2, g4, g5, hv, hl, hp, fun v d dv' dc' F2 H2 s2 f2 hF2 hH2 hdc hv2 hd => ?_⟩
    have hi : i < δ1.length := (List.getElem?_eq_some_iff.mp e1).1
    have s2' : Stp dty F1 H1 F2 H2 := s2.weak fun a z => by rw [z]; exact g3
    refine k v d _ F2 H2 (s1.trans0 s2') ⟨fun a h => by obtain ⟨o, e⟩ := c1.liv a h; exact s2.live a o e, f2, ?_⟩ hv2 hd
    have get : ∀ (j : Nat) (s : Sl), (δ1.set i (.ml dc'))[j]? = some s → (i = j ∧ s = .ml dc') ∨ (i ≠ j ∧ δ1[j]? = some s) := fun j s e => by
      by_cases z : i = j
      · subst z
        rw [List.getElem?_set_self hi] at e
        cases e
        exact .inl ⟨rfl, rfl⟩
      · rw [List.getElem?_set_ne z] at e
        exact .inr ⟨z, e⟩
    have isx : ∀ j, isM (δ1.set i (.ml dc'))[j]? = true → isM δ1[j]? = true := fun j e => by
      rcases isM_set e with ⟨a, b⟩ | z
      · rw [← a]; exact hm1
      · exact z.2
    have other : ∀ (j : Nat) o, i ≠ j → isM δ1[j]? = true → H1 (al j) = some o → F2 (al j) = none ∧ H2 (al j) = some o := fun j o hij hj ho => by
      have ne : ¬ al j = al i := fun z => c1.bnd.inj i j hij hm1 hj z.symm
      refine ⟨?_, s2.keep _ _ ho (c1.bnd.at_ j hj).2.1 ne⟩
      cases e : F2 (al j) with
      | none => rfl
      | some u =>
        rcases s2.new _ u e with z | z | z
        · rw [(c1.bnd.at_ j hj).2.1] at z; cases z
        · rw [ho] at z; cases z
        · exact (ne z).elim
    refine ⟨by rw [List.length_set]; exact c1.bnd.len, fun j d e => ?_, fun j e => ?_, fun j ds e => ?_, fun j ks ds e => ?_, fun j k h a b => c1.bnd.inj j k h (isx j a) (isx k b), c1.bnd.pr⟩
    · rcases get j _ e with ⟨_, z⟩ | ⟨_, z⟩
      · cases z
      · obtain ⟨v, a, b⟩ := c1.bnd.im j d z
        exact ⟨v, a, b.mono s2.up⟩
    · have hj := isx j e
      obtain ⟨a1, a2, a3⟩ := c1.bnd.at_ j hj
      refine ⟨a1, ?_, a3⟩
      by_cases z : i = j
      · subst z; exact hF2
      · obtain ⟨o, ho, _⟩ := c1.bnd.has hj
        exact (other j o z hj ho).1
    · rcases get j _ e with ⟨a, z⟩ | ⟨a, z⟩
      · subst a
        cases z
        exact ⟨dv', hH2, hdc⟩
      · obtain ⟨vs, a1, a2⟩ := c1.bnd.ml j ds z
        exact ⟨vs, (other j _ a (by rw [z]; rfl) a1).2, a2.mono s2.up⟩
    · rcases get j _ e with ⟨a, z⟩ | ⟨a, z⟩
      · cases z
      · obtain ⟨vs, a1, a2, a3⟩ := c1.bnd.md j ks ds z
        exact ⟨vs, (other j _ a (by rw [z]; rfl) a1).2, a2, a3.mono s2.up⟩
end
/-! ### a def keeps its promise -/
def st0 (N : List Str) (ds : List D) : List Sl := ds.map Sl.im ++ List.replicate (N.length - ds.length) .no
def stM (N : List Str) (dc : List D) (ds : List D) : List Sl := .ml dc :: (ds.map Sl.im ++ List.replicate (N.length - (ds.length + 1)) .no)
section
variable {P : Program} {w : World} {K : PySem.W.Frag} {mg : Str → Option Value} {base : Heap} {x qual : Str} {params : Arguments} {body : List Stmt} {scope : Scope} {f : Addr} {fd : FuncData}
theorem start_get {N : List Str} {vs : List V} {i : Nat} {v : V} (h : vs[i]? = some v) : (L2.start N vs)[i]? = some (some v) := by
  have hl := (List.getElem?_eq_some_iff.mp h).1
  unfold L2.start
  rw [List.getElem?_append_left (by rw [List.length_map]; exact hl), List.getElem?_map, h]
  rfl
theorem st0_get {N : List Str} {ds : List D} {i : Nat} {s : Sl} (h : (st0 N ds)[i]? = some s) : s = .no ∨ ∃ d, ds[i]? = some d ∧ s = .im d := by
  unfold st0 at h
  by_cases hi : i < ds.length
  · rw [List.getElem?_append_left (by rw [List.length_map]; exact hi), List.getElem?_map, List.getElem?_eq_getElem hi] at h
    cases h
    exact .inr ⟨_, List.getElem?_eq_getElem hi, rfl⟩
  · rw [List.getElem?_append_right (by rw [List.length_map]; omega), List.getElem?_replicate] at h
    split at h
    · cases h; exact .inl rfl
    · cases h
theorem ok_def {N ps : List Str} {k n : Nat} {C : Addr} {m : Option Addr} {pre : Pre} {t : DTS} (F : FunD K x qual params body scope [] [] f fd) (S : FnScope N ps scope) (hn : ps.length = n)
    (hb : ∀ (cdv : Value) (A : Around) (outer : List Env) (s : Shared) (H : Hp) (E : XK), Room k (A.deeper (envOfC qual scope s.heap.objs.size f cdv)) → DSs (cxOf CX0 P w K mg base N qual scope f cdv A outer s H E).nox ⟨w, C, none, m⟩ body t)
    (rd : ∀ ds R, ds.length = n → pre ds R → t { nx := fun _ => R .non, rt := fun d _ => R d } (st0 N ds)) : FnOk P w K mg base CX0 (k + 1) f fd ps (spD w C m n pre) := by
  refine F.ok S (fun vs H Q E h => ?_) (fun cdv A outer s H vs Q E hr h => ⟨lS ⟨w, C, none, m⟩ t, PSs.nox (hb cdv A outer s H E hr), ?_⟩)
  · obtain ⟨F, ds, R, _, hv, hl, _⟩ := h
    rw [hv.length, hl, hn]
  · obtain ⟨F0, ds, R, hf, hv, hl, hp, k⟩ := h
    refine ⟨F0, fun _ => 0, fun _ => False, st0 N ds, _, ⟨fun _ z => z.elim, hf, ?_⟩, rd ds R hl hp, fun σ' δ' F' H' al' dty' s1 h1 c1 => ⟨fun z => ?_, fun z => z.elim, fun z => z.elim, fun d v hv2 z => ?_⟩⟩
    · have len : (L2.start N vs).length = (st0 N ds).length := by unfold L2.start st0; simp [hv.length]
      refine ⟨len, fun i d e => ?_, fun i e => ?_, fun i ds' e => ?_, fun i ks ds' e => ?_, fun i j _ e _ => ?_, fun p z => nomatch z⟩
      · rcases st0_get e with z | ⟨d', e1, z⟩
        · cases z
        · cases z
          obtain ⟨v, a, b⟩ := hv.get e1
          exact ⟨v, start_get a, b⟩
      · cases z : (st0 N ds)[i]? with
        | none => rw [z] at e; cases e
        | some s => rcases st0_get z with y | ⟨_, _, y⟩ <;> (rw [z, y] at e; cases e)
      · rcases st0_get e with z | ⟨_, _, z⟩ <;> cases z
      · rcases st0_get e with z | ⟨_, _, z⟩ <;> cases z
      · cases z : (st0 N ds)[i]? with
        | none => rw [z] at e; cases e
        | some s => rcases st0_get z with y | ⟨_, _, y⟩ <;> (rw [z, y] at e; cases e)
    · exact k .non .non F' H' s1 c1.fit (has_non.mpr rfl) z
    · exact k v d F' H' s1 c1.fit hv2 z
theorem stM_get {N : List Str} {dc ds : List D} {i : Nat} {s : Sl} (h : (stM N dc ds)[i]? = some s) : (i = 0 ∧ s = .ml dc) ∨ s = .no ∨ ∃ j d, i = j + 1 ∧ ds[j]? = some d ∧ s = .im d := by
  cases i with
  | zero => unfold stM at h; simp at h; exact .inl ⟨rfl, h.symm⟩
  | succ j =>
    unfold stM at h
    simp only [List.getElem?_cons_succ] at h
    right
    by_cases hi : j < ds.length
    · rw [List.getElem?_append_left (by rw [List.length_map]; exact hi), List.getElem?_map, List.getElem?_eq_getElem hi] at h
      cases h
      exact .inr ⟨j, _, rfl, List.getElem?_eq_getElem hi, rfl⟩
    · rw [List.getElem?_append_right (by rw [List.length_map]; omega), List.getElem?_replicate] at h
      split at h
      · cases h; exact .inl rfl
      · cases h
theorem ok_defM {N ps : List Str} {k n : Nat} {C : Addr} {m : Option Addr} {pre : PreM} {t : DTS} (F : FunD K x qual params body scope [] [] f fd) (S : FnScope N ps scope) (hn : ps.length = n + 1) (hN : n + 1 ≤ N.length)
    (hb : ∀ (pr : Option Addr) (cdv : Value) (A : Around) (outer : List Env) (s : Shared) (H : Hp) (E : XK), Room k (A.deeper (envOfC qual scope s.heap.objs.size f cdv)) → DSs (cxOf CX0 P w K mg base N qual scope f cdv A outer s H E).nox ⟨w, C, pr, m⟩ body t)
    (rd : ∀ dc ds R, ds.length = n → pre dc ds R → t { nx := fun δ => ∃ dc', δ[0]? = some (.ml dc') ∧ R .non dc', rt := fun d δ => ∃ dc', δ[0]? = some (.ml dc') ∧ R d dc' } (stM N dc ds)) : FnOk P w K mg base CX0 (k + 1) f fd ps (spM w C m n pre) := by
  refine F.ok S (fun vs H Q E h => ?_) (fun cdv A outer s H vs Q E hr h => ?_)
  · obtain ⟨F, p, dv, dc, vs', ds, R, rfl, _, _, _, _, hv, hl, _⟩ := h
    rw [List.length_cons, hv.length, hl, hn]
  · obtain ⟨F0, p, dv, dc, vs', ds, R, rfl, hf, hF, hH, hdc, hv, hl, hp, k⟩ := h
    refine ⟨lS ⟨w, C, some p, m⟩ t, PSs.nox (hb (some p) cdv A outer s H E hr), ?_⟩
    refine ⟨F0, fun _ => p, fun a => a = p, stM N dc ds, _, ⟨fun a z => ⟨_, (congrArg H z).trans hH⟩, hf, ?_⟩, rd dc ds R hl hp, fun σ' δ' F' H' al' dty' s1 h1 c1 => ?_⟩
    · have len : (L2.start N (.ref p :: vs')).length = (stM N dc ds).length := by
        unfold L2.start stM
        simp [hv.length]
      have is0 : ∀ i, isM (stM N dc ds)[i]? = true → i = 0 := fun i e => by
        cases z : (stM N dc ds)[i]? with
        | none => rw [z] at e; cases e
        | some s =>
          rcases stM_get z with ⟨y, _⟩ | y | ⟨_, _, _, _, y⟩
          · exact y
          · rw [z, y] at e; cases e
          · rw [z, y] at e; cases e
      refine ⟨len, fun i d e => ?_, fun i e => ?_, fun i ds' e => ?_, fun i ks ds' e => ?_, fun i j hij e e' => ?_, fun p' z => Option.some.inj z⟩
      · rcases stM_get e with ⟨_, z⟩ | z | ⟨j, d', rfl, e1, z⟩
        · cases z
        · cases z
        · cases z
          obtain ⟨v, a, b⟩ := hv.get e1
          exact ⟨v, start_get (by simpa using a), b⟩
      · have := is0 i e
        subst this
        exact ⟨start_get rfl, hF, rfl⟩
      · rcases stM_get e with ⟨y, z⟩ | z | ⟨_, _, _, _, z⟩
        · cases z
          exact ⟨dv, hH, hdc⟩
        · cases z
        · cases z
      · rcases stM_get e with ⟨y, z⟩ | z | ⟨_, _, _, _, z⟩ <;> cases z
      · exact absurd ((is0 i e).trans (is0 j e').symm) hij
    · have fin : ∀ d v dc', δ'[0]? = some (.ml dc') → Has w C F' d v → R d dc' → Q v H' := fun d v dc' e hd z => by
        have hm : isM δ'[0]? = true := by rw [e]; rfl
        have ep : al' 0 = p := c1.bnd.pr p rfl
        obtain ⟨g1, g2, g3⟩ := c1.bnd.at_ 0 hm
        obtain ⟨dv', g4, g5⟩ := c1.bnd.ml 0 dc' e
        rw [ep] at g2 g4
        exact k v d dv' dc' F' H' s1 c1.fit g2 g4 g5 hd z
      exact ⟨fun ⟨dc', e, z⟩ => fin .non .non dc' e (has_non.mpr rfl) z, fun z => z.elim, fun z => z.elim, fun d v hd ⟨dc', e, z⟩ => fin d v dc' e hd z⟩
end
end K46

set_option Elab.async false
set_option linter.all false
set_option maxRecDepth 100000
set_option maxHeartbeats 1000000
/-! != of tuples and lists whose items are compared within one model -/
namespace PySem.SeqAt
open AutoSeq1 (wpAny_loadPart')
open MeetsSeq MeetsSeq2 MeetsSeq3
section
variable {prog : Program} {w : World}
theorem k46_ne_loop (l b : Addr) (xs ys : Array Value) (n m : Nat) (dd dd2 : Option Addr) (sl sl2 : Array (Option Value)) (hsz : xs.size = ys.size) (e : Nat → Bool) (k : Nat) :
    ∀ i : Nat, xs.size - i = k → MeetsIn prog w (Builtin.«list.__eq__.loop» ⟨[.ref l, .ref b, rawInt i, rawInt 3], []⟩)
      (fun A R s => s.heap.get? l = some { cls := .type "list", dict := dd, data := .seq xs n, slots := sl } ∧ s.heap.get? b = some { cls := .type "list", dict := dd2, data := .seq ys m, slots := sl2 } ∧
        (∀ j (h1 : j < xs.size) (h2 : j < ys.size), EqIn prog w A.in1 s xs[j] ys[j] (e j)) ∧ R (.ok (.ret (.bool (!((List.range xs.size).drop i).all e)))) s) := by
  induction k with
  | zero =>
    intro i hk A R s h
    obtain ⟨hp, g, d, tk, os⟩ := s; obtain ⟨hl, hb, he, h⟩ := h
    wp_walk using wpAny_loadPart' hl, wpAny_loadPart' hb
    have a1 : xs[((i : Nat) : Int).toNat]? = none := by simp; omega
    have a2 : ys[((i : Nat) : Int).toNat]? = none := by simp; omega
    have a3 : (List.range xs.size).drop i = [] := by simp; omega
    rw [a3] at h
    rw [a1, a2]
    wp_walk using wpAny_loadPart' hl, wpAny_loadPart' hb
    show R (.ok (.ret (.bool (xs.size != ys.size)))) _
    rw [hsz]
    simpa using h
  | succ k ih =>
    intro i hk A R s h
    obtain ⟨hp, g, d, tk, os⟩ := s; obtain ⟨hl, hb, he, h⟩ := h
    wp_walk using wpAny_loadPart' hl, wpAny_loadPart' hb
    have l1 : i < xs.size := by omega
    have l2 : i < ys.size := by omega
    have a1 : xs[((i : Nat) : Int).toNat]? = some xs[i] := by simp [l1]
    have a2 : ys[((i : Nat) : Int).toNat]? = some ys[i] := by simp [l2]
    have a3 : (List.range xs.size).drop i = i :: (List.range xs.size).drop (i + 1) := by simp [List.drop_eq_getElem_cons, l1]
    have hc : ((i : Int) + 1) = ((i + 1 : Nat) : Int) := by push_cast; rfl
    rw [a3, List.all_cons] at h
    rw [a1, a2]
    refine wpAny_bind (he i l1 l2 _ _ ?_)
    cases q : e i with
    | true =>
      rw [q] at h
      wp_walk
      rw [hc]
      exact ⟨plainId_quiet plain_eq_loop _, codeAny_builtin entry_eq_loop (by
        rw [Around.under_plainId plain_eq_loop _]
        exact ih (i + 1) (by omega) A R _ ⟨hl, hb, he, by simpa using h⟩)⟩
    | false =>
      rw [q] at h
      wp_walk using wpAny_loadPart' hl, wpAny_loadPart' hb
      rw [a1, a2]
      wp_walk
      simpa using h
theorem k46_list_ne (l b : Addr) (xs ys : Array Value) (n m : Nat) (dd dd2 : Option Addr) (sl sl2 : Array (Option Value)) (hsz : xs.size = ys.size) (e : Nat → Bool) :
    MeetsIn prog w (Builtin.«list.__ne__» ⟨[.ref l, .ref b], []⟩)
      (fun A R s => s.heap.get? l = some { cls := .type "list", dict := dd, data := .seq xs n, slots := sl } ∧ s.heap.get? b = some { cls := .type "list", dict := dd2, data := .seq ys m, slots := sl2 } ∧
        (∀ j (h1 : j < xs.size) (h2 : j < ys.size), EqIn prog w A.in1 s xs[j] ys[j] (e j)) ∧ R (.ok (.ret (.bool (!(List.range xs.size).all e)))) s) := by
  intro A R s h
  obtain ⟨hp, g, d, tk, os⟩ := s; obtain ⟨hl, hb, he, h⟩ := h
  have f3 := AutoSeq1.sub_list_list
  have hne : ¬ (xs.size != ys.size) = true := by simp [hsz]
  wp_walk using wpAny_loadPart' hl, wpAny_loadPart' hb
  exact ⟨plainId_quiet plain_eq_loop _, codeAny_builtin entry_eq_loop (by
    rw [Around.under_plainId plain_eq_loop _]
    exact k46_ne_loop l b xs ys n m dd dd2 sl sl2 hsz e _ 0 rfl A R _ ⟨hl, hb, he, by simpa using h⟩)⟩
theorem k46_tuple_ne (l b : Addr) (xs ys : Array Value) (n m : Nat) (dd dd2 : Option Addr) (sl sl2 : Array (Option Value)) (e : Nat → Bool) :
    MeetsIn prog w (Builtin.«tuple.__ne__» ⟨[.ref l, .ref b], []⟩)
      (fun A R s => s.heap.get? l = some { cls := .type "tuple", dict := dd, data := .seq xs n, slots := sl } ∧ s.heap.get? b = some { cls := .type "tuple", dict := dd2, data := .seq ys m, slots := sl2 } ∧
        (∀ j (h1 : j < xs.size) (h2 : j < ys.size), EqIn prog w A.in1 s xs[j] ys[j] (e j)) ∧ R (.ok (.ret (.bool (!((List.range (min xs.size ys.size)).all e && xs.size == ys.size))))) s) :=
  .of_wp fun A R s h => by
    obtain ⟨hp, g, d, tk, os⟩ := s; obtain ⟨hl, hb, he, h⟩ := h
    have f2 := AutoSeq1.sub_tuple_tuple
    have hZ : (xs.toList.zip ys.toList).length = min xs.size ys.size := by simp
    wp_walk using wpAny_loadPart' hl, wpAny_loadPart' hb, wpAny_forIn_list _ (fun rest b s' => b.1 = none ∧ s' = ⟨hp, g, d, tk, os⟩ ∧ ∃ i, rest = (xs.toList.zip ys.toList).drop i ∧
      R (.ok (.ret (.bool (!(((List.range (min xs.size ys.size)).drop i).all e && xs.size == ys.size))))) ⟨hp, g, d, tk, os⟩) _
    case turn =>
      rintro ⟨y, x⟩ rest b s' ⟨hb', rfl, i, hz, hR⟩
      have hlt : i < (xs.toList.zip ys.toList).length := by
        rcases Nat.lt_or_ge i (xs.toList.zip ys.toList).length with z | z
        · exact z
        · rw [List.drop_of_length_le z] at hz; cases hz
      have hm : i < min xs.size ys.size := hZ ▸ hlt
      have h1 : i < xs.size := Nat.lt_of_lt_of_le hm (Nat.min_le_left _ _)
      have h2 : i < ys.size := Nat.lt_of_lt_of_le hm (Nat.min_le_right _ _)
      rw [List.drop_eq_getElem_cons hlt] at hz
      injection hz with hyx hrest
      have hy : y = xs[i] := by have := congrArg Prod.fst hyx; simpa using this
      have hx : x = ys[i] := by have := congrArg Prod.snd hyx; simpa using this
      subst hy hx
      have hd : (List.range (min xs.size ys.size)).drop i = i :: (List.range (min xs.size ys.size)).drop (i + 1) := by simp [List.drop_eq_getElem_cons, hm]
      rw [hd, List.all_cons] at hR
      refine wpAny_bind (he i h1 h2 _ _ ?_)
      cases hy : e i with
      | true =>
        rw [hy] at hR
        wp_walk
        exact ⟨rfl, rfl, i + 1, hrest, by simpa using hR⟩
      | false =>
        rw [hy] at hR
        wp_walk
        exact ⟨_, rfl, by simpa using hR⟩
    case fin =>
      rintro ⟨b1, b2⟩ s' ⟨hb', rfl, i, hz, hR⟩
      simp only at hb'
      subst hb'
      have hge : min xs.size ys.size ≤ i := by
        rcases Nat.lt_or_ge i (xs.toList.zip ys.toList).length with z | z
        · rw [List.drop_eq_getElem_cons z] at hz; cases hz
        · exact hZ ▸ z
      rw [List.drop_of_length_le (by simpa using hge)] at hR
      wp_walk
      exact ⟨_, rfl, by simpa [Builtin.Tuple.tupleCompareSizes, bne] using hR⟩
    case h =>
      exact ⟨rfl, rfl, 0, rfl, by simpa using h⟩
end
section
variable {prog : Program} {w : World} {A : Around} {s : Shared} {E Q : Value → Shared → Prop} {l b : Addr} {xs ys : Array Value} {e : Nat → Bool}
theorem k46_rcNe_lists (hl : s.heap.IsList l xs) (hb : s.heap.IsList b ys) (hsz : xs.size = ys.size) (hu : A.units < cLine)
    (he : ∀ j (h1 : j < xs.size) (h2 : j < ys.size), EqIn prog w A.in1 s xs[j] ys[j] (e j)) (h : Q (.bool (!(List.range xs.size).all e)) s) : wpAny (model prog w) A (richCompare .NotEq (.ref l) (.ref b)) Q E s := by
  obtain ⟨⟨cls, dd, data, sl⟩, ho, hc, n, hd⟩ := id hl
  obtain ⟨⟨cls2, dd2, data2, sl2⟩, ho2, hc2, n2, hd2⟩ := id hb
  simp only at hc hd hc2 hd2
  subst hc hd hc2 hd2
  exact wpAny_richCompare_same_room (T := "list") (op := .NotEq) ⟨_, ho, rfl⟩ ⟨_, ho2, rfl⟩ F.slot_list_ne (call_meetsIn F.slot_list_ne ⟨_, ho, rfl⟩ F.entry_list_ne (F.args_list_ne_2 _ _) (k46_list_ne l b xs ys n n2 dd dd2 sl sl2 hsz e)
    ⟨ho, ho2, he, show Value.bool (!(List.range xs.size).all e) ≠ Value.notImplemented ∧ Q (.bool (!(List.range xs.size).all e)) s from ⟨(fun x => nomatch x), h⟩⟩) hu
theorem k46_rcNe_tuples (hl : s.heap.IsTuple l xs) (hb : s.heap.IsTuple b ys) (hu : A.units < cLine)
    (he : ∀ j (h1 : j < xs.size) (h2 : j < ys.size), EqIn prog w A.in1 s xs[j] ys[j] (e j)) (h : Q (.bool (!((List.range (min xs.size ys.size)).all e && xs.size == ys.size))) s) : wpAny (model prog w) A (richCompare .NotEq (.ref l) (.ref b)) Q E s := by
  obtain ⟨⟨cls, dd, data, sl⟩, ho, hc, n, hd⟩ := id hl
  obtain ⟨⟨cls2, dd2, data2, sl2⟩, ho2, hc2, n2, hd2⟩ := id hb
  simp only at hc hd hc2 hd2
  subst hc hd hc2 hd2
  exact wpAny_richCompare_same_room (T := "tuple") (op := .NotEq) ⟨_, ho, rfl⟩ ⟨_, ho2, rfl⟩ F.slot_tuple_ne (call_meetsIn F.slot_tuple_ne ⟨_, ho, rfl⟩ F.entry_tuple_ne (F.args_tuple_ne_2 _ _) (k46_tuple_ne l b xs ys n n2 dd dd2 sl sl2 e)
    ⟨ho, ho2, he, show Value.bool (!((List.range (min xs.size ys.size)).all e && xs.size == ys.size)) ≠ Value.notImplemented ∧ Q (.bool (!((List.range (min xs.size ys.size)).all e && xs.size == ys.size))) s from ⟨(fun x => nomatch x), h⟩⟩) hu
end
end PySem.SeqAt
namespace K46
open PySem PySem.Spec PyProof.Rows L2
open PySem.W (EqTree)
/-! ### == over data -/
def luD (ks : List Key) (ds : List D) (k : Key) : Option D := ((ks.zip ds).find? fun p => decide (p.1 = k)).map (·.2)
def intEq : Option D → Option D → Bool
  | some (.int a), some (.int b) => a == b
  | _, _ => false
mutual
def eqD : D → D → Bool
  | .non, .non => true
  | .bl a, .bl b => a == b
  | .int a, .int b => a == b
  | .str a, .str b => a == b
  | .tup a, .tup b => eqL a b
  | .lst a, .lst b => eqL a b
  | .dic ks ds, .dic ks' ds' => ks.length == ks'.length && ks.all fun k => (luD ks' ds' k).isSome && intEq (luD ks ds k) (luD ks' ds' k)
  | _, _ => false
def eqL : List D → List D → Bool
  | [], [] => true
  | x :: xs, y :: ys => eqD x y && eqL xs ys
  | _, _ => false
end
def isI : D → Bool
  | .int _ => true
  | _ => false
def sK : D → D → Bool
  | .non, .non => true
  | .bl _, .bl _ => true
  | .int _, .int _ => true
  | .str _, .str _ => true
  | _, _ => false
/-- what may be compared here, n deep -/
def cmpN : Nat → D → D → Bool
  | n + 1, .tup a, .tup b => (a.zip b).all fun p => cmpN n p.1 p.2
  | n + 1, .lst a, .lst b => a.length != b.length || (a.zip b).all fun p => cmpN n p.1 p.2
  | _ + 1, .dic ks ds, .dic ks' ds' => decide ks.Nodup && decide (ks.length = ds.length) && ds.all isI && decide (ks'.length = ds'.length) && ds'.all isI
  | _, x, y => sK x y
theorem eqL_range : ∀ (a b : List D), eqL a b = ((List.range (min a.length b.length)).all (fun j => eqD (a.getD j .non) (b.getD j .non)) && a.length == b.length)
  | [], [] => rfl
  | [], y :: ys => by simp [eqL]
  | x :: xs, [] => by simp [eqL]
  | x :: xs, y :: ys => by
    rw [eqL, eqL_range xs ys]
    simp only [List.length_cons, Nat.add_min_add_right]
    rw [List.range_succ_eq_map, List.all_cons, List.all_map, Bool.and_assoc]
    congr 1
    have : ((xs.length + 1 == ys.length + 1) : Bool) = (xs.length == ys.length) := by
      rw [Bool.eq_iff_iff]; simp
    rw [this]
    rfl
section
variable {X : Cx} {pins : List (Addr × Obj)} {σ : L2.St} {H F : Hp} {s : Shared} {q : Pm}
theorem luD_val {ks : List Key} {ds : List D} {vs : List V} (hv : HsL q F ds vs) (k : Key) : (luD ks ds k = none ∧ valV (ks.zip vs) k = none) ∨ ∃ d v, luD ks ds k = some d ∧ valV (ks.zip vs) k = some v ∧ Hs q F d v := by
  induction ks generalizing ds vs with
  | nil => exact .inl ⟨rfl, rfl⟩
  | cons k0 ks ih =>
    cases ds with
    | nil => rw [hasL_nil.mp hv]; exact .inl ⟨rfl, rfl⟩
    | cons d ds =>
      obtain ⟨v, r, rfl, h2, h3⟩ := hasL_cons.mp hv
      by_cases e : k0 = k
      · right
        refine ⟨d, v, ?_, ?_, h2⟩
        · simp [luD, e]
        · simp [valV, e]
      · have e1 : luD (k0 :: ks) (d :: ds) k = luD ks ds k := by simp [luD, e]
        have e2 : valV ((k0 :: ks).zip (v :: r)) k = valV (ks.zip r) k := by simp [valV, e]
        rw [e1, e2]
        exact ih h3
theorem luD_mem {ks : List Key} {ds : List D} {k : Key} {d : D} (h : luD ks ds k = some d) : d ∈ ds := by
  unfold luD at h
  cases e : (ks.zip ds).find? fun p => decide (p.1 = k) with
  | none => rw [e] at h; cases h
  | some p =>
    rw [e] at h; cases h
    exact (List.of_mem_zip (List.mem_of_find?_eq_some e)).2
theorem luD_nodup {ks : List Key} {ds : List D} {i : Nat} {k : Key} {d : D} (hn : ks.Nodup) (h1 : ks[i]? = some k) (h2 : ds[i]? = some d) : luD ks ds k = some d := by
  induction ks generalizing ds i with
  | nil => simp at h1
  | cons k0 ks ih =>
    cases ds with
    | nil => simp at h2
    | cons d0 ds =>
      cases i with
      | zero =>
        simp at h1 h2
        subst h1 h2
        simp [luD]
      | succ i =>
        simp at h1 h2
        have hk : k ∈ ks := List.mem_of_getElem? h1
        have ne : ¬ k0 = k := fun z => (List.nodup_cons.mp hn).1 (by rw [z]; exact hk)
        have e1 : luD (k0 :: ks) (d0 :: ds) k = luD ks ds k := by simp [luD, ne]
        rw [e1]
        exact ih (List.nodup_cons.mp hn).2 h1 h2
theorem scal_tree {n : Nat} {x y : D} {vx vy : V} {ux uy : Value} (h : sK x y = true) (hx : Hs q F x vx) (hy : Hs q F y vy) (rx : RelV vx ux) (ry : RelV vy uy) : EqTree X.prog X.w s n ux uy (eqD x y) := by
  cases x with
  | non => cases y with
    | non => rw [has_non.mp hx] at rx; rw [has_non.mp hy] at ry; cases rx; cases ry; exact .same
    | _ => cases h
  | bl a => cases y with
    | bl b => rw [has_bl.mp hx] at rx; rw [has_bl.mp hy] at ry; cases rx; cases ry; exact .leaf fun _ _ => SeqAt.EqAt.bool_bool a b
    | _ => cases h
  | int a => cases y with
    | int b =>
      rw [has_int.mp hx] at rx; rw [has_int.mp hy] at ry
      obtain ⟨t, rfl⟩ := rx
      obtain ⟨t', rfl⟩ := ry
      exact .leaf fun _ _ => SeqAt.EqAt.int_int a t b t'
    | _ => cases h
  | str a => cases y with
    | str b =>
      rw [has_str.mp hx] at rx; rw [has_str.mp hy] at ry
      obtain ⟨t, rfl⟩ := rx
      obtain ⟨t', rfl⟩ := ry
      exact .leaf fun _ _ => SeqAt.EqAt.str_str a t b t'
    | _ => cases h
  | _ => cases y <;> cases h
theorem zip_all {n : Nat} {a b : List D} (h : (a.zip b).all (fun p => cmpN n p.1 p.2) = true) {j : Nat} (h1 : j < a.length) (h2 : j < b.length) : cmpN n a[j] b[j] = true := by
  have := List.all_eq_true.mp h (a[j], b[j]) (by
    have hz : j < (a.zip b).length := by rw [List.length_zip]; omega
    have e : (a.zip b)[j] = (a[j], b[j]) := List.getElem_zip
    rw [← e]
    exact List.getElem_mem hz)
  exact this
/-- equal contents at one address -/
theorem eq_self_of (hn : ∀ x y v, cmpN n x y = true → Hs q F x v → Hs q F y v → eqD x y = true) : ∀ {a b : List D} {vs : List V}, (a.zip b).all (fun p => cmpN n p.1 p.2) = true → HsL q F a vs → HsL q F b vs → eqL a b = true
  | [], b, vs, _, ha, hb => by
    rw [hasL_nil.mp ha] at hb
    cases b with
    | nil => rfl
    | cons y ys => obtain ⟨_, _, z, _⟩ := hasL_cons.mp hb; cases z
  | x :: xs, [], vs, _, ha, hb => by
    rw [hasL_nil.mp hb] at ha
    obtain ⟨_, _, z, _⟩ := hasL_cons.mp ha; cases z
  | x :: xs, y :: ys, vs, h, ha, hb => by
    obtain ⟨v, r, rfl, a1, a2⟩ := hasL_cons.mp ha
    obtain ⟨v', r', z, b1, b2⟩ := hasL_cons.mp hb
    cases z
    rw [List.zip_cons_cons, List.all_cons, Bool.and_eq_true] at h
    rw [eqL, hn x y v h.1 a1 b1, eq_self_of hn h.2 a2 b2]
    rfl
theorem int_same {d d' : D} {v : V} (h : isI d = true) (h' : isI d' = true) (a : Hs q F d v) (b : Hs q F d' v) : intEq (some d) (some d') = true := by
  cases d with
  | int i => cases d' with
    | int j =>
      rw [has_int.mp a] at b
      have := has_int.mp b
      cases this
      simp [intEq]
    | _ => cases h'
  | _ => cases h
theorem scal_self {x y : D} {v : V} (h : sK x y = true) (hx : Hs q F x v) (hy : Hs q F y v) : eqD x y = true := by
  cases x with
  | non => cases y with
    | non => rfl
    | _ => cases h
  | bl a => cases y with
    | bl b =>
      rw [has_bl.mp hx] at hy
      have := has_bl.mp hy
      cases this
      simp [eqD]
    | _ => cases h
  | int a => cases y with
    | int b =>
      rw [has_int.mp hx] at hy
      have := has_int.mp hy
      cases this
      simp [eqD]
    | _ => cases h
  | str a => cases y with
    | str b =>
      rw [has_str.mp hx] at hy
      have := has_str.mp hy
      cases this
      simp [eqD]
    | _ => cases h
  | _ => cases y <;> cases h
theorem eq_self : ∀ (n : Nat) (x y : D) (v : V), cmpN n x y = true → Hs q F x v → Hs q F y v → eqD x y = true
  | 0, x, y, v, h, hx, hy => by
    have h : sK x y = true := by simpa [cmpN] using h
    exact scal_self h hx hy
  | n + 1, x, y, v, h, hx, hy => by
    cases x with
    | tup a => cases y with
      | tup b =>
        obtain ⟨p, vs, rfl, e1, e2⟩ := has_tup.mp hx
        obtain ⟨p', vs', z, f1, f2⟩ := has_tup.mp hy
        cases z
        rw [e1] at f1; cases f1
        exact eq_self_of (eq_self n) h e2 f2
      | _ => cases h
    | lst a => cases y with
      | lst b =>
        obtain ⟨p, vs, rfl, e1, e2⟩ := has_lst.mp hx
        obtain ⟨p', vs', z, f1, f2⟩ := has_lst.mp hy
        cases z
        rw [e1] at f1; cases f1
        have hl : a.length = b.length := by rw [← e2.length, ← f2.length]
        have h : (a.length != b.length || (a.zip b).all fun p => cmpN n p.1 p.2) = true := h
        rw [hl] at h
        simp at h
        exact eq_self_of (eq_self n) (by simpa using h) e2 f2
      | _ => cases h
    | dic ks ds => cases y with
      | dic ks' ds' =>
        obtain ⟨p, vs, rfl, e1, el, e2⟩ := has_dic.mp hx
        obtain ⟨p', vs', z, f1, fl, f2⟩ := has_dic.mp hy
        cases z
        rw [e1] at f1
        have fz := HO.dK.inj (Option.some.inj f1)
        have h : (decide ks.Nodup && decide (ks.length = ds.length) && ds.all isI && decide (ks'.length = ds'.length) && ds'.all isI) = true := h
        simp only [Bool.and_eq_true, decide_eq_true_eq] at h
        obtain ⟨⟨⟨⟨h1, h2⟩, h3⟩, h4⟩, h5⟩ := h
        have hk : ks = ks' := by
          have := congrArg (List.map Prod.fst) fz
          rwa [List.map_fst_zip (by omega), List.map_fst_zip (by omega)] at this
        have hvs : vs = vs' := by
          have := congrArg (List.map Prod.snd) fz
          rwa [List.map_snd_zip (by omega), List.map_snd_zip (by omega)] at this
        subst hk hvs
        show (ks.length == ks.length && ks.all fun k => (luD ks ds' k).isSome && intEq (luD ks ds k) (luD ks ds' k)) = true
        rw [Bool.and_eq_true]
        refine ⟨by simp, List.all_eq_true.mpr fun k hk => ?_⟩
        obtain ⟨i, hi, rfl⟩ := List.mem_iff_getElem.mp hk
        have i1 : i < ds.length := by omega
        have i2 : i < ds'.length := by omega
        have g1 := luD_nodup h1 (List.getElem?_eq_getElem hi) (List.getElem?_eq_getElem i1)
        have g2 := luD_nodup h1 (List.getElem?_eq_getElem hi) (List.getElem?_eq_getElem i2)
        rw [g1, g2]
        obtain ⟨v1, a1, b1⟩ := e2.get (List.getElem?_eq_getElem i1)
        obtain ⟨v2, a2, b2⟩ := f2.get (List.getElem?_eq_getElem i2)
        rw [a1] at a2; cases a2
        rw [int_same (List.all_eq_true.mp h3 _ (List.getElem_mem i1)) (List.all_eq_true.mp h5 _ (List.getElem_mem i2)) b1 b2]
        rfl
      | _ => cases h
    | non => exact scal_self (by cases y <;> first | (cases h; done) | exact h) hx hy
    | bl _ => exact scal_self (by cases y <;> first | (cases h; done) | exact h) hx hy
    | int _ => exact scal_self (by cases y <;> first | (cases h; done) | exact h) hx hy
    | str _ => exact scal_self (by cases y <;> first | (cases h; done) | exact h) hx hy
    | set _ => cases y <;> cases h
    | hou _ => cases y <;> cases h
theorem treeUp {n : Nat} {v y : Value} {b : Bool} (t : EqTree X.prog X.w s n v y b) : EqTree X.prog X.w s (n + 1) v y b := by
  induction t with
  | leaf h => exact .leaf fun A hu => h A (by omega)
  | same => exact .same
  | lists hne hl hl' hsz _ ih => exact .lists hne hl hl' hsz ih
  | listsLen hne hl hl' hsz => exact .listsLen hne hl hl' hsz
  | tuples hne hl hl' _ ih => exact .tuples hne hl hl' ih
  | dicts hne ha hb da db _ ih => exact .dicts hne ha hb da db ih
/-- the tree of a comparison of data -/
theorem isL {I : Inv X pins σ H s} (f : Fit q.m F H) {p : Addr} {vs : List V} (e : F p = some (.lst vs)) : ∃ us, Vals vs us ∧ s.heap.IsList p us.toArray := by
  obtain ⟨us, r1, p1, _⟩ := I.list (f.sqL e)
  exact ⟨us, r1, p1.isList⟩
theorem tree : ∀ (n : Nat) (x y : D) (vx vy : V) (ux uy : Value) (I : Inv X pins σ H s) (hm : q.m = none) (f : Fit q.m F H), cmpN n x y = true → Hs q F x vx → Hs q F y vy → RelV vx ux → RelV vy uy → EqTree X.prog X.w s n ux uy (eqD x y)
  | 0, x, y, vx, vy, ux, uy, I, hm, f, h, hx, hy, rx, ry => scal_tree (by simpa [cmpN] using h) hx hy rx ry
  | n + 1, x, y, vx, vy, ux, uy, I, hm, f, h, hx, hy, rx, ry => by
    cases x with
    | tup a => cases y with
      | tup b =>
        have hself := eq_self (F := F) (q := q) (n + 1) (.tup a) (.tup b)
        obtain ⟨p, vs, rfl, e1, e2⟩ := has_tup.mp hx
        obtain ⟨p', vs', rfl, f1, f2⟩ := has_tup.mp hy
        cases (show ux = Value.ref p from rx)
        cases (show uy = Value.ref p' from ry)
        by_cases z : p = p'
        · subst z
          rw [hself _ h hx hy]
          exact .same
        · obtain ⟨us, r1, p1, _⟩ := I.tuple (f.sqT e1)
          obtain ⟨us', r2, p2, _⟩ := I.tuple (f.sqT f1)
          have l1 : us.length = a.length := by rw [← r1.length, e2.length]
          have l2 : us'.length = b.length := by rw [← r2.length, f2.length]
          have t := EqTree.tuples (prog := X.prog) (w := X.w) (n := n) (e := fun j => eqD (a.getD j .non) (b.getD j .non)) z p1 p2 (fun j h1 h2 => by
            have h1' : j < a.length := by simpa [l1] using h1
            have h2' : j < b.length := by simpa [l2] using h2
            obtain ⟨v1, a1, b1⟩ := e2.get (List.getElem?_eq_getElem h1')
            obtain ⟨v2, a2, b2⟩ := f2.get (List.getElem?_eq_getElem h2')
            obtain ⟨u1, c1, d1⟩ := r1.get a1
            obtain ⟨u2, c2, d2⟩ := r2.get a2
            have g1 : us.toArray[j] = u1 := by
              have hj : j < us.length := by simpa using h1
              rw [List.getElem?_eq_getElem hj] at c1
              exact (by simpa using c1)
            have g2 : us'.toArray[j] = u2 := by
              have hj : j < us'.length := by simpa using h2
              rw [List.getElem?_eq_getElem hj] at c2
              exact (by simpa using c2)
            rw [g1, g2]
            have q1 : a.getD j .non = a[j] := by simp [List.getD, List.getElem?_eq_getElem h1']
            have q2 : b.getD j .non = b[j] := by simp [List.getD, List.getElem?_eq_getElem h2']
            show EqTree X.prog X.w s n u1 u2 (eqD (a.getD j .non) (b.getD j .non))
            rw [q1, q2]
            exact tree n _ _ _ _ _ _ I hm f (zip_all h h1' h2') b1 b2 d1 d2)
          simp only [List.size_toArray, l1, l2] at t
          rw [← eqL_range] at t
          exact t
      | _ => cases h
    | lst a => cases y with
      | lst b =>
        have hself := eq_self (F := F) (q := q) (n + 1) (.lst a) (.lst b)
        obtain ⟨p, vs, rfl, e1, e2⟩ := has_lst.mp hx
        obtain ⟨p', vs', rfl, f1, f2⟩ := has_lst.mp hy
        cases (show ux = Value.ref p from rx)
        cases (show uy = Value.ref p' from ry)
        by_cases z : p = p'
        · subst z
          rw [hself _ h hx hy]
          exact .same
        · obtain ⟨us, r1, p1⟩ := isL (I := I) f e1
          obtain ⟨us', r2, p2⟩ := isL (I := I) f f1
          have l1 : us.length = a.length := by rw [← r1.length, e2.length]
          have l2 : us'.length = b.length := by rw [← r2.length, f2.length]
          by_cases hl : a.length = b.length
          · have h : (a.length != b.length || (a.zip b).all fun p => cmpN n p.1 p.2) = true := h
            rw [hl] at h
            have h : ((a.zip b).all fun p => cmpN n p.1 p.2) = true := by simpa using h
            have t := EqTree.lists (prog := X.prog) (w := X.w) (n := n) (e := fun j => eqD (a.getD j .non) (b.getD j .non)) z p1 p2 (by simp [l1, l2, hl]) (fun j h1 h2 => by
              have h1' : j < a.length := by simpa [l1] using h1
              have h2' : j < b.length := by simpa [l2] using h2
              obtain ⟨v1, a1, b1⟩ := e2.get (List.getElem?_eq_getElem h1')
              obtain ⟨v2, a2, b2⟩ := f2.get (List.getElem?_eq_getElem h2')
              obtain ⟨u1, c1, d1⟩ := r1.get a1
              obtain ⟨u2, c2, d2⟩ := r2.get a2
              have g1 : us.toArray[j] = u1 := by
                have hj : j < us.length := by simpa using h1
                rw [List.getElem?_eq_getElem hj] at c1
                exact (by simpa using c1)
              have g2 : us'.toArray[j] = u2 := by
                have hj : j < us'.length := by simpa using h2
                rw [List.getElem?_eq_getElem hj] at c2
                exact (by simpa using c2)
              rw [g1, g2]
              have q1 : a.getD j .non = a[j] := by simp [List.getD, List.getElem?_eq_getElem h1']
              have q2 : b.getD j .non = b[j] := by simp [List.getD, List.getElem?_eq_getElem h2']
              show EqTree X.prog X.w s n u1 u2 (eqD (a.getD j .non) (b.getD j .non))
              rw [q1, q2]
              exact tree n _ _ _ _ _ _ I hm f (zip_all h h1' h2') b1 b2 d1 d2)
            have er : eqD (.lst a) (.lst b) = (List.range us.toArray.size).all fun j => eqD (a.getD j .non) (b.getD j .non) := by
              show eqL a b = _
              rw [eqL_range, hl, Nat.min_self]
              simp [l1, hl]
            rw [er]
            exact t
          · have er : eqD (.lst a) (.lst b) = false := by
              show eqL a b = _
              rw [eqL_range]
              simp [hl]
            rw [er]
            exact .listsLen z p1 p2 (by simp [l1, l2, hl])
      | _ => cases h
    | dic ks ds => cases y with
      | dic ks' ds' =>
        have hself := eq_self (F := F) (q := q) (n + 1) (.dic ks ds) (.dic ks' ds')
        obtain ⟨p, vs, rfl, e1, el, e2⟩ := has_dic.mp hx
        obtain ⟨p', vs', rfl, f1, fl, f2⟩ := has_dic.mp hy
        cases (show ux = Value.ref p from rx)
        cases (show uy = Value.ref p' from ry)
        by_cases z : p = p'
        · subst z
          rw [hself _ h hx hy]
          exact .same
        · rw [hm] at f
          obtain ⟨_, ya, va, ra, da⟩ := (show ObjOk X.prog X.w H s.heap p (.dK (ks.zip vs)) from I.hok p _ (f.dK e1))
          obtain ⟨_, yb, vb, rb, db⟩ := (show ObjOk X.prog X.w H s.heap p' (.dK (ks'.zip vs')) from I.hok p' _ (f.dK f1))
          have h : (decide ks.Nodup && decide (ks.length = ds.length) && ds.all isI && decide (ks'.length = ds'.length) && ds'.all isI) = true := h
          simp only [Bool.and_eq_true, decide_eq_true_eq] at h
          obtain ⟨⟨⟨⟨h1, h2⟩, h3⟩, h4⟩, h5⟩ := h
          have t := EqTree.dicts (prog := X.prog) (w := X.w) (s := s) (n := n) (knd := mixKind X.prog X.w) (e := fun k => intEq (luD ks ds k) (luD ks' ds' k)) z ya yb da db (fun k v y hmem hval => by
            obtain ⟨i, hi⟩ := List.mem_iff_getElem?.mp hmem
            have hKV : KV (ks.zip vs) va := ra
            obtain ⟨xv, hkv, rv⟩ := KV.at' hKV hi
            rw [List.getElem?_zip_eq_some] at hkv
            obtain ⟨k1, k2⟩ := hkv
            obtain ⟨d, a1, b1⟩ := e2.get' k2
            have lu1 := luD_nodup h1 k1 a1
            have rr : RelO (valV (ks'.zip vs') k) (valueAt vb k) := KV.val rb k
            rcases luD_val f2 k with ⟨_, nv⟩ | ⟨d', v', lu2, nv, hv'⟩
            · rw [nv, hval] at rr
              exact rr.elim
            · rw [nv, hval] at rr
              show EqTree X.prog X.w s n v y (intEq (luD ks ds k) (luD ks' ds' k))
              rw [lu1, lu2]
              have i1 := List.all_eq_true.mp h3 d (List.mem_of_getElem? a1)
              have i2 := List.all_eq_true.mp h5 d' (luD_mem lu2)
              cases d with
              | int i0 => cases d' with
                | int j0 =>
                  have := scal_tree (X := X) (s := s) (n := n) (x := .int i0) (y := .int j0) rfl b1 hv' rv rr
                  exact this
                | _ => cases i2
              | _ => cases i1)
          have ea : va.length = ks.length := by rw [← KV.length ra, List.length_zip, el, Nat.min_self]
          have eb : vb.length = ks'.length := by rw [← KV.length rb, List.length_zip, fl, Nat.min_self]
          have eall : (va.all fun p => (valueAt vb p.1).isSome && intEq (luD ks ds p.1) (luD ks' ds' p.1)) = ks.all fun k => (luD ks' ds' k).isSome && intEq (luD ks ds k) (luD ks' ds' k) := by
            have e0 : va.map (·.1) = ks := by
              rw [← KV.keys ra, List.map_fst_zip (by omega)]
            have e1 : (va.all fun p => (valueAt vb p.1).isSome && intEq (luD ks ds p.1) (luD ks' ds' p.1)) = (va.map (·.1)).all fun k => (luD ks' ds' k).isSome && intEq (luD ks ds k) (luD ks' ds' k) := by
              rw [List.all_map]
              congr 1
              funext p
              have rr : RelO (valV (ks'.zip vs') p.1) (valueAt vb p.1) := KV.val rb p.1
              show _ = ((luD ks' ds' p.1).isSome && intEq (luD ks ds p.1) (luD ks' ds' p.1))
              congr 1
              rcases luD_val f2 p.1 with ⟨nl, nv⟩ | ⟨d', v', lu2, nv, hv'⟩
              · rw [nv] at rr
                cases e : valueAt vb p.1 with
                | none => rw [nl]; rfl
                | some u => rw [e] at rr; exact rr.elim
              · rw [nv] at rr
                cases e : valueAt vb p.1 with
                | none => rw [e] at rr; exact rr.elim
                | some u => rw [lu2]; rfl
            rw [e1, e0]
          rw [ea, eb, eall] at t
          exact t
      | _ => cases h
    | non => exact scal_tree (by cases y <;> first | (cases h; done) | exact h) hx hy rx ry
    | bl _ => exact scal_tree (by cases y <;> first | (cases h; done) | exact h) hx hy rx ry
    | int _ => exact scal_tree (by cases y <;> first | (cases h; done) | exact h) hx hy rx ry
    | str _ => exact scal_tree (by cases y <;> first | (cases h; done) | exact h) hx hy rx ry
    | set _ => cases y <;> cases h
    | hou _ => cases y <;> cases h
/-! ### == and != as operations -/
def nonRef : D → Bool
  | .non => true | .bl _ => true | .int _ => true | .str _ => true
  | _ => false
/-- what == may be asked -/
def cmpE (x y : D) : Bool := match x, y with
  | .non, .str _ => true
  | .str _, .non => true
  | .tup _, .tup _ => cmpN 4 x y
  | .lst _, .lst _ => cmpN 4 x y
  | x, y => sK x y
/-- what != may be asked -/
def cmpX (x y : D) : Bool := match x, y with
  | .non, .tup _ => true
  | .tup _, .non => true
  | x, y => cmpE x y
def rEqT (q : Pm) : R2 := fun x y H Q => ∃ F dx dy, Fit q.m F H ∧ Hs q F dx x ∧ Hs q F dy y ∧ cmpE dx dy = true ∧ Q (.bl (eqD dx dy)) H
def rNeT (q : Pm) : R2 := fun x y H Q => ∃ F dx dy, Fit q.m F H ∧ Hs q F dx x ∧ Hs q F dy y ∧ cmpX dx dy = true ∧ Q (.bl (!eqD dx dy)) H
theorem scal_v {dx dy : D} {x y : V} (h : sK dx dy = true) (hx : Hs q F dx x) (hy : Hs q F dy y) : scal x y = true ∧ decide (x = y) = eqD dx dy := by
  cases dx with
  | non => cases dy with
    | non => rw [has_non.mp hx, has_non.mp hy]; exact ⟨rfl, by simp [eqD]⟩
    | _ => cases h
  | bl a => cases dy with
    | bl b => rw [has_bl.mp hx, has_bl.mp hy]; exact ⟨rfl, dec_bl⟩
    | _ => cases h
  | int a => cases dy with
    | int b => rw [has_int.mp hx, has_int.mp hy]; exact ⟨rfl, dec_int⟩
    | _ => cases h
  | str a => cases dy with
    | str b => rw [has_str.mp hx, has_str.mp hy]; exact ⟨rfl, dec_str⟩
    | _ => cases h
  | _ => cases dy <;> cases h
end
section
variable {X : Cx} {q : Pm}
theorem op_eqT (hm : q.m = none) (hu : X.A.units + 8 < cLine) : OpR X (compareOp .Eq) (rEqT q) := by
  intro pins s σ H x y v u Q I rx ry h
  obtain ⟨F, dx, dy, f, hx, hy, hc, hq⟩ := h
  have sc : sK dx dy = true → wpAny (model X.prog X.w) X.A (compareOp .Eq v u) (EP X pins σ Q) X.xe s := fun z => by
    obtain ⟨a, b⟩ := scal_v z hx hy
    refine op_eq pins s σ H x y v u Q I rx ry ⟨a, ?_⟩
    rw [b]; exact hq
  have nr : scal x y = true → decide (x = y) = eqD dx dy → wpAny (model X.prog X.w) X.A (compareOp .Eq v u) (EP X pins σ Q) X.xe s := fun a b => by
    refine op_eq pins s σ H x y v u Q I rx ry ⟨a, ?_⟩
    rw [b]; exact hq
  have tr : cmpN 4 dx dy = true → ∀ b1 b2, x = .ref b1 → y = .ref b2 → (∃ ds es, (dx = .tup ds ∧ dy = .tup es) ∨ (dx = .lst ds ∧ dy = .lst es)) → wpAny (model X.prog X.w) X.A (compareOp .Eq v u) (EP X pins σ Q) X.xe s := fun z b1 b2 e1 e2 sh => by
    subst e1 e2
    cases (show v = Value.ref b1 from rx)
    cases (show u = Value.ref b2 from ry)
    obtain ⟨a, b, ⟨rfl, rfl⟩ | ⟨rfl, rfl⟩⟩ := sh
    · obtain ⟨p, vs, w1, e1, e2⟩ := has_tup.mp hx
      obtain ⟨p', vs', w2, f1, f2⟩ := has_tup.mp hy
      cases w1; cases w2
      obtain ⟨us, r1, p1, _⟩ := I.tuple (f.sqT e1)
      obtain ⟨us', r2, p2, _⟩ := I.tuple (f.sqT f1)
      have l1 : us.length = a.length := by rw [← r1.length, e2.length]
      have l2 : us'.length = b.length := by rw [← r2.length, f2.length]
      have z : (a.zip b).all (fun p => cmpN 3 p.1 p.2) = true := z
      refine PySem.W.eq_tuplesT (n := 4) (e := fun j => eqD (a.getD j .non) (b.getD j .non)) p1 p2 (fun j h1 h2 => ?_) (by omega) ?_
      · have h1' : j < a.length := by simpa [l1] using h1
        have h2' : j < b.length := by simpa [l2] using h2
        obtain ⟨v1, a1, b1⟩ := e2.get (List.getElem?_eq_getElem h1')
        obtain ⟨v2, a2, b2⟩ := f2.get (List.getElem?_eq_getElem h2')
        obtain ⟨u1, c1, d1⟩ := r1.get a1
        obtain ⟨u2, c2, d2⟩ := r2.get a2
        have g1 : us.toArray[j] = u1 := by
          have hj : j < us.length := by simpa using h1
          rw [List.getElem?_eq_getElem hj] at c1
          exact (by simpa using c1)
        have g2 : us'.toArray[j] = u2 := by
          have hj : j < us'.length := by simpa using h2
          rw [List.getElem?_eq_getElem hj] at c2
          exact (by simpa using c2)
        rw [g1, g2]
        have q1 : a.getD j .non = a[j] := by simp [List.getD, List.getElem?_eq_getElem h1']
        have q2 : b.getD j .non = b[j] := by simp [List.getD, List.getElem?_eq_getElem h2']
        show EqTree X.prog X.w s 4 u1 u2 (eqD (a.getD j .non) (b.getD j .non))
        rw [q1, q2]
        exact treeUp (tree 3 _ _ _ _ _ _ I hm f (zip_all z h1' h2') b1 b2 d1 d2)
      · have e : eqD (.tup a) (.tup b) = eqL a b := rfl
        rw [e, eqL_range] at hq
        simp only [List.size_toArray, l1, l2]
        exact ⟨.bl _, H, I, rfl, hq⟩
    · obtain ⟨p, vs, w1, e1, e2⟩ := has_lst.mp hx
      obtain ⟨p', vs', w2, f1, f2⟩ := has_lst.mp hy
      cases w1; cases w2
      obtain ⟨us, r1, p1⟩ := isL (I := I) f e1
      obtain ⟨us', r2, p2⟩ := isL (I := I) f f1
      have l1 : us.length = a.length := by rw [← r1.length, e2.length]
      have l2 : us'.length = b.length := by rw [← r2.length, f2.length]
      by_cases hl : a.length = b.length
      · have z : (a.length != b.length || (a.zip b).all fun p => cmpN 3 p.1 p.2) = true := z
        rw [hl] at z
        have z : ((a.zip b).all fun p => cmpN 3 p.1 p.2) = true := by simpa using z
        refine PySem.W.eq_listsT (n := 4) (e := fun j => eqD (a.getD j .non) (b.getD j .non)) p1 p2 (by simp [l1, l2, hl]) (fun j h1 h2 => ?_) (by omega) ?_
        · have h1' : j < a.length := by simpa [l1] using h1
          have h2' : j < b.length := by simpa [l2] using h2
          obtain ⟨v1, a1, b1⟩ := e2.get (List.getElem?_eq_getElem h1')
          obtain ⟨v2, a2, b2⟩ := f2.get (List.getElem?_eq_getElem h2')
          obtain ⟨u1, c1, d1⟩ := r1.get a1
          obtain ⟨u2, c2, d2⟩ := r2.get a2
          have g1 : us.toArray[j] = u1 := by
            have hj : j < us.length := by simpa using h1
            rw [List.getElem?_eq_getElem hj] at c1
            exact (by simpa using c1)
          have g2 : us'.toArray[j] = u2 := by
            have hj : j < us'.length := by simpa using h2
            rw [List.getElem?_eq_getElem hj] at c2
            exact (by simpa using c2)
          rw [g1, g2]
          have q1 : a.getD j .non = a[j] := by simp [List.getD, List.getElem?_eq_getElem h1']
          have q2 : b.getD j .non = b[j] := by simp [List.getD, List.getElem?_eq_getElem h2']
          show EqTree X.prog X.w s 4 u1 u2 (eqD (a.getD j .non) (b.getD j .non))
          rw [q1, q2]
          exact treeUp (tree 3 _ _ _ _ _ _ I hm f (zip_all z h1' h2') b1 b2 d1 d2)
        · have e : eqD (.lst a) (.lst b) = eqL a b := rfl
          rw [e, eqL_range] at hq
          have e2 : ((List.range (min a.length b.length)).all (fun j => eqD (a.getD j .non) (b.getD j .non)) && a.length == b.length) = (List.range us.toArray.size).all (fun j => eqD (a.getD j .non) (b.getD j .non)) := by simp [l1, hl]
          rw [e2] at hq
          exact ⟨.bl _, H, I, rfl, hq⟩
      · have er : eqD (.lst a) (.lst b) = false := by
          show eqL a b = _
          rw [eqL_range]
          simp [hl]
        rw [er] at hq
        exact SeqAt.RcAt.lists_lengths p1 p2 (by simp [l1, l2, hl]) (by omega) X.prog X.w _ _ ⟨.bl _, H, I, rfl, hq⟩
  cases dx with
  | tup a => cases dy with
    | tup b =>
      obtain ⟨p, vs, rfl, _⟩ := has_tup.mp hx
      obtain ⟨p', vs', rfl, _⟩ := has_tup.mp hy
      exact tr hc p p' rfl rfl ⟨a, b, .inl ⟨rfl, rfl⟩⟩
    | _ => cases hc
  | lst a => cases dy with
    | lst b =>
      obtain ⟨p, vs, rfl, _⟩ := has_lst.mp hx
      obtain ⟨p', vs', rfl, _⟩ := has_lst.mp hy
      exact tr hc p p' rfl rfl ⟨a, b, .inr ⟨rfl, rfl⟩⟩
    | _ => cases hc
  | non => cases dy with
    | str b => exact nr (by rw [has_non.mp hx, has_str.mp hy]; rfl) (by rw [has_non.mp hx, has_str.mp hy]; simp [eqD])
    | non => exact sc rfl
    | _ => cases hc
  | str a => cases dy with
    | non => exact nr (by rw [has_str.mp hx, has_non.mp hy]; rfl) (by rw [has_str.mp hx, has_non.mp hy]; simp [eqD])
    | str b => exact sc rfl
    | _ => cases hc
  | bl a => cases dy with
    | bl b => exact sc rfl
    | _ => cases hc
  | int a => cases dy with
    | int b => exact sc rfl
    | _ => cases hc
  | _ => cases dy <;> cases hc
theorem op_neT (hm : q.m = none) (hu : X.A.units + 8 < cLine) : OpR X (compareOp .NotEq) (rNeT q) := by
  intro pins s σ H x y v u Q I rx ry h
  obtain ⟨F, dx, dy, f, hx, hy, hc, hq⟩ := h
  have sc : sK dx dy = true → wpAny (model X.prog X.w) X.A (compareOp .NotEq v u) (EP X pins σ Q) X.xe s := fun z => by
    obtain ⟨a, b⟩ := scal_v z hx hy
    refine op_ne pins s σ H x y v u Q I rx ry ⟨a, ?_⟩
    rw [b]; exact hq
  have nr : scal x y = true → decide (x = y) = eqD dx dy → wpAny (model X.prog X.w) X.A (compareOp .NotEq v u) (EP X pins σ Q) X.xe s := fun a b => by
    refine op_ne pins s σ H x y v u Q I rx ry ⟨a, ?_⟩
    rw [b]; exact hq
  have tr : cmpN 4 dx dy = true → ∀ b1 b2, x = .ref b1 → y = .ref b2 → (∃ ds es, (dx = .tup ds ∧ dy = .tup es) ∨ (dx = .lst ds ∧ dy = .lst es)) → wpAny (model X.prog X.w) X.A (compareOp .NotEq v u) (EP X pins σ Q) X.xe s := fun z b1 b2 e1 e2 sh => by
    subst e1 e2
    cases (show v = Value.ref b1 from rx)
    cases (show u = Value.ref b2 from ry)
    obtain ⟨a, b, ⟨rfl, rfl⟩ | ⟨rfl, rfl⟩⟩ := sh
    · obtain ⟨p, vs, w1, e1, e2⟩ := has_tup.mp hx
      obtain ⟨p', vs', w2, f1, f2⟩ := has_tup.mp hy
      cases w1; cases w2
      obtain ⟨us, r1, p1, _⟩ := I.tuple (f.sqT e1)
      obtain ⟨us', r2, p2, _⟩ := I.tuple (f.sqT f1)
      have l1 : us.length = a.length := by rw [← r1.length, e2.length]
      have l2 : us'.length = b.length := by rw [← r2.length, f2.length]
      have z : (a.zip b).all (fun p => cmpN 3 p.1 p.2) = true := z
      refine SeqAt.k46_rcNe_tuples (e := fun j => eqD (a.getD j .non) (b.getD j .non)) p1 p2 (by omega) (fun j h1 h2 => ?_) ?_
      · have h1' : j < a.length := by simpa [l1] using h1
        have h2' : j < b.length := by simpa [l2] using h2
        obtain ⟨v1, a1, b1⟩ := e2.get (List.getElem?_eq_getElem h1')
        obtain ⟨v2, a2, b2⟩ := f2.get (List.getElem?_eq_getElem h2')
        obtain ⟨u1, c1, d1⟩ := r1.get a1
        obtain ⟨u2, c2, d2⟩ := r2.get a2
        have g1 : us.toArray[j] = u1 := by
          have hj : j < us.length := by simpa using h1
          rw [List.getElem?_eq_getElem hj] at c1
          exact (by simpa using c1)
        have g2 : us'.toArray[j] = u2 := by
          have hj : j < us'.length := by simpa using h2
          rw [List.getElem?_eq_getElem hj] at c2
          exact (by simpa using c2)
        rw [g1, g2]
        have q1 : a.getD j .non = a[j] := by simp [List.getD, List.getElem?_eq_getElem h1']
        have q2 : b.getD j .non = b[j] := by simp [List.getD, List.getElem?_eq_getElem h2']
        show SeqAt.EqIn X.prog X.w X.A.in1 s u1 u2 (eqD (a.getD j .non) (b.getD j .non))
        rw [q1, q2]
        exact (tree 3 _ _ _ _ _ _ I hm f (zip_all z h1' h2') b1 b2 d1 d2).at X.A.in1 (by show X.A.units + 1 + _ < cLine; omega)
      · have e : eqD (.tup a) (.tup b) = eqL a b := rfl
        rw [e, eqL_range] at hq
        simp only [List.size_toArray, l1, l2]
        exact ⟨.bl _, H, I, rfl, hq⟩
    · obtain ⟨p, vs, w1, e1, e2⟩ := has_lst.mp hx
      obtain ⟨p', vs', w2, f1, f2⟩ := has_lst.mp hy
      cases w1; cases w2
      obtain ⟨us, r1, p1⟩ := isL (I := I) f e1
      obtain ⟨us', r2, p2⟩ := isL (I := I) f f1
      have l1 : us.length = a.length := by rw [← r1.length, e2.length]
      have l2 : us'.length = b.length := by rw [← r2.length, f2.length]
      by_cases hl : a.length = b.length
      · have z : (a.length != b.length || (a.zip b).all fun p => cmpN 3 p.1 p.2) = true := z
        rw [hl] at z
        have z : ((a.zip b).all fun p => cmpN 3 p.1 p.2) = true := by simpa using z
        refine SeqAt.k46_rcNe_lists (e := fun j => eqD (a.getD j .non) (b.getD j .non)) p1 p2 (by simp [l1, l2, hl]) (by omega) (fun j h1 h2 => ?_) ?_
        · have h1' : j < a.length := by simpa [l1] using h1
          have h2' : j < b.length := by simpa [l2] using h2
          obtain ⟨v1, a1, b1⟩ := e2.get (List.getElem?_eq_getElem h1')
          obtain ⟨v2, a2, b2⟩ := f2.get (List.getElem?_eq_getElem h2')
          obtain ⟨u1, c1, d1⟩ := r1.get a1
          obtain ⟨u2, c2, d2⟩ := r2.get a2
          have g1 : us.toArray[j] = u1 := by
            have hj : j < us.length := by simpa using h1
            rw [List.getElem?_eq_getElem hj] at c1
            exact (by simpa using c1)
          have g2 : us'.toArray[j] = u2 := by
            have hj : j < us'.length := by simpa using h2
            rw [List.getElem?_eq_getElem hj] at c2
            exact (by simpa using c2)
          rw [g1, g2]
          have q1 : a.getD j .non = a[j] := by simp [List.getD, List.getElem?_eq_getElem h1']
          have q2 : b.getD j .non = b[j] := by simp [List.getD, List.getElem?_eq_getElem h2']
          show SeqAt.EqIn X.prog X.w X.A.in1 s u1 u2 (eqD (a.getD j .non) (b.getD j .non))
          rw [q1, q2]
          exact (tree 3 _ _ _ _ _ _ I hm f (zip_all z h1' h2') b1 b2 d1 d2).at X.A.in1 (by show X.A.units + 1 + _ < cLine; omega)
        · have e : eqD (.lst a) (.lst b) = eqL a b := rfl
          rw [e, eqL_range] at hq
          have e2 : ((List.range (min a.length b.length)).all (fun j => eqD (a.getD j .non) (b.getD j .non)) && a.length == b.length) = (List.range us.toArray.size).all (fun j => eqD (a.getD j .non) (b.getD j .non)) := by simp [l1, hl]
          rw [e2] at hq
          exact ⟨.bl _, H, I, rfl, hq⟩
      · have er : eqD (.lst a) (.lst b) = false := by
          show eqL a b = _
          rw [eqL_range]
          simp [hl]
        rw [er] at hq
        exact SeqAt.RcNeAt.lists_lengths p1 p2 (by simp [l1, l2, hl]) (by omega) X.prog X.w _ _ ⟨.bl _, H, I, rfl, hq⟩
  cases dx with
  | tup a => cases dy with
    | tup b =>
      obtain ⟨p, vs, rfl, _⟩ := has_tup.mp hx
      obtain ⟨p', vs', rfl, _⟩ := has_tup.mp hy
      exact tr hc p p' rfl rfl ⟨a, b, .inl ⟨rfl, rfl⟩⟩
    | non =>
      obtain ⟨p, vs, rfl, e1, e2⟩ := has_tup.mp hx
      cases (show v = Value.ref p from rx)
      rw [has_non.mp hy] at ry
      cases ry
      obtain ⟨us, r1, p1, _⟩ := I.tuple (f.sqT e1)
      exact SeqAt.RcNeAt.tuple_none p1 (by omega) X.prog X.w _ _ ⟨.bl _, H, I, rfl, hq⟩
    | _ => cases hc
  | lst a => cases dy with
    | lst b =>
      obtain ⟨p, vs, rfl, _⟩ := has_lst.mp hx
      obtain ⟨p', vs', rfl, _⟩ := has_lst.mp hy
      exact tr hc p p' rfl rfl ⟨a, b, .inr ⟨rfl, rfl⟩⟩
    | _ => cases hc
  | non => cases dy with
    | str b => exact nr (by rw [has_non.mp hx, has_str.mp hy]; rfl) (by rw [has_non.mp hx, has_str.mp hy]; simp [eqD])
    | non => exact sc rfl
    | tup b =>
      obtain ⟨p, vs, rfl, e1, e2⟩ := has_tup.mp hy
      cases (show u = Value.ref p from ry)
      rw [has_non.mp hx] at rx
      cases rx
      obtain ⟨us, r1, p1, _⟩ := I.tuple (f.sqT e1)
      exact SeqAt.RcNeAt.none_tuple p1 (by omega) X.prog X.w _ _ ⟨.bl _, H, I, rfl, hq⟩
    | _ => cases hc
  | str a => cases dy with
    | non => exact nr (by rw [has_str.mp hx, has_non.mp hy]; rfl) (by rw [has_str.mp hx, has_non.mp hy]; simp [eqD])
    | str b => exact sc rfl
    | _ => cases hc
  | bl a => cases dy with
    | bl b => exact sc rfl
    | _ => cases hc
  | int a => cases dy with
    | int b => exact sc rfl
    | _ => cases hc
  | _ => cases dy <;> cases hc
def fEq (x y : D) : Option D := if cmpE x y = true then some (.bl (eqD x y)) else none
def fNe (x y : D) : Option D := if cmpX x y = true then some (.bl (!eqD x y)) else none
theorem os_eq : OpS q (rEqT q) fEq := fun F H x y dx dy d Q f hx hy e k => by
  unfold fEq at e
  split at e
  · rename_i h
    cases e
    exact ⟨F, dx, dy, f, hx, hy, h, k _ F H .refl f (has_bl.mpr rfl)⟩
  · cases e
theorem os_ne : OpS q (rNeT q) fNe := fun F H x y dx dy d Q f hx hy e k => by
  unfold fNe at e
  split at e
  · rename_i h
    cases e
    exact ⟨F, dx, dy, f, hx, hy, h, k _ F H .refl f (has_bl.mpr rfl)⟩
  · cases e
end
end K46

set_option Elab.async false
set_option linter.all false
set_option maxRecDepth 100000
set_option maxHeartbeats 1000000
/-! operations on data -/
namespace K46
open PySem PySem.Spec PyProof.Rows L2
def OpD (X : Cx) (q : Pm) (op : Value → Value → Sem Value) (f : D → D → Option D) : Prop := ∃ r, OpR X op r ∧ OpS q r f
section
variable {X : Cx} {q : Pm} {op : Value → Value → Sem Value} {f g k : D → D → Option D}
theorem OpD.or (a : OpD X q op f) (b : OpD X q op g) (h : ∀ x y d, k x y = some d → f x y = some d ∨ g x y = some d) : OpD X q op k := by
  obtain ⟨r1, a1, a2⟩ := a
  obtain ⟨r2, b1, b2⟩ := b
  refine ⟨_, a1.or b1, fun F H x y dx dy d Q ft hx hy e kk => ?_⟩
  rcases h dx dy d e with z | z
  · exact .inl (a2 F H x y dx dy d Q ft hx hy z kk)
  · exact .inr (b2 F H x y dx dy d Q ft hx hy z kk)
theorem OpS.pure {r : R2} (h : ∀ F H x y dx dy d Q, Fit q.m F H → Hs q F dx x → Hs q F dy y → f dx dy = some d → (∀ v, Hs q F d v → Q v H) → r x y H Q) : OpS q r f :=
  fun F H x y dx dy d Q ft hx hy e k => h F H x y dx dy d Q ft hx hy e fun v hv => k v F H .refl ft hv
end
/-! ### ints -/
def fI (c : Int → Int → Bool) (g : Int → Int → D) : D → D → Option D
  | .int i, .int j => if c i j = true then some (g i j) else none
  | _, _ => none
theorem osI {q : Pm} {C : Int → Int → Prop} {c : Int → Int → Bool} {g : Int → Int → V} {gd : Int → Int → D} (hc : ∀ i j, c i j = true → C i j) (hg : ∀ F i j, Hs q F (gd i j) (g i j)) : OpS q (rI C g) (fI c gd) := .pure fun F H x y dx dy d Q ft hx hy e k => by
  cases dx with
  | int i => cases dy with
    | int j =>
      have e : (if c i j = true then some (gd i j) else none) = some d := e
      split at e
      · rename_i h
        cases e
        exact ⟨i, j, has_int.mp hx, has_int.mp hy, hc i j h, k _ (hg F i j)⟩
      · cases e
    | _ => cases e
  | _ => cases e
theorem osI0 {q : Pm} {g : Int → Int → V} {gd : Int → Int → D} (hg : ∀ F i j, Hs q F (gd i j) (g i j)) : OpS q (rI0 g) (fI (fun _ _ => true) gd) := .pure fun F H x y dx dy d Q ft hx hy e k => by
  cases dx with
  | int i => cases dy with
    | int j =>
      cases e
      exact ⟨i, j, has_int.mp hx, has_int.mp hy, k _ (hg F i j)⟩
    | _ => cases e
  | _ => cases e
def fAdd : D → D → Option D
  | .int i, .int j => some (.int (i + j))
  | .lst a, .lst b => if a.length + b.length ≤ 100000 then some (.lst (a ++ b)) else none
  | .tup a, .tup b => if a.length + b.length ≤ 100000 then some (.tup (a ++ b)) else none
  | _, _ => none
def fSub : D → D → Option D
  | .int i, .int j => some (.int (i - j))
  | _, _ => none
def mulOk (i j : Int) : Bool := (decide (-(2 ^ 64) < i) && decide (i < 2 ^ 64)) || (decide (-(2 ^ 64) < j) && decide (j < 2 ^ 64))
def fMul : D → D → Option D := fI mulOk fun i j => .int (i * j)
def fDiv : D → D → Option D := fI (fun _ j => decide (0 < j) && decide (j < 1073741824)) fun i j => .int (i / j)
def fMod : D → D → Option D := fI (fun _ j => decide (0 < j)) fun i j => .int (i % j)
def fPow : D → D → Option D := fI (fun i j => decide (0 ≤ j) && decide ((Builtin.Int.intBits i : Int) * j ≤ 2 ^ 27)) fun i j => .int (i ^ j.toNat)
def fLt : D → D → Option D
  | .int i, .int j => some (.bl (decide (i < j)))
  | .tup [.int a, .int b], .tup [.int c, .int d] => some (.bl (HT.lexLt [a, b] [c, d]))
  | _, _ => none
def fLe : D → D → Option D
  | .int i, .int j => some (.bl (decide (i ≤ j)))
  | _, _ => none
def fGt : D → D → Option D
  | .int i, .int j => some (.bl (decide (j < i)))
  | _, _ => none
def fGe : D → D → Option D
  | .int i, .int j => some (.bl (decide (j ≤ i)))
  | _, _ => none
section
variable {X : Cx} {q : Pm}
theorem od_cat : OpD X q (binaryOp .Add) (fun x y => match x, y with | .lst a, .lst b => if a.length + b.length ≤ 100000 then some (.lst (a ++ b)) else none | _, _ => none) := by
  refine ⟨rCat, op_cat, fun F H x y dx dy d Q ft hx hy e k => ?_⟩
  cases dx with
  | lst a => cases dy with
    | lst b =>
      have e : (if a.length + b.length ≤ 100000 then some (D.lst (a ++ b)) else none) = some d := e
      split at e
      · rename_i hl
        cases e
        obtain ⟨p, vs, rfl, e1, e2⟩ := has_lst.mp hx
        obtain ⟨p', vs', rfl, f1, f2⟩ := has_lst.mp hy
        refine ⟨p, p', vs, vs', rfl, rfl, ft.lst e1, ft.lst f1, sz (by rw [e2.length, f2.length]; exact hl), fun z hz => ?_⟩
        have hF := ft.none_of hz
        exact k _ _ _ (.alloc hz hF) (ft.alloc hz) (has_lst.mpr ⟨z, _, rfl, upd_same, (e2.append f2).mono (Stp.alloc (dty := fun _ => False) hz hF).up⟩)
      · cases e
    | _ => cases e
  | _ => cases e
theorem od_catT : OpD X q (binaryOp .Add) (fun x y => match x, y with | .tup a, .tup b => if a.length + b.length ≤ 100000 then some (.tup (a ++ b)) else none | _, _ => none) := by
  refine ⟨rCatA X.K, op_catA, fun F H x y dx dy d Q ft hx hy e k => ?_⟩
  cases dx with
  | tup a => cases dy with
    | tup b =>
      have e : (if a.length + b.length ≤ 100000 then some (D.tup (a ++ b)) else none) = some d := e
      split at e
      · rename_i hl
        cases e
        obtain ⟨p, vs, rfl, e1, e2⟩ := has_tup.mp hx
        obtain ⟨p', vs', rfl, f1, f2⟩ := has_tup.mp hy
        refine ⟨p, p', vs, vs', rfl, rfl, ft.sqT e1, ft.sqT f1, sz (by rw [e2.length, f2.length]; exact hl), fun z => ?_, fun z0 z => ?_, fun _ _ z hz => ?_⟩
        · subst z
          have : a = [] := by have := e2.length; simpa using this.symm
          subst this
          exact k _ F H .refl ft (has_tup.mpr ⟨p', vs', rfl, f1, f2⟩)
        · subst z
          have : b = [] := by have := f2.length; simpa using this.symm
          subst this
          exact k _ F H .refl ft (has_tup.mpr ⟨p, vs, rfl, e1, by simpa using e2⟩)
        · have hF := ft.none_of hz
          exact k _ _ _ (.alloc hz hF) (ft.alloc hz) (has_tup.mpr ⟨z, _, rfl, upd_same, (e2.append f2).mono (Stp.alloc (dty := fun _ => False) hz hF).up⟩)
      · cases e
    | _ => cases e
  | _ => cases e
theorem od_add : OpD X q (binaryOp .Add) fAdd := by
  have h1 : OpD X q (binaryOp .Add) (fI (fun _ _ => true) fun i j => .int (i + j)) := ⟨_, op_add, osI0 fun F i j => has_int.mpr rfl⟩
  refine (h1.or (od_cat.or od_catT (k := fun x y => match x, y with | .lst a, .lst b => if a.length + b.length ≤ 100000 then some (.lst (a ++ b)) else none | .tup a, .tup b => if a.length + b.length ≤ 100000 then some (.tup (a ++ b)) else none | _, _ => none) fun x y d e => ?_) fun x y d e => ?_)
  · cases x with
    | lst a => cases y with
      | lst b => exact .inl e
      | _ => cases e
    | tup a => cases y with
      | tup b => exact .inr e
      | _ => cases e
    | _ => cases e
  · cases x with
    | int a => cases y with
      | int b => exact .inl e
      | _ => cases e
    | lst a => cases y with
      | lst b => exact .inr e
      | _ => cases e
    | tup a => cases y with
      | tup b => exact .inr e
      | _ => cases e
    | _ => cases e
theorem od_sub : OpD X q (binaryOp .Sub) fSub := (show OpD X q (binaryOp .Sub) (fI (fun _ _ => true) fun i j => .int (i - j)) from ⟨_, op_sub, osI0 fun F i j => has_int.mpr rfl⟩).or ⟨_, op_sub, osI0 (gd := fun i j => .int (i - j)) fun F i j => has_int.mpr rfl⟩ fun x y d e => by
  cases x with
  | int a => cases y with
    | int b => exact .inl e
    | _ => cases e
  | _ => cases e
theorem od_mul : OpD X q (binaryOp .Mult) fMul := ⟨_, op_mul, osI (fun i j h => by
  simp only [mulOk, Bool.or_eq_true, Bool.and_eq_true, decide_eq_true_eq] at h
  exact h) fun F i j => has_int.mpr rfl⟩
theorem od_div : OpD X q (binaryOp .FloorDiv) fDiv := ⟨_, op_fdiv, osI (fun i j h => by
  simp only [Bool.and_eq_true, decide_eq_true_eq] at h
  exact h) fun F i j => has_int.mpr rfl⟩
theorem od_mod : OpD X q (binaryOp .Mod) fMod := ⟨_, op_mod, osI (fun i j h => by simpa using h) fun F i j => has_int.mpr rfl⟩
theorem op_powB : OpR X (binaryOp .Pow) (rI (fun i j => 0 ≤ j ∧ (Builtin.Int.intBits i : Int) * j ≤ 2 ^ 27) fun i j => .int (i ^ j.toNat)) := opI fun _ _ _ _ _ _ _ hc k => pow_int hc.1 hc.2 k
theorem od_pow : OpD X q (binaryOp .Pow) fPow := ⟨_, op_powB, osI (fun i j h => by simpa only [Bool.and_eq_true, decide_eq_true_eq] using h) fun F i j => has_int.mpr rfl⟩
theorem od_le : OpD X q (compareOp .LtE) fLe := ⟨_, op_le, fun F H x y dx dy d Q ft hx hy e k => osI0 (g := fun i j => .bl (decide (i ≤ j))) (gd := fun i j => .bl (decide (i ≤ j))) (fun F i j => has_bl.mpr rfl) F H x y dx dy d Q ft hx hy (by cases dx <;> cases dy <;> first | (cases e; done) | exact e) k⟩
theorem od_gt : OpD X q (compareOp .Gt) fGt := ⟨_, op_gt, fun F H x y dx dy d Q ft hx hy e k => osI0 (g := fun i j => .bl (decide (j < i))) (gd := fun i j => .bl (decide (j < i))) (fun F i j => has_bl.mpr rfl) F H x y dx dy d Q ft hx hy (by cases dx <;> cases dy <;> first | (cases e; done) | exact e) k⟩
theorem od_ge : OpD X q (compareOp .GtE) fGe := ⟨_, op_ge, fun F H x y dx dy d Q ft hx hy e k => osI0 (g := fun i j => .bl (decide (j ≤ i))) (gd := fun i j => .bl (decide (j ≤ i))) (fun F i j => has_bl.mpr rfl) F H x y dx dy d Q ft hx hy (by cases dx <;> cases dy <;> first | (cases e; done) | exact e) k⟩
theorem fLt_cases {x y d : D} (e : fLt x y = some d) : (∃ i j, x = .int i ∧ y = .int j ∧ d = .bl (decide (i < j))) ∨ ∃ a b c c', x = .tup [.int a, .int b] ∧ y = .tup [.int c, .int c'] ∧ d = .bl (HT.lexLt [a, b] [c, c']) := by
  unfold fLt at e
  split at e
  · cases e; exact .inl ⟨_, _, rfl, rfl, rfl⟩
  · cases e; exact .inr ⟨_, _, _, _, rfl, rfl, rfl⟩
  · cases e
theorem od_lt (hu : X.A.units < cLine) : OpD X q (compareOp .Lt) fLt := by
  refine ⟨_, op_lt.or (op_ltT hu), fun F H x y dx dy d Q ft hx hy e k => ?_⟩
  rcases fLt_cases e with ⟨i, j, rfl, rfl, rfl⟩ | ⟨a, b, c, c', rfl, rfl, rfl⟩
  · exact .inl ⟨i, j, has_int.mp hx, has_int.mp hy, k _ F H .refl ft (has_bl.mpr rfl)⟩
  · right
    obtain ⟨p, vs, rfl, e1, e2⟩ := has_tup.mp hx
    obtain ⟨p', vs', rfl, f1, f2⟩ := has_tup.mp hy
    have g1 : vs = [a, b].map V.int := (HasL.ints (ns := [a, b])).mp e2
    have g2 : vs' = [c, c'].map V.int := (HasL.ints (ns := [c, c'])).mp f2
    refine ⟨p, p', [a, b], [c, c'], rfl, rfl, ?_, ?_, k _ F H .refl ft (has_bl.mpr rfl)⟩
    · rw [← g1]; exact ft.sqT e1
    · rw [← g2]; exact ft.sqT f1
theorem od_eq (hm : q.m = none) (hu : X.A.units + 8 < cLine) : OpD X q (compareOp .Eq) fEq := ⟨_, op_eqT hm hu, os_eq⟩
theorem od_ne (hm : q.m = none) (hu : X.A.units + 8 < cLine) : OpD X q (compareOp .NotEq) fNe := ⟨_, op_neT hm hu, os_ne⟩
end
/-- == of scalars, whatever is locked -/
def fEqS (x y : D) : Option D := if sK x y = true then some (.bl (eqD x y)) else none
def fNeS (x y : D) : Option D := if sK x y = true then some (.bl (!eqD x y)) else none
section
variable {X : Cx} {q : Pm}
theorem od_eqS : OpD X q (compareOp .Eq) fEqS := ⟨_, op_eq, .pure fun F H x y dx dy d Q ft hx hy e k => by
  unfold fEqS at e
  split at e
  · rename_i h
    cases e
    obtain ⟨a, b⟩ := scal_v h hx hy
    exact ⟨a, by rw [b]; exact k _ (has_bl.mpr rfl)⟩
  · cases e⟩
theorem od_neS : OpD X q (compareOp .NotEq) fNeS := ⟨_, op_ne, .pure fun F H x y dx dy d Q ft hx hy e k => by
  unfold fNeS at e
  split at e
  · rename_i h
    cases e
    obtain ⟨a, b⟩ := scal_v h hx hy
    exact ⟨a, by rw [b]; exact k _ (has_bl.mpr rfl)⟩
  · cases e⟩
end
/-! ### is None -/
def isNon : D → Bool
  | .non => true
  | _ => false
def fIs (x y : D) : Option D := if isNon y = true then some (.bl (isNon x)) else none
def fIsNot (x y : D) : Option D := if isNon y = true then some (.bl (!isNon x)) else none
section
variable {X : Cx} {q : Pm}
theorem isNon_v {F : Hp} {d : D} {v : V} (h : Hs q F d v) : decide (v = .non) = isNon d := by
  cases d with
  | non => rw [has_non.mp h]; rfl
  | bl b => rw [has_bl.mp h]; rfl
  | int i => rw [has_int.mp h]; rfl
  | str x => rw [has_str.mp h]; rfl
  | tup ds => obtain ⟨_, _, rfl, _⟩ := has_tup.mp h; rfl
  | lst ds => obtain ⟨_, _, rfl, _⟩ := has_lst.mp h; rfl
  | dic ks ds => obtain ⟨_, _, rfl, _⟩ := has_dic.mp h; rfl
  | set ns => obtain ⟨_, rfl, _⟩ := has_set.mp h; rfl
  | hou ds => obtain ⟨_, _, _, rfl, _⟩ := has_hou.mp h; rfl
theorem isNon_non {F : Hp} {d : D} {v : V} (h : Hs q F d v) (e : isNon d = true) : v = .non := by
  have := isNon_v h
  rw [e] at this
  simpa using this
theorem od_is : OpD X q (compareOp .Is) fIs := ⟨_, op_isN, .pure fun F H x y dx dy d Q ft hx hy e k => by
  unfold fIs at e
  split at e
  · rename_i h
    cases e
    exact ⟨isNon_non hy h, by rw [isNon_v hx]; exact k _ (has_bl.mpr rfl)⟩
  · cases e⟩
theorem od_isNot : OpD X q (compareOp .IsNot) fIsNot := ⟨_, op_notN, .pure fun F H x y dx dy d Q ft hx hy e k => by
  unfold fIsNot at e
  split at e
  · rename_i h
    cases e
    exact ⟨isNon_non hy h, by rw [isNon_v hx]; exact k _ (has_bl.mpr rfl)⟩
  · cases e⟩
end
end K46

set_option Elab.async false
set_option linter.all false
set_option maxRecDepth 100000
set_option maxHeartbeats 1000000
/-! in, subscripts, slices, calls of built-ins, on data -/
namespace K46
open PySem PySem.Spec PyProof.Rows L2
/-! ### in -/
def allI : List D → Option (List Int)
  | [] => some []
  | .int i :: ds => (allI ds).map (i :: ·)
  | _ :: _ => none
theorem allI_eq : ∀ {ds : List D} {ns : List Int}, allI ds = some ns → ds = ns.map D.int
  | [], ns, e => by cases e; rfl
  | d :: ds, ns, e => by
    cases d with
    | int i =>
      simp only [allI] at e
      cases h : allI ds with
      | none => rw [h] at e; cases e
      | some r => rw [h] at e; cases e; rw [allI_eq h]; rfl
    | _ => cases e
theorem allI_map : ∀ ns : List Int, allI (ns.map D.int) = some ns
  | [] => rfl
  | n :: ns => by simp [allI, allI_map ns]
def allB : List D → Option (List Bool)
  | [] => some []
  | .bl i :: ds => (allB ds).map (i :: ·)
  | _ :: _ => none
theorem allB_eq : ∀ {ds : List D} {ns : List Bool}, allB ds = some ns → ds = ns.map D.bl
  | [], ns, e => by cases e; rfl
  | d :: ds, ns, e => by
    cases d with
    | bl i =>
      simp only [allB] at e
      cases h : allB ds with
      | none => rw [h] at e; cases e
      | some r => rw [h] at e; cases e; rw [allB_eq h]; rfl
    | _ => cases e
theorem allB_map : ∀ ns : List Bool, allB (ns.map D.bl) = some ns
  | [] => rfl
  | n :: ns => by simp [allB, allB_map ns]
/-- pairs of ints -/
def pairD : D → Option (Int × Int)
  | .tup [.int i, .int j] => some (i, j)
  | _ => none
theorem pairD_eq {d : D} {p : Int × Int} (e : pairD d = some p) : d = .tup [.int p.1, .int p.2] := by
  unfold pairD at e
  split at e
  · cases e; rfl
  · cases e
def allP : List D → Option (List (Int × Int))
  | [] => some []
  | d :: ds => (pairD d).bind fun p => (allP ds).map (p :: ·)
theorem allP_eq : ∀ {ds : List D} {ns : List (Int × Int)}, allP ds = some ns → ds = ns.map fun p => D.tup [.int p.1, .int p.2]
  | [], ns, e => by cases e; rfl
  | d :: ds, ns, e => by
    rw [allP] at e
    cases h : pairD d with
    | none => rw [h] at e; cases e
    | some p =>
      rw [h] at e
      cases z : allP ds with
      | none => rw [z] at e; cases e
      | some r => rw [z] at e; cases e; rw [allP_eq z, pairD_eq h]; rfl
theorem allP_map : ∀ ns : List (Int × Int), allP (ns.map fun p => D.tup [.int p.1, .int p.2]) = some ns
  | [] => rfl
  | n :: ns => by simp [allP, allP_map ns, pairD]
def keyOf : D → Option Key := keyD
def fIn : D → D → Option D
  | .str c, .str z => if c.cps.size = 1 then some (.bl (decide (c.cps.getD 0 0 ∈ z.cps.toList))) else none
  | .int i, .lst ds => (allI ds).map fun ns => .bl (decide (i ∈ ns))
  | .tup [.int i, .int j], .lst ds => if ds.length ≤ 100000 then (allP ds).map fun ns => .bl (decide ((i, j) ∈ ns)) else none
  | x, .dic ks ds => (keyD x).map fun k => .bl (luD ks ds k).isSome
  | _, _ => none
def fNotIn (x y : D) : Option D := match fIn x y with
  | some (.bl b) => some (.bl (!b))
  | _ => none
theorem inV_ints (i : Int) : ∀ ns : List Int, inV (.int i) (ns.map V.int) = decide (i ∈ ns)
  | [] => rfl
  | n :: ns => by
    have ih := inV_ints i ns
    have e : inV (.int i) ((n :: ns).map V.int) = ((n == i) || inV (.int i) (ns.map V.int)) := rfl
    rw [e, ih, Bool.eq_iff_iff]
    by_cases h : n = i
    · subst h; simp
    · have : ¬ i = n := fun z => h z.symm
      simp [h, this]
theorem flat_ints : ∀ ns : List Int, (ns.map V.int).all flatV = true
  | [] => rfl
  | n :: ns => by simp [flatV, flat_ints ns]
section
variable {X : Cx} {q : Pm}
def prP (p : Int × Int) : PyData := .tuple [.int p.1, .int p.2]
theorem prP_dp {K : PySem.W.Frag} {F H : Hp} {v : V} {p : Int × Int} (ft : Fit q.m F H) (h : Hs q F (.tup [.int p.1, .int p.2]) v) : Dp K H v (prP p) := by
  obtain ⟨a, vs, rfl, e1, e2⟩ := has_tup.mp h
  have g : vs = [p.1, p.2].map V.int := (HasL.ints (ns := [p.1, p.2])).mp e2
  refine .tup (ft.sqT e1) ?_
  rw [g]
  exact .cons (.int _) (.cons (.int _) .nil)
theorem prPs_dp {K : PySem.W.Frag} {F H : Hp} (ft : Fit q.m F H) : ∀ {ns : List (Int × Int)} {vs : List V}, HsL q F (ns.map fun p => D.tup [.int p.1, .int p.2]) vs → DpAll K H vs (ns.map prP)
  | [], vs, h => by rw [hasL_nil.mp h]; exact .nil
  | n :: ns, vs, h => by
    obtain ⟨v, r, rfl, h2, h3⟩ := hasL_cons.mp h
    exact .cons (prP_dp ft h2) (prPs_dp ft h3)
theorem prP_lay (p : Int × Int) : (prP p).canLay0 = true := by simp [prP, PyData.canLay0, PyData.canLayAll0]
theorem prP_depth (p : Int × Int) : (prP p).depth = 1 := by simp [prP, PyData.depth, PyData.depthAll]
theorem prPs_lay : ∀ ns : List (Int × Int), PyData.canLayAll0 (ns.map prP) = true
  | [] => by simp [PyData.canLayAll0]
  | z :: zs => by simp [PyData.canLayAll0, prP_lay z, prPs_lay zs]
theorem prPs_depth : ∀ ns : List (Int × Int), PyData.depthAll (ns.map prP) ≤ 1
  | [] => by simp [PyData.depthAll]
  | z :: zs => by
    simp only [List.map_cons, PyData.depthAll]
    rw [prP_depth]
    have := prPs_depth zs
    omega
theorem prP_shaped (p : Int × Int) : SeqAt.shaped (prP p) = true := by
  show ((prP p).canLay0 && decide ((prP p).depth ≤ 64)) = true
  rw [prP_lay, prP_depth]; rfl
theorem prPs_shaped (ns : List (Int × Int)) : SeqAt.shaped (.list (ns.map prP)) = true := by
  have h2 : PyData.depth (.list (ns.map prP)) ≤ 64 := by
    simp only [PyData.depth]
    have := prPs_depth ns
    omega
  show (PyData.canLay0 (.list (ns.map prP)) && decide (PyData.depth (.list (ns.map prP)) ≤ 64)) = true
  rw [Bool.and_eq_true]
  exact ⟨by simp only [PyData.canLay0]; exact prPs_lay ns, decide_eq_true h2⟩
theorem prP_eqv (a b : Int × Int) : PyData.eqv (prP a) (prP b) = decide (a = b) := by
  obtain ⟨a1, a2⟩ := a
  obtain ⟨b1, b2⟩ := b
  have e : PyData.eqv (prP (a1, a2)) (prP (b1, b2)) = ((a1 == b1) && ((a2 == b2) && true)) := by simp only [prP, PyData.eqv, PyData.eqvAll]
  rw [e, Bool.eq_iff_iff]
  simp
theorem prP_any (p : Int × Int) : ∀ ns : List (Int × Int), ((ns.map prP).any fun z => PyData.eqv z (prP p)) = decide (p ∈ ns)
  | [] => rfl
  | n :: ns => by
    rw [List.map_cons, List.any_cons, prP_any p ns, prP_eqv]
    by_cases h : n = p
    · subst h; simp
    · have : ¬ p = n := fun z => h z.symm
      simp [h, this]
theorem fIn_cases {x y d : D} (e : fIn x y = some d) : (∃ c z, x = .str ⟨#[c]⟩ ∧ y = .str z ∧ d = .bl (decide (c ∈ z.cps.toList))) ∨ (∃ (i : Int) (ns : List Int), x = .int i ∧ y = .lst (ns.map D.int) ∧ d = .bl (decide (i ∈ ns))) ∨
    (∃ (p : Int × Int) (ns : List (Int × Int)), x = .tup [.int p.1, .int p.2] ∧ y = .lst (ns.map fun p : Int × Int => D.tup [.int p.1, .int p.2]) ∧ d = .bl (decide (p ∈ ns))) ∨ ∃ k ks ds, keyD x = some k ∧ y = .dic ks ds ∧ d = .bl (luD ks ds k).isSome := by
  unfold fIn at e
  split at e
  · rename_i c z
    split at e
    · rename_i h
      cases e
      left
      obtain ⟨⟨l⟩⟩ := c
      match l, h with
      | [c], _ => exact ⟨c, z, rfl, rfl, rfl⟩
    · cases e
  · rename_i i ds
    cases h : allI ds with
    | none => rw [h] at e; cases e
    | some ns => rw [h] at e; cases e; exact .inr (.inl ⟨i, ns, rfl, by rw [allI_eq h], rfl⟩)
  · rename_i i j ds
    split at e
    · cases h : allP ds with
      | none => rw [h] at e; cases e
      | some ns => rw [h] at e; cases e; exact .inr (.inr (.inl ⟨(i, j), ns, rfl, by rw [allP_eq h], rfl⟩))
    · cases e
  · rename_i ks ds
    cases h : keyD x with
    | none => rw [h] at e; cases e
    | some k => rw [h] at e; cases e; exact .inr (.inr (.inr ⟨k, ks, ds, rfl, rfl, rfl⟩))
  · cases e
theorem dget {F H : Hp} {ks : List Key} {ds : List D} {a : Addr} {vs : List V} (ft : Fit q.m F H) (e1 : F a = some (.dK (ks.zip vs))) (e2 : HsL q F ds vs) (k : Key) : (luD ks ds k = none ∧ DGet H a (kV k) none) ∨ ∃ d v, luD ks ds k = some d ∧ Hs q F d v ∧ DGet H a (kV k) (some v) := by
  rcases luD_val e2 k with ⟨n1, n2⟩ | ⟨d, v, n1, n2, n3⟩
  · exact .inl ⟨n1, .inl ⟨_, k, ft.rd e1, rfl, n2.symm⟩⟩
  · exact .inr ⟨d, v, n1, n3, .inl ⟨_, k, ft.rd e1, rfl, n2.symm⟩⟩
def rInT (X : Cx) (q : Pm) (neg : Bool) : R2 := fun x y H Q => ∃ F dx dy b, Fit q.m F H ∧ Hs q F dx x ∧ Hs q F dy y ∧ fIn dx dy = some (.bl b) ∧ Q (.bl (if neg = true then !b else b)) H
theorem op_inT (hu : X.A.units + 65 < cLine) : OpR X (compareOp .In) (rInT X q false) := by
  intro pins s σ H x y v u Q I rx ry h
  obtain ⟨F, dx, dy, b, ft, hx, hy, e, hq⟩ := h
  have hq : Q (.bl b) H := hq
  rcases fIn_cases e with ⟨c, z, rfl, rfl, eb⟩ | ⟨i, ns, rfl, rfl, eb⟩ | ⟨p, ns, rfl, rfl, eb⟩ | ⟨k, ks, ds, ek, rfl, eb⟩
  · cases eb
    exact op_in_sign pins s σ H x y v u Q I rx ry ⟨c, z, has_str.mp hx, has_str.mp hy, hq⟩
  · cases eb
    obtain ⟨a, vs, rfl, e1, e2⟩ := has_lst.mp hy
    rw [HasL.ints.mp e2] at e1
    refine op_in_seq pins s σ H x _ v u Q I rx ry ⟨a, ns.map V.int, rfl, .inl (ft.sqL e1), by rw [has_int.mp hx]; rfl, flat_ints ns, ?_⟩
    rw [has_int.mp hx]
    show Q (.bl (inV (.int i) (ns.map V.int))) H
    rw [inV_ints]; exact hq
  · cases eb
    obtain ⟨a, vs, rfl, e1, e2⟩ := has_lst.mp hy
    refine op_inD hu pins s σ H x _ v u Q I rx ry ⟨prP p, ns.map prP, prP_dp ft hx, .lst (ft.sqL e1) (prPs_dp ft e2), prP_shaped p, prPs_shaped ns, ?_⟩
    rw [prP_any]; exact hq
  · cases eb
    obtain ⟨a, vs, rfl, e1, el, e2⟩ := has_dic.mp hy
    cases (show u = Value.ref a from ry)
    have ex : x = kV k := keyD_v hx ek
    rcases dget ft e1 e2 k with ⟨n1, g⟩ | ⟨d, v', n1, _, g⟩
    · rw [n1] at hq
      exact d_in (by omega) I g (by rw [← ex]; exact rx) fun s' I' => ⟨.bl false, H, I', rfl, hq⟩
    · rw [n1] at hq
      exact d_in (by omega) I g (by rw [← ex]; exact rx) fun s' I' => ⟨.bl true, H, I', rfl, hq⟩
theorem op_notInT (hu : X.A.units + 65 < cLine) : OpR X (compareOp .NotIn) (rInT X q true) := by
  intro pins s σ H x y v u Q I rx ry h
  obtain ⟨F, dx, dy, b, ft, hx, hy, e, hq⟩ := h
  have hq : Q (.bl (!b)) H := hq
  rcases fIn_cases e with ⟨c, z, rfl, rfl, eb⟩ | ⟨i, ns, rfl, rfl, eb⟩ | ⟨p, ns, rfl, rfl, eb⟩ | ⟨k, ks, ds, ek, rfl, eb⟩
  · cases eb
    exact op_notIn_sign pins s σ H x y v u Q I rx ry ⟨c, z, has_str.mp hx, has_str.mp hy, hq⟩
  · cases eb
    obtain ⟨a, vs, rfl, e1, e2⟩ := has_lst.mp hy
    rw [HasL.ints.mp e2] at e1
    refine op_notIn_seq pins s σ H x _ v u Q I rx ry ⟨a, ns.map V.int, rfl, .inl (ft.sqL e1), by rw [has_int.mp hx]; rfl, flat_ints ns, ?_⟩
    rw [has_int.mp hx]
    show Q (.bl (!inV (.int i) (ns.map V.int))) H
    rw [inV_ints]; exact hq
  · cases eb
    obtain ⟨a, vs, rfl, e1, e2⟩ := has_lst.mp hy
    refine op_notInD hu pins s σ H x _ v u Q I rx ry ⟨prP p, ns.map prP, prP_dp ft hx, .lst (ft.sqL e1) (prPs_dp ft e2), prP_shaped p, prPs_shaped ns, ?_⟩
    rw [prP_any]; exact hq
  · cases eb
    obtain ⟨a, vs, rfl, e1, el, e2⟩ := has_dic.mp hy
    cases (show u = Value.ref a from ry)
    have ex : x = kV k := keyD_v hx ek
    rcases dget ft e1 e2 k with ⟨n1, g⟩ | ⟨d, v', n1, _, g⟩
    · rw [n1] at hq
      exact d_notIn (by omega) I g (by rw [← ex]; exact rx) fun s' I' => ⟨.bl true, H, I', rfl, hq⟩
    · rw [n1] at hq
      exact d_notIn (by omega) I g (by rw [← ex]; exact rx) fun s' I' => ⟨.bl false, H, I', rfl, hq⟩
theorem od_in (hu : X.A.units + 65 < cLine) : OpD X q (compareOp .In) fIn := ⟨_, op_inT (q := q) hu, .pure fun F H x y dx dy d Q ft hx hy e k => by
  have : ∃ b, d = .bl b := by
    rcases fIn_cases e with ⟨_, _, _, _, z⟩ | ⟨_, _, _, _, z⟩ | ⟨_, _, _, _, z⟩ | ⟨_, _, _, _, _, z⟩ <;> exact ⟨_, z⟩
  obtain ⟨b, rfl⟩ := this
  exact ⟨F, dx, dy, b, ft, hx, hy, e, k _ (has_bl.mpr rfl)⟩⟩
theorem od_notIn (hu : X.A.units + 65 < cLine) : OpD X q (compareOp .NotIn) fNotIn := ⟨_, op_notInT (q := q) hu, .pure fun F H x y dx dy d Q ft hx hy e k => by
  unfold fNotIn at e
  split at e
  · rename_i b eb
    cases e
    exact ⟨F, dx, dy, b, ft, hx, hy, eb, k _ (has_bl.mpr rfl)⟩
  · cases e⟩
end
/-! ### subscripts -/
def atD (ds : List D) (i : Int) : Option D := (ixN ds.length i).bind fun j => ds[j]?
def fIx : D → D → Option D
  | .lst ds, .int i => atD ds i
  | .tup ds, .int i => atD ds i
  | .dic ks ds, x => (keyD x).bind fun k => luD ks ds k
  | _, _ => none
section
variable {X : Cx} {q : Pm}
theorem atD_v {F : Hp} {ds : List D} {vs : List V} {i : Int} {d : D} (h : HsL q F ds vs) (e : atD ds i = some d) : ∃ v, atI vs i = some v ∧ Hs q F d v := by
  unfold atD at e
  cases z : ixN ds.length i with
  | none => rw [z] at e; cases e
  | some j =>
    rw [z] at e
    obtain ⟨v, e1, e2⟩ := h.get e
    refine ⟨v, ?_, e2⟩
    unfold atI
    rw [h.length, z]
    exact e1
def rIxD : R2 := fun x y H Q => ∃ a v, x = .ref a ∧ DGet H a y (some v) ∧ Q v H
theorem ix_dict (hu : X.A.units + 1 < cLine) : IxR X rIxD := by
  intro value slice pins s σ H x y v u Q I rx ry h hs
  obtain ⟨a, z, rfl, g, hq⟩ := h
  cases (show v = Value.ref a from rx)
  exact tail_any (ops := [.ref a, u]) (dict_typeIs I g) PySem.F.slot_dict_getitem.lookup (d_getItem hu I g ry fun w' s3 I3 rw' => ⟨z, H, I3, rw', hq⟩) hs
end
end K46

set_option Elab.async false
set_option linter.all false
set_option maxRecDepth 100000
set_option maxHeartbeats 1000000
/-! subscripts, slices, calls of built-ins, on data -/
namespace K46
open PySem PySem.Spec PyProof.Rows L2
section
variable {X : Cx} {q : Pm}
theorem ixD (hu : X.A.units + 1 < cLine) : ∃ r, IxR X r ∧ OpS q r fIx := by
  refine ⟨_, (ix_list.or ix_tup).or (ix_dict hu), .pure fun F H x y dx dy d Q ft hx hy e k => ?_⟩
  cases dx with
  | lst ds => cases dy with
    | int i =>
      obtain ⟨a, vs, rfl, e1, e2⟩ := has_lst.mp hx
      obtain ⟨v, g1, g2⟩ := atD_v e2 e
      exact .inl (.inl ⟨a, vs, i, v, rfl, has_int.mp hy, ft.sqL e1, g1, k v g2⟩)
    | _ => cases e
  | tup ds => cases dy with
    | int i =>
      obtain ⟨a, vs, rfl, e1, e2⟩ := has_tup.mp hx
      obtain ⟨v, g1, g2⟩ := atD_v e2 e
      exact .inl (.inr ⟨a, vs, i, v, rfl, has_int.mp hy, ft.sqT e1, g1, k v g2⟩)
    | _ => cases e
  | dic ks ds =>
    obtain ⟨a, vs, rfl, e1, el, e2⟩ := has_dic.mp hx
    cases h : keyD dy with
    | none =>
      have e : (keyD dy).bind (fun k => luD ks ds k) = some d := by cases dy <;> exact e
      rw [h] at e; cases e
    | some kk =>
      have e : (keyD dy).bind (fun k => luD ks ds k) = some d := by cases dy <;> exact e
      rw [h] at e
      have e : luD ks ds kk = some d := e
      rcases dget ft e1 e2 kk with ⟨n1, _⟩ | ⟨d', v, n1, n2, n3⟩
      · rw [n1] at e; cases e
      · rw [n1] at e; cases e
        exact .inr ⟨a, v, rfl, by rw [keyD_v hy h]; exact n3, k v n2⟩
  | _ => cases e
end
/-! ### slices -/
def cutD (xs : List D) (lo hi : Option Int) : List D := (xs.drop (HT.sIx xs.length 0 lo)).take (HT.sIx xs.length xs.length hi - HT.sIx xs.length 0 lo)
def fSl (lo hi : Option Int) : D → Option D
  | .tup ds => some (.tup (cutD ds lo hi))
  | .lst ds => some (.lst (cutD ds lo hi))
  | _ => none
theorem cut_has {w : World} {C : Addr} {F : Hp} {ds : List D} {vs : List V} {lo hi : Option Int} (h : HasL w C F ds vs) : HasL w C F (cutD ds lo hi) (cutV vs lo hi) := by
  unfold cutD cutV
  rw [h.length]
  exact (h.drop _).take _
section
variable {X : Cx} {q : Pm} {e : Expr} {te : DTE} {pos p2 : Pos}
theorem l_sl {lo hi : Option Int} {σ : L2.St} {H : Hp} {Q : VK} (h : lE q (d1 (fSl lo hi) te) σ H Q) : lE q te σ H fun x H1 => rSlA X.K x lo hi H1 Q ∨ rSlL X.K x lo hi H1 Q := by
  obtain ⟨F, al, dty, δ, R, c, t, k⟩ := h
  refine ⟨F, al, dty, δ, _, c, t, fun x dx δ1 F1 H1 s1 c1 hx t1 => ?_⟩
  obtain ⟨d, hf, hR⟩ := t1
  cases dx with
  | tup ds =>
    cases hf
    obtain ⟨a, vs, rfl, e1, e2⟩ := has_tup.mp hx
    left
    refine ⟨a, vs, rfl, c1.fit.sqT e1, fun hw => ?_, fun hw z hz => ?_⟩
    · have hd : cutD ds lo hi = ds := by
        unfold cutD
        rw [← e2.length, hw.1, hw.2]
        rw [List.drop_zero, Nat.sub_zero, e2.length, List.take_length]
      rw [hd] at hR
      exact k _ _ δ1 F1 H1 s1 c1 hx hR
    · have hF := c1.fit.none_of hz
      have st : Stp0 F1 H1 (upd F1 z (.tup (cutV vs lo hi))) (upd H1 z (.tup (cutV vs lo hi))) := .alloc hz hF
      exact k _ _ δ1 _ _ (s1.trans0 st.any) (c1.step0 st (c1.fit.alloc hz)) (has_tup.mpr ⟨z, _, rfl, upd_same, (cut_has e2).mono st.up⟩) hR
  | lst ds =>
    cases hf
    obtain ⟨a, vs, rfl, e1, e2⟩ := has_lst.mp hx
    right
    refine ⟨a, vs, rfl, c1.fit.sqL e1, fun z hz => ?_⟩
    have hF := c1.fit.none_of hz
    have st : Stp0 F1 H1 (upd F1 z (.lst (cutV vs lo hi))) (upd H1 z (.lst (cutV vs lo hi))) := .alloc hz hF
    exact k _ _ δ1 _ _ (s1.trans0 st.any) (c1.step0 st (c1.fit.alloc hz)) (has_lst.mpr ⟨z, _, rfl, upd_same, (cut_has e2).mono st.up⟩) hR
  | _ => cases hf
theorem de_slLo {n : Int} {j pn} (h : DE X q e te) : DE X q (.Subscript e (.Slice (some (.Constant (.int n) j pn)) none none p2) pos) (d1 (fSl (some n) none) te) :=
  PE.imp (pe_slice (sl_tupA.or sl_list) h (po_some pe_int) po_none) fun σ H Q h => by
    have := l_sl (X := X) h
    obtain ⟨F, al, dty, δ, R, c, t, k⟩ := this
    exact ⟨F, al, dty, δ, R, c, t, fun v d δ' F' H' s c hv hR => ⟨n, rfl, k v d δ' F' H' s c hv hR⟩⟩
theorem de_slHi {n : Int} {j pn} (h : DE X q e te) : DE X q (.Subscript e (.Slice none (some (.Constant (.int n) j pn)) none p2) pos) (d1 (fSl none (some n)) te) :=
  PE.imp (pe_slice (sl_tupA.or sl_list) h po_none (po_some pe_int)) fun σ H Q h => by
    have := l_sl (X := X) h
    obtain ⟨F, al, dty, δ, R, c, t, k⟩ := this
    exact ⟨F, al, dty, δ, R, c, t, fun v d δ' F' H' s c hv hR => ⟨n, rfl, k v d δ' F' H' s c hv hR⟩⟩
end
/-! ### unary minus -/
def fNeg : D → Option D
  | .int i => some (.int (-i))
  | _ => none
theorem us_neg {q : Pm} : UnS q (rU fun i => .int (-i)) fNeg := fun F H x dx d Q ft hx e k => by
  cases dx with
  | int i => cases e; exact ⟨i, has_int.mp hx, k _ F H .refl ft (has_int.mpr rfl)⟩
  | _ => cases e
/-! ### calls -/
abbrev GL := List D → (D → Prop) → Prop
/-- what a call answers, on data: every answer that may come -/
def CallP (q : Pm) (r : List V → Hp → VK → Prop) (g : GL) : Prop := ∀ F H xs ds R Q, Fit q.m F H → HsL q F ds xs → g ds R → (∀ v d F' H', Stp0 F H F' H' → Fit q.m F' H' → Hs q F' d v → R d → Q v H') → r xs H Q
def dP (g : GL) (ta : DTA) : DTE := fun δ R => ta δ fun xs δ1 => g xs fun d => R d δ1
def gf (f : List D → Option D) : GL := fun ds R => ∃ d, f ds = some d ∧ R d
theorem CallP.fn {q : Pm} {r : List V → Hp → VK → Prop} {f : List D → Option D} (h : CallS q r f) : CallP q r (gf f) := fun F H xs ds R Q ft hx ⟨d, e, hR⟩ k => h F H xs ds d Q ft hx e fun v F' H' s f' hv => k v d F' H' s f' hv hR
theorem CallP.or {q : Pm} {r r' : List V → Hp → VK → Prop} {g g' k : GL} (a : CallP q r g) (b : CallP q r' g') (h : ∀ ds R, k ds R → g ds R ∨ g' ds R) : CallP q (fun xs H Q => r xs H Q ∨ r' xs H Q) k := fun F H xs ds R Q ft hx hg kk => by
  rcases h ds R hg with z | z
  · exact .inl (a F H xs ds R Q ft hx z kk)
  · exact .inr (b F H xs ds R Q ft hx z kk)
section
variable {X : Cx} {q : Pm} {e : Expr} {es : List Expr} {t : DTA} {p pos : Pos} {x : Str} {id T : String} {r : List V → Hp → VK → Prop} {g : GL}
theorem l_callP {σ : L2.St} {H : Hp} {Q : VK} (hs : CallP q r g) (h : lE q (dP g t) σ H Q) : tCB r (lA q t) σ H Q := by
  obtain ⟨F, al, dty, δ, R, c, t, k⟩ := h
  refine ⟨F, al, dty, δ, _, c, t, fun xs ds δ1 F1 H1 s1 c1 hx t1 => ?_⟩
  exact hs F1 H1 xs ds _ Q c1.fit hx t1 fun v d F3 H3 s3 f3 hv hR => k v d δ1 F3 H3 (s1.trans0 s3.any) (c1.step0 s3 f3) hv hR
/-- a built-in function -/
theorem de_cb (hc : CallR X (.builtin id) r) (hs : CallP q r g) (hg : Gl X x) (hm : X.mg x = none) (hv : bootBuiltins x = some (.builtin id)) (ha : DA X q (e :: es) t) (hn : x ≠ "__name__" := by decide) (hdb : (x == ("__debug__" : Str)) = false := by decide)
    (he : starEach (e :: es) X.env = (false, eval e X.env) :: starEach es X.env := by rfl) (hpl : (backTo pos (starEach es X.env)).any (·.1) = false := by rfl) : DE X q (.Call (.Name x p) (e :: es) [] pos) (dP g t) := PE.imp (pe_callB hc hg hm hv ha hn hdb he hpl) fun σ H Q h => l_callP hs h
/-- a built-in type -/
theorem de_ct (hc : CallR X (.type T) r) (hs : CallP q r g) (hg : Gl X x) (hm : X.mg x = none) (hv : bootBuiltins x = some (.type T)) (ha : DA X q (e :: es) t) (hn : x ≠ "__name__" := by decide) (hdb : (x == ("__debug__" : Str)) = false := by decide)
    (he : starEach (e :: es) X.env = (false, eval e X.env) :: starEach es X.env := by rfl) (hpl : (backTo pos (starEach es X.env)).any (·.1) = false := by rfl) : DE X q (.Call (.Name x p) (e :: es) [] pos) (dP g t) := PE.imp (pe_callTy hc hg hm hv ha hn hdb he hpl) fun σ H Q h => l_callP hs h
end
/-! #### len, abs, max, min, int, all -/
def fLen : List D → Option D
  | [.lst ds] => some (.int ds.length)
  | [.tup ds] => some (.int ds.length)
  | [.dic ks ds] => if ks.length = ds.length then some (.int ks.length) else none
  | [.str z] => if z.length ≤ 100000 then some (.int z.length) else none
  | [.set ns] => if ns.length < 1000 then some (.int ns.length) else none
  | _ => none
def fAbs : List D → Option D
  | [.int i] => some (.int (if i < 0 then -i else i))
  | _ => none
def fMax : List D → Option D
  | [.int i, .int j] => some (.int (if j > i then j else i))
  | _ => none
def fMin : List D → Option D
  | [.int i, .int j] => some (.int (if j < i then j else i))
  | _ => none
def fInt : List D → Option D
  | [.int i] => some (.int i)
  | [.bl b] => some (.int (if b then 1 else 0))
  | _ => none
def fAll : List D → Option D
  | [.lst ds] => (allB ds).map fun bs => .bl (bs.all id)
  | _ => none
def fTuple : List D → Option D
  | [.lst ds] => some (.tup ds)
  | [.tup ds] => some (.tup ds)
  | _ => none
def fList : List D → Option D
  | [.lst ds] => some (.lst ds)
  | [.tup ds] => some (.lst ds)
  | [.dic ks ds] => if ks.length = ds.length then some (.lst (ks.map kD)) else none
  | _ => none
section
variable {X : Cx} {q : Pm}
theorem has1 {F : Hp} {d : D} {xs : List V} (h : HsL q F [d] xs) : ∃ v, xs = [v] ∧ Hs q F d v := by
  obtain ⟨v, r, rfl, h2, h3⟩ := hasL_cons.mp h
  rw [hasL_nil.mp h3]
  exact ⟨v, rfl, h2⟩
theorem has2 {F : Hp} {d e : D} {xs : List V} (h : HsL q F [d, e] xs) : ∃ v u, xs = [v, u] ∧ Hs q F d v ∧ Hs q F e u := by
  obtain ⟨v, r, rfl, h2, h3⟩ := hasL_cons.mp h
  obtain ⟨u, rfl, h4⟩ := has1 h3
  exact ⟨v, u, rfl, h2, h4⟩
theorem call_lenDR : CallR X (.builtin "len") (fun xs H Q => ∃ a kvs, xs = [V.ref a] ∧ Rd H a (.dK kvs) ∧ Q (.int kvs.length) H) := by
  intro pins s σ H xs us Q I r h
  obtain ⟨a, kvs, rfl, ha, q⟩ := h
  obtain ⟨u, rfl, ru⟩ := vals1 r
  cases ru
  exact d_len I ha fun t s' I' => ⟨.int kvs.length, H, I', ⟨t, rfl⟩, q⟩
theorem call_lenSet : CallR X (.builtin "len") (fun xs H Q => ∃ (a : Addr) (S : Int → Bool) (n : Nat), xs = [V.ref a] ∧ H a = some (SetO X.w a S n) ∧ n < 1000 ∧ Q (.int n) H) := by
  intro pins s σ H xs us Q I r h
  obtain ⟨a, S, n, rfl, ha, hn, q⟩ := h
  obtain ⟨o, es, ep, t, ho, hex, hd, _, _, _, _, hf, hz, _⟩ := setO_get I ha
  rw [Vals.ref1 r]
  exact call_len_set ho hex hd hf (by omega) ⟨.int n, H, I.tok _, ⟨_, by rw [hz]⟩, q⟩
theorem cp_len : CallP q (fun xs H Q => ((∃ p ys, xs = [.ref p] ∧ (SqL X.K H p ys ∨ SqT X.K H p ys) ∧ Q (.int ys.length) H) ∨ (∃ z, xs = [.str z] ∧ z.length ≤ sizeLine ∧ Q (.int z.length) H)) ∨
    ((∃ a kvs, xs = [V.ref a] ∧ Rd H a (.dK kvs) ∧ Q (.int kvs.length) H) ∨ ∃ (a : Addr) (S : Int → Bool) (n : Nat), xs = [V.ref a] ∧ H a = some (SetO q.w a S n) ∧ n < 1000 ∧ Q (.int n) H)) (gf fLen) := .fn fun F H xs ds d Q ft hx e k => by
  unfold fLen at e
  split at e
  · cases e
    obtain ⟨v, rfl, h⟩ := has1 hx
    obtain ⟨p, vs, rfl, e1, e2⟩ := has_lst.mp h
    exact .inl (.inl ⟨p, vs, rfl, .inl (ft.sqL e1), by rw [e2.length]; exact k _ F H .refl ft (has_int.mpr rfl)⟩)
  · cases e
    obtain ⟨v, rfl, h⟩ := has1 hx
    obtain ⟨p, vs, rfl, e1, e2⟩ := has_tup.mp h
    exact .inl (.inl ⟨p, vs, rfl, .inr (ft.sqT e1), by rw [e2.length]; exact k _ F H .refl ft (has_int.mpr rfl)⟩)
  · split at e
    · rename_i hl
      cases e
      obtain ⟨v, rfl, h⟩ := has1 hx
      obtain ⟨p, vs, rfl, e1, el, e2⟩ := has_dic.mp h
      exact .inr (.inl ⟨p, _, rfl, ft.rd e1, by rw [List.length_zip, el, Nat.min_self, ← el]; exact k _ F H .refl ft (has_int.mpr rfl)⟩)
    · cases e
  · split at e
    · rename_i hl
      cases e
      obtain ⟨v, rfl, h⟩ := has1 hx
      exact .inl (.inr ⟨_, by rw [has_str.mp h], sz hl, k _ F H .refl ft (has_int.mpr rfl)⟩)
    · cases e
  · split at e
    · rename_i hl
      cases e
      obtain ⟨v, rfl, h⟩ := has1 hx
      obtain ⟨p, rfl, e1⟩ := has_set.mp h
      exact .inr (.inr ⟨p, _, _, rfl, ft.ext e1, hl, k _ F H .refl ft (has_int.mpr rfl)⟩)
    · cases e
  · cases e
theorem call_lenAll : CallR X (.builtin "len") (fun xs H Q => ((∃ p ys, xs = [.ref p] ∧ (SqL X.K H p ys ∨ SqT X.K H p ys) ∧ Q (.int ys.length) H) ∨ (∃ z, xs = [.str z] ∧ z.length ≤ sizeLine ∧ Q (.int z.length) H)) ∨
    ((∃ a kvs, xs = [V.ref a] ∧ Rd H a (.dK kvs) ∧ Q (.int kvs.length) H) ∨ ∃ (a : Addr) (S : Int → Bool) (n : Nat), xs = [V.ref a] ∧ H a = some (SetO X.w a S n) ∧ n < 1000 ∧ Q (.int n) H)) :=
  (call_len_seq.or call_len_str).or (call_lenDR.or call_lenSet)
theorem cp_abs : CallP q (fun xs H Q => ∃ i, xs = [.int i] ∧ Q (.int (if i < 0 then -i else i)) H) (gf fAbs) := .fn fun F H xs ds d Q ft hx e k => by
  unfold fAbs at e
  split at e
  · cases e
    obtain ⟨v, rfl, h⟩ := has1 hx
    exact ⟨_, by rw [has_int.mp h], k _ F H .refl ft (has_int.mpr rfl)⟩
  · cases e
theorem cp_max : CallP q (fun xs H Q => ∃ i j, xs = [.int i, .int j] ∧ Q (.int (if j > i then j else i)) H) (gf fMax) := .fn fun F H xs ds d Q ft hx e k => by
  unfold fMax at e
  split at e
  · cases e
    obtain ⟨v, u, rfl, h, h2⟩ := has2 hx
    exact ⟨_, _, by rw [has_int.mp h, has_int.mp h2], k _ F H .refl ft (has_int.mpr rfl)⟩
  · cases e
theorem cp_min : CallP q (fun xs H Q => ∃ i j, xs = [.int i, .int j] ∧ Q (.int (if j < i then j else i)) H) (gf fMin) := .fn fun F H xs ds d Q ft hx e k => by
  unfold fMin at e
  split at e
  · cases e
    obtain ⟨v, u, rfl, h, h2⟩ := has2 hx
    exact ⟨_, _, by rw [has_int.mp h, has_int.mp h2], k _ F H .refl ft (has_int.mpr rfl)⟩
  · cases e
theorem cp_int : CallP q (fun xs H Q => (∃ i, xs = [.int i] ∧ Q (.int i) H) ∨ ∃ k, xs = [.bl k] ∧ Q (.int (if k then 1 else 0)) H) (gf fInt) := .fn fun F H xs ds d Q ft hx e k => by
  unfold fInt at e
  split at e
  · cases e
    obtain ⟨v, rfl, h⟩ := has1 hx
    exact .inl ⟨_, by rw [has_int.mp h], k _ F H .refl ft (has_int.mpr rfl)⟩
  · cases e
    obtain ⟨v, rfl, h⟩ := has1 hx
    exact .inr ⟨_, by rw [has_bl.mp h], k _ F H .refl ft (has_int.mpr rfl)⟩
  · cases e
theorem cp_all : CallP q (rAll X.K) (gf fAll) := .fn fun F H xs ds d Q ft hx e k => by
  unfold fAll at e
  split at e
  · rename_i ls
    cases z : allB ls with
    | none => rw [z] at e; cases e
    | some bs =>
      rw [z] at e
      cases e
      obtain ⟨v, rfl, h⟩ := has1 hx
      obtain ⟨p, vs, rfl, e1, e2⟩ := has_lst.mp h
      rw [allB_eq z] at e2
      rw [HasL.bls.mp e2] at e1
      exact ⟨p, bs, rfl, ft.sqL e1, k _ F H .refl ft (has_bl.mpr rfl)⟩
  · cases e
theorem newL {F H : Hp} {z : Addr} {ds : List D} {vs : List V} {dd : D} {Q : VK} (ft : Fit q.m F H) (hz : H z = none) (hv : HsL q F ds vs) (k : ∀ v F' H', Stp0 F H F' H' → Fit q.m F' H' → Hs q F' (.lst ds) v → Q v H') : Q (.ref z) (upd H z (.lst vs)) := by
  have hF := ft.none_of hz
  have st : Stp0 F H (upd F z (.lst vs)) (upd H z (.lst vs)) := .alloc hz hF
  exact k _ _ _ st (ft.alloc hz) (has_lst.mpr ⟨z, _, rfl, upd_same, hv.mono st.up⟩)
theorem newT {F H : Hp} {z : Addr} {ds : List D} {vs : List V} {dd : D} {Q : VK} (ft : Fit q.m F H) (hz : H z = none) (hv : HsL q F ds vs) (k : ∀ v F' H', Stp0 F H F' H' → Fit q.m F' H' → Hs q F' (.tup ds) v → Q v H') : Q (.ref z) (upd H z (.tup vs)) := by
  have hF := ft.none_of hz
  have st : Stp0 F H (upd F z (.tup vs)) (upd H z (.tup vs)) := .alloc hz hF
  exact k _ _ _ st (ft.alloc hz) (has_tup.mpr ⟨z, _, rfl, upd_same, hv.mono st.up⟩)
theorem cp_tuple : CallP q (fun xs H Q => ∃ p ys, xs = [.ref p] ∧ ((SqL X.K H p ys ∧ ∀ l, H l = none → Q (.ref l) (upd H l (.tup ys))) ∨ (SqT X.K H p ys ∧ Q (.ref p) H))) (gf fTuple) := .fn fun F H xs ds d Q ft hx e k => by
  unfold fTuple at e
  split at e
  · cases e
    obtain ⟨v, rfl, h⟩ := has1 hx
    obtain ⟨p, vs, rfl, e1, e2⟩ := has_lst.mp h
    exact ⟨p, vs, rfl, .inl ⟨ft.sqL e1, fun l hl => newT (dd := .non) ft hl e2 k⟩⟩
  · cases e
    obtain ⟨v, rfl, h⟩ := has1 hx
    obtain ⟨p, vs, rfl, e1, e2⟩ := has_tup.mp h
    exact ⟨p, vs, rfl, .inr ⟨ft.sqT e1, k _ F H .refl ft h⟩⟩
  · cases e
theorem keys_has {F : Hp} : ∀ {ks : List Key} {vs : List V}, ks.length = vs.length → HsL q F (ks.map kD) ((ks.zip vs).map fun kv => kV kv.1)
  | [], _, _ => .nil
  | k :: ks, [], h => by cases h
  | k :: ks, v :: vs, h => .cons (has_kD k) (keys_has (by simpa using h))
theorem cp_list : CallP q (fun xs H Q => (∃ p ys, xs = [.ref p] ∧ (SqL X.K H p ys ∨ SqT X.K H p ys) ∧ ∀ l, H l = none → Q (.ref l) (upd H l (.lst ys))) ∨
    ∃ (a : Addr) (kvs : List (Key × V)), xs = [.ref a] ∧ Rd H a (.dK kvs) ∧ ∀ p, H p = none → Q (.ref p) (upd H p (.lst (kvs.map fun kv => kV kv.1)))) (gf fList) := .fn fun F H xs ds d Q ft hx e k => by
  unfold fList at e
  split at e
  · cases e
    obtain ⟨v, rfl, h⟩ := has1 hx
    obtain ⟨p, vs, rfl, e1, e2⟩ := has_lst.mp h
    exact .inl ⟨p, vs, rfl, .inl (ft.sqL e1), fun l hl => newL (dd := .non) ft hl e2 k⟩
  · cases e
    obtain ⟨v, rfl, h⟩ := has1 hx
    obtain ⟨p, vs, rfl, e1, e2⟩ := has_tup.mp h
    exact .inl ⟨p, vs, rfl, .inr (ft.sqT e1), fun l hl => newL (dd := .non) ft hl e2 k⟩
  · split at e
    · rename_i hl
      cases e
      obtain ⟨v, rfl, h⟩ := has1 hx
      obtain ⟨p, vs, rfl, e1, el, e2⟩ := has_dic.mp h
      exact .inr ⟨p, _, rfl, ft.rd e1, fun l hl => newL (dd := .non) ft hl (keys_has el) k⟩
    · cases e
  · cases e
/-! #### sorted -/
/-- ints in order, each once -/
def insU (i : Int) : List Int → List Int
  | [] => [i]
  | j :: js => if i < j then i :: j :: js else if i = j then j :: js else j :: insU i js
def sortU : List Int → List Int
  | [] => []
  | i :: is => insU i (sortU is)
theorem mem_insU {i j : Int} : ∀ {l : List Int}, j ∈ insU i l ↔ j = i ∨ j ∈ l
  | [] => by simp [insU]
  | a :: l => by
    unfold insU
    split
    · simp
    · split
      · rename_i h; subst h; simp
      · rw [List.mem_cons, mem_insU, List.mem_cons]
        constructor
        · rintro (h | h | h) <;> simp [h]
        · rintro (h | h | h) <;> simp [h]
theorem mem_sortU {j : Int} : ∀ {l : List Int}, j ∈ sortU l ↔ j ∈ l
  | [] => by simp [sortU]
  | a :: l => by rw [sortU, mem_insU, mem_sortU, List.mem_cons]
theorem insU_asc {i : Int} : ∀ {l : List Int}, l.Pairwise (· < ·) → (insU i l).Pairwise (· < ·)
  | [], _ => by simp [insU]
  | a :: l, h => by
    have h' := List.pairwise_cons.mp h
    unfold insU
    split
    · rename_i hi
      refine List.pairwise_cons.mpr ⟨fun x hx => ?_, h⟩
      rcases List.mem_cons.mp hx with e | e
      · rw [e]; exact hi
      · exact Int.lt_trans hi (h'.1 x e)
    · split
      · exact h
      · rename_i h1 h2
        refine List.pairwise_cons.mpr ⟨fun x hx => ?_, insU_asc h'.2⟩
        rcases mem_insU.mp hx with e | e
        · rw [e]; omega
        · exact h'.1 x e
theorem sortU_asc : ∀ l : List Int, (sortU l).Pairwise (· < ·)
  | [] => .nil
  | a :: l => insU_asc (sortU_asc l)
/-- ascending lists with the same members are the same -/
theorem asc_ext : ∀ {a b : List Int}, a.Pairwise (· < ·) → b.Pairwise (· < ·) → (∀ k, k ∈ a ↔ k ∈ b) → a = b
  | [], [], _, _, _ => rfl
  | [], y :: ys, _, _, h => by have := (h y).mpr (by simp); cases this
  | x :: xs, [], _, _, h => by have := (h x).mp (by simp); cases this
  | x :: xs, y :: ys, ha, hb, h => by
    have ha' := List.pairwise_cons.mp ha
    have hb' := List.pairwise_cons.mp hb
    have e : x = y := by
      have h1 := (h x).mp (by simp)
      have h2 := (h y).mpr (by simp)
      rcases List.mem_cons.mp h1 with z | z
      · exact z
      · rcases List.mem_cons.mp h2 with z' | z'
        · exact z'.symm
        · have := ha'.1 y z'
          have := hb'.1 x z
          omega
    subst e
    have : xs = ys := asc_ext ha'.2 hb'.2 fun k => by
      constructor
      · intro hk
        rcases List.mem_cons.mp ((h k).mp (List.mem_cons_of_mem _ hk)) with z | z
        · have := ha'.1 k hk; omega
        · exact z
      · intro hk
        rcases List.mem_cons.mp ((h k).mpr (List.mem_cons_of_mem _ hk)) with z | z
        · have := hb'.1 k hk; omega
        · exact z
    rw [this]
theorem sortU_len : ∀ l : List Int, (sortU l).length ≤ l.length := by
  intro l
  induction l with
  | nil => exact Nat.le_refl 0
  | cons a l ih =>
    have : ∀ (i : Int) (l : List Int), (insU i l).length ≤ l.length + 1 := by
      intro i l
      induction l with
      | nil => simp [insU]
      | cons b l ih =>
        unfold insU
        split
        · simp
        · split
          · simp
          · simpa using ih
    exact Nat.le_trans (this a _) (by simpa using ih)
/-- sorted: of a set of ints, its members in order; of distinct ints likewise; of texts, some order of them -/
def gSorted : GL := fun ds R => match ds with
  | [.set ns] => ns.Pairwise (· < ·) ∧ ns.length < 64 ∧ R (.lst (ns.map D.int))
  | [.lst ls] => (∃ ns, ls = ns.map D.int ∧ ns.Nodup ∧ ns.length < 64 ∧ R (.lst ((sortU ns).map D.int))) ∨ ∃ ss : List Str, ls = ss.map D.str ∧ ss.length < 64 ∧ ∀ ys : List Str, ys.Perm ss → R (.lst (ys.map D.str))
  | [.dic ks vs] => (∃ ns : List Int, ks = ns.map Sum.inl ∧ ks.length = vs.length ∧ ns.Nodup ∧ ns.length < 64 ∧ R (.lst ((sortU ns).map D.int))) ∨ ∃ ss : List Str, ks = ss.map Sum.inr ∧ ks.length = vs.length ∧ ss.length < 64 ∧ ∀ ys : List Str, ys.Perm ss → R (.lst (ys.map D.str))
  | _ => False
theorem perm_sortU {ns ys : List Int} (hn : ns.Nodup) (hp : ys.Perm ns) (hs : ys.Pairwise (· ≤ ·)) : ys = sortU ns := by
  refine asc_ext ?_ (sortU_asc ns) fun k => by rw [mem_sortU, hp.mem_iff]
  have hd : ys.Nodup := hp.symm.nodup hn
  exact List.Pairwise.imp₂ (fun a b h1 h2 => by omega) hs hd
def rSortedAll (X : Cx) : List V → Hp → VK → Prop := fun xs H Q => ((rSorted X.K xs H Q ∨ rSortedS X.K xs H Q) ∨ rSortedSet X.w xs H Q) ∨
  ((∃ (a : Addr) (kvs : List (Key × V)) (ks : List Int), xs = [.ref a] ∧ Rd H a (.dK kvs) ∧ kvs.map (·.1) = ks.map Sum.inl ∧ ks.length < 64 ∧
    ∀ (ys : List Int) (p : Addr), ys.Perm ks → ys.Pairwise (· ≤ ·) → H p = none → Q (.ref p) (upd H p (.lst (ys.map V.int)))) ∨
  (∃ (a : Addr) (kvs : List (Key × V)) (ks : List Str), xs = [.ref a] ∧ Rd H a (.dK kvs) ∧ kvs.map (·.1) = ks.map Sum.inr ∧ ks.length < 64 ∧
    ∀ ys p, ys.Perm ks → sortedS ys = true → H p = none → Q (.ref p) (upd H p (.lst (ys.map V.str)))))
theorem call_sortedAll (hc : X.calm = true) : CallR X (.builtin "sorted") (rSortedAll X) := ((cr_sorted.or cr_sortedS).or (cr_sortedSet hc)).or ((call_sortedDI hc).or (call_sortedD hc))
theorem cp_sorted (hw : q.w = X.w) : CallP q (rSortedAll X) gSorted := fun F H xs ds R Q ft hx hg k => by
  unfold gSorted at hg
  split at hg
  · obtain ⟨h1, h2, h3⟩ := hg
    obtain ⟨v, rfl, h⟩ := has1 hx
    obtain ⟨p, rfl, e1⟩ := has_set.mp h
    refine .inl (.inr ⟨p, _, _, rfl, by rw [← hw]; exact ft.ext e1, h2, fun ms l hs hm hl hz => ?_⟩)
    have : ms = _ := asc_ext hs h1 fun kk => by rw [hm kk]; simp
    subst this
    exact newL (dd := .non) ft hz (HasL.ints.mpr rfl) fun v F' H' s f' hv => k v _ F' H' s f' hv h3
  · obtain ⟨v, rfl, h⟩ := has1 hx
    obtain ⟨p, vs, rfl, e1, e2⟩ := has_lst.mp h
    rcases hg with ⟨ns, rfl, hn, h2, h3⟩ | ⟨ss, rfl, h2, h3⟩
    · rw [HasL.ints.mp e2] at e1
      refine .inl (.inl (.inl ⟨p, ns, rfl, ft.sqL e1, h2, fun ms l hp hs hz => ?_⟩))
      rw [perm_sortU hn hp hs]
      exact newL (dd := .non) ft hz (HasL.ints.mpr rfl) fun v F' H' s f' hv => k v _ F' H' s f' hv h3
    · rw [HasL.strs.mp e2] at e1
      refine .inl (.inl (.inr ⟨p, ss, rfl, ft.sqL e1, h2, fun ys l hp hs hz => ?_⟩))
      exact newL (dd := .non) ft hz (HasL.strs.mpr rfl) fun v F' H' s f' hv => k v _ F' H' s f' hv (h3 ys hp)
  · obtain ⟨v, rfl, h⟩ := has1 hx
    obtain ⟨p, vs, rfl, e1, el, e2⟩ := has_dic.mp h
    rcases hg with ⟨ns, rfl, hl, hn, h2, h3⟩ | ⟨ss, rfl, hl, h2, h3⟩
    · refine .inr (.inl ⟨p, _, ns, rfl, ft.rd e1, by rw [List.map_fst_zip (by omega)], h2, fun ms l hp hs hz => ?_⟩)
      rw [perm_sortU hn hp hs]
      exact newL (dd := .non) ft hz (HasL.ints.mpr rfl) fun v F' H' s f' hv => k v _ F' H' s f' hv h3
    · refine .inr (.inr ⟨p, _, ss, rfl, ft.rd e1, by rw [List.map_fst_zip (by omega)], h2, fun ys l hp hs hz => ?_⟩)
      exact newL (dd := .non) ft hz (HasL.strs.mpr rfl) fun v F' H' s f' hv => k v _ F' H' s f' hv (h3 ys hp)
  · cases hg
end
end K46

set_option Elab.async false
set_option linter.all false
set_option maxRecDepth 100000
namespace L2
open PySem PySem.Spec PyProof.Rows
section
variable {P : Program} {w : World} {A : Around} {E : Value → Shared → Prop} {s : Shared}
set_option maxRecDepth 100000 in
set_option maxHeartbeats 3200000 in
theorem k46_set_list {l : Addr} {items : Array Value} (ns : List Int) {Q : Value → Shared → Prop} (hh : A.handled = none) (hl : s.heap.IsList l items) (hit : IntsAre items.toList ns) (hb : ns.length + 1 < scanBound)
    (h : ∀ (h' : Heap) (tk c : Nat), SetR w h' s.heap.objs.size (fun j => decide (j ∈ ns)) c → c ≤ ns.length → (∀ b o, s.heap.get? b = some o → h'.get? b = some o) → Q (.ref s.heap.objs.size) { s with heap := h', toks := tk }) :
    wpAny (model P w) A (call (.type "set") [.ref l]) Q E s := by
  have hisz : items.size = ns.length := by
    have q := IntsAre.length hit
    rw [Array.length_toList] at q
    exact q
  obtain ⟨c, tl, hmro⟩ := F.called_set.mro
  have hmade := F.called_set.made
  have hsub := F.called_set.sub
  refine wpAny_call (codeAny_of_tree ?_)
  show wpAny _ _ (callAny (.type "set") _) _ _ _
  refine wpAny_pure ⟨Code.quiet_builtin _ (by decide +kernel), codeAny_builtin F.entry_type_call ?_⟩
  rw [Around.under_plain (weight_type_call_type "set" [.ref l] []) rfl]
  have h1 := F.called_set.notType
  have h2 := F.called_set.canCreate
  have hct := F.typeCall_set_1 (.ref l)
  repeat (any_goals (first | assumption | wp_step))

  refine codeAny_mono (code_set_led1 (.ref l) (E := E) (Q₁ := fun obj s₁ => obj = .ref s.heap.objs.size ∧ s₁ = { s with heap := s.heap.push { cls := .type "set", dict := none, data := .set #[] 0 (.fresh 0 0 (!w.params.followText "set-order")) } }) ⟨rfl, rfl⟩) fun r s₁ hr => ?_
  cases r with
  | error e => exact hr
  | ok fl =>
    cases fl with
    | ret obj =>
      obtain ⟨rfl, rfl⟩ := hr
      have hS : (s.heap.push { cls := .type "set", dict := none, data := .set #[] 0 (.fresh 0 0 (!w.params.followText "set-order")) }).get? s.heap.objs.size = some { cls := .type "set", dict := none, data := .set #[] 0 (.fresh 0 0 (!w.params.followText "set-order")) } := Heap.get?_push_size _ rfl
      have hT : Shared.TypeIs { s with heap := s.heap.push { cls := .type "set", dict := none, data := .set #[] 0 (.fresh 0 0 (!w.params.followText "set-order")) } } (.ref s.heap.objs.size) "set" := ⟨_, hS, rfl⟩
      have hli := F.called_set.init.lookup
      have hbi := F.called_set.init.bind (.ref s.heap.objs.size)
      repeat (any_goals (first | assumption | wp_step))

      refine codeAny_mono (codeAny_call_builtin (R := wants (fun r s₂ => r = .none ∧ ∃ h' tk c, s₂ = { s with heap := h', toks := tk } ∧ SetR w h' s.heap.objs.size (fun j => decide (j ∈ ns)) c ∧ c ≤ ns.length ∧
          (∀ b o, s.heap.get? b = some o → h'.get? b = some o)) E) F.called_set.init.plain F.entry_set_init (check_set_init_1 hT ?_)) fun r₂ s₂ hr₂ => ?_
      · obtain ⟨ol, hol, hcl, nl, hdl⟩ := hl
        obtain ⟨ocls, odict, odata, oslots⟩ := ol
        simp only at hcl hdl
        subst hcl; subst hdl
        have hol' : (s.heap.push { cls := .type "set", dict := none, data := .set #[] 0 (.fresh 0 0 (!w.params.followText "set-order")) }).get? l = some { cls := .type "list", dict := odict, data := .seq items nl, slots := oslots } := Heap.get?_push_of_some _ hol
        have hsls := F.sub_list_set
        have hslf := F.sub_list_frozenset
        have hne : (Value.type "list" == Value.type "dict") = false := by decide
        have hl1 : (s.heap.push { cls := .type "set", dict := none, data := .set #[] 0 (.fresh 0 0 (!w.params.followText "set-order")) }).IsList l items := ⟨_, hol', rfl, nl, rfl⟩
        unfold Builtin.«set.__init__» noKeywords Builtin.Frozenset.updateFrom
        generalize hPI : pyIter = PI
        wp_walk
        subst hPI

        refine wpAny_pyIter_list hl1 ?_
        refine wpAny_bind (wpAny_runValue ?_)
        have hlS : l < s.heap.objs.size := Heap.lt_size hol
        have hh3 : A.in1.in1.in1.handled = none := by simp [hh]
        have hz1 : (s.heap.push { cls := .type "set", dict := none, data := .set #[] 0 (.fresh 0 0 (!w.params.followText "set-order")) }).objs.size = s.heap.objs.size + 1 := Heap.size_push ..
        have hneI : l ≠ (s.heap.push { cls := .type "set", dict := none, data := .set #[] 0 (.fresh 0 0 (!w.params.followText "set-order")) }).objs.size := by
          rw [Heap.size_push]; exact Nat.ne_of_lt (Nat.lt_succ_of_lt hlS)
        have hSf : s.heap.objs.size ∉ [(s.heap.push { cls := .type "set", dict := none, data := .set #[] 0 (.fresh 0 0 (!w.params.followText "set-order")) }).objs.size, l] := by
          rw [Heap.size_push]; simp only [List.mem_cons, List.mem_singleton, List.not_mem_nil, or_false, not_or]
          exact ⟨Nat.ne_of_lt (Nat.lt_succ_self _), Nat.ne_of_gt hlS⟩
        have hval : ∀ (i : Nat) (v : Value), items[i]? = some v → ∃ k t, ns[i]? = some k ∧ v = .int k t := fun i v hv => by
          have hi : i < ns.length := by rw [← hisz]; exact (Array.getElem?_eq_some_iff.mp hv).1
          obtain ⟨t, e⟩ := PyProof.Rows.IntsAre.int_at hit i v (by rw [Array.getElem?_toList]; exact hv)
          refine ⟨ns[i], t, List.getElem?_eq_getElem hi, ?_⟩
          rw [e, List.getD_eq_getElem?_getD, List.getElem?_eq_getElem hi] <;> rfl
        refine set_update_ints ((Walks.list hh3 _ l hneI items).toS) s.heap.objs.size
          hSf ns hisz hb hval (items.size - 0) 0 _ (by omega) (Nat.zero_le _)
          ⟨⟨_, Heap.get?_push_size _ rfl, rfl, rfl⟩, (hl1.push _)⟩ ?hS0 ?hR
        case hS0 =>
          have hget : ((s.heap.push { cls := .type "set", dict := none, data := .set #[] 0 (.fresh 0 0 (!w.params.followText "set-order")) }).push { cls := .type "list_iterator", data := .fields #[.ref l, .int 0 0] }).get? s.heap.objs.size
              = some { cls := .type "set", dict := none, data := .set #[] 0 (.fresh 0 0 (!w.params.followText "set-order")) } := Heap.get?_push_of_some _ hS
          exact ⟨0, Nat.le_refl 0, setR_new_at hget⟩
        case hR =>
          intro s' c' hm hc' hS'
          obtain ⟨h', g2, d', tk', os'⟩ := s'
          have eg : g2 = s.gens := hm.gens
          have ed : d' = s.drawn := hm.drawn
          have eo : os' = s.os := hm.os
          subst eg; subst ed; subst eo
          show wpAny _ _ _ _ _ _
          refine wpAny_pure ?_
          show wpAny _ _ (ret Value.none) _ _ _
          rw [hisz] at hc'
          refine wpAny_pure ⟨rfl, h', tk', c', rfl, hS', hc', fun b o e => ?_⟩
          have hb0 : b < s.heap.objs.size := Heap.lt_size e
          have hb1 : b ≠ s.heap.objs.size := Nat.ne_of_lt hb0
          have hb2 : b ≠ (s.heap.push { cls := .type "set", dict := none, data := .set #[] 0 (.fresh 0 0 (!w.params.followText "set-order")) }).objs.size := by
            rw [Heap.size_push]; exact Nat.ne_of_lt (Nat.lt_succ_of_lt hb0)
          exact hm.heap b o (by simp only [List.mem_cons, List.mem_singleton, List.not_mem_nil, or_false, not_or]; exact ⟨hb1, hb2⟩) (Heap.get?_push_of_some _ (Heap.get?_push_of_some _ e))

      · cases r₂ with
        | error e => exact hr₂
        | ok fl₂ =>
          cases fl₂ with
          | ret r =>
            obtain ⟨rfl, h', tk, c', rfl, hS', hc', hk'⟩ := hr₂
            repeat (any_goals (first | assumption | wp_step))
            exact h _ _ _ hS' hc' hk'
          | _ => exact hr₂.elim
    | _ => exact hr.elim

end
end L2

set_option Elab.async false
set_option linter.all false
set_option maxRecDepth 100000
set_option maxHeartbeats 1000000
/-! more calls, on data -/
namespace K46
open PySem PySem.Spec PyProof.Rows L2
/-! ### set(list) -/
def fSet : List D → Option D
  | [.lst ds] => if ds.length ≤ 1000 then (allI ds).map fun ns => .set (sortU ns) else none
  | _ => none
def rSetL (X : Cx) : List V → Hp → VK → Prop := fun xs H Q => ∃ p ns, xs = [.ref p] ∧ SqL X.K H p (ns.map V.int) ∧ ns.length ≤ 1000 ∧ ∀ z, H z = none → Q (.ref z) (upd H z (SetO X.w z (fun k => decide (k ∈ sortU ns)) (sortU ns).length))
theorem setR_len {w : World} {h : Heap} {a : Addr} {S : Int → Bool} {c : Nat} {ns : List Int} (R : SetR w h a S c) (hS : ∀ k, S k = decide (k ∈ ns)) : c = (sortU ns).length := by
  obtain ⟨o, es, ep, t, _, _, _, _, hn, hm, _, _, hz, _⟩ := R
  have hp : (es.toList.map L2.keyOf).Perm (sortU ns) := by
    refine (List.perm_ext_iff_of_nodup hn ?_).mpr fun k => ?_
    · exact List.Pairwise.imp (fun h => Int.ne_of_lt h) (sortU_asc ns)
    · rw [← hm k, hS k, mem_sortU]; simp
  have := hp.length_eq
  rw [List.length_map, Array.length_toList, hz] at this
  exact this
section
variable {X : Cx} {q : Pm}
theorem call_setL (hc : X.calm = true) : CallR X (.type "set") (rSetL X) := by
  intro pins s σ H xs us Q I r h
  obtain ⟨p, ns, rfl, hq, hl, k⟩ := h
  obtain ⟨its, rv, pl, _⟩ := I.list hq
  rw [Vals.ref1 r]
  refine k46_set_list ns (I.ok.hd hc) pl.isList (by simpa using rv.ints) (by unfold scanBound; omega) fun h' tk c R hcl keep => ?_
  have e := setR_len R fun k => rfl
  rw [e] at R
  have R' := R.congr (S' := fun k => decide (k ∈ sortU ns)) fun k => by
    rw [Bool.eq_iff_iff]; simp [mem_sortU]
  have hn := I.hok.fresh (Nat.le_refl s.heap.objs.size)
  exact ⟨.ref s.heap.objs.size, _, I.laid (t' := tk) (fun b ob e => keep b ob e) (Nat.le_refl _) (setO_new R'), rfl, k _ hn⟩
theorem cp_set (hw : q.w = X.w) : CallP q (rSetL X) (gf fSet) := .fn fun F H xs ds d Q ft hx e k => by
  unfold fSet at e
  split at e
  · rename_i ls
    split at e
    · rename_i hl
      cases z : allI ls with
      | none => rw [z] at e; cases e
      | some ns =>
        rw [z] at e
        cases e
        obtain ⟨v, rfl, h⟩ := has1 hx
        obtain ⟨p, vs, rfl, e1, e2⟩ := has_lst.mp h
        rw [allI_eq z] at e2 hl
        rw [HasL.ints.mp e2] at e1
        rw [List.length_map] at hl
        refine ⟨p, ns, rfl, ft.sqL e1, hl, fun a ha => ?_⟩
        have hF := ft.none_of ha
        exact k _ _ _ (.alloc ha hF) (ft.alloc ha) (has_set.mpr ⟨a, rfl, by rw [hw]; exact upd_same⟩)
    · cases e
  · cases e
end
/-! ### isinstance -/
def isiT (T : String) (d : D) : Option Bool := if T = "int" then (match d with | .int _ => some true | .bl _ => some true | .non => some false | .str _ => some false | .tup _ => some false | .lst _ => some false | .dic _ _ => some false | _ => none)
  else if T = "bool" then (match d with | .int _ => some false | .bl _ => some true | .non => some false | .str _ => some false | .tup _ => some false | .lst _ => some false | .dic _ _ => some false | _ => none)
  else if T = "str" then (match d with | .int _ => some false | .bl _ => some false | .non => some false | .str _ => some true | .tup _ => some false | .lst _ => some false | .dic _ _ => some false | _ => none)
  else if T = "tuple" then (match d with | .int _ => some false | .bl _ => some false | .non => some false | .str _ => some false | .tup _ => some true | .lst _ => some false | .dic _ _ => some false | _ => none)
  else if T = "dict" then (match d with | .int _ => some false | .bl _ => some false | .non => some false | .str _ => some false | .tup _ => some false | .lst _ => some false | .dic _ _ => some true | _ => none)
  else none
def typD : D → String
  | .non => "NoneType" | .bl _ => "bool" | .int _ => "int" | .str _ => "str" | .tup _ => "tuple" | .lst _ => "list" | .dic _ _ => "dict" | _ => ""
def dIsi (T : String) (te : DTE) : DTE := fun δ R => te δ fun d δ1 => ∃ b, isiT T d = some b ∧ R (.bl b) δ1
theorem isiT_kit {T : String} {d : D} {b : Bool} (h : isiT T d = some b) : kitB (typD d) T = some b := by
  unfold isiT at h
  split at h
  · rename_i e; subst e
    cases d <;> first | (cases h; done) | (cases h; dsimp only [typD]; decide +kernel)
  · split at h
    · rename_i e; subst e
      cases d <;> first | (cases h; done) | (cases h; dsimp only [typD]; decide +kernel)
    · split at h
      · rename_i e; subst e
        cases d <;> first | (cases h; done) | (cases h; dsimp only [typD]; decide +kernel)
      · split at h
        · rename_i e; subst e
          cases d <;> first | (cases h; done) | (cases h; dsimp only [typD]; decide +kernel)
        · split at h
          · rename_i e; subst e
            cases d <;> first | (cases h; done) | (cases h; dsimp only [typD]; decide +kernel)
          · cases h
section
variable {X : Cx} {q : Pm} {e : Expr} {te : DTE} {p pT pos : Pos}
theorem tyD {K : PySem.W.Frag} {T : String} {F H : Hp} {d : D} {v : V} {b : Bool} (ft : Fit q.m F H) (h : Hs q F d v) (hb : isiT T d = some b) : TyX K H v (.type (typD d)) := by
  cases d with
  | non => rw [has_non.mp h]; exact .base .non
  | bl x => rw [has_bl.mp h]; exact .base (.bl x)
  | int i => rw [has_int.mp h]; exact .base (.int i)
  | str x => rw [has_str.mp h]; exact .base (.str x)
  | tup ds => obtain ⟨a, vs, rfl, e1, _⟩ := has_tup.mp h; exact .base (.tup (ft.tup e1))
  | lst ds => obtain ⟨a, vs, rfl, e1, _⟩ := has_lst.mp h; exact .base (.lst (ft.lst e1))
  | dic ks ds =>
    obtain ⟨a, vs, rfl, e1, _⟩ := has_dic.mp h
    rcases ft.rd e1 with z | ⟨o, z⟩
    · exact .base (.dK z)
    · exact .fDict z
  | set ns => exfalso; unfold isiT at hb; repeat (split at hb <;> try (cases hb; done))
  | hou ds => exfalso; unfold isiT at hb; repeat (split at hb <;> try (cases hb; done))
theorem de_isi {xT : Str} {T : String} (hg : Gl X "isinstance") (hm : X.mg "isinstance" = none) (hgT : Gl X xT) (hmT : X.mg xT = none) (h : DE X q e te) (hvT : bootBuiltins xT = some (.type T) := by rfl) (hv : bootBuiltins "isinstance" = some (.builtin "isinstance") := by rfl)
    (hn : xT ≠ "__name__" := by decide) (hdT : (xT == ("__debug__" : Str)) = false := by decide) (he1 : starEach [.Name xT pT] X.env = (false, eval (.Name xT pT) X.env) :: starEach [] X.env := by rfl)
    (he : starEach [e, .Name xT pT] X.env = (false, eval e X.env) :: starEach [.Name xT pT] X.env := by rfl) (hpl : (backTo pos (starEach [.Name xT pT] X.env)).any (·.1) = false := by rfl) : DE X q (.Call (.Name "isinstance" p) [e, .Name xT pT] [] pos) (dIsi T te) :=
  PE.imp (pe_callB call_isi hg hm hv (pa_cons h (pa_cons (pe_bltn hgT hmT hvT (v := .ty T) rfl hn hdT) pa_nil he1) he) (by decide) (by decide) he hpl) fun σ H Q h => by
    obtain ⟨F, al, dty, δ, R, c, t, k⟩ := h
    refine ⟨F, al, dty, δ, _, c, t, fun x d δ1 F1 H1 s1 c1 hx hR => ?_⟩
    obtain ⟨b, hb, hR⟩ := hR
    exact ⟨x, .ty T, .type (typD d), .type T, b, rfl, .ty T, tyD c1.fit hx hb, kit_ty (isiT_kit hb), k _ _ δ1 F1 H1 s1 c1 (has_bl.mpr rfl) hR⟩
/-- isinstance(e, House) of a house -/
def dIsiC (te : DTE) : DTE := fun δ R => te δ fun d δ1 => (∃ ds, d = .hou ds) ∧ R (.bl true) δ1
theorem de_isiC {xC : Str} (ic : C8.InsC X.K q.C) (hg : Gl X "isinstance") (hm : X.mg "isinstance" = none) (hgT : Gl X xC) (hmT : X.mg xC = some (.ref q.C)) (h : DE X q e te) (hv : bootBuiltins "isinstance" = some (.builtin "isinstance") := by rfl)
    (hdT : (xC == ("__debug__" : Str)) = false := by decide) (he1 : starEach [.Name xC pT] X.env = (false, eval (.Name xC pT) X.env) :: starEach [] X.env := by rfl)
    (he : starEach [e, .Name xC pT] X.env = (false, eval e X.env) :: starEach [.Name xC pT] X.env := by rfl) (hpl : (backTo pos (starEach [.Name xC pT] X.env)).any (·.1) = false := by rfl) : DE X q (.Call (.Name "isinstance" p) [e, .Name xC pT] [] pos) (dIsiC te) :=
  PE.imp (pe_callB (C8.call_isC ic) hg hm hv (pa_cons h (pa_cons (pe_glob hgT hmT (v := .ref q.C) rfl hdT) pa_nil he1) he) (by decide) (by decide) he hpl) fun σ H Q h => by
    obtain ⟨F, al, dty, δ, R, c, t, k⟩ := h
    refine ⟨F, al, dty, δ, _, c, t, fun x d δ1 F1 H1 s1 c1 hx hR => ?_⟩
    obtain ⟨⟨ds, rfl⟩, hR⟩ := hR
    obtain ⟨a, dx, vs, rfl, e1, e2⟩ := has_hou.mp hx
    exact ⟨a, dx, _, rfl, c1.fit.ins e1, k _ _ δ1 F1 H1 s1 c1 (has_bl.mpr rfl) hR⟩
/-! ### the house's games -/
def fGames : D → Option D
  | .hou [g, _, _] => some g
  | _ => none
theorem de_games (cl : Cls X.K q.C) (na : NoAttr X.K q.C "own_games") (h : DE X q e te) (hb : attributeBase e "own_games" X.env (eval e X.env) = eval e X.env := by rfl) : DE X q (.Attribute e "own_games" pos) (d1 fGames te) :=
  PE.imp (pe_fld h hb) fun σ H Q h => by
    obtain ⟨F, al, dty, δ, R, c, t, k⟩ := h
    refine ⟨F, al, dty, δ, _, c, t, fun x d δ1 F1 H1 s1 c1 hx hR => ?_⟩
    obtain ⟨dd, hf, hR⟩ := hR
    unfold fGames at hf
    split at hf
    · cases hf
      obtain ⟨a, dx, vs, rfl, e1, e2⟩ := has_hou.mp hx
      obtain ⟨v1, r1, rfl, a1, b1⟩ := hasL_cons.mp e2
      obtain ⟨v2, r2, rfl, a2, b2⟩ := hasL_cons.mp b1
      obtain ⟨v3, rfl, a3⟩ := has1 b2
      exact ⟨a, q.C, dx, _, v1, rfl, c1.fit.ins e1, cl, na, rfl, k _ _ δ1 F1 H1 s1 c1 a1 hR⟩
    · cases hf
/-! ### d.get(k, x), l.index(x) -/
def dGet2 (td ty tx : DTE) : DTE := fun δ R => td δ fun d δ1 => ∃ ks ds, d = .dic ks ds ∧ ty δ1 fun k δ2 => tx δ2 fun z δ3 => ∃ kk, keyD k = some kk ∧ R ((luD ks ds kk).getD z) δ3
theorem de_get2 {e2 e3 : Expr} {ty tx : DTE} {apos cpos : Pos} (hu : X.A.units + 1 < cLine) (h : DE X q e te) (h2 : DE X q e2 ty) (h3 : DE X q e3 tx) (m : M2 X e "get" apos e2 e3 cpos) : DE X q (.Call (.Attribute e "get" apos) [e2, e3] [] cpos) (dGet2 te ty tx) :=
  PE.imp (pe_dget2 hu h h2 h3 m) fun σ H Q h => by
    obtain ⟨F, al, dty, δ, R, c, t, k⟩ := h
    refine ⟨F, al, dty, δ, _, c, t, fun x d δ1 F1 H1 s1 c1 hx hR => ?_⟩
    obtain ⟨ks, ds, rfl, hR⟩ := hR
    obtain ⟨a, vs, rfl, e1, el, ev⟩ := has_dic.mp hx
    refine ⟨a, rfl, .inl ⟨_, c1.fit.rd e1⟩, F1, al, dty, δ1, _, c1, hR, fun y dk δ2 F2 H2 s2 c2 hy hR => ?_⟩
    refine ⟨F2, al, dty, δ2, _, c2, hR, fun z dz δ3 F3 H3 s3 c3 hz hR => ?_⟩
    obtain ⟨kk, hk, hR⟩ := hR
    have ey : y = kV kk := keyD_v hy hk
    have s13 := (s1.trans0 s2).trans0 s3
    rcases dget c3.fit (s3.up _ _ (s2.up _ _ e1)) (ev.mono (s2.up.trans s3.up)) kk with ⟨n1, g⟩ | ⟨d', v', n1, n2, g⟩
    · refine ⟨none, by rw [ey]; exact g, ?_⟩
      rw [n1] at hR
      exact k _ _ δ3 F3 H3 s13 c3 hz hR
    · refine ⟨some v', by rw [ey]; exact g, ?_⟩
      rw [n1] at hR
      exact k _ _ δ3 F3 H3 s13 c3 n2 hR
def dIdx (te : DTE) (t : DTA) : DTE := fun δ R => te δ fun d δ1 => ∃ ns : List Int, d = .lst (ns.map D.int) ∧ t δ1 fun xs δ2 => ∃ i, xs = [.int i] ∧ i ∈ ns ∧ R (.int (ns.idxOf i : Nat)) δ2
theorem idxOf_lt {i : Int} {ns : List Int} (h : i ∈ ns) : ns[ns.idxOf i]? = some i ∧ ∀ m, m < ns.idxOf i → ∀ z, ns[m]? = some z → (z == i) = false := by
  induction ns with
  | nil => cases h
  | cons n ns ih =>
    rw [List.idxOf_cons]
    by_cases e : (n == i) = true
    · rw [e]
      have e' : n = i := by simpa using e
      subst e'
      exact ⟨rfl, fun m hm => by simp at hm⟩
    · have e0 : (n == i) = false := by simpa using e
      rw [e0]
      have hi : i ∈ ns := by
        rcases List.mem_cons.mp h with z | z
        · rw [z] at e; simp at e
        · exact z
      obtain ⟨a, b⟩ := ih hi
      refine ⟨by simpa using a, fun m hm z hz => ?_⟩
      cases m with
      | zero => simp at hz; rw [← hz]; exact e0
      | succ m => exact b m (by simpa using hm) z (by simpa using hz)
theorem de_idx {e2 : Expr} {es : List Expr} {t : DTA} {apos cpos : Pos} (h : DE X q e te) (h2 : DA X q (e2 :: es) t) (hbase : attributeBase e "index" X.env (eval e X.env) = eval e X.env := by rfl)
    (hfew : ((backTo cpos (starEach (e2 :: es) X.env)).all (fun x => !x.1) && (backToKw cpos (keywordEach [] X.env)).all (fun x => x.1.isSome)
      && decide ((e2 :: es).length + ([] : List Keyword).length + (if ([] : List Keyword).isEmpty then 0 else 1) < 30)) = true := by rfl)
    (hline : (apos.endLine == cpos.line) = true := by rfl) (hs : starEach (e2 :: es) X.env = (false, eval e2 X.env) :: starEach es X.env := by rfl) (hplain : (backTo cpos (starEach es X.env)).any (·.1) = false := by rfl) :
    DE X q (.Call (.Attribute e "index" apos) (e2 :: es) [] cpos) (dIdx te t) :=
  PE.imp (pe_bm PySem.F.plainAttrs_list PySem.F.slot_list_index PySem.F.type_list_index mt_index h h2 hbase hfew hline hs hplain) fun σ H Q h => by
    obtain ⟨F, al, dty, δ, R, c, t, k⟩ := h
    refine ⟨F, al, dty, δ, _, c, t, fun x d δ1 F1 H1 s1 c1 hx hR => ?_⟩
    obtain ⟨ns, rfl, hR⟩ := hR
    obtain ⟨a, vs, rfl, e1, e2⟩ := has_lst.mp hx
    rw [HasL.ints.mp e2] at e1
    refine ⟨.inl ⟨rfl, _, c1.fit.sqL e1⟩, F1, al, dty, δ1, _, c1, hR, fun ys dys δ2 F2 H2 s2 c2 hy hR => ?_⟩
    obtain ⟨i, rfl, hi, hR⟩ := hR
    obtain ⟨v, rfl, hv⟩ := has1 hy
    obtain ⟨g1, g2⟩ := idxOf_lt hi
    refine ⟨a, ns.map V.int, v, ns.idxOf i, .int i, rfl, rfl, c2.fit.sqL (s2.up _ _ e1), by rw [has_int.mp hv]; rfl, flat_ints ns, by rw [List.getElem?_map, g1]; rfl, by rw [has_int.mp hv]; simp [eqV], fun m z hm hz => ?_, k _ _ δ2 F2 H2 (s1.trans0 s2) c2 (has_int.mpr rfl) hR⟩
    rw [List.getElem?_map] at hz
    cases hmz : ns[m]? with
    | none => rw [hmz] at hz; cases hz
    | some z0 =>
      rw [hmz] at hz
      cases hz
      rw [has_int.mp hv]
      exact g2 m hm z0 hmz
end
end K46

set_option Elab.async false
set_option linter.all false
set_option maxRecDepth 100000
set_option maxHeartbeats 1000000
/-! list(range(..)), list(d.items()), list(d.values()), dict(pairs), dict displays, chains, on data -/
namespace K46
open PySem PySem.Spec PyProof.Rows L2
section
variable {X : Cx} {q : Pm} {e : Expr} {te : DTE} {p apos cpos pos : Pos}
/-! ### list(range(n)) -/
def dListRg (te : DTE) : DTE := fun δ R => te δ fun d δ1 => ∃ n : Int, d = .int n ∧ 0 ≤ n ∧ n ≤ 100000 ∧ R (.lst (rngD n.toNat)) δ1
theorem rg_has {F : Hp} (n : Nat) : HsL q F (rngD n) (rgV 0 (n : Int)) := by
  have h1 : rngD n = ((List.range n).map fun (i : Nat) => (i : Int)).map D.int := by unfold rngD; rw [List.map_map]; rfl
  rw [h1]
  refine HasL.ints.mpr ?_
  unfold rgV
  rw [List.map_map, Int.sub_zero, Int.toNat_natCast]
  refine List.map_congr_left fun i _ => ?_
  show V.int (0 + (i : Int)) = V.int (i : Int)
  rw [Int.zero_add]
theorem de_listRg {p2 pos2 : Pos} (hc : X.calm = true) (hg : Gl X "list") (hm : X.mg "list" = none) (hg2 : Gl X "range") (hm2 : X.mg "range" = none) (h : DE X q e te) (na : starEach [e] X.env = (false, eval e X.env) :: starEach [] X.env := by rfl)
    (na2 : starEach [.Call (.Name "range" p2) [e] [] pos2] X.env = (false, eval (.Call (.Name "range" p2) [e] [] pos2) X.env) :: starEach [] X.env := by rfl) : DE X q (.Call (.Name "list" p) [.Call (.Name "range" p2) [e] [] pos2] [] pos) (dListRg te) :=
  PE.imp (pe_listRg hc hg hm (prg_1 hg2 hm2 h na) na2) fun σ H Q h => by
    obtain ⟨F, al, dty, δ, R, c, t, k⟩ := h
    refine ⟨F, al, dty, δ, _, c, t, fun x d δ1 F1 H1 s1 c1 hx hR => ?_⟩
    obtain ⟨n, rfl, h0, h1, hR⟩ := hR
    refine ⟨n, has_int.mp hx, RgOk.of_le (by omega) (by omega) (by omega) h0, fun z hz => ?_⟩
    have e : n = ((n.toNat : Nat) : Int) := (Int.toNat_of_nonneg h0).symm
    refine newL (dd := .non) (ds := rngD n.toNat) c1.fit hz ?_ fun v F' H' s f' hv => k v _ δ1 F' H' (s1.trans0 s.any) (c1.step0 s f') hv hR
    have := rg_has (q := q) (F := F1) n.toNat
    rwa [← e] at this
/-! ### list(d.items()) -/
def itemsL (ks : List Key) (ds : List D) : List D := (ks.zip ds).map fun p => .tup [kD p.1, p.2]
def dItems (te : DTE) : DTE := fun δ R => te δ fun d δ1 => ∃ ks ds, d = .dic ks ds ∧ R (.lst (itemsL ks ds)) δ1
theorem items_has {F F' : Hp} (le : Le F F') : ∀ {ks : List Key} {vs : List V} {ds : List D} {ts : List Addr}, ks.length = vs.length → HsL q F ds vs → Paired (fun (t : Addr) (kv : Key × V) => F' t = some (.tup [kV kv.1, kv.2])) ts (ks.zip vs) → HsL q F' (itemsL ks ds) (ts.map V.ref)
  | [], vs, ds, ts, hl, hv, hp => by
    rw [List.zip_nil_left] at hp
    cases hp
    exact .nil
  | k :: ks, [], ds, ts, hl, hv, hp => by cases hl
  | k :: ks, v :: vs, ds, ts, hl, hv, hp => by
    cases ds with
    | nil => have := hasL_nil.mp hv; cases this
    | cons d ds =>
      obtain ⟨v', r, z, h1, h2⟩ := hasL_cons.mp hv
      cases z
      rw [List.zip_cons_cons] at hp
      cases hp with
      | cons ht hp' =>
        exact .cons (has_tup.mpr ⟨_, _, rfl, ht, .cons (has_kD k) (.cons (h1.mono le) .nil)⟩) (items_has le (by simpa using hl) h2 hp')
theorem de_items (hc : X.calm = true) (hm0 : q.m = none) (h : DE X q e te) (hg : Gl X "list") (hm : X.mg "list" = none) (hv : bootBuiltins "list" = some (.type "list") := by rfl) (hbase : attributeBase e "items" X.env (eval e X.env) = eval e X.env := by rfl) (hline : (apos.endLine == cpos.line) = true := by rfl)
    (hs : starEach [.Call (.Attribute e "items" apos) [] [] cpos] X.env = (false, eval (.Call (.Attribute e "items" apos) [] [] cpos) X.env) :: starEach [] X.env := by rfl) : DE X q (.Call (.Name "list" p) [.Call (.Attribute e "items" apos) [] [] cpos] [] pos) (dItems te) :=
  PE.imp (LiI.pe_listItems hc h hg hm hv hbase hline hs) fun σ H Q h => by
    obtain ⟨F, al, dty, δ, R, c, t, k⟩ := h
    refine ⟨F, al, dty, δ, _, c, t, fun x d δ1 F1 H1 s1 c1 hx hR => ?_⟩
    obtain ⟨ks, ds, rfl, hR⟩ := hR
    obtain ⟨a, vs, rfl, e1, el, e2⟩ := has_dic.mp hx
    have f := c1.fit
    rw [hm0] at f
    refine ⟨a, _, rfl, f.dK e1, fun H' z ts keep hz hts hzt hH hp => ?_⟩
    let F' : Hp := fun b => if b = z ∨ b ∈ ts then H' b else F1 b
    have old : ∀ b o, H1 b = some o → ¬ (b = z ∨ b ∈ ts) := fun b o e w => by
      rcases w with w | w
      · rw [w, hz] at e; cases e
      · rw [hts b w] at e; cases e
    have oldF : ∀ b o, F1 b = some o → ¬ (b = z ∨ b ∈ ts) := fun b o e w => by
      obtain ⟨o', e'⟩ : ∃ o', H1 b = some o' := by
        rcases c1.fit b o e with y | ⟨_, _, _, y⟩
        · exact ⟨_, y⟩
        · exact ⟨_, y⟩
      exact old b o' e' w
    have le : Le F1 F' := fun b o e => by
      show (if b = z ∨ b ∈ ts then H' b else F1 b) = some o
      rw [if_neg (oldF b o e)]; exact e
    have st : Stp0 F1 H1 F' H' := ⟨le, fun b o e => by
        by_cases w : b = z ∨ b ∈ ts
        · right; left
          rcases w with w | w
          · rw [w]; exact hz
          · exact hts b w
        · have e : (if b = z ∨ b ∈ ts then H' b else F1 b) = some o := e
          rw [if_neg w] at e; exact .inl e, fun b o e _ _ => keep b o e, fun b o e => ⟨o, keep b o e⟩, fun b ob u e => keep b _ e⟩
    have ft : Fit q.m F' H' := fun b o e => by
      have e : (if b = z ∨ b ∈ ts then H' b else F1 b) = some o := e
      by_cases w : b = z ∨ b ∈ ts
      · rw [if_pos w] at e; exact .inl e
      · rw [if_neg w] at e
        rcases c1.fit b o e with y | ⟨y1, y2, ob, y⟩
        · exact .inl (keep b o y)
        · exact .inr ⟨y1, y2, ob, keep b _ y⟩
    refine k _ _ δ1 F' H' (s1.trans0 st.any) (c1.step0 st ft) (has_lst.mpr ⟨z, ts.map V.ref, rfl, ?_, ?_⟩) hR
    · show (if z = z ∨ z ∈ ts then H' z else F1 z) = _
      rw [if_pos (.inl rfl)]; exact hH
    · refine items_has le el e2 ?_
      have : ∀ {as : List Addr} {kvs : List (Key × V)}, (∀ t ∈ as, t ∈ ts) → Paired (fun (t : Addr) (kv : Key × V) => H' t = some (.tup [kV kv.1, kv.2])) as kvs → Paired (fun (t : Addr) (kv : Key × V) => F' t = some (.tup [kV kv.1, kv.2])) as kvs := by
        intro as kvs hin hp
        induction hp with
        | nil => exact .nil
        | @cons t kv _ _ h1 _ ih =>
          refine .cons ?_ (ih fun t ht => hin t (List.mem_cons_of_mem _ ht))
          show (if t = z ∨ t ∈ ts then H' t else F1 t) = _
          rw [if_pos (.inr (hin t List.mem_cons_self))]; exact h1
      exact this (fun _ h => h) hp
/-! ### list(d.values()) -/
def tListValues (te : TE) : TE := fun σ H Q => te σ H fun x H1 => ∃ (d : Addr) (kvs : List (Key × V)), x = .ref d ∧ H1 d = some (.dK kvs) ∧ ∀ z, H1 z = none → Q (.ref z) (upd H1 z (.lst (kvs.map (·.2))))
theorem kv_snd : ∀ {kvs : List (Key × V)} {vs : List (Key × Value)}, KV kvs vs → Vals (kvs.map (·.2)) (vs.map (·.2))
  | _, _, .nil => .nil
  | _, _, .cons h t => .cons h.2 (kv_snd t)
theorem pe_listValues {te : TE} (hc : X.calm = true) (he : PE X e te) (hg : Gl X "list") (hm : X.mg "list" = none) (hv : bootBuiltins "list" = some (.type "list")) (hbase : attributeBase e "values" X.env (eval e X.env) = eval e X.env := by rfl) (hline : (apos.endLine == cpos.line) = true := by rfl)
    (hs : starEach [.Call (.Attribute e "values" apos) [] [] cpos] X.env = (false, eval (.Call (.Attribute e "values" apos) [] [] cpos) X.env) :: starEach [] X.env := by rfl) :
    PE X (.Call (.Name "list" p) [.Call (.Attribute e "values" apos) [] [] cpos] [] pos) (tListValues te) := by
  refine ⟨fun pins s σ H Q I hq => ?_⟩
  refine wpAny_Call_Name_kw (ld_blt I hg hm hv ?_)
  refine PyProof.Rows.callWith_type1 ?_ hs rfl
  rw [hs]
  show wpAny _ _ (spliced ((false, eval (.Call (.Attribute e "values" apos) [] [] cpos) X.env) :: backTo pos (starEach [] X.env))) _ _ s
  refine Calls.spliced_cons ?_
  refine wpAny_Call_method (T := "dict") (id := "dict.values") hbase rfl hline F.plainAttrs_dict F.slot_dict_values F.type_dict_values (thn (he.run pins s σ H _ I hq) fun u s1 ⟨x, H1, I1, rx, d, kvs, ex, hd, q⟩ => ?_)
  subst ex
  obtain rfl : u = Value.ref d := rx
  obtain ⟨hz, hs0, vs, kv, hdo⟩ := I1.hok d _ hd
  obtain ⟨ep, hat⟩ := hdo.dictAt
  have lk : kvs.length = vs.length := Paired.length kv
  have I2 : Inv X pins σ H1 { s1 with heap := s1.heap.push { cls := .type "dict_values", data := .fields #[.ref d] } } := I1.kept (t' := s1.toks) fun b ob q => Heap.get?_push_of_some _ q
  refine ⟨hdo.typeIs, hdo.mapOf.noDict, ?_⟩
  show wpAny _ _ (callWith cpos (.builtin "dict.values") [.ref d] [] []) _ X.xe s1
  refine method_meetsIn F.slot_dict_values F.entry_dict_values rfl (PySem.evalArgs_none ⟨rfl, hdo.typeIs, F.args_dict_values_1 _, _, meets_dict_values (mixKind X.prog X.w) d hs0, ⟨vs, hdo⟩, ?_⟩)
  refine Calls.spliced_nil ?_
  refine PySem.W.kdl_call (PySem.W.kdl_values (knd := mixKind X.prog X.w) (kvs := vs) (ep := ep)) (I1.ok.hd hc) ⟨⟨_, Heap.get?_push_size _ rfl, rfl, rfl⟩, hat.push _⟩ (by omega) fun h' tk acc c hk hS hacc => ?_
  have hv : acc.toList = vs.map (·.2) := by
    refine List.ext_getElem? fun j => ?_
    rw [Array.getElem?_toList]
    cases hj : acc[j]? with
    | none =>
      have hl : vs.length ≤ j := by rw [← hacc.1]; simpa using hj
      rw [List.getElem?_eq_none (by simpa using hl)]
    | some v =>
      obtain ⟨k0, hk0⟩ := hacc.2 j v hj
      rw [List.getElem?_map, hk0]; rfl
  refine ⟨.ref _, _, I2.laid (o := .lst (kvs.map (·.2))) (t' := tk) (fun b ob e => hk b ob e) (Nat.le_refl _) ⟨?_, acc.toList, c, ?_, ?_⟩, rfl, q _ ?_⟩
  · rw [List.length_map]; exact hz
  · rw [hv]; exact kv_snd kv
  · rw [Array.toArray_toList]; exact hS
  · exact I1.hok.fresh (by rw [Heap.size_push]; exact Nat.le_succ _)
def dValues (te : DTE) : DTE := fun δ R => te δ fun d δ1 => ∃ ks ds, d = .dic ks ds ∧ R (.lst ds) δ1
theorem de_values (hc : X.calm = true) (hm0 : q.m = none) (h : DE X q e te) (hg : Gl X "list") (hm : X.mg "list" = none) (hv : bootBuiltins "list" = some (.type "list") := by rfl) (hbase : attributeBase e "values" X.env (eval e X.env) = eval e X.env := by rfl) (hline : (apos.endLine == cpos.line) = true := by rfl)
    (hs : starEach [.Call (.Attribute e "values" apos) [] [] cpos] X.env = (false, eval (.Call (.Attribute e "values" apos) [] [] cpos) X.env) :: starEach [] X.env := by rfl) : DE X q (.Call (.Name "list" p) [.Call (.Attribute e "values" apos) [] [] cpos] [] pos) (dValues te) :=
  PE.imp (pe_listValues hc h hg hm hv hbase hline hs) fun σ H Q h => by
    obtain ⟨F, al, dty, δ, R, c, t, k⟩ := h
    refine ⟨F, al, dty, δ, _, c, t, fun x d δ1 F1 H1 s1 c1 hx hR => ?_⟩
    obtain ⟨ks, ds, rfl, hR⟩ := hR
    obtain ⟨a, vs, rfl, e1, el, e2⟩ := has_dic.mp hx
    have f := c1.fit
    rw [hm0] at f
    refine ⟨a, _, rfl, f.dK e1, fun z hz => ?_⟩
    rw [List.map_snd_zip (by omega)]
    exact newL (dd := .non) c1.fit hz e2 fun v F' H' s f' hv => k v _ δ1 F' H' (s1.trans0 s.any) (c1.step0 s f') hv hR
end
end K46

set_option Elab.async false
set_option linter.all false
set_option maxRecDepth 100000
set_option maxHeartbeats 1000000
/-! dict(pairs), dict displays, chains, on data -/
namespace K46
open PySem PySem.Spec PyProof.Rows L2
/-! ### dict(list of pairs) -/
def pairsD : List D → Option (List Key × List D)
  | [] => some ([], [])
  | .tup [k, d] :: r => (keyD k).bind fun k => (pairsD r).map fun p => (k :: p.1, d :: p.2)
  | _ :: _ => none
def fDict : List D → Option D
  | [.lst ls] => (pairsD ls).bind fun p => if p.1.Nodup ∧ p.1.length ≤ 100000 then some (.dic p.1 p.2) else none
  | _ => none
theorem mergeK_nil : ∀ {ks : List Key} {vs : List V} {acc : List (Key × V)}, ks.Nodup → (∀ k ∈ ks, k ∉ acc.map (·.1)) → mergeK acc (ks.zip vs) = acc ++ ks.zip vs
  | [], _, acc, _, _ => by simp [mergeK]
  | k :: ks, [], acc, _, _ => by simp [mergeK]
  | k :: ks, v :: vs, acc, hn, hd => by
    have hn' := List.nodup_cons.mp hn
    have e : putK acc k v = acc ++ [(k, v)] := by
      unfold putK
      have : (acc.any fun kv => decide (kv.1 = k)) = false := by
        rw [List.any_eq_false]
        intro p hp z
        have z : p.1 = k := by simpa using z
        exact hd k List.mem_cons_self (List.mem_map.mpr ⟨p, hp, z⟩)
      rw [this, if_neg Bool.false_ne_true]
    show mergeK (putK acc k v) (ks.zip vs) = _
    rw [e, mergeK_nil hn'.2 fun k' hk' z => ?_]
    · simp
    · rw [List.map_append, List.mem_append] at z
      rcases z with z | z
      · exact hd k' (List.mem_cons_of_mem _ hk') z
      · have z : k' = k := by simpa using z
        rw [z] at hk'; exact hn'.1 hk'
section
variable {X : Cx} {q : Pm}
theorem pairs_has {K : PySem.W.Frag} {F H : Hp} (ft : Fit q.m F H) : ∀ {ls : List D} {vs : List V} {ks : List Key} {ds : List D}, pairsD ls = some (ks, ds) → HsL q F ls vs → ∃ (ps : List Addr) (us : List V), vs = ps.map V.ref ∧ ks.length = us.length ∧ HsL q F ds us ∧ Paired (fun p kv => SqT K H p [kV kv.1, kv.2]) ps (ks.zip us)
  | [], vs, ks, ds, e, h => by
    cases e
    rw [hasL_nil.mp h]
    exact ⟨[], [], rfl, rfl, .nil, .nil⟩
  | l :: ls, vs, ks, ds, e, h => by
    obtain ⟨v, r, rfl, h1, h2⟩ := hasL_cons.mp h
    unfold pairsD at e
    split at e
    · rename_i heq; cases heq
    · rename_i k d r0 heq
      cases heq
      cases hk : keyD k with
      | none => rw [hk] at e; cases e
      | some kk =>
        rw [hk] at e
        cases hp : pairsD ls with
        | none => rw [hp] at e; cases e
        | some p =>
          obtain ⟨ks', ds'⟩ := p
          rw [hp] at e
          cases e
          obtain ⟨ps, us, rfl, hl, hu, hpp⟩ := pairs_has (K := K) ft hp h2
          obtain ⟨a, ws, rfl, e1, e2⟩ := has_tup.mp h1
          obtain ⟨w1, w2, rfl, g1, g2⟩ := has2 e2
          refine ⟨a :: ps, w2 :: us, rfl, by simp [hl], .cons g2 hu, ?_⟩
          rw [List.zip_cons_cons]
          refine .cons ?_ hpp
          show SqT K H a [kV kk, w2]
          rw [← keyD_v g1 hk]
          exact ft.sqT e1
    · cases e
theorem cp_dict : CallP q (fun xs H Q => ∃ (a : Addr) (ps : List Addr) (kvs : List (Key × V)), xs = [.ref a] ∧ SqL X.K H a (ps.map V.ref) ∧ Paired (fun p kv => SqT X.K H p [kV kv.1, kv.2]) ps kvs ∧
    ∀ p, H p = none → Q (.ref p) (upd H p (.dK (mergeK [] kvs)))) (gf fDict) := .fn fun F H xs ds d Q ft hx e k => by
  unfold fDict at e
  split at e
  · rename_i ls
    cases hp : pairsD ls with
    | none => rw [hp] at e; cases e
    | some p =>
      obtain ⟨ks, es⟩ := p
      rw [hp] at e
      have e : (if ks.Nodup ∧ ks.length ≤ 100000 then some (D.dic ks es) else none) = some d := e
      split at e
      · rename_i hn
        cases e
        obtain ⟨v, rfl, h⟩ := has1 hx
        obtain ⟨a, vs, rfl, e1, e2⟩ := has_lst.mp h
        obtain ⟨ps, us, rfl, hl, hu, hpp⟩ := pairs_has (K := X.K) ft hp e2
        refine ⟨a, ps, ks.zip us, rfl, ft.sqL e1, hpp, fun z hz => ?_⟩
        rw [mergeK_nil hn.1 (fun _ _ h => by cases h), List.nil_append]
        have hF := ft.none_of hz
        have st : Stp0 F H (upd F z (.dK (ks.zip us))) (upd H z (.dK (ks.zip us))) := .alloc hz hF
        exact k _ _ _ st (ft.alloc hz) (has_dic.mpr ⟨z, us, rfl, upd_same, hl, hu.mono st.up⟩)
      · cases e
  · cases e
end
/-! ### dict displays -/
def dPairs : List (DTE × DTE) → List Sl → (List Key → List D → List Sl → Prop) → Prop
  | [], δ, R => R [] [] δ
  | (tk, tv) :: r, δ, R => tk δ fun k δ1 => ∃ kk, keyD k = some kk ∧ tv δ1 fun d δ2 => dPairs r δ2 fun ks ds δ3 => R (kk :: ks) (d :: ds) δ3
def dDisp (trs : List (DTE × DTE)) : DTE := fun δ R => dPairs trs δ fun ks ds δ1 => ks.Nodup ∧ ks.length ≤ 15 ∧ R (.dic ks ds) δ1
section
variable {X : Cx} {q : Pm}
theorem l_pairs {σ : L2.St} {al : Nat → Addr} {dty : Addr → Prop} : ∀ (trs : List (DTE × DTE)) (F H : Hp) (δ : List Sl) (R : List Key → List D → List Sl → Prop) (Q : List (V × V) → Hp → Prop), Cf q F H al dty δ σ → dPairs trs δ R →
    (∀ ks ds us δ' F' H', Stp dty F H F' H' → Cf q F' H' al dty δ' σ → ks.length = us.length → HsL q F' ds us → R ks ds δ' → Q ((ks.zip us).map fun kv => (kV kv.1, kv.2)) H') → tPairs (trs.map fun p => (lE q p.1, lE q p.2)) σ H Q
  | [], F, H, δ, R, Q, c, t, k => k [] [] [] δ F H .refl c rfl .nil t
  | (tk, tv) :: r, F, H, δ, R, Q, c, t, k => by
    refine ⟨F, al, dty, δ, _, c, t, fun x dk δ1 F1 H1 s1 c1 hx hR => ?_⟩
    obtain ⟨kk, ek, hR⟩ := hR
    refine ⟨F1, al, dty, δ1, _, c1, hR, fun y dv δ2 F2 H2 s2 c2 hy hR => ?_⟩
    refine l_pairs r F2 H2 δ2 _ _ c2 hR fun ks ds us δ' F' H' s3 c3 hl hu hR => ?_
    have := k (kk :: ks) (dv :: ds) (y :: us) δ' F' H' ((s1.trans0 s2).trans0 s3) c3 (by simp [hl]) (.cons (hy.mono s3.up) hu) hR
    rw [List.zip_cons_cons, List.map_cons] at this
    rw [keyD_v hx ek]
    exact this
theorem de_disp {pos : Pos} {keys : List (Option Expr)} {values : List Expr} {trs : List (DTE × DTE)} (h : PPs X pos keys values (trs.map fun p => (lE q p.1, lE q p.2))) (hall : keys.all (·.isSome) = true) (hl : keys.length = values.length) (h0 : keys ≠ []) (h15 : keys.length ≤ 15) :
    DE X q (.Dict keys values pos) (dDisp trs) := PE.imp (pe_disp h hall hl h0 h15) fun σ H Q h => by
  obtain ⟨F, al, dty, δ, R, c, t, k⟩ := h
  intro p hp
  have hF := c.fit.none_of hp
  have st : Stp dty F H F (upd H p (.dK [])) := .allocM hp
  have nd : ¬ dty p := fun z => by obtain ⟨o, e⟩ := c.liv p z; rw [hp] at e; cases e
  have c0 : Cf q F (upd H p (.dK [])) al dty δ σ := c.step0 (.allocM hp) (c.fit.updM hF)
  refine l_pairs trs F _ δ _ _ c0 t fun ks ds us δ' F' H' s1 c1 hl hu hR => ?_
  obtain ⟨hn, h15, hR⟩ := hR
  have hH' : H' p = some (.dK []) := s1.keep p _ upd_same hF nd
  have hF' : F' p = none := by
    cases e : F' p with
    | none => rfl
    | some o =>
      rcases s1.new p o e with z | z | z
      · rw [hF] at z; cases z
      · rw [upd_same] at z; cases z
      · exact (nd z).elim
  refine ⟨hH', ks.zip us, rfl, ?_, ?_⟩
  · rw [List.length_zip, ← hl, Nat.min_self]; exact h15
  · rw [mergeK_nil hn (fun _ _ h => by cases h), List.nil_append]
    have s2 : Stp dty F H F' H' := st.trans0 s1
    -- the written dict becomes data
    have s3 : Stp dty F H (upd F' p (.dK (ks.zip us))) (upd H' p (.dK (ks.zip us))) := ⟨fun a o e => by
        rw [upd_ne (fun z => by rw [z, hF] at e; cases e)]; exact s2.up a o e, fun a o e => by
        by_cases z : a = p
        · subst z; exact .inr (.inl hp)
        · rw [upd_ne z] at e; exact s2.new a o e, fun a o e n d => by
        rw [upd_ne (fun z => by rw [z, hp] at e; cases e)]; exact s2.keep a o e n d, fun a o e => by
        obtain ⟨o', e'⟩ := s2.live a o e
        rw [upd_ne (fun z => by rw [z, hp] at e; cases e)]; exact ⟨o', e'⟩, fun a ob u e => by
        rw [upd_ne (fun z => by rw [z, hp] at e; cases e)]; exact s2.frz a ob u e⟩
    have le : Le F' (upd F' p (.dK (ks.zip us))) := fun a o e => by rw [upd_ne (fun z => by rw [z, hF'] at e; cases e)]; exact e
    have ft : Fit q.m (upd F' p (.dK (ks.zip us))) (upd H' p (.dK (ks.zip us))) := fun a u e => by
      by_cases z : a = p
      · subst z; rw [upd_same] at e ⊢; exact .inl e
      · rw [upd_ne z] at e; rw [upd_ne z]; exact c1.fit a u e
    have c3 : Cf q (upd F' p (.dK (ks.zip us))) (upd H' p (.dK (ks.zip us))) al dty δ' σ := by
      have hne : ∀ i, isM δ'[i]? = true → al i ≠ p := fun i hi z => nd (by rw [← z]; exact (c1.bnd.at_ i hi).2.2)
      refine ⟨fun a h => ?_, ft, ⟨c1.bnd.len, fun i d e => ?_, fun i e => ?_, fun i ds e => ?_, fun i ks ds e => ?_, c1.bnd.inj, c1.bnd.pr⟩⟩
      · obtain ⟨o, e⟩ := c1.liv a h
        rw [upd_ne (fun z => nd (by rw [← z]; exact h))]; exact ⟨o, e⟩
      · obtain ⟨v, a, b⟩ := c1.bnd.im i d e
        exact ⟨v, a, b.mono le⟩
      · obtain ⟨a, b, d⟩ := c1.bnd.at_ i e
        exact ⟨a, by rw [upd_ne (hne i e)]; exact b, d⟩
      · obtain ⟨vs, a, b⟩ := c1.bnd.ml i ds e
        exact ⟨vs, by rw [upd_ne (hne i (by rw [e]; rfl))]; exact a, b.mono le⟩
      · obtain ⟨vs, a, b, d⟩ := c1.bnd.md i ks ds e
        exact ⟨vs, by rw [upd_ne (hne i (by rw [e]; rfl))]; exact a, b, d.mono le⟩
    exact k _ _ δ' _ _ s3 c3 (has_dic.mpr ⟨p, us, rfl, upd_same, hl, hu.mono le⟩) hR
end
/-! ### a op b op' c -/
def dChain (f g : D → D → Option D) (ta tb tc : DTE) : DTE := fun δ R => ta δ fun x δ1 => tb δ1 fun y δ2 => ∃ b, f x y = some (.bl b) ∧ (b = true → tc δ2 fun z δ3 => ∃ d, g y z = some d ∧ R d δ3) ∧ (b = false → R (.bl false) δ2)
section
variable {X : Cx} {q : Pm} {a b c : Expr} {ta tb tc : DTE} {pos : Pos}
theorem de_chain {op op' : CmpOp} {f g : D → D → Option D} (o1 : OpD X q (compareOp op) f) (o2 : OpD X q (compareOp op') g) (ha : DE X q a ta) (hb : DE X q b tb) (hc : DE X q c tc) (hm : lastMarks [op, op'] [b, c] = false := by with_unfolding_all rfl) :
    DE X q (.Compare a [op, op'] [b, c] pos) (dChain f g ta tb tc) := by
  obtain ⟨r, ho, hs⟩ := o1
  obtain ⟨r', ho', hs'⟩ := o2
  refine PE.imp (pe_chain ho ho' ha hb hc hm) fun σ H Q h => ?_
  obtain ⟨F, al, dty, δ, R, c, t, k⟩ := h
  refine ⟨F, al, dty, δ, _, c, t, fun x dx δ1 F1 H1 s1 c1 hx hR => ?_⟩
  refine ⟨F1, al, dty, δ1, _, c1, hR, fun y dy δ2 F2 H2 s2 c2 hy hR => ?_⟩
  obtain ⟨b, hf, h1, h2⟩ := hR
  refine hs F2 H2 x y dx dy _ _ c2.fit (hx.mono s2.up) hy hf fun v F3 H3 s3 f3 hv => ⟨b, has_bl.mp hv, ?_⟩
  have c3 := c2.step0 s3 f3
  cases b with
  | true =>
    refine ⟨F3, al, dty, δ2, _, c3, h1 rfl, fun z dz δ4 F4 H4 s4 c4 hz hR => ?_⟩
    obtain ⟨d, hg, hR⟩ := hR
    exact hs' F4 H4 y z dy dz d Q c4.fit ((hy.mono s3.up).mono s4.up) hz hg fun v F5 H5 s5 f5 hv => k v d δ4 F5 H5 ((((s1.trans0 s2).trans0 s3.any).trans0 s4).trans0 s5.any) (c4.step0 s5 f5) hv hR
  | false => exact k _ _ δ2 F3 H3 ((s1.trans0 s2).trans0 s3.any) c3 (has_bl.mpr rfl) (h2 rfl)
theorem de_bin {op : Operator} {f : D → D → Option D} (o : OpD X q (binaryOp op) f) (ha : DE X q a ta) (hb : DE X q b tb) : DE X q (.BinOp a op b pos) (d2 f ta tb) := let ⟨_, h1, h2⟩ := o; de_binop h1 h2 ha hb
theorem de_cmpD {op : CmpOp} {f : D → D → Option D} (o : OpD X q (compareOp op) f) (ha : DE X q a ta) (hb : DE X q b tb) (hm : behindInMarks op b = false := by first | exact nobehind _ (by decide) (by decide) | rfl) : DE X q (.Compare a [op] [b] pos) (d2 f ta tb) := let ⟨_, h1, h2⟩ := o; de_cmp h1 h2 ha hb hm
theorem dt_cmpD {op : CmpOp} {f : D → D → Option D} (o : OpD X q (compareOp op) f) (ha : DE X q a ta) (hb : DE X q b tb) (hm : behindInMarks op b = false := by first | exact nobehind _ (by decide) (by decide) | rfl) : DT X q (.Compare a [op] [b] pos) (dTst (d2 f ta tb)) := let ⟨_, h1, h2⟩ := o; dt_cmp h1 h2 ha hb hm
theorem de_ixD (hu : X.A.units + 1 < cLine) (ha : DE X q a ta) (hb : DE X q b tb) (hp : PlainIx b := by intro _ _; rfl) : DE X q (.Subscript a b pos) (d2 fIx ta tb) := let ⟨_, h1, h2⟩ := ixD (X := X) (q := q) hu; de_ix h1 h2 ha hb hp
theorem de_neg (ha : DE X q a ta) : DE X q (.UnaryOp .USub a pos) (d1 fNeg ta) := de_un un_neg us_neg ha
/-- a chain as a test -/
theorem dt_chain {op op' : CmpOp} {f g : D → D → Option D} (o1 : OpD X q (compareOp op) f) (o2 : OpD X q (compareOp op') g) (ha : DE X q a ta) (hb : DE X q b tb) (hc : DE X q c tc) (hm : lastMarks [op, op'] [b, c] = false := by with_unfolding_all rfl) :
    DT X q (.Compare a [op, op'] [b, c] pos) (dTst (dChain f g ta tb tc)) := by
  obtain ⟨r, ho, hs⟩ := o1
  obtain ⟨r', ho', hs'⟩ := o2
  refine PT.imp (pt_chain ho ho' ha hb hc hm) fun σ H Q h => ?_
  obtain ⟨F, al, dty, δ, R, c, t, k⟩ := h
  refine ⟨F, al, dty, δ, _, c, t, fun x dx δ1 F1 H1 s1 c1 hx hR => ?_⟩
  refine ⟨F1, al, dty, δ1, _, c1, hR, fun y dy δ2 F2 H2 s2 c2 hy hR => ?_⟩
  obtain ⟨b, hf, h1, h2⟩ := hR
  refine hs F2 H2 x y dx dy _ _ c2.fit (hx.mono s2.up) hy hf fun v F3 H3 s3 f3 hv => ⟨b, has_bl.mp hv, ?_⟩
  have c3 := c2.step0 s3 f3
  cases b with
  | true =>
    refine ⟨F3, al, dty, δ2, _, c3, h1 rfl, fun z dz δ4 F4 H4 s4 c4 hz hR => ?_⟩
    obtain ⟨d, hg, b', rfl, hR⟩ := hR
    exact hs' F4 H4 y z dy dz _ _ c4.fit ((hy.mono s3.up).mono s4.up) hz hg fun v F5 H5 s5 f5 hv => ⟨b', has_bl.mp hv, k b' δ4 F5 H5 ((((s1.trans0 s2).trans0 s3.any).trans0 s4).trans0 s5.any) (c4.step0 s5 f5) hR⟩
  | false =>
    obtain ⟨b', e, hR⟩ := h2 rfl
    cases e
    exact ⟨false, rfl, k false δ2 F3 H3 ((s1.trans0 s2).trans0 s3.any) c3 hR⟩
end
end K46

set_option Elab.async false
set_option linter.all false
set_option maxRecDepth 100000
set_option maxHeartbeats 1000000
/-! what the defs share -/
namespace K46
open PySem PySem.Spec PyProof.Rows L2
theorem un65 {k : Nat} {A : Around} (r : Room k A) : A.units + 65 < cLine := by have := r.un; omega
theorem un8 {k : Nat} {A : Around} (r : Room k A) : A.units + 8 < cLine := by have := r.un; omega
theorem un1 {k : Nat} {A : Around} (r : Room k A) : A.units + 1 < cLine := by have := r.un; omega
theorem un0 {k : Nat} {A : Around} (r : Room k A) : A.units < cLine := by have := r.un; omega
/-- the names of the text that are not defs -/
structure En (K : PySem.W.Frag) (mg : Str → Option Value) (C : Addr) : Prop where
  m_isinstance : mg "isinstance" = none
  m_int : mg "int" = none
  m_bool : mg "bool" = none
  m_tuple : mg "tuple" = none
  m_str : mg "str" = none
  m_dict : mg "dict" = none
  m_len : mg "len" = none
  m_all : mg "all" = none
  m_abs : mg "abs" = none
  m_list : mg "list" = none
  m_zip : mg "zip" = none
  m_set : mg "set" = none
  m_sorted : mg "sorted" = none
  m_range : mg "range" = none
  m_enumerate : mg "enumerate" = none
  m_max : mg "max" = none
  m_min : mg "min" = none
  i_MAX_LETTERS : ∃ t, mg "MAX_LETTERS" = some (.int 8 t)
  i_MAX_DIGITS : ∃ t, mg "MAX_DIGITS" = some (.int 300 t)
  i_LONGEST : ∃ t, mg "LONGEST" = some (.int (10 ^ 300) t)
  i_MAX_GAMES : ∃ t, mg "MAX_GAMES" = some (.int 4 t)
  i_MAX_STANDINGS : ∃ t, mg "MAX_STANDINGS" = some (.int 8 t)
  i_MAX_MOVES : ∃ t, mg "MAX_MOVES" = some (.int 12 t)
  i_MAX_GAIN : ∃ t, mg "MAX_GAIN" = some (.int 99 t)
  i_MAX_STATES : ∃ t, mg "MAX_STATES" = some (.int 4 t)
  s_LETTERS : ∃ t, mg "LETTERS" = some (.str "abcdefghijklmnopqrstuvwxyz" t)
  cls : Cls K C
  na_games : NoAttr K C "own_games"
  na_names : NoAttr K C "own_names"
  na_size : NoAttr K C "own_size"
  isC : C8.InsC K C
  m_House : mg "House" = some (.ref C)
/-- a def: its function object, its promise -/
def OkS (P : Program) (w : World) (K : PySem.W.Frag) (mg : Str → Option Value) (base : Heap) (x : Str) (k : Nat) (ps : List Str) (sp : Sp) : Prop :=
  ∃ f fd, FnOk P w K mg base CX0 k f fd ps sp ∧ mg x = some (.ref f) ∧ PySem.W.keepIn K (.ref f) = true ∧ Binds K fd ps []
abbrev OkD (P : Program) (w : World) (K : PySem.W.Frag) (mg : Str → Option Value) (base : Heap) (C : Addr) (x : Str) (k n : Nat) (m : Option Addr) (ps : List Str) (pre : Pre) : Prop := OkS P w K mg base x k ps (spD w C m n pre)
abbrev OkM (P : Program) (w : World) (K : PySem.W.Frag) (mg : Str → Option Value) (base : Heap) (C : Addr) (x : Str) (k n : Nat) (m : Option Addr) (ps : List Str) (pre : PreM) : Prop := OkS P w K mg base x k ps (spM w C m n pre)
/-- where a def stands -/
structure Fd (K : PySem.W.Frag) (mg : Str → Option Value) (x : Str) (st : Stmt) (f : Addr) (fd : FuncData) : Prop where
  fun_ : FunD K x x (defArgs st) (defBody st) (defScope st) [] [] f fd
  mg_ : mg x = some (.ref f)
section
variable {X : Cx} {q : Pm} {k n : Nat} {ps : List Str} {pre : Pre} {preM : PreM} {x y : Str} {p pos pos' : Pos} {e : Expr} {es : List Expr} {t : DTA}
theorem de_callD (G : OkS X.prog X.w X.K X.mg X.base x k ps (spD q.w q.C q.m n pre)) (hr : Room k X.A) (hg : Gl X x) (ha : DA X q (e :: es) t)
    (hdb : (x == ("__debug__" : Str)) = false := by decide) (he : starEach (e :: es) X.env = (false, eval e X.env) :: starEach es X.env := by rfl) (hpl : (backTo pos (starEach es X.env)).any (·.1) = false := by rfl) : DE X q (.Call (.Name x p) (e :: es) [] pos) (dCall n pre t) :=
  let ⟨_, _, F, hm, hk, hb⟩ := G; de_call F hr hg hm hk hb ha hdb he hpl
theorem de_callMD (i : Nat) (G : OkS X.prog X.w X.K X.mg X.base x k ps (spM q.w q.C q.m n preM)) (hr : Room k X.A) (hg : Gl X x) (ha : DA X q es t)
    (hN : X.N[i]? = some y := by rfl) (hv : Vis X.env.scope y := by first | exact Or.inl rfl | exact Or.inr (Or.inl rfl) | exact Or.inr (Or.inr rfl)) (hd : (y == ("__debug__" : Str)) = false := by decide) (hcd : (y == ("__classdict__" : Str)) = false := by decide)
    (hdb : (x == ("__debug__" : Str)) = false := by decide) (he : starEach (.Name y pos' :: es) X.env = (false, eval (.Name y pos') X.env) :: starEach es X.env := by rfl) (hpl : (backTo pos (starEach es X.env)).any (·.1) = false := by rfl) :
    DE X q (.Call (.Name x p) (.Name y pos' :: es) [] pos) (dCallM i n preM t) :=
  let ⟨_, _, F, hm, hk, hb⟩ := G; de_callM i F hr hg hm hk hb ha hN hv hd hcd hdb he hpl
end
section
variable {P : Program} {w : World} {K : PySem.W.Frag} {mg : Str → Option Value} {base : Heap} {x : Str} {st : Stmt} {f : Addr} {fd : FuncData} {C : Addr}
theorem Fd.ok (F : Fd K mg x st f fd) {N ps : List Str} {k n : Nat} {m : Option Addr} {pre : Pre} {t : DTS} (S : FnScope N ps (defScope st)) (hn : ps.length = n) (hbd : Binds K fd ps [])
    (hb : ∀ (cdv : Value) (A : Around) (outer : List Env) (s : Shared) (H : Hp) (E : XK), Room k (A.deeper (envOfC x (defScope st) s.heap.objs.size f cdv)) → DSs (cxOf CX0 P w K mg base N x (defScope st) f cdv A outer s H E).nox ⟨w, C, none, m⟩ (defBody st) t)
    (rd : ∀ ds R, ds.length = n → pre ds R → t { nx := fun _ => R .non, rt := fun d _ => R d } (st0 N ds)) : OkD P w K mg base C x (k + 1) n m ps pre :=
  ⟨f, fd, ok_def F.fun_ S hn hb rd, F.mg_, F.fun_.kp, hbd⟩
theorem Fd.okM (F : Fd K mg x st f fd) {N ps : List Str} {k n : Nat} {m : Option Addr} {pre : PreM} {t : DTS} (S : FnScope N ps (defScope st)) (hn : ps.length = n + 1) (hN : n + 1 ≤ N.length) (hbd : Binds K fd ps [])
    (hb : ∀ (pr : Option Addr) (cdv : Value) (A : Around) (outer : List Env) (s : Shared) (H : Hp) (E : XK), Room k (A.deeper (envOfC x (defScope st) s.heap.objs.size f cdv)) → DSs (cxOf CX0 P w K mg base N x (defScope st) f cdv A outer s H E).nox ⟨w, C, pr, m⟩ (defBody st) t)
    (rd : ∀ dc ds R, ds.length = n → pre dc ds R → t { nx := fun δ => ∃ dc', δ[0]? = some (.ml dc') ∧ R .non dc', rt := fun d δ => ∃ dc', δ[0]? = some (.ml dc') ∧ R d dc' } (stM N dc ds)) : OkM P w K mg base C x (k + 1) n m ps pre :=
  ⟨f, fd, ok_defM F.fun_ S hn hN hb rd, F.mg_, F.fun_.kp, hbd⟩
end
end K46

set_option Elab.async false
set_option linter.all false
set_option maxRecDepth 100000
set_option maxHeartbeats 1000000
/-! more statements, on data -/
namespace K46
open PySem PySem.Spec PyProof.Rows L2
/-! ### a, b = x, y of data, any slots -/
def dParD (is : List Nat) (ta : DTA) : DTS := fun E δ => ta δ fun ds δ1 => ds.length = is.length ∧ E.nx (setAll δ1 is ds)
section
variable {X : Cx} {q : Pm} {e a b c : Expr} {tr : DTR} {ta : DTA} {tra : DTRA} {pos : Pos}
theorem ds_par2D {i j : Nat} {x y : Str} {px py pt : Pos} {kt k2 pt2} (hc : X.calm = true) (hN : X.N.Nodup) (hi : X.N[i]? = some x) (hj : X.N[j]? = some y) (hij : i ≠ j)
    (hx : X.env.scope.names.lookup x = some .local) (hy : X.env.scope.names.lookup y = some .local) (ha : DA X q [a, b] ta)
    (hw : swappedStores [.Tuple [.Name x px, .Name y py] kt pt] (.Tuple [a, b] k2 pt2) X.env = pure (some [x, y]))
    (hs : swapsWithSole [.Tuple [.Name x px, .Name y py] kt pt] (.Tuple [a, b] k2 pt2) pos.line X.env = pure false := by rfl) :
    DS X q (.Assign [.Tuple [.Name x px, .Name y py] kt pt] (.Tuple [a, b] k2 pt2) pos) (dParD [i, j] ta) := PS.imp (ps_par hc hN hi hj hij hx hy ha hw hs) fun Dn σ H h => by
  obtain ⟨F, al, dty, δ, E, c, h, k⟩ := h
  refine ⟨F, al, dty, δ, _, c, h, fun vs ds δ1 F1 H1 s1 c1 hv hR => ?_⟩
  obtain ⟨hl, hR⟩ := hR
  have e : vs.length = 2 := by rw [hv.length, hl]; rfl
  obtain ⟨v, w, rfl⟩ : ∃ v w, vs = [v, w] := len2 e
  refine ⟨v, w, rfl, ?_⟩
  have c2 := cf_sets (is := [i, j]) c1 hv hl
  exact (k.go0 s1).nx c2 hR
/-! ### a, b = x, y through a tuple: a name of them is a cell -/
theorem l_parT {is : List Nat} {F H F1 H1 : Hp} {al : Nat → Addr} {dty : Addr → Prop} {δ δ1 : List Sl} {σ : L2.St} {E : DEnds} {Dn : Ends} {rs : List Rv} {vs : List V} {p : Addr} (c0 : Cf q F H al dty δ σ) (k : Kon q E Dn F H dty) (s1 : Stp dty F H F1 H1) (c1 : Cf q F1 H1 al dty δ1 σ) (hv : RvL q F1 H1 H rs vs) (hi : ∀ i ∈ is, 0 < i) (hl : rs.length = is.length)
    (hp : H1 p = none) (hR : E.nx (setRs δ1 is rs)) : Dn.nx (setV σ is vs) (upd H1 p (.tup vs)) := by
  have hF := c1.fit.none_of hp
  have st : Stp0 F1 H1 F1 (upd H1 p (.tup vs)) := .allocM hp
  have hv2 : RvL q F1 (upd H1 p (.tup vs)) H rs vs := by
    have step : ∀ {rs : List Rv} {us : List V}, RvL q F1 H1 H rs us → RvL q F1 (upd H1 p (.tup vs)) H rs us := by
      intro rs
      induction rs with
      | nil => intro us h; exact h
      | cons r rs ih =>
        intro us h
        obtain ⟨v, t, rfl, h1, h2, h3⟩ := h
        exact ⟨v, t, rfl, h1.step st.any (fun _ _ => id), ih h2, h3⟩
    exact step hv
  exact l_par c0 k (s1.trans0 st.any) (c1.step0 st (c1.fit.updM hF)) hv2 hi hl hR
theorem ds_parT2 {i j : Nat} {x y : Str} {px py pt : Pos} {kt k2 pt2} (hc : X.calm = true) (hN : X.N.Nodup) (h0 : ∀ l ∈ [i, j], 0 < l) (hg : PG X (.Tuple [.Name x px, .Name y py] kt pt) (gTup X.K 2 (gCons (gName i) (gCons (gName j) gNil)))) (ha : DRA X q [a, b] tra)
    (hs : swapsWithSole [.Tuple [.Name x px, .Name y py] kt pt] (.Tuple [a, b] k2 pt2) pos.line X.env = pure false := by rfl) (hw : swappedStores [.Tuple [.Name x px, .Name y py] kt pt] (.Tuple [a, b] k2 pt2) X.env = pure none := by rfl)
    (h1 : (assignEach [.Tuple [.Name x px, .Name y py] kt pt] X.env).map (·.2) = [assign (.Tuple [.Name x px, .Name y py] kt pt) X.env] := by rfl) :
    DS X q (.Assign [.Tuple [.Name x px, .Name y py] kt pt] (.Tuple [a, b] k2 pt2) pos) (dPar [i, j] tra) := PS.imp (ps_asg (pe_tup ha) hg hs hw h1) fun Dn σ H h => by
  obtain ⟨F, al, dty, δ, E, c, h, k⟩ := h
  refine ⟨F, al, dty, δ, _, c, h, fun vs rs δ1 F1 H1 s1 c1 hv hR => ?_⟩
  obtain ⟨hl, hR⟩ := hR
  have e : vs.length = 2 := by rw [hv.len, hl]; rfl
  obtain ⟨v, w, rfl⟩ : ∃ v w, vs = [v, w] := len2 e
  refine ⟨by show 2 ≤ sizeLine; decide, fun p hp => ?_⟩
  refine ⟨p, [v, w], rfl, .inl (.inl upd_same), rfl, ⟨v, [w], rfl, w, [], rfl, rfl, ?_⟩⟩
  exact l_parT (is := [i, j]) c k s1 c1 hv h0 hl hp hR
/-! ### an own copy: list(x) -/
def drListOf (te : DTE) : DTR := fun δ R => te δ fun d δ1 => ∃ ds, itemsD d = some ds ∧ R (.nl ds) δ1
theorem dr_listOf {p : Pos} {te : DTE} (hg : Gl X "list") (hm : X.mg "list" = none) (h : DE X q e te) (hv : bootBuiltins "list" = some (.type "list") := by rfl)
    (he : starEach [e] X.env = (false, eval e X.env) :: starEach [] X.env := by rfl) : DR X q (.Call (.Name "list" p) [e] [] pos) (drListOf te) := PE.imp (pe_callTy call_list_of hg hm hv (pa_cons h pa_nil he) (by decide) (by decide) he rfl) fun σ H Q h => by
  obtain ⟨F, al, dty, δ, R, c, t, k⟩ := h
  refine ⟨F, al, dty, δ, _, c, t, fun x d δ1 F1 H1 s1 c1 hx hR => ?_⟩
  obtain ⟨ds, ed, hR⟩ := hR
  have got : ∃ p vs, x = V.ref p ∧ (SqL X.K H1 p vs ∨ SqT X.K H1 p vs) ∧ HsL q F1 ds vs := by
    cases d with
    | tup ds =>
      cases ed
      obtain ⟨a, vs, rfl, hF, hv⟩ := has_tup.mp hx
      exact ⟨a, vs, rfl, .inr (c1.fit.sqT hF), hv⟩
    | lst ds =>
      cases ed
      obtain ⟨a, vs, rfl, hF, hv⟩ := has_lst.mp hx
      exact ⟨a, vs, rfl, .inl (c1.fit.sqL hF), hv⟩
    | _ => cases ed
  obtain ⟨p, vs, rfl, hq, hv⟩ := got
  refine ⟨p, vs, rfl, hq, fun z hz => ?_⟩
  have hF : F1 z = none := c1.fit.none_of hz
  have st : Stp0 F1 H1 F1 (upd H1 z (.lst vs)) := .allocM hz
  have h0 : H z = none := by
    cases y : H z with
    | none => rfl
    | some o =>
      obtain ⟨o', e'⟩ := s1.live z o y
      rw [hz] at e'; cases e'
  exact k _ (.nl ds) δ1 _ _ (s1.trans0 st.any) (c1.step0 st (c1.fit.updM hF)) ⟨z, vs, rfl, h0, hF, upd_same, hv⟩ hR
/-! ### name = [..] with own things lent to it -/
theorem l_borR {σ : L2.St} {H : Hp} {Q : VK} (hm : q.m = none) (h : lR q (dBorR tr) σ H Q) : lR q tr σ H Q := by
  obtain ⟨F, al, dty, δ, R, c, t, k⟩ := h
  refine ⟨_, al, _, _, _, c.borrow, t, fun v r δ1 F1 H1 s1 c1 hv hR => ?_⟩
  obtain ⟨st, c2⟩ := c.giveBack hm s1 c1.fit
  obtain ⟨ds, rfl, hsc, hR⟩ := hR
  obtain ⟨p, vs, rfl, h0, hF, hH, hvs⟩ := hv
  refine k (.ref p) (.nl ds) δ _ H1 st c2 ⟨p, vs, rfl, h0, ?_, hH, hvs.sca hsc⟩ hR
  unfold minusM
  split
  · rfl
  · exact hF
end
section
variable {X : Cx} {q : Pm} {elt tge iter : Expr} {ifs : List Expr} {scope : Scope} {own : List (Str × Nat)} {pos : Pos} {ti : DTI} {tg : Tg} {tt : Option DTT} {te : DTE}
theorem ds_setLcB {i : Nat} {y : Str} {py spos : Pos} (hm : q.m = none) (hc : X.calm = true) (hN : X.N.Nodup) (hi0 : 0 < i) (hy : X.N[i]? = some y) (hyl : X.env.scope.names.lookup y = some .local)
    (hsw : swapsWith (.ListComp elt [⟨tge, iter, ifs, 0⟩] scope pos) (some (.Name y py)) spos.line X.env = pure true) (hi : DI X q tge iter ti) (ok : BlkOk X.N X.env.scope scope own) (hsub : ∀ i ∈ tg.slots, i ∈ own.map (·.2))
    (hg : ∀ (s : Shared) (H : Hp) (C : Addr) (cl : List (Str × Addr)) (fp : List Addr), PG (X.blk s H scope (compEnvC scope cl C X.env) fp) tge (tg.g X.K)) (ht : ∀ (s : Shared) (H : Hp) (C : Addr) (cl : List (Str × Addr)) (fp : List Addr), PTs (X.blk s H scope (compEnvC scope cl C X.env) fp) ifs (lTs q tt))
    (he : ∀ (s : Shared) (H : Hp) (C : Addr) (cl : List (Str × Addr)) (fp : List Addr), DE (X.blk s H scope (compEnvC scope cl C X.env) fp) q elt te) (hs : ∀ x, foldedSetIterable iter X.env x = pure x := by intro _; rfl) :
    DS X q (.Assign [.Name y py] (.ListComp elt [⟨tge, iter, ifs, 0⟩] scope pos) spos) (dSetR i (dBorR (drLc ti tg tt te (own.map (·.2))))) := PS.imp (ps_setLc hc hN hy hyl hsw hi ok hg ht he hs) fun Dn σ H h => by
  obtain ⟨F, al, dty, δ, E, c, h, k⟩ := h
  refine l_lc hsub (l_borR hm ⟨F, al, dty, δ, _, c, h, fun v r δ1 F1 H1 s1 c1 hv hR => ?_⟩)
  exact l_par (is := [i]) (rs := [r]) (vs := [v]) c k s1 c1 ⟨v, [], rfl, hv, rfl, fun _ _ _ _ z => nomatch z⟩ (fun j hj => by simp at hj; rw [hj]; exact hi0) rfl hR
end
end K46

set_option Elab.async false
set_option linter.all false
set_option maxRecDepth 100000
set_option maxHeartbeats 1000000
/-! sorted of the moves' rows -/
namespace K46
open PySem PySem.Spec PyProof.Rows L2
/-- to, gain, chance -/
structure Row where
  t : Int
  g : Int
  a : Int
  b : Int
deriving DecidableEq
def rowD (r : Row) : D := .tup [.int r.t, .int r.g, .tup [.int r.a, .int r.b]]
def rowP (r : Row) : PyData := .tuple [.int r.t, .int r.g, .tuple [.int r.a, .int r.b]]
def pLt (x y : Row) : Prop := x.t < y.t ∨ (x.t = y.t ∧ x.g < y.g)
theorem rowP_alike (x y : Row) : PySem.W.alike (rowP x) (rowP y) = true := by simp [rowP, PySem.W.alike, PySem.W.alikeAll]
theorem rowP_depth (x : Row) : (rowP x).depth = 2 := by simp [rowP, PyData.depth, PyData.depthAll]
theorem rowP_lt {x y : Row} (h : ¬ (x.t = y.t ∧ x.g = y.g)) : PySem.W.dataLt (rowP x) (rowP y) = true ↔ pLt x y := by
  unfold rowP
  rw [PySem.W.dataLt_tuple, PySem.W.dataLt_cons (by simp [PySem.W.alike])]
  have e1 : PyData.eqv (.int x.t) (.int y.t) = (x.t == y.t) := by simp [PyData.eqv]
  have e2 : PyData.eqv (.int x.g) (.int y.g) = (x.g == y.g) := by simp [PyData.eqv]
  rw [e1]
  by_cases ht : x.t = y.t
  · rw [if_pos (by simpa using ht), PySem.W.dataLt_cons (by simp [PySem.W.alike]), e2]
    have hg : ¬ x.g = y.g := fun z => h ⟨ht, z⟩
    rw [if_neg (by simpa using hg), PySem.W.dataLt_int]
    unfold pLt
    simp [ht]
  · rw [if_neg (by simpa using ht), PySem.W.dataLt_int]
    unfold pLt
    simp [ht]
def gSortR : GL := fun ds R => ∃ rows : List Row, ds = [.lst (rows.map rowD)] ∧ rows.length ≤ 60 ∧ rows.Pairwise (fun x y => ¬ (x.t = y.t ∧ x.g = y.g)) ∧ ∀ rows' : List Row, rows'.Perm rows → rows'.Pairwise pLt → R (.lst (rows'.map rowD))
section
variable {X : Cx} {q : Pm}
theorem rowP_dp {K : PySem.W.Frag} {F H : Hp} {v : V} {r : Row} (ft : Fit q.m F H) (h : Hs q F (rowD r) v) : Dp K H v (rowP r) := by
  obtain ⟨a, vs, rfl, e1, e2⟩ := has_tup.mp h
  obtain ⟨v1, r1, rfl, a1, b1⟩ := hasL_cons.mp e2
  obtain ⟨v2, r2, rfl, a2, b2⟩ := hasL_cons.mp b1
  obtain ⟨v3, rfl, a3⟩ := has1 b2
  obtain ⟨p, ws, rfl, f1, f2⟩ := has_tup.mp a3
  have g : ws = [r.a, r.b].map V.int := (HasL.ints (ns := [r.a, r.b])).mp f2
  rw [has_int.mp a1, has_int.mp a2] at e1
  exact .tup (ft.sqT e1) (.cons (.int _) (.cons (.int _) (.cons (.tup (ft.sqT f1) (by rw [g]; exact .cons (.int _) (.cons (.int _) .nil))) .nil)))
theorem zip_pw {P : Row → Row → Prop} : ∀ {vs : List V} {rows : List Row}, rows.Pairwise P → (vs.zip rows).Pairwise fun x y => P x.2 y.2
  | [], _, _ => by simp
  | v :: vs, [], _ => by simp
  | v :: vs, r :: rows, h => by
    have h' := List.pairwise_cons.mp h
    rw [List.zip_cons_cons]
    exact List.pairwise_cons.mpr ⟨fun p hp => h'.1 p.2 (List.of_mem_zip hp).2, zip_pw h'.2⟩
def rSortR (X : Cx) (q : Pm) : List V → Hp → VK → Prop := fun xs H Q => ∃ F a vs rows, xs = [.ref a] ∧ Fit q.m F H ∧ F a = some (.lst vs) ∧ HsL q F (rows.map rowD) vs ∧ rows.length ≤ 60 ∧ rows.Pairwise (fun x y => ¬ (x.t = y.t ∧ x.g = y.g)) ∧
  ∀ (vs' : List V) (rows' : List Row) p, rows'.Perm rows → rows'.Pairwise pLt → HsL q F (rows'.map rowD) vs' → H p = none → Q (.ref p) (upd H p (.lst vs'))
theorem each_zip {F H : Hp} {pins : List (Addr × Obj)} {σ : L2.St} {s : Shared} (I : Inv X pins σ H s) (ft : Fit q.m F H) : ∀ {rows : List Row} {vs : List V} {us : List Value}, HsL q F (rows.map rowD) vs → Vals vs us →
    PySem.W.EachIs (fun (u : Value) (p : V × Row) => RelV p.1 u ∧ Hs q F (rowD p.2) p.1) us (vs.zip rows) ∧ PySem.W.EachIs (fun (u : Value) (p : V × Row) => ∃ as, Reads s.heap u (rowP p.2) as) us (vs.zip rows)
  | [], vs, us, h, r => by
    rw [hasL_nil.mp h] at r ⊢
    cases r
    exact ⟨.nil, .nil⟩
  | x :: rows, vs, us, h, r => by
    obtain ⟨v, t, rfl, h1, h2⟩ := hasL_cons.mp h
    cases r with
    | cons r1 r2 =>
      obtain ⟨a, b⟩ := each_zip I ft h2 r2
      exact ⟨.cons ⟨r1, h1⟩ a, .cons (Dp.reads I _ _ _ (rowP_dp ft h1) r1) b⟩
theorem each_vals {F : Hp} : ∀ {us : List Value} {ps : List (V × Row)}, PySem.W.EachIs (fun (u : Value) (p : V × Row) => RelV p.1 u ∧ Hs q F (rowD p.2) p.1) us ps → Vals (ps.map (·.1)) us ∧ HsL q F ((ps.map (·.2)).map rowD) (ps.map (·.1))
  | _, _, .nil => ⟨.nil, .nil⟩
  | _, _, .cons h t => by
    obtain ⟨a, b⟩ := each_vals t
    exact ⟨.cons h.1 a, .cons h.2 b⟩
theorem cr_sortR (hu : X.A.units + 8 < cLine) : CallR X (.builtin "sorted") (rSortR X q) := by
  intro pins s σ H xs us Q I r h
  obtain ⟨F, a, vs, rows, rfl, ft, hF, hv, h60, hd, k⟩ := h
  obtain ⟨its, rv, hl, _⟩ := I.list (ft.sqL hF)
  rw [Vals.ref1 r]
  obtain ⟨e1, e2⟩ := each_zip I ft hv rv
  have hlen : vs.length = rows.length := by rw [hv.length, List.length_map]
  have hmap : (vs.zip rows).map (·.2) = rows := List.map_snd_zip (by omega)
  refine PySem.W.sorted_data (enc := fun p : V × Row => rowP p.2) hl.isList e1 e2 (.of fun b b' => rowP_alike b.2 b'.2) (.tuples fun b => ⟨_, _, rfl⟩) (sz (by rw [List.length_zip]; omega)) (fun b _ => by rw [rowP_depth]; omega) fun out ho eo => ?_
  obtain ⟨ep, he'⟩ := PyProof.Rows.sortedAll_at s.heap its out.toArray
  generalize hso : (vs.zip rows).mergeSort (PySem.W.dataLe false fun p : V × Row => rowP p.2) = so at eo
  obtain ⟨g1, g2⟩ := each_vals eo
  have hperm : so.Perm (vs.zip rows) := by rw [← hso]; exact List.mergeSort_perm _ _
  have hpr : (so.map (·.2)).Perm rows := by
    have := hperm.map (·.2)
    rwa [hmap] at this
  have htot : PySem.W.TotalLe (PySem.W.dataLe false fun p : V × Row => rowP p.2) := PySem.W.sortLe_total _ _ _
  have hsorted : so.Pairwise fun x y => PySem.W.dataLe false (fun p : V × Row => rowP p.2) x y = true := by
    rw [← hso]
    exact List.pairwise_mergeSort htot.trans (fun a b => by rcases htot.total a b with z | z <;> simp [z]) _
  have hdist : so.Pairwise fun x y => ¬ (x.2.t = y.2.t ∧ x.2.g = y.2.g) := by
    refine (List.Perm.pairwise_iff (fun {x y} h z => h ⟨z.1.symm, z.2.symm⟩) hperm).mpr ?_
    exact zip_pw hd
  have hpw : (so.map (·.2)).Pairwise pLt := by
    rw [List.pairwise_map]
    refine List.Pairwise.imp₂ (fun x y h1 h2 => ?_) hsorted hdist
    have h1 : (!PySem.W.dataLt (rowP y.2) (rowP x.2)) = true := h1
    have h3 : ¬ pLt y.2 x.2 := fun z => by
      rw [(rowP_lt fun w => h2 ⟨w.1.symm, w.2.symm⟩).mpr z] at h1
      cases h1
    unfold pLt at h3 ⊢
    have h2' : ¬ (x.2.t = y.2.t ∧ x.2.g = y.2.g) := h2
    omega
  have hz : (so.map (·.1)).length ≤ sizeLine := sz (by rw [List.length_map, hperm.length_eq, List.length_zip]; omega)
  exact ⟨.ref _, upd H (s.heap.objs.size + 1) (.lst (so.map (·.1))), I.laid (t' := s.toks) (fun _ _ => PyProof.Rows.sortedAll_old) (Nat.le_succ _) ⟨hz, out, ep, g1, by simpa using he'⟩, rfl, k _ _ _ hpr hpw g2 (I.hok.fresh (Nat.le_succ _))⟩
theorem cp_sortR : CallP q (rSortR X q) gSortR := fun F H xs ds R Q ft hx hg k => by
  obtain ⟨rows, rfl, h60, hd, h⟩ := hg
  obtain ⟨v, rfl, hv⟩ := has1 hx
  obtain ⟨p, vs, rfl, e1, e2⟩ := has_lst.mp hv
  refine ⟨F, p, vs, rows, rfl, ft, e1, e2, h60, hd, fun vs' rows' z hp hpw hv' hz => ?_⟩
  exact newL (dd := .non) ft hz hv' fun v F' H' s f' hv => k v _ F' H' s f' hv (h rows' hp hpw)
end
end K46

set_option Elab.async false
set_option linter.all false
set_option maxRecDepth 100000
set_option maxHeartbeats 1000000
/-! [e for x in xs for y in ys] -/
namespace K46
open PySem PySem.Spec PyProof.Rows L2
theorem yes_ite {A B : Prop} (h : A) : if true = true then A else B := by rw [if_pos rfl]; exact h
theorem wipe_wipe {σ : L2.St} {vs vs1 : List Nat} (h : ∀ i ∈ vs1, i ∈ vs) : wipe (wipe σ vs1) vs = wipe σ vs := by
  refine List.ext_getElem? fun i => ?_
  rw [wipe_get, wipe_get, wipe_get]
  by_cases a : i ∈ vs
  · rw [if_pos a, if_pos a]
    by_cases b : i ∈ vs1
    · rw [if_pos b]; cases σ[i]? <;> rfl
    · rw [if_neg b]
  · rw [if_neg a, if_neg a, if_neg fun b => a (h i b)]
def drLc2 (ti : DTI) (tg : Tg) (ti1 : DTI) (tg1 : Tg) (te : DTE) (vs vs1 : List Nat) : DTR := fun δ R => ti δ fun ds δ1 => ∃ Iv : Nat → List D → List Sl → Prop, wOk δ1 vs = true ∧ Iv 0 [] (wpD δ1 vs) ∧
  (∀ (i : Nat) (d : D) acc δ2, ds[i]? = some d → Iv i acc δ2 → ∃ δ3, tg.set d δ2 = some δ3 ∧ ti1 δ3 fun ds1 δ4 => ∃ Jv : Nat → List D → List Sl → Prop, Jv 0 acc (wpD δ4 vs1) ∧
    (∀ (j : Nat) (d1 : D) acc1 δ5, ds1[j]? = some d1 → Jv j acc1 δ5 → acc1.length < 100000 ∧ ∃ δ6, tg1.set d1 δ5 = some δ6 ∧ te δ6 fun y δ7 => Jv (j + 1) (acc1 ++ [y]) (wpD δ7 vs1)) ∧
    ∀ acc1 δ5, Jv ds1.length acc1 δ5 → Iv (i + 1) acc1 (wpD δ5 vs)) ∧
  ∀ acc δ2, Iv ds.length acc δ2 → R (.nl acc) (unD δ1 vs δ2)
theorem l_lc2 {q : Pm} {K : PySem.W.Frag} {σ : L2.St} {H : Hp} {Q : VK} {ti ti1 : DTI} {tg tg1 : Tg} {te : DTE} {vs vs1 : List Nat} (hsub : ∀ i ∈ tg.slots, i ∈ vs) (hsub1 : ∀ i ∈ tg1.slots, i ∈ vs1) (hv : ∀ i ∈ vs1, i ∈ vs) (h : lR q (drLc2 ti tg ti1 tg1 te vs vs1) σ H Q) :
    tLc2 (lI q ti) (tg.g K) tYes (lI q ti1) (tg1.g K) tYes (lE q te) vs vs1 σ H Q := by
  obtain ⟨F, al, dty, δ, R, c, t, k⟩ := h
  refine ⟨F, al, dty, δ, _, c, t, fun J ds δ1 F1 H1 s1 c1 wk hR => ?_⟩
  obtain ⟨Iv, hw, i0, turn, hfin⟩ := hR
  intro D hD
  have ndD : ¬ dty D := fun z => by
    obtain ⟨o, e⟩ := c1.liv D z
    rw [hD] at e; cases e
  have freeD : ∀ F' H', F' D = none → ∀ F2 H2, Stp dty F' H' F2 H2 → (∃ o, H' D = some o) → F2 D = none := fun F' H' h1 F2 H2 s2 ho => by
    cases e : F2 D with
    | none => rfl
    | some o =>
      rcases s2.new D o e with z | z | z
      · rw [h1] at z; cases z
      · obtain ⟨o', e'⟩ := ho
        rw [z] at e'; cases e'
      · exact (ndD z).elim
  refine ⟨fun i m H' => m = ds.length - i ∧ i ≤ ds.length ∧ ∃ F' δ' acc avs, Stp dty F1 H1 F' H' ∧ Cf q F' H' al dty δ' (wipe σ vs) ∧ F' D = none ∧ H' D = some (.lst avs) ∧ HsL q F' acc avs ∧ Iv i acc δ', ⟨ds.length, rfl, Nat.zero_le _, F1, wpD δ1 vs, [], [], Stp.refl.own hD, ?_, c1.fit.none_of hD, upd_same, .nil, i0⟩, ?_⟩
  · exact (c1.wipe (vs := vs)).own (c1.fit.none_of hD) ndD
  rintro i m H2 ⟨rfl, hi, F2, δ2, acc, avs, s2, c2, hFD, hHD, hacc, iv⟩
  by_cases hlt : i < ds.length
  · right
    obtain ⟨g1, g2⟩ := wk.go i ds[i] F2 H2 (List.getElem?_eq_getElem hlt) s2.up c2.fit s2.frz
    refine ⟨g1, fun H' => ∃ m', m' < ds.length - i ∧ m' = ds.length - (i + 1) ∧ i + 1 ≤ ds.length ∧ ∃ F' δ' acc avs, Stp dty F1 H1 F' H' ∧ Cf q F' H' al dty δ' (wipe σ vs) ∧ F' D = none ∧ H' D = some (.lst avs) ∧ HsL q F' acc avs ∧ Iv (i + 1) acc δ', fun H' ⟨m', a, b⟩ => ⟨m', a, b⟩, fun x H3 hy => ?_⟩
    obtain ⟨F3, s3, f3, hx⟩ := g2 x H3 hy
    have c3 := c2.step0 s3 f3
    have s13 : Stp dty F1 H1 F3 H3 := s2.trans0 s3.any
    have hF3 := freeD F2 H2 hFD F3 H3 s3.any ⟨_, hHD⟩
    have hH3 : H3 D = some (.lst avs) := s3.keep D _ hHD hFD fun z => z
    have hacc3 := hacc.mono s3.up
    obtain ⟨δ3, e3, hb⟩ := turn i ds[i] acc δ2 (List.getElem?_eq_getElem hlt) iv
    refine tg.ok c3 hx e3 fun σ4 c4 hσ => ?_
    obtain ⟨xs, rfl⟩ := hσ
    have hwp : wipe (setV (wipe σ vs) tg.slots xs) vs = wipe σ vs := wipe_setV hsub
    generalize hg4 : setV (wipe σ vs) tg.slots xs = σ4 at c4 hwp
    refine ⟨hwp, ?_⟩
    refine ⟨F3, al, dty, δ3, _, c4, hb, fun J1 ds1 δ4 F4 H4 s4 c5 wk1 hR1 => ?_⟩
    obtain ⟨Jv, j0, turn1, fin1⟩ := hR1
    have s14 := s13.trans0 s4
    have hF4 := freeD F3 H3 hF3 F4 H4 s4 ⟨_, hH3⟩
    have hH4 : H4 D = some (.lst avs) := s4.keep D _ hH3 hF3 ndD
    have hacc4 := hacc3.mono s4.up
    refine ⟨fun j m H' => m = ds1.length - j ∧ j ≤ ds1.length ∧ ∃ F' δ' acc avs, Stp dty F1 H1 F' H' ∧ (Le F4 F' ∧ FrzLe H4 H') ∧ Cf q F' H' al dty δ' (wipe σ4 vs1) ∧ F' D = none ∧ H' D = some (.lst avs) ∧ HsL q F' acc avs ∧ Jv j acc δ', ⟨ds1.length, rfl, Nat.zero_le _, F4, wpD δ4 vs1, acc, avs, s14, ⟨.refl _, fun _ _ _ e => e⟩, c5.wipe, hF4, hH4, hacc4, j0⟩, ?_⟩
    rintro j m H5 ⟨rfl, hj, F5, δ5, acc5, avs5, s15, s45, c6, hF5, hH5, hacc5, jv⟩
    by_cases hlj : j < ds1.length
    · right
      obtain ⟨g3, g4⟩ := wk1.go j ds1[j] F5 H5 (List.getElem?_eq_getElem hlj) s45.1 c6.fit s45.2
      refine ⟨g3, fun H' => ∃ m', m' < ds1.length - j ∧ m' = ds1.length - (j + 1) ∧ j + 1 ≤ ds1.length ∧ ∃ F' δ' acc avs, Stp dty F1 H1 F' H' ∧ (Le F4 F' ∧ FrzLe H4 H') ∧ Cf q F' H' al dty δ' (wipe σ4 vs1) ∧ F' D = none ∧ H' D = some (.lst avs) ∧ HsL q F' acc avs ∧ Jv (j + 1) acc δ', fun H' ⟨m', a, b⟩ => ⟨m', a, b⟩, fun x1 H6 hy1 => ?_⟩
      obtain ⟨F6, s6, f6, hx1⟩ := g4 x1 H6 hy1
      have c7 := c6.step0 s6 f6
      have hF6 := freeD F5 H5 hF5 F6 H6 s6.any ⟨_, hH5⟩
      have hH6 : H6 D = some (.lst avs5) := s6.keep D _ hH5 hF5 fun z => z
      have hacc6 := hacc5.mono s6.up
      obtain ⟨hl6, δ6, e6, hb6⟩ := turn1 j ds1[j] acc5 δ5 (List.getElem?_eq_getElem hlj) jv
      refine tg1.ok c7 hx1 e6 fun σ7 c8 hσ7 => ?_
      obtain ⟨xs1, rfl⟩ := hσ7
      have hwp1 : wipe (setV (wipe σ4 vs1) tg1.slots xs1) vs1 = wipe σ4 vs1 := wipe_setV hsub1
      refine ⟨hwp1, ?_⟩
      refine ⟨F6, al, dty, δ6, _, c8, hb6, fun y dy δ7 F7 H7 s7 c9 hy2 hjv => ?_⟩
      have hF7 := freeD F6 H6 hF6 F7 H7 s7 ⟨_, hH6⟩
      have hH7 : H7 D = some (.lst avs5) := s7.keep D _ hH6 hF6 ndD
      have hacc7 := hacc6.mono s7.up
      have s17 := (s15.trans0 s6.any).trans0 s7
      refine ⟨avs5, hH7, szlt (by rw [hacc7.length]; exact hl6), _, by omega, rfl, hlj, F7, wpD δ7 vs1, acc5 ++ [dy], avs5 ++ [y], s17.own hD, ?_, ?_, hF7, upd_same, hacc7.append (.cons hy2 .nil), hjv⟩
      · refine ⟨(s45.1.trans s6.up).trans s7.up, fun a ob u e => ?_⟩
        have e7 := s7.frz _ _ _ (s6.frz _ _ _ (s45.2 a ob u e))
        rw [upd_ne fun z => by rw [z, hH7] at e7; cases e7]
        exact e7
      · have c10 := (c9.wipe (vs := vs1)).own (o := .lst (avs5 ++ [y])) hF7 ndD
        rw [hwp1] at c10
        exact c10
    · left
      have e : j = ds1.length := by omega
      subst e
      refine ⟨wk1.stop _ F5 H5 (Nat.le_refl _) s45.1 c6.fit s45.2, _, by omega, rfl, hlt, F5, wpD δ5 vs, acc5, avs5, s15, ?_, hF5, hH5, hacc5, fin1 acc5 δ5 jv⟩
      have c7 := c6.wipe (vs := vs)
      rw [wipe_wipe hv, hwp] at c7
      exact c7
  · left
    have e : i = ds.length := by omega
    subst e
    refine ⟨wk.stop _ F2 H2 (Nat.le_refl _) s2.up c2.fit s2.frz, ?_⟩
    have h0 : H D = none := by
      cases z : H D with
      | none => rfl
      | some o =>
        obtain ⟨o', e'⟩ := s1.live D o z
        rw [hD] at e'; cases e'
    exact k (.ref D) (.nl acc) _ F2 H2 (s1.trans0 s2) (Cf.unw c1 c2 hw s2.up) ⟨D, avs, rfl, h0, hFD, hHD, hacc⟩ (hfin acc δ2 iv)
section
variable {X : Cx} {q : Pm} {elt tge iter tge1 iter1 : Expr} {scope : Scope} {own : List (Str × Nat)} {vs1 : List Nat} {pos : Pos} {ti ti1 : DTI} {tg tg1 : Tg} {te : DTE}
theorem dr_lc2 (hc : X.calm = true) (hN : X.N.Nodup) (hi : DI X q tge iter ti) (ok : BlkOk X.N X.env.scope scope own) (hv : ∀ i ∈ vs1, i ∈ own.map (·.2)) (hsub : ∀ i ∈ tg.slots, i ∈ own.map (·.2)) (hsub1 : ∀ i ∈ tg1.slots, i ∈ vs1)
    (hg : ∀ (s : Shared) (H : Hp) (C : Addr) (cl : List (Str × Addr)) (fp : List Addr), PG (X.blk s H scope (compEnvC scope cl C X.env) fp) tge (tg.g X.K)) (hi1 : ∀ (s : Shared) (H : Hp) (C : Addr) (cl : List (Str × Addr)) (fp : List Addr), DI (X.blk s H scope (compEnvC scope cl C X.env) fp) q tge1 iter1 ti1)
    (hg1 : ∀ (s : Shared) (H : Hp) (C : Addr) (cl : List (Str × Addr)) (fp : List Addr), PG (X.blk s H scope (compEnvC scope cl C X.env) fp) tge1 (tg1.g X.K))
    (he : ∀ (s : Shared) (H : Hp) (C : Addr) (cl : List (Str × Addr)) (fp : List Addr), DE (X.blk s H scope (compEnvC scope cl C X.env) fp) q elt te) (hs : ∀ x, foldedSetIterable iter X.env x = pure x := by intro _; rfl) (hs1 : ∀ env x, foldedSetIterable iter1 env x = pure x := by intro _ _; rfl) :
    DR X q (.ListComp elt [⟨tge, iter, [], 0⟩, ⟨tge1, iter1, [], 0⟩] scope pos) (drLc2 ti tg ti1 tg1 te (own.map (·.2)) vs1) := PE.imp (pe_lc2 hc hN hi ok hv hg (fun _ _ _ _ _ => pts_nil) hi1 hg1 (fun _ _ _ _ _ => pts_nil) he hs hs1) fun σ H Q h => l_lc2 hsub hsub1 hv h
end
end K46

set_option Elab.async false
set_option linter.all false
set_option maxRecDepth 100000
set_option maxHeartbeats 1000000
/-! list(zip(t, u)) of tuples: the pairs stay, the walker makes new ones -/
namespace RZ
open PySem PySem.Spec PySem.Calls PyProof.Rows L2
abbrev ZipF (h : Heap) (z TI TO T : Addr) (f : Bool) : Prop :=
  h.get? z = some { cls := .type "zip", dict := none, data := .fields #[rawInt T, .bool f, .bool false, .ref TI, .ref TO], slots := #[] }
section
variable {prog : Program} {w : World} {A : Around} {E : Value → Shared → Prop} {s : Shared}
theorem zf_free {z TI TO T : Addr} {f : Bool} {oT : Obj} {Q : Bool → Shared → Prop} (hz : ZipF s.heap z TI TO T f) (hT : s.heap.get? T = some oT) (hTz : T ≠ z)
    (hQ : ∀ h', ZipF h' z TI TO T true → h'.objs.size = s.heap.objs.size → (∀ c o, c ≠ z → s.heap.get? c = some o → h'.get? c = some o) → Q false { s with heap := h' }) :
    wpAny (model prog w) A (Builtin.SmallTypes.ownedTupleIsFree (.ref z)) Q E s := by
  unfold Builtin.SmallTypes.ownedTupleIsFree
  refine wpAny_bind (wpAny_field hz rfl (x := rawInt T) rfl ?_)
  show wpAny _ _ (loadIfAlive ((T : Int).toNat) >>= _) _ _ _
  rw [Int.toNat_natCast]
  refine wpAny_bind (PySem.W.kdx_alive hT ?_)
  simp only [Option.isNone_some, Bool.false_eq_true, if_false]
  refine wpAny_bind (wpAny_field hz rfl (x := .bool f) rfl ?_)
  cases f with
  | true =>
    have h1 : (Value.bool true != Value.bool true) = false := by decide
    simp only [h1, Bool.false_eq_true, if_false]
    exact wpAny_pure (hQ s.heap hz rfl fun c o _ e => e)
  | false =>
    have h1 : (Value.bool false != Value.bool true) = true := by decide
    simp only [h1, if_true]
    refine wpAny_bind (wpAny_setField_rec hz (by simp) fun h₁ hz₁ hs₁ => ?_)
    exact wpAny_pure (hQ h₁ hz₁ hs₁.1 fun c o hc e => hs₁.extBut c o hc e)
theorem zf_next_item {z TI TO T i1 i2 l1 l2 : Addr} {f : Bool} {oT : Obj} {k1 k2 : Nat} {xs ys : Array Value} {x y : Value} {Q : Value → Shared → Prop} (D : ZipApart z TI TO i1 i2 l1 l2)
    (hz : ZipF s.heap z TI TO T f) (hTa : s.heap.get? T = some oT) (hTz : T ≠ z) (hTI : IsPair s.heap TI (.ref i1) (.ref i2))
    (h1 : s.heap.IsTupleIter i1 l1 k1) (h2 : s.heap.IsTupleIter i2 l2 k2) (hl1 : s.heap.IsTuple l1 xs) (hl2 : s.heap.IsTuple l2 ys) (hx : xs[k1]? = some x) (hy : ys[k2]? = some y)
    (hQ : ∀ h', ZipF h' z TI TO T true → h'.IsTupleIter i1 l1 (k1 + 1) → h'.IsTupleIter i2 l2 (k2 + 1) → IsPair h' s.heap.objs.size x y → h'.objs.size = s.heap.objs.size + 1 →
      (∀ c o, c ≠ z → c ≠ i1 → c ≠ i2 → s.heap.get? c = some o → h'.get? c = some o) → Q (.ref s.heap.objs.size) { s with heap := h' }) :
    wpAny (model prog w) A (Builtin.«zip.__next__» ⟨[.ref z], []⟩) (fun fin s' => ∃ v, fin = .done (.ret v) ∧ Q v s') E s := by
  show wpAny _ _ (field (.ref z) 2 >>= _) _ _ _
  refine wpAny_bind (wpAny_field hz rfl (x := .bool false) rfl ?_)
  show wpAny _ _ (field (.ref z) 3 >>= _) _ _ _
  refine wpAny_bind (wpAny_field hz rfl (x := .ref TI) rfl ?_)
  refine wpAny_bind (wpAny_seqItems hTI rfl ?_)
  show wpAny _ _ (Builtin.SmallTypes.ownedTupleIsFree (.ref z) >>= _) _ _ _
  refine wpAny_bind (zf_free hz hTa hTz fun h₁ hz₁ hsz₁ hs₁ => ?_)
  simp only [Bool.false_eq_true, if_false]
  refine wpAny_bind ?_
  simp only [List.forIn_cons, List.forIn_nil, Array.forIn_toList, ← Array.forIn_toList]
  refine wpAny_bind (wpAny_bind (wpAny_holding ?_))
  show wpAny _ _ (Builtin.SmallTypes.nextOf (.ref i1) >>= _) _ _ _
  refine wpAny_bind (nextOf_tuple_item (h1.at fun o e => hs₁ _ o D.i1z e) (hl1.at fun o e => hs₁ _ o D.l1z e) hx fun h₂ h1₂ hs₂ => wpAny_pure ?_)
  refine wpAny_pure ?_
  refine wpAny_bind (wpAny_bind (wpAny_holding ?_))
  show wpAny _ _ (Builtin.SmallTypes.nextOf (.ref i2) >>= _) _ _ _
  refine wpAny_bind (nextOf_tuple_item ((h2.at fun o e => hs₁ _ o D.i2z e).extBut hs₂.extBut D.i12.symm) ((hl2.at fun o e => hs₁ _ o D.l2z e).extBut hs₂.extBut D.l2i1) hy fun h₃ h2₃ hs₃ => wpAny_pure ?_)
  refine wpAny_pure ?_
  refine wpAny_pure ?_
  show wpAny _ _ (newTuple [x, y] >>= _) _ _ _
  refine wpAny_bind (wpAny_newTuple ?_)
  have hz₃ : ZipF h₃ z TI TO T true := hs₃.extBut _ _ D.i2z.symm (hs₂.extBut _ _ D.i1z.symm hz₁)
  have hsz : h₃.objs.size = s.heap.objs.size := by rw [hs₃.1, hs₂.1]; exact hsz₁
  have h1₃ : h₃.IsTupleIter i1 l1 (k1 + 1) := h1₂.extBut hs₃.extBut D.i12
  have hT : (h₃.push { cls := .type "tuple", data := .seq #[x, y] }).get? h₃.objs.size = some { cls := .type "tuple", data := .seq #[x, y] } := Heap.get?_push_size _ rfl
  refine wpAny_pure ⟨_, rfl, ?_⟩
  show Q (.ref h₃.objs.size) _
  rw [hsz] at hT ⊢
  exact hQ _ (Heap.get?_push_of_some _ hz₃) (h1₃.at fun o e => Heap.get?_push_of_some _ e) (h2₃.at fun o e => Heap.get?_push_of_some _ e) hT (by rw [Heap.size_push, hsz]) fun c o c1 c2 c3 e => Heap.get?_push_of_some _ (hs₃.extBut _ _ c3 (hs₂.extBut _ _ c2 (hs₁ _ _ c1 e)))
theorem zf_next_end {z TI TO T i1 i2 l1 l2 : Addr} {f : Bool} {oT : Obj} {k1 k2 : Nat} {xs ys : Array Value} {Q : Fin → Shared → Prop} (hh : A.handled = none) (D : ZipApart z TI TO i1 i2 l1 l2)
    (hz : ZipF s.heap z TI TO T f) (hTa : s.heap.get? T = some oT) (hTz : T ≠ z) (hTI : IsPair s.heap TI (.ref i1) (.ref i2))
    (h1 : s.heap.IsTupleIter i1 l1 k1) (h2 : s.heap.IsTupleIter i2 l2 k2) (hl1 : s.heap.IsTuple l1 xs) (hl2 : s.heap.IsTuple l2 ys) (hend : xs[k1]? = none ∨ ys[k2]? = none)
    (hE : ∀ h' e, (∀ c o, c ≠ z → c ≠ i1 → c ≠ i2 → s.heap.get? c = some o → h'.get? c = some o) → (∃ o, h'.get? e = some o ∧ o.cls = .type "StopIteration") → E (.ref e) { s with heap := h' }) :
    wpAny (model prog w) A (Builtin.«zip.__next__» ⟨[.ref z], []⟩) Q E s := by
  show wpAny _ _ (field (.ref z) 2 >>= _) _ _ _
  refine wpAny_bind (wpAny_field hz rfl (x := .bool false) rfl ?_)
  show wpAny _ _ (field (.ref z) 3 >>= _) _ _ _
  refine wpAny_bind (wpAny_field hz rfl (x := .ref TI) rfl ?_)
  refine wpAny_bind (wpAny_seqItems hTI rfl ?_)
  show wpAny _ _ (Builtin.SmallTypes.ownedTupleIsFree (.ref z) >>= _) _ _ _
  refine wpAny_bind (zf_free hz hTa hTz fun h₁ hz₁ hsz₁ hs₁ => ?_)
  simp only [Bool.false_eq_true, if_false]
  refine wpAny_bind ?_
  simp only [List.forIn_cons, List.forIn_nil, Array.forIn_toList, ← Array.forIn_toList]
  refine wpAny_bind (wpAny_bind (wpAny_holding ?_))
  show wpAny _ _ (Builtin.SmallTypes.nextOf (.ref i1) >>= _) _ _ _
  cases hx : xs[k1]? with
  | none =>
    refine wpAny_bind (nextOf_tuple_end hh (h1.at fun o e => hs₁ _ o D.i1z e) (hl1.at fun o e => hs₁ _ o D.l1z e) hx fun h₂ e hs₂ he => ?_)
    exact hE h₂ e (fun c o c1 c3 _ x => hs₂ _ _ c3 (hs₁ _ _ c1 x)) he
  | some x =>
    have hy : ys[k2]? = none := by rcases hend with h | h; rw [hx] at h; cases h; exact h
    refine wpAny_bind (nextOf_tuple_item (h1.at fun o e => hs₁ _ o D.i1z e) (hl1.at fun o e => hs₁ _ o D.l1z e) hx fun h₂ h1₂ hs₂ => wpAny_pure ?_)
    refine wpAny_pure ?_
    refine wpAny_bind (wpAny_bind (wpAny_holding ?_))
    show wpAny _ _ (Builtin.SmallTypes.nextOf (.ref i2) >>= _) _ _ _
    refine wpAny_bind (nextOf_tuple_end hh ((h2.at fun o e => hs₁ _ o D.i2z e).extBut hs₂.extBut D.i12.symm) ((hl2.at fun o e => hs₁ _ o D.l2z e).extBut hs₂.extBut D.l2i1) hy fun h₃ e hs₃ he => ?_)
    exact hE h₃ e (fun c o c1 c2 c3 x => hs₃ _ _ c3 (hs₂.extBut _ _ c2 (hs₁ _ _ c1 x))) he
/-- the walker, k pairs on -/
def ZSt (h : Heap) (z TI TO i1 i2 l1 l2 S : Addr) (k : Nat) : Prop := IsPair h TI (.ref i1) (.ref i2) ∧ h.IsTupleIter i1 l1 k ∧ h.IsTupleIter i2 l2 k ∧
  ((k = 0 ∧ IsZip h z TI TO .none ∧ ∃ a b, IsPair h TO a b) ∨ ∃ T f oT, ZipF h z TI TO T f ∧ h.get? T = some oT ∧ T ≠ z ∧ T ≠ S ∧ T ≠ i1 ∧ T ≠ i2)
structure ZAp (z TI TO i1 i2 l1 l2 S : Addr) : Prop extends ZipApart z TI TO i1 i2 l1 l2 where
  Sz : S ≠ z
  STI : S ≠ TI
  STO : S ≠ TO
  Si1 : S ≠ i1
  Si2 : S ≠ i2
  Sl1 : S ≠ l1
  Sl2 : S ≠ l2
theorem ZSt.keep {h h' : Heap} {z TI TO i1 i2 l1 l2 S : Addr} {k : Nat} (D : ZAp z TI TO i1 i2 l1 l2 S) (x : ZSt h z TI TO i1 i2 l1 l2 S k) (hk : ∀ b o, b ≠ S → h.get? b = some o → h'.get? b = some o) : ZSt h' z TI TO i1 i2 l1 l2 S k := by
  obtain ⟨a, b, c, d⟩ := x
  refine ⟨hk _ _ D.STI.symm a, b.at fun o e => hk _ o D.Si1.symm e, c.at fun o e => hk _ o D.Si2.symm e, ?_⟩
  rcases d with ⟨e, f, u, v, g⟩ | ⟨T, f, oT, e1, e2, e3, e4, e5⟩
  · exact .inl ⟨e, hk _ _ D.Sz.symm f, u, v, hk _ _ D.STO.symm g⟩
  · exact .inr ⟨T, f, oT, hk _ _ D.Sz.symm e1, hk _ _ e4 e2, e3, e4, e5⟩
theorem zs_item {z TI TO i1 i2 l1 l2 S : Addr} {k : Nat} {xs ys : Array Value} {x y : Value} {Q : Option Value → Shared → Prop} (D : ZAp z TI TO i1 i2 l1 l2 S) (st : ZSt s.heap z TI TO i1 i2 l1 l2 S k) (hS : S < s.heap.objs.size)
    (hl1 : s.heap.IsTuple l1 xs) (hl2 : s.heap.IsTuple l2 ys) (hx : xs[k]? = some x) (hy : ys[k]? = some y)
    (hQ : ∀ h', ZSt h' z TI TO i1 i2 l1 l2 S (k + 1) → IsPair h' s.heap.objs.size x y → h'.objs.size = s.heap.objs.size + 1 → (∀ c o, c ≠ z → c ≠ TO → c ≠ i1 → c ≠ i2 → s.heap.get? c = some o → h'.get? c = some o) → Q (some (.ref s.heap.objs.size)) { s with heap := h' }) :
    wpAny (model prog w) A (pyNext (.ref z)) Q E s := by
  obtain ⟨hTI, h1, h2, d⟩ := st
  have i1l : i1 < s.heap.objs.size := by obtain ⟨_, e, _⟩ := id h1; exact Heap.lt_size e
  have i2l : i2 < s.heap.objs.size := by obtain ⟨_, e, _⟩ := id h2; exact Heap.lt_size e
  rcases d with ⟨e, hz, a, b, hTO⟩ | ⟨T, f, oT, hz, hTa, hTz, hTS, hT1, hT2⟩
  · have zl : z < s.heap.objs.size := Heap.lt_size hz
    exact pyNext_zipT_item D.toZipApart hz hTI hTO h1 h2 hl1 hl2 hx hy fun h' a1 a2 a3 a4 a5 a6 a7 => hQ h' ⟨a7 _ _ D.TIz D.TITO D.TIi1 D.TIi2 hTI, a3, a4, .inr ⟨_, false, _, a1, a5, Nat.ne_of_gt zl, Nat.ne_of_gt hS, Nat.ne_of_gt i1l, Nat.ne_of_gt i2l⟩⟩ a5 a6 a7
  · have hT : s.TypeIs (.ref z) "zip" := ⟨_, hz, rfl⟩
    unfold pyNext
    exact wpAny_bind (wpAny_attempt (wpAny_callSpecial?_slot (name := Str.ofString "__next__") hT F.slot_zip_next
      (wpAny_call_entry F.slot_zip_next hT F.entry_zip_next
        (zf_next_item D.toZipApart hz hTa hTz hTI h1 h2 hl1 hl2 hx hy fun h' a1 a3 a4 a5 a6 a7 => wpAny_pure (hQ h' ⟨a7 _ _ D.TIz D.TIi1 D.TIi2 hTI, a3, a4, .inr ⟨T, true, oT, a1, a7 _ _ hTz hT1 hT2 hTa, hTz, hTS, hT1, hT2⟩⟩ a5 a6 fun c o c1 _ c3 c4 e => a7 c o c1 c3 c4 e)) (F.args_zip_next_1 _))))
theorem zs_end {z TI TO i1 i2 l1 l2 S : Addr} {k : Nat} {xs ys : Array Value} {Q : Option Value → Shared → Prop} (hh : A.handled = none) (D : ZAp z TI TO i1 i2 l1 l2 S) (st : ZSt s.heap z TI TO i1 i2 l1 l2 S k)
    (hl1 : s.heap.IsTuple l1 xs) (hl2 : s.heap.IsTuple l2 ys) (hend : xs[k]? = none ∨ ys[k]? = none)
    (hQ : ∀ h', (∀ c o, c ≠ z → c ≠ TO → c ≠ i1 → c ≠ i2 → s.heap.get? c = some o → h'.get? c = some o) → Q none { s with heap := h' }) :
    wpAny (model prog w) A (pyNext (.ref z)) Q E s := by
  obtain ⟨hTI, h1, h2, d⟩ := st
  rcases d with ⟨e, hz, a, b, hTO⟩ | ⟨T, f, oT, hz, hTa, hTz, hTS, hT1, hT2⟩
  · exact pyNext_zipT_end hh D.toZipApart hz hTI hTO h1 h2 hl1 hl2 hend hQ
  · have hT : s.TypeIs (.ref z) "zip" := ⟨_, hz, rfl⟩
    unfold pyNext
    refine wpAny_bind (wpAny_attempt (wpAny_callSpecial?_slot (name := Str.ofString "__next__") hT F.slot_zip_next
      (wpAny_call_entry F.slot_zip_next hT F.entry_zip_next (zf_next_end hh D.toZipApart hz hTa hTz hTI h1 h2 hl1 hl2 hend fun h' e hk he => ?_) (F.args_zip_next_1 _))))
    obtain ⟨o, ho, hc⟩ := he
    refine wpAny_bind (wpAny_isInstance (T := "StopIteration") (b := true) ⟨o, ho, hc⟩ isSubtype_stop ?_)
    exact wpAny_pure (hQ _ fun c o c1 _ c3 c4 e => hk c o c1 c3 c4 e)
end
end RZ

set_option Elab.async false
set_option linter.all false
set_option maxRecDepth 100000
set_option maxHeartbeats 1000000
/-! list(zip(t, u)): the loop, the rule -/
namespace RZ
open PySem PySem.Spec PySem.Calls PyProof.Rows L2
theorem zip_no_len : typeLookup (.type "zip") "__len__" = pure none := am_miss_of_fast (by decide +kernel)
theorem zip_no_hint : typeLookup (.type "zip") "__length_hint__" = pure none := am_miss_of_fast (by decide +kernel)
/-- the pairs that were laid -/
structure ZG (xs ys : Array Value) (lo : Addr) (h : Heap) (as : List Addr) : Prop where
  rise : as.Pairwise (· < ·)
  above : ∀ a ∈ as, lo < a
  pairs : ∀ (j : Nat) (a : Addr), as[j]? = some a → ∃ x y, xs[j]? = some x ∧ ys[j]? = some y ∧ IsPair h a x y
theorem ZG.there {xs ys : Array Value} {lo : Addr} {h : Heap} {as : List Addr} (g : ZG xs ys lo h as) {a : Addr} (ha : a ∈ as) : a < h.objs.size := by
  obtain ⟨j, hj⟩ := List.mem_iff_getElem?.mp ha
  obtain ⟨_, _, _, _, e⟩ := g.pairs j a hj
  exact Heap.lt_size e
section
variable {prog : Program} {w : World} {A : Around} {s : Shared} {R : Result → Shared → Prop} {xs ys : Array Value}
theorem zs_loop {z TI TO i1 i2 l1 l2 S : Addr} {n : Nat} (hh : A.handled = none) (D : ZAp z TI TO i1 i2 l1 l2 S) (hlo : z < S ∧ TO < S ∧ i1 < S ∧ i2 < S) (hn : min xs.size ys.size = n) (hz : n ≤ sizeLine) (res : Value) {h₁ : Heap}
    (hR : ∀ h' tk acc c as, (∀ b o, b ≠ S → b ≠ z → b ≠ TO → b ≠ i1 → b ≠ i2 → h₁.get? b = some o → h'.get? b = some o) → h'.get? S = some { cls := .type "list", dict := none, data := .seq acc c, slots := #[] } → as.length = n → ZG xs ys S h' as →
      acc.toList = as.map Value.ref → R (.ok (.ret res)) { s with heap := h', toks := tk }) :
    ∀ (k i : Nat) (h : Heap) (tk c : Nat) (acc : Array Value) (as : List Addr), n - i = k → i ≤ n → ZSt h z TI TO i1 i2 l1 l2 S i → h.IsTuple l1 xs → h.IsTuple l2 ys → (∀ b o, b ≠ S → b ≠ z → b ≠ TO → b ≠ i1 → b ≠ i2 → h₁.get? b = some o → h.get? b = some o) →
      h.get? S = some { cls := .type "list", dict := none, data := .seq acc c, slots := #[] } → acc.toList = as.map Value.ref → as.length = i → ZG xs ys S h as →
      codeAny (model prog w) A (.builtin "list.extend.loop" ⟨[.ref S, .ref z, res], []⟩) R { s with heap := h, toks := tk } := by
  intro k
  induction k with
  | zero =>
    intro i h tk c acc as hk hi hst ht1 ht2 hkeep hS hacc hal hG
    have hin : i = n := by omega
    refine codeAny_builtin PySem.F.entry_extend_loop ?_
    rw [Around.under_plainId PySem.F.plain_extend_loop _]
    show wpAny _ A.in1 (pyNext (.ref z) >>= _) _ _ _
    have hend : xs[i]? = none ∨ ys[i]? = none := by
      rcases Nat.le_total xs.size ys.size with q | q
      · exact .inl (by simp; omega)
      · exact .inr (by simp; omega)
    refine wpAny_bind (zs_end (s := { s with heap := h, toks := tk }) (A := A.in1) hh D hst ht1 ht2 hend fun h' he => ?_)
    refine wpAny_pure (hR h' tk acc c as (fun b o h1 h2 h3 h4 h5 e => he b o h2 h3 h4 h5 (hkeep b o h1 h2 h3 h4 h5 e)) (he S _ D.Sz D.STO D.Si1 D.Si2 hS) (by omega) ⟨hG.rise, hG.above, fun j a hj => ?_⟩ hacc)
    obtain ⟨x, y, e1, e2, e3⟩ := hG.pairs j a hj
    have hb := hG.above a (List.mem_of_getElem? hj)
    have q : ∀ c, c < S → a ≠ c := fun c hc => Nat.ne_of_gt (Nat.lt_trans hc hb)
    exact ⟨x, y, e1, e2, he a _ (q _ hlo.1) (q _ hlo.2.1) (q _ hlo.2.2.1) (q _ hlo.2.2.2) e3⟩
  | succ k ih =>
    intro i h tk c acc as hk hi hst ht1 ht2 hkeep hS hacc hal hG
    have hlt : i < n := by omega
    have hx1 : i < xs.size := by omega
    have hy1 : i < ys.size := by omega
    have hx : xs[i]? = some xs[i] := Array.getElem?_eq_getElem hx1
    have hy : ys[i]? = some ys[i] := Array.getElem?_eq_getElem hy1
    have hsz : acc.size = i := by rw [← Array.length_toList, hacc, List.length_map, hal]
    refine codeAny_builtin PySem.F.entry_extend_loop ?_
    rw [Around.under_plainId PySem.F.plain_extend_loop _]
    show wpAny _ A.in1 (pyNext (.ref z) >>= _) _ _ _
    have hSl : S < h.objs.size := Heap.lt_size hS
    refine wpAny_bind (zs_item (s := { s with heap := h, toks := tk }) (S := S) D hst hSl ht1 ht2 hx hy fun h' hst' ht hz' hkp => ?_)
    dsimp only at ht hz' hkp ⊢
    have hS' := hkp S _ D.Sz D.STO D.Si1 D.Si2 hS
    have up : ∀ b o, b ≠ S → h'.get? b = some o → (h'.update S (Obj.mapSeq (·.push (Value.ref h.objs.size)))).get? b = some o := fun b o hb e => (Heap.get?_update_other _ _ (Ne.symm hb)).trans e
    show wpAny _ A.in1 (updateSeq S (·.push (Value.ref h.objs.size)) >>= _) _ _ _
    refine wpAny_bind ?_
    refine wpAny_updateSeq hS' rfl (wpAny_pure ⟨plainId_quiet PySem.F.plain_extend_loop _, ih (i + 1) _ tk _ (acc.push (Value.ref h.objs.size)) (as ++ [h.objs.size]) (by omega) hlt (hst'.keep D up)
      (ht1.at fun o e => up l1 o D.Sl1.symm (hkp l1 o D.l1z D.l1TO D.l1i1 D.l1i2 e)) (ht2.at fun o e => up l2 o D.Sl2.symm (hkp l2 o D.l2z D.l2TO D.l2i1 D.l2i2 e))
      (fun b o h1 h2 h3 h4 h5 e => up b o h1 (hkp b o h2 h3 h4 h5 (hkeep b o h1 h2 h3 h4 h5 e))) (Heap.get?_update_self _ hS' rfl) (by rw [Array.toList_push, hacc, List.map_append]; rfl) (by rw [List.length_append, hal]; rfl) ⟨?_, ?_, ?_⟩⟩) (by rw [hsz]; omega) (by show (acc.push (Value.ref h.objs.size)).size ≤ sizeLine + 1; rw [Array.size_push, hsz]; omega)
    · refine List.pairwise_append.mpr ⟨hG.rise, List.pairwise_singleton _ _, fun a ha b hb => ?_⟩
      rw [List.mem_singleton.mp hb]
      exact hG.there ha
    · intro a ha
      rcases List.mem_append.mp ha with ha | ha
      · exact hG.above a ha
      · rw [List.mem_singleton.mp ha]; exact hSl
    · intro j b hj
      rcases Nat.lt_trichotomy j as.length with h1 | h1 | h1
      · rw [List.getElem?_append_left h1] at hj
        obtain ⟨x, y, e1, e2, e3⟩ := hG.pairs j b hj
        have hb := hG.above b (List.mem_of_getElem? hj)
        have q : ∀ c, c < S → b ≠ c := fun c hc => Nat.ne_of_gt (Nat.lt_trans hc hb)
        exact ⟨x, y, e1, e2, up b _ (Nat.ne_of_gt hb) (hkp b _ (q _ hlo.1) (q _ hlo.2.1) (q _ hlo.2.2.1) (q _ hlo.2.2.2) e3)⟩
      · subst h1
        have hb : h.objs.size = b := by simpa using hj
        subst hb
        exact ⟨_, _, (congrArg (fun m => xs[m]?) hal).trans hx, (congrArg (fun m => ys[m]?) hal).trans hy, up _ _ (Nat.ne_of_gt hSl) ht⟩
      · have hnone : (as ++ [h.objs.size])[j]? = none := List.getElem?_eq_none (by rw [List.length_append, List.length_singleton]; omega)
        rw [hnone] at hj; cases hj
theorem call_list_zip {E : Value → Shared → Prop} {Q : Value → Shared → Prop} {z TI TO i1 i2 l1 l2 : Addr} (hh : A.handled = none) (D : ZipApart z TI TO i1 i2 l1 l2) (hzo : IsZip s.heap z TI TO .none) (hTI : IsPair s.heap TI (.ref i1) (.ref i2)) (hTO : IsPair s.heap TO .none .none)
    (h1 : s.heap.IsTupleIter i1 l1 0) (h2 : s.heap.IsTupleIter i2 l2 0) (ht1 : s.heap.IsTuple l1 xs) (ht2 : s.heap.IsTuple l2 ys) (hz : min xs.size ys.size ≤ sizeLine)
    (hQ : ∀ h' tk acc c as, (∀ b o, b ≠ z → b ≠ TO → b ≠ i1 → b ≠ i2 → s.heap.get? b = some o → h'.get? b = some o) → h'.get? s.heap.objs.size = some { cls := .type "list", dict := none, data := .seq acc c, slots := #[] } → as.length = min xs.size ys.size → ZG xs ys s.heap.objs.size h' as →
      acc.toList = as.map Value.ref → Q (.ref s.heap.objs.size) { s with heap := h', toks := tk }) : wpAny (model prog w) A (call (.type "list") [.ref z]) Q E s := by
  have zl : z < s.heap.objs.size := Heap.lt_size hzo
  have TIl : TI < s.heap.objs.size := Heap.lt_size hTI
  have TOl : TO < s.heap.objs.size := Heap.lt_size hTO
  have i1l : i1 < s.heap.objs.size := by obtain ⟨_, e, _⟩ := id h1; exact Heap.lt_size e
  have i2l : i2 < s.heap.objs.size := by obtain ⟨_, e, _⟩ := id h2; exact Heap.lt_size e
  have l1l : l1 < s.heap.objs.size := by obtain ⟨_, e, _⟩ := id ht1; exact Heap.lt_size e
  have l2l : l2 < s.heap.objs.size := by obtain ⟨_, e, _⟩ := id ht2; exact Heap.lt_size e
  have DA : ZAp z TI TO i1 i2 l1 l2 s.heap.objs.size := { D with Sz := Nat.ne_of_gt zl, STI := Nat.ne_of_gt TIl, STO := Nat.ne_of_gt TOl, Si1 := Nat.ne_of_gt i1l, Si2 := Nat.ne_of_gt i2l, Sl1 := Nat.ne_of_gt l1l, Sl2 := Nat.ne_of_gt l2l }
  refine callType_codes (Q₁ := fun obj s₁ => obj = .ref s.heap.objs.size ∧ s₁ = { s with heap := s.heap.push { cls := .type "list", data := .seq #[] } }) F.called_list (F.typeCall_list_1 _) F.entry_list_init
    (code_list_new _ ⟨rfl, rfl⟩) fun obj s₁ h₁ => ?_
  obtain ⟨rfl, rfl⟩ := h₁
  have hS : (s.heap.push { cls := .type "list", data := .seq #[] }).get? s.heap.objs.size = some { cls := .type "list", data := .seq #[] } := Heap.get?_push_size _ rfl
  refine ⟨⟨_, hS, rfl⟩, F.args_list_init_2 _ _, ?_⟩
  show wpAny _ A.in1.in1 (do let old ← Builtin.List.listItems (.ref s.heap.objs.size); Builtin.List.listUpdate (.ref s.heap.objs.size) (fun _ => #[]); letGo old.toList.reverse; Builtin.List.listExtendWith (.ref s.heap.objs.size) (.ref z) .none) _ _ _
  refine wpAny_bind ?_
  unfold Builtin.List.listItems
  refine wpAny_bind (wpAny_seqItems hS rfl (wpAny_pure ?_))
  show wpAny _ A.in1.in1 (updateSeq s.heap.objs.size (fun _ => #[]) >>= fun _ => letGo (#[] : Array Value).toList.reverse >>= fun _ => Builtin.List.listExtendWith (.ref s.heap.objs.size) (.ref z) .none) _ _ _
  refine wpAny_bind (wpAny_updateSeq hS rfl ?_)
  have hS2 := Heap.get?_update_self (Obj.mapSeq (fun _ => (#[] : Array Value))) hS rfl
  refine wpAny_bind (wpAny_letGo ?_)
  unfold Builtin.List.listExtendWith
  have up : ∀ (h : Heap) (f : Obj → Obj), (∀ b o, s.heap.get? b = some o → h.get? b = some o) → ∀ b o, s.heap.get? b = some o → (h.update s.heap.objs.size f).get? b = some o := fun h f q b o e =>
    (Heap.get?_update_other _ _ (Ne.symm (Nat.ne_of_lt (Heap.lt_size e)))).trans (q b o e)
  have k1 : ∀ b o, s.heap.get? b = some o → (s.heap.push { cls := .type "list", data := .seq #[] }).get? b = some o := fun b o e => Heap.get?_push_of_some _ e
  have k2 := up _ (Obj.mapSeq (fun _ => (#[] : Array Value))) k1
  refine wpAny_bind (wpAny_typeOf (T := "zip") ⟨_, k2 _ _ hzo, rfl⟩ ?_)
  have e1 : Builtin.List.listSameRef (.ref s.heap.objs.size) (.ref z) = false := by simp [Builtin.List.listSameRef, Nat.ne_of_gt zl]
  have e2 : (Value.type "zip" == Value.type "list") = false := by decide
  have e3 : (Value.type "zip" == Value.type "tuple") = false := by decide
  simp only [e1, e2, e3, Bool.or_false, Bool.false_eq_true, if_false]
  refine wpAny_bind (wpAny_pyIter_zip (k2 _ _ hzo) ?_)
  refine wpAny_bind (wpAny_holding ?_)
  unfold Builtin.List.listLengthHint
  refine wpAny_bind (wpAny_specialOf (T := "zip") ⟨_, k2 _ _ hzo, rfl⟩ zip_no_len ?_)
  show wpAny _ A.in1.in1 (specialOf (Value.ref z) (Str.ofString "__length_hint__") >>= _) _ _ _
  refine wpAny_bind (wpAny_specialOf (T := "zip") ⟨_, k2 _ _ hzo, rfl⟩ zip_no_hint ?_)
  refine wpAny_pure ?_
  show wpAny _ A.in1.in1 (rule "list.extend.makes-room" >>= fun _ => Builtin.List.listTouch (.ref s.heap.objs.size) >>= fun _ =>
    again (.builtin "list.extend.loop" ⟨[.ref s.heap.objs.size, .ref z, .none], []⟩)) _ _ _
  refine wpAny_bind (wpAny_rule ?_)
  refine wpAny_bind ?_
  show wpAny _ A.in1.in1 (updateSeq s.heap.objs.size (·.push .none) >>= fun _ => updateSeq s.heap.objs.size (·.pop)) _ _ _
  refine wpAny_bind (wpAny_updateSeq hS2 rfl ?_)
  have hS3 := Heap.get?_update_self (Obj.mapSeq (·.push Value.none)) hS2 rfl
  refine wpAny_updateSeq (hz := by seq_fits) hS3 rfl ?_
  have hS4 := Heap.get?_update_self (Obj.mapSeq (·.pop)) hS3 rfl
  have k4 := up _ (Obj.mapSeq (·.pop)) (up _ (Obj.mapSeq (·.push Value.none)) k2)
  refine wpAny_pure ⟨plainId_quiet F.plain_extend_loop _, ?_⟩
  refine zs_loop (A := A.in1) (s := s) (n := min xs.size ys.size) (h₁ := s.heap) hh DA ⟨zl, TOl, i1l, i2l⟩ rfl hz .none (fun h' tk acc c as hk hS' hl hG hacc => ⟨rfl, hQ h' tk acc c as (fun b o b1 b2 b3 b4 e => hk b o (Nat.ne_of_lt (Heap.lt_size e)) b1 b2 b3 b4 e) hS' hl hG hacc⟩)
    (min xs.size ys.size) 0 _ _ _ #[] [] (Nat.sub_zero _) (Nat.zero_le _) ⟨k4 _ _ hTI, h1.at fun o e => k4 _ o e, h2.at fun o e => k4 _ o e, .inl ⟨rfl, k4 _ _ hzo, _, _, k4 _ _ hTO⟩⟩ (ht1.at fun o e => k4 _ o e) (ht2.at fun o e => k4 _ o e) (fun b o _ _ _ _ _ e => k4 b o e) hS4 rfl rfl
    ⟨List.Pairwise.nil, (fun _ ha => nomatch ha), (fun j a hj => by simp at hj)⟩
end
end RZ

set_option Elab.async false
set_option linter.all false
set_option maxRecDepth 100000
set_option maxHeartbeats 1000000
/-! list(zip(t, u)) on data -/
namespace RZ
open PySem PySem.Spec PySem.Calls PyProof.Rows L2
/-- the pairs tracked at their addresses -/
def putP : Hp → List Addr → List (V × V) → Hp
  | H, a :: as, p :: kvs => putP (upd H a (.tup [p.1, p.2])) as kvs
  | H, _, _ => H
theorem putP_off {b : Addr} : ∀ (as : List Addr) (kvs : List (V × V)) (H : Hp), b ∉ as → putP H as kvs b = H b
  | [], _, _, _ => rfl
  | _ :: _, [], _, _ => rfl
  | a :: as, p :: kvs, H, h => by
    show putP (upd H a (.tup [p.1, p.2])) as kvs b = H b
    rw [putP_off as kvs _ (fun z => h (List.mem_cons_of_mem _ z)), upd_ne (fun z => h (by rw [z]; exact List.mem_cons_self))]
theorem putP_at : ∀ (as : List Addr) (kvs : List (V × V)) (H : Hp), as.length = kvs.length → as.Nodup → Paired (fun (t : Addr) (p : V × V) => putP H as kvs t = some (.tup [p.1, p.2])) as kvs
  | [], [], _, _, _ => .nil
  | [], _ :: _, _, h, _ => by cases h
  | _ :: _, [], _, h, _ => by cases h
  | a :: as, p :: kvs, H, h, hn => by
    have hn' := List.nodup_cons.mp hn
    have ih := putP_at as kvs (upd H a (.tup [p.1, p.2])) (Nat.succ.inj h) hn'.2
    refine .cons ?_ ih
    show putP (upd H a (.tup [p.1, p.2])) as kvs a = some (.tup [p.1, p.2])
    rw [putP_off as kvs _ hn'.1, upd_same]
def rZipL (K : PySem.W.Frag) : List V → Hp → VK → Prop := fun vs H1 Q => ∃ (a b : Addr) (xs ys : List V), vs = [.ref a, .ref b] ∧ SqT K H1 a xs ∧ SqT K H1 b ys ∧
  ∀ (H' : Hp) (p : Addr) (ts : List Addr), (∀ b o, H1 b = some o → H' b = some o) → H1 p = none → (∀ t ∈ ts, H1 t = none) → H' p = some (.lst (ts.map V.ref)) → Paired (fun (t : Addr) (q : V × V) => H' t = some (.tup [q.1, q.2])) ts (xs.zip ys) → Q (.ref p) H'
def tListZip (K : PySem.W.Frag) (ta : TA) : TE := fun σ H Q => ta σ H fun vs H1 => rZipL K vs H1 Q
section
variable {X : Cx} {e e2 : Expr} {ta : TA} {p p2 pos pos2 : Pos}
theorem zip_laid {pins : List (Addr × Obj)} {σ : L2.St} {H : Hp} {s : Shared} {h' : Heap} {tk : Nat} {xs ys : List V} {us ws : List Value} {acc : Array Value} {c S : Nat} {as : List Addr} (I : Inv X pins σ H s) (hz : xs.length ≤ sizeLine) (kx : Vals xs us) (ky : Vals ys ws) (hSS : s.heap.objs.size ≤ S)
    (hk : ∀ b o, s.heap.get? b = some o → h'.get? b = some o) (hS : h'.get? S = some { cls := .type "list", dict := none, data := .seq acc c, slots := #[] }) (hl : as.length = min us.toArray.size ws.toArray.size) (hG : ZG us.toArray ws.toArray S h' as) (hacc : acc.toList = as.map Value.ref) :
    ∃ H' : Hp, (∀ b o, H b = some o → H' b = some o) ∧ H S = none ∧ (∀ t ∈ as, H t = none) ∧ H' S = some (.lst (as.map V.ref)) ∧ Paired (fun (t : Addr) (q : V × V) => H' t = some (.tup [q.1, q.2])) as (xs.zip ys) ∧ Inv X pins σ H' { s with heap := h', toks := tk } := by
  have lx := kx.length
  have ly := ky.length
  have hl2 : as.length = (xs.zip ys).length := by rw [hl, List.length_zip, lx, ly]; simp
  have hSn : S ∉ as := fun z => Nat.lt_irrefl _ (hG.above _ z)
  have nd : as.Nodup := List.Pairwise.imp (fun {a b} (h : a < b) => Nat.ne_of_lt h) hG.rise
  have new : ∀ t ∈ as, H t = none := fun t ht => I.hok.fresh (Nat.le_trans hSS (Nat.le_of_lt (hG.above t ht)))
  have newS : H S = none := I.hok.fresh hSS
  have atP := putP_at as (xs.zip ys) (upd H S (.lst (as.map V.ref))) hl2 nd
  have off : ∀ b, b ∉ as → b ≠ S → putP (upd H S (.lst (as.map V.ref))) as (xs.zip ys) b = H b := fun b h1 h2 => by rw [putP_off as _ _ h1, upd_ne h2]
  have low : ∀ b o, s.heap.get? b = some o → b ∉ as ∧ b ≠ S := fun b o e => ⟨fun z => absurd (Heap.lt_size e) (Nat.not_lt.mpr (Nat.le_trans hSS (Nat.le_of_lt (hG.above b z)))), Nat.ne_of_lt (Nat.lt_of_lt_of_le (Heap.lt_size e) hSS)⟩
  have kp : ∀ b u, H b = some u → (putP (upd H S (.lst (as.map V.ref))) as (xs.zip ys)) b = some u := fun b u e => by
    rw [off b (fun z => by rw [new b z] at e; cases e) (fun z => by rw [z, newS] at e; cases e)]
    exact e
  have eS : putP (upd H S (.lst (as.map V.ref))) as (xs.zip ys) S = some (.lst (as.map V.ref)) := by rw [putP_off as _ _ hSn, upd_same]
  refine ⟨putP (upd H S (.lst (as.map V.ref))) as (xs.zip ys), kp, newS, new, eS, atP, ?_⟩
  refine I.call' (ch := []) rfl ⟨fun b o q _ _ _ => hk b o q, fun b o q _ _ _ => ⟨o.slots, hk b o q⟩, fun b o q n _ => ?_, fun b o q _ => ⟨o, hk b o q⟩, fun b xs q => kp b _ q, fun b o u q => kp b _ q, fun b ps q => ⟨#[], by rw [kp b _ q]; simp⟩⟩ (fun b u q => ?_) I.bare fun b z => by simp at z
  · obtain ⟨z1, z2⟩ := low b o q
    rw [off b z1 z2]
    exact n
  · by_cases hb : b ∈ as
    · obtain ⟨j, pk, e1, e2, e3⟩ := LiI.paired_ix atP hb
      rw [e3] at q
      cases q
      obtain ⟨x, y, f1, f2, f3⟩ := hG.pairs j b e1
      rw [List.getElem?_zip_eq_some] at e2
      obtain ⟨u1, a1, a2⟩ := kx.get e2.1
      obtain ⟨u2, b1, b2⟩ := ky.get e2.2
      have f1 : us[j]? = some x := by simpa using f1
      have f2 : ws[j]? = some y := by simpa using f2
      rw [f1] at a1
      rw [f2] at b1
      cases a1
      cases b1
      exact ⟨by show 2 ≤ sizeLine; decide, [x, y], .cons a2 (.cons b2 .nil), ⟨_, f3, rfl, _, rfl⟩⟩
    · by_cases hb2 : b = S
      · rw [hb2] at q ⊢
        rw [eS] at q
        cases q
        refine ⟨by rw [List.length_map, hl2, List.length_zip]; omega, acc.toList, c, by rw [hacc]; exact LiI.vals_refs as, ?_⟩
        rw [Array.toArray_toList]
        exact hS
      · rw [off b hb hb2] at q
        exact (I.hok b u q).stay (fun d v _ y => hk d v y) (fun d y => kp d _ y) fun d xs y => kp d _ y
/-- list(zip(e, e2)) of tuples -/
theorem pe_listZip (hc : X.calm = true) (ha : PA X [e, e2] ta) (hg : Gl X "list") (hm : X.mg "list" = none) (hgz : Gl X "zip") (hmz : X.mg "zip" = none) (hv : bootBuiltins "list" = some (.type "list")) (hvz : bootBuiltins "zip" = some (.type "zip"))
    (hs : starEach [.Call (.Name "zip" p2) [e, e2] [] pos2] X.env = (false, eval (.Call (.Name "zip" p2) [e, e2] [] pos2) X.env) :: starEach [] X.env := by rfl)
    (hs2 : starEach [e, e2] X.env = (false, eval e X.env) :: starEach [e2] X.env := by rfl) (hpl : (backTo pos2 (starEach [e2] X.env)).any (·.1) = false := by rfl) :
    PE X (.Call (.Name "list" p) [.Call (.Name "zip" p2) [e, e2] [] pos2] [] pos) (tListZip X.K ta) := by
  refine ⟨fun pins s σ H Q I hq => ?_⟩
  refine wpAny_Call_Name_kw (ld_blt I hg hm hv ?_)
  refine PyProof.Rows.callWith_type1 ?_ hs rfl
  rw [hs]
  show wpAny _ _ (spliced ((false, eval (.Call (.Name "zip" p2) [e, e2] [] pos2) X.env) :: backTo pos (starEach [] X.env))) _ _ s
  refine Calls.spliced_cons ?_
  refine wpAny_Call_Name_kw (ld_blt I hgz hmz hvz ?_)
  refine PyProof.Rows.callWith_type1 (thn (ha.run pos2 pins s σ H _ I hq) fun us s1 ⟨vs, H1, I1, r1, q1⟩ => ?_) hs2 hpl
  obtain ⟨a, b, xs, ys, rfl, hqx, hqy, q⟩ := q1
  obtain ⟨u1, u2, rfl, ra, rb⟩ := vals2 r1
  cases ra
  cases rb
  obtain ⟨its, rv, t1, z1⟩ := I1.tuple hqx
  obtain ⟨its2, rv2, t2, z2⟩ := I1.tuple hqy
  have t1 : s1.heap.IsTuple a its.toArray := t1
  have t2 : s1.heap.IsTuple b its2.toArray := t2
  refine call_zipT t1 t2 fun h' hz hTI hTO h1 h2 hsz hk => ?_
  refine Calls.spliced_nil ?_
  have al : @LT.lt Nat _ a s1.heap.objs.size := by obtain ⟨_, e, _⟩ := id t1; exact Heap.lt_size e
  have bl : @LT.lt Nat _ b s1.heap.objs.size := by obtain ⟨_, e, _⟩ := id t2; exact Heap.lt_size e
  have D : ZipApart (s1.heap.objs.size + 4) (s1.heap.objs.size + 2) (s1.heap.objs.size + 3) s1.heap.objs.size (s1.heap.objs.size + 1) a b := by constructor <;> first | exact Nat.ne_of_lt (by omega) | exact Nat.ne_of_gt (by omega)
  have lz : its.length ≤ sizeLine := by rw [← rv.length]; exact z1
  refine call_list_zip (s := { s1 with heap := h' }) (I1.ok.hd hc) D hz hTI hTO h1 h2 (t1.at fun o e => hk _ o e) (t2.at fun o e => hk _ o e) (by simp; omega) fun h2' tk acc c as hk2 hS hl hG hacc => ?_
  have keep : ∀ b o, s1.heap.get? b = some o → h2'.get? b = some o := fun c o e => by
    have : @LT.lt Nat _ c s1.heap.objs.size := Heap.lt_size e
    exact hk2 c o (Nat.ne_of_lt (by omega)) (Nat.ne_of_lt (by omega)) (Nat.ne_of_lt (by omega)) (Nat.ne_of_lt (by omega)) (hk c o e)
  obtain ⟨H', k1, k2, k3, k4, k5, J⟩ := zip_laid (tk := tk) I1 z1 rv rv2 (S := h'.objs.size) (by omega) keep hS hl hG hacc
  exact ⟨.ref _, H', J, rfl, q H' _ as k1 k2 k3 k4 k5⟩
end
end RZ
namespace K46
open PySem PySem.Spec PyProof.Rows L2
def zipL (xs ys : List D) : List D := (xs.zip ys).map fun p => .tup [p.1, p.2]
def dListZip (t : DTA) : DTE := fun δ R => t δ fun ds δ1 => ∃ xs ys, ds = [.tup xs, .tup ys] ∧ R (.lst (zipL xs ys)) δ1
section
variable {X : Cx} {q : Pm} {e e2 : Expr} {t : DTA} {p p2 pos pos2 : Pos}
theorem zip_has {F F' : Hp} (le : Le F F') : ∀ {xs ys : List V} {ds es : List D} {ts : List Addr}, HsL q F ds xs → HsL q F es ys → Paired (fun (t : Addr) (z : V × V) => F' t = some (.tup [z.1, z.2])) ts (xs.zip ys) → HsL q F' (zipL ds es) (ts.map V.ref)
  | [], ys, ds, es, ts, h1, h2, hp => by
    have : ds = [] := by have := h1.length; simpa using this.symm
    subst this
    rw [List.zip_nil_left] at hp
    cases hp
    exact .nil
  | x :: xs, [], ds, es, ts, h1, h2, hp => by
    have : es = [] := by have := h2.length; simpa using this.symm
    subst this
    rw [List.zip_nil_right] at hp
    cases hp
    unfold zipL
    rw [List.zip_nil_right]
    exact .nil
  | x :: xs, y :: ys, ds, es, ts, h1, h2, hp => by
    cases ds with
    | nil => have := hasL_nil.mp h1; cases this
    | cons d ds =>
      cases es with
      | nil => have := hasL_nil.mp h2; cases this
      | cons e es =>
        obtain ⟨_, _, z, a1, a2⟩ := hasL_cons.mp h1
        cases z
        obtain ⟨_, _, z, b1, b2⟩ := hasL_cons.mp h2
        cases z
        rw [List.zip_cons_cons] at hp
        cases hp with
        | cons ht hp' => exact .cons (has_tup.mpr ⟨_, _, rfl, ht, .cons (a1.mono le) (.cons (b1.mono le) .nil)⟩) (zip_has le a2 b2 hp')
/-- data grown by new objects that stand in H' -/
theorem grown {F H H' : Hp} {z : Addr} {ts : List Addr} (f : Fit q.m F H) (keep : ∀ b o, H b = some o → H' b = some o) (hz : H z = none) (hts : ∀ t ∈ ts, H t = none) : ∃ F' : Hp, Stp0 F H F' H' ∧ Fit q.m F' H' ∧ F' z = H' z ∧ ∀ t ∈ ts, F' t = H' t := by
  let F' : Hp := fun b => if b = z ∨ b ∈ ts then H' b else F b
  have old : ∀ b o, H b = some o → ¬ (b = z ∨ b ∈ ts) := fun b o e w => by
    rcases w with w | w
    · rw [w, hz] at e; cases e
    · rw [hts b w] at e; cases e
  have oldF : ∀ b o, F b = some o → ¬ (b = z ∨ b ∈ ts) := fun b o e w => by
    obtain ⟨o', e'⟩ : ∃ o', H b = some o' := by
      rcases f b o e with y | ⟨_, _, _, y⟩
      · exact ⟨_, y⟩
      · exact ⟨_, y⟩
    exact old b o' e' w
  have le : Le F F' := fun b o e => by
    show (if b = z ∨ b ∈ ts then H' b else F b) = some o
    rw [if_neg (oldF b o e)]; exact e
  refine ⟨F', ⟨le, fun b o e => ?_, fun b o e _ _ => keep b o e, fun b o e => ⟨o, keep b o e⟩, fun b ob u e => keep b _ e⟩, fun b o e => ?_, if_pos (.inl rfl), fun t ht => if_pos (.inr ht)⟩
  · by_cases w : b = z ∨ b ∈ ts
    · right; left
      rcases w with w | w
      · rw [w]; exact hz
      · exact hts b w
    · have e : (if b = z ∨ b ∈ ts then H' b else F b) = some o := e
      rw [if_neg w] at e; exact .inl e
  · have e : (if b = z ∨ b ∈ ts then H' b else F b) = some o := e
    by_cases w : b = z ∨ b ∈ ts
    · rw [if_pos w] at e; exact .inl e
    · rw [if_neg w] at e
      rcases f b o e with y | ⟨y1, y2, ob, y⟩
      · exact .inl (keep b o y)
      · exact .inr ⟨y1, y2, ob, keep b _ y⟩
theorem de_listZip (hc : X.calm = true) (ha : DA X q [e, e2] t) (hg : Gl X "list") (hm : X.mg "list" = none) (hgz : Gl X "zip") (hmz : X.mg "zip" = none) (hv : bootBuiltins "list" = some (.type "list") := by rfl) (hvz : bootBuiltins "zip" = some (.type "zip") := by rfl)
    (hs : starEach [.Call (.Name "zip" p2) [e, e2] [] pos2] X.env = (false, eval (.Call (.Name "zip" p2) [e, e2] [] pos2) X.env) :: starEach [] X.env := by rfl)
    (hs2 : starEach [e, e2] X.env = (false, eval e X.env) :: starEach [e2] X.env := by rfl) (hpl : (backTo pos2 (starEach [e2] X.env)).any (·.1) = false := by rfl) :
    DE X q (.Call (.Name "list" p) [.Call (.Name "zip" p2) [e, e2] [] pos2] [] pos) (dListZip t) := PE.imp (RZ.pe_listZip hc ha hg hm hgz hmz hv hvz hs hs2 hpl) fun σ H Q h => by
  obtain ⟨F, al, dty, δ, R, c, t, k⟩ := h
  refine ⟨F, al, dty, δ, _, c, t, fun vs ds δ1 F1 H1 s1 c1 hx hR => ?_⟩
  obtain ⟨xs, ys, rfl, hR⟩ := hR
  obtain ⟨v, u, rfl, g1, g2⟩ := has2 hx
  obtain ⟨a, vx, rfl, a1, a2⟩ := has_tup.mp g1
  obtain ⟨b, vy, rfl, b1, b2⟩ := has_tup.mp g2
  refine ⟨a, b, vx, vy, rfl, c1.fit.sqT a1, c1.fit.sqT b1, fun H' z ts keep hz hts hH hp => ?_⟩
  obtain ⟨F', st, ft, fz, fts⟩ := grown c1.fit keep hz hts
  refine k _ _ δ1 F' H' (s1.trans0 st.any) (c1.step0 st ft) (has_lst.mpr ⟨z, _, rfl, by rw [fz]; exact hH, ?_⟩) hR
  refine zip_has st.up a2 b2 ?_
  have : ∀ {as : List Addr} {kvs : List (V × V)}, (∀ t ∈ as, t ∈ ts) → Paired (fun (t : Addr) (kv : V × V) => H' t = some (.tup [kv.1, kv.2])) as kvs → Paired (fun (t : Addr) (kv : V × V) => F' t = some (.tup [kv.1, kv.2])) as kvs := by
    intro as kvs hin hp
    induction hp with
    | nil => exact .nil
    | @cons t kv _ _ h1 _ ih => exact .cons (by rw [fts t (hin t List.mem_cons_self)]; exact h1) (ih fun t ht => hin t (List.mem_cons_of_mem _ ht))
  exact this (fun _ h => h) hp
end
end K46

set_option Elab.async false
set_option linter.all false
set_option maxRecDepth 100000
set_option maxHeartbeats 1000000
/-! a house is made; scopes of nested comprehensions -/
namespace K46
open PySem PySem.Spec PyProof.Rows L2
def lcSc : Expr → Scope
  | .ListComp _ _ sc _ => sc
  | _ => { kind := .function, names := [], isGenerator := false, isCoroutine := false }
def asgV : Stmt → Expr
  | .Assign _ e _ => e
  | _ => .Constant .none 0 ⟨0, 0, 0, 0⟩
def lcSc1 : Scope := lcSc (asgV ((defBody S_law_from).getD 1 (.Pass ⟨0, 0, 0, 0⟩)))
/-- what House's __init__ promises -/
abbrev PreI := D → (List D → Prop) → Prop
def spI (w : World) (C : Addr) (pre : PreI) : Sp := fun vs H Q _ => ∃ F x dx g d R, vs = [.ref x, g] ∧ H x = some (.ins C dx []) ∧ F x = none ∧ Fit none F H ∧ Has w C F d g ∧ pre d R ∧
  ∀ F' H' us ds, Stp (fun a => a = x) F H F' H' → Fit none F' H' → F' x = none → H' x = some (.ins C dx (hfs us)) → HasL w C F' ds us → R ds → Q .non H'
def OkH (P : Program) (w : World) (K : PySem.W.Frag) (mg : Str → Option Value) (base : Heap) (C : Addr) (k : Nat) (pre : PreI) : Prop :=
  ∃ f fd, Mk K C f ∧ FnOk P w K mg base CX0 k f fd ["self", "games"] (spI w C pre) ∧ mg "House" = some (.ref C) ∧ Binds K fd ["self", "games"] []
def dHouse (pre : PreI) (t : DTA) : DTE := fun δ R => t δ fun ds δ1 => ∃ d, ds = [d] ∧ pre d fun es => R (.hou es) δ1
section
variable {X : Cx} {q : Pm} {k : Nat} {pre : PreI} {p pos : Pos} {e : Expr} {es : List Expr} {t : DTA}
theorem de_house (G : OkH X.prog X.w X.K X.mg X.base q.C k pre) (hw : q.w = X.w) (hm0 : q.m = none) (hr : Room (k + 1) X.A) (hg : Gl X "House") (ha : DA X q (e :: es) t) (he : starEach (e :: es) X.env = (false, eval e X.env) :: starEach es X.env := by rfl) (hpl : (backTo pos (starEach es X.env)).any (·.1) = false := by rfl) :
    DE X q (.Call (.Name "House" p) (e :: es) [] pos) (dHouse pre t) := by
  obtain ⟨f, fd, M, F, hm, hb⟩ := G
  refine PE.imp (pe_make M F hr hg hm hb .nil pass0 ha (by decide) he hpl) fun σ H Q h => ?_
  obtain ⟨F, al, dty, δ, R, c, t, k⟩ := h
  refine ⟨F, al, dty, δ, _, c, t, fun vs ds δ1 F1 H1 s1 c1 hv hR => ?_⟩
  obtain ⟨d, rfl, hp⟩ := hR
  obtain ⟨v, rfl, hd⟩ := has1 hv
  intro x dx hx hdx hne
  have fx : F1 x = none := c1.fit.none_of hx
  have fdx : F1 dx = none := c1.fit.none_of hdx
  have ft := c1.fit
  rw [hm0] at ft
  have ft2 : Fit none F1 (upd (upd H1 dx (.own x)) x (.ins q.C dx [])) := (ft.updM fdx).updM fx
  refine ⟨F1, x, dx, v, d, _, rfl, upd_same, fx, ft2, by rw [← hw]; exact hd, hp, fun F' H' us ds2 s2 f2 hF hH hu hr2 => ⟨rfl, ?_⟩⟩
  rw [← hw] at hu
  have s0 : Stp0 F1 H1 F1 (upd (upd H1 dx (.own x)) x (.ins q.C dx [])) := by
    have a : Stp0 F1 H1 F1 (upd H1 dx (.own x)) := .allocM hdx
    have b : Stp0 F1 (upd H1 dx (.own x)) F1 (upd (upd H1 dx (.own x)) x (.ins q.C dx [])) := .allocM (by rw [upd_ne hne.symm]; exact hx)
    exact a.trans0 b
  have s3 : Stp0 F1 H1 F' H' := s0.trans s2 fun a z => .inr (by rw [z]; exact hx)
  have s4 : Stp0 F1 H1 (upd F' x (.ins q.C dx (hfs us))) H' := ⟨fun a o e => by rw [upd_ne (fun z => by rw [z, fx] at e; cases e)]; exact s3.up a o e, fun a o e => by
      by_cases z : a = x
      · subst z; exact .inr (.inl hx)
      · rw [upd_ne z] at e; exact s3.new a o e, s3.keep, s3.live, s3.frz⟩
  have le : Le F' (upd F' x (.ins q.C dx (hfs us))) := fun a o e => by rw [upd_ne (fun z => by rw [z, hF] at e; cases e)]; exact e
  have f4 : Fit q.m (upd F' x (.ins q.C dx (hfs us))) H' := by rw [hm0]; exact f2.froze hH
  exact k _ _ δ1 _ H' (s1.trans0 s4.any) (c1.step0 s4 f4) (has_hou.mpr ⟨x, dx, us, rfl, upd_same, hu.mono le⟩) hr2
end
end K46

set_option Elab.async false
set_option linter.all false
set_option maxRecDepth 100000
set_option maxHeartbeats 2000000
/-! what the defs answer, in plain words: numbers, houses -/
namespace K46
open PySem PySem.Spec PyProof.Rows L2
def small (i : Int) : Prop := -1000000 ≤ i ∧ i ≤ 1000000
def pD (p : Int × Int) : D := .tup [.int p.1, .int p.2]
def pre_is_integer : Pre := fun ds R => ∃ i : Int, ds = [.int i] ∧ small i ∧ R (.bl true)
def pre_is_within : Pre := fun ds R => ∃ i a b : Int, ds = [.int i, .int a, .int b] ∧ small i ∧ R (.bl (decide (a ≤ i) && decide (i ≤ b)))
def letters : Str := "abcdefghijklmnopqrstuvwxyz"
def isWord (z : Str) : Prop := 1 ≤ z.length ∧ z.length ≤ 8 ∧ ∀ c ∈ z.cps.toList, c ∈ letters.cps.toList
def pre_is_word : Pre := fun ds R => ∃ z : Str, ds = [.str z] ∧ isWord z ∧ R (.bl true)
def pre_divisor_of : Pre := fun ds R => ∃ a b : Int, ds = [.int a, .int b] ∧ R (.int (Int.gcd a b : Nat))
def pre_is_fraction : Pre := fun ds R => ∃ p : Int × Int, ds = [pD p] ∧ small p.1 ∧ small p.2 ∧ 1 ≤ p.2 ∧ Int.gcd p.1 p.2 = 1 ∧ R (.bl true)
def isCh (p : Int × Int) : Prop := 0 < p.1 ∧ p.1 ≤ p.2 ∧ p.2 ≤ 1000 ∧ Int.gcd p.1 p.2 = 1
def pre_is_chance : Pre := fun ds R => ∃ p : Int × Int, ds = [pD p] ∧ isCh p ∧ R (.bl true)
def fr (t b : Int) : Int × Int := (t / (Int.gcd t b : Nat), b / (Int.gcd t b : Nat))
def pre_fraction_of : Pre := fun ds R => ∃ t b : Int, ds = [.int t, .int b] ∧ 0 ≤ t ∧ t ≤ 1000000 ∧ 1 ≤ b ∧ b ≤ 1000000 ∧ R (pD (fr t b))
def okP (p : Int × Int) : Bool := decide (0 ≤ p.1) && decide (p.1 ≤ 500) && decide (1 ≤ p.2) && decide (p.2 ≤ 500)
def plusP (p r : Int × Int) : Int × Int := fr (p.1 * r.2 + r.1 * p.2) (p.2 * r.2)
def pre_plus : Pre := fun ds R => ∃ p r : Int × Int, ds = [pD p, pD r] ∧ okP p = true ∧ okP r = true ∧ R (pD (plusP p r))
def sumP : (Int × Int) → List (Int × Int) → Option (Int × Int)
  | f, [] => some f
  | f, p :: ps => if okP f && okP p then sumP (plusP f p) ps else none
def pre_sum_of : Pre := fun ds R => ∃ ps s, ds = [.lst (ps.map pD)] ∧ sumP (0, 1) ps = some s ∧ R (pD s)
/-! moves, games -/
def isMv (n : Nat) (r : Row) : Prop := 0 ≤ r.t ∧ r.t < n ∧ -99 ≤ r.g ∧ r.g ≤ 99 ∧ isCh (r.a, r.b)
def pre_is_move : Pre := fun ds R => ∃ (r : Row) (n : Nat), ds = [rowD r, .int n] ∧ n ≤ 100 ∧ isMv n r ∧ R (.bl true)
def rowsD (rs : List Row) : D := .tup (rs.map rowD)
structure GoodMs (n : Nat) (rs : List Row) : Prop where
  one : 1 ≤ rs.length
  few : rs.length ≤ 6
  mv : ∀ r ∈ rs, isMv n r
  asc : rs.Pairwise pLt
  sum : sumP (0, 1) (rs.map fun r => (r.a, r.b)) = some (1, 1)
def pre_are_moves : Pre := fun ds R => ∃ (rs : List Row) (n : Nat), ds = [rowsD rs, .int n] ∧ n ≤ 100 ∧ GoodMs n rs ∧ R (.bl true)
abbrev Game := List (List Row)
def gameD (g : Game) : D := .tup (g.map rowsD)
structure GoodG (g : Game) : Prop where
  one : 1 ≤ g.length
  few : g.length ≤ 6
  ms : ∀ rs ∈ g, GoodMs g.length rs
def pre_is_game : Pre := fun ds R => ∃ g : Game, ds = [gameD g] ∧ GoodG g ∧ R (.bl true)
abbrev Hou := List (Str × Game)
def houD (h : Hou) : D := .dic (h.map fun p => .inr p.1) (h.map fun p => gameD p.2)
structure GoodH (h : Hou) : Prop where
  one : 1 ≤ h.length
  few : h.length ≤ 4
  nd : (h.map (·.1)).Nodup
  word : ∀ p ∈ h, isWord p.1
  game : ∀ p ∈ h, GoodG p.2
  same : ∃ n, ∀ p ∈ h, p.2.length = n
def pre_are_games : Pre := fun ds R => ∃ h : Hou, ds = [houD h] ∧ GoodH h ∧ R (.bl true)
def pre_ascending_rows : Pre := fun ds R => ∃ h : Hou, ds = [houD h] ∧ GoodH h ∧ ∀ h' : Hou, h'.Perm h → R (houD h')
def pre_require_house : Pre := fun ds R => ∃ es, ds = [.hou es] ∧ R .non
/-! the gains of a game, controllers -/
def gainsL (g : Game) : List Int := (g.flatten).map (·.g)
def gainsU (g : Game) : List Int := sortU (gainsL g)
def pre_gains_in : Pre := fun ds R => ∃ g : Game, ds = [gameD g] ∧ (gainsL g).length < 64 ∧ R (.lst ((gainsU g).map D.int))
def pre__law_gains : Pre := pre_gains_in
def gm (h : Hou) (x : Str) : Game := (h.lookup x).getD []
/-- a state of a controller -/
structure Stt where
  name : Str
  keys : List Int
  tos : List Nat
deriving DecidableEq
instance : Inhabited Stt := ⟨⟨⟨#[]⟩, [], []⟩⟩
def stD (s : Stt) : D := .tup [.str s.name, .dic (s.keys.map Sum.inl) (s.tos.map fun (n : Nat) => .int (n : Int))]
abbrev Ctl := List Stt
def ctlD (c : Ctl) : D := .tup (c.map stD)
def tgt (s : Stt) (g : Int) : Option Nat := (s.keys.zip s.tos).lookup g
/-- what a house's games say of a state -/
structure GoodSt (Γ : Str → List Int) (n : Nat) (s : Stt) : Prop where
  keys : s.keys = Γ s.name
  len : s.tos.length = s.keys.length
  lt : ∀ t ∈ s.tos, t < n
structure GoodC (Γ : Str → List Int) (c : Ctl) : Prop where
  one : 1 ≤ c.length
  few : c.length ≤ 5
  st : ∀ s ∈ c, GoodSt Γ c.length s
  asc : ∀ x, (Γ x).Pairwise (· < ·)
  short : ∀ x, (Γ x).length < 64
def hΓ (h : Hou) (x : Str) : List Int := gainsU (gm h x)
structure InH (h : Hou) (c : Ctl) : Prop where
  mem : ∀ s ∈ c, (h.lookup s.name).isSome = true
  good : GoodC (hΓ h) c
  four : c.length ≤ 4
def hsD (h : Hou) (x y : D) : D := .hou [houD h, x, y]
def pre_is_state_in : Pre := fun ds R => ∃ h x y s n, ds = [hsD h x y, stD s, .int (n : Nat)] ∧ GoodH h ∧ (h.lookup s.name).isSome = true ∧ GoodSt (hΓ h) n s ∧ n ≤ 100 ∧ R (.bl true)
def pre_is_controller_in : Pre := fun ds R => ∃ h x y c, ds = [hsD h x y, ctlD c] ∧ GoodH h ∧ InH h c ∧ R (.bl true)
def pre_require_controller : Pre := fun ds R => ∃ h x y c, ds = [hsD h x y, ctlD c] ∧ GoodH h ∧ InH h c ∧ R .non
def pre_require_both : Pre := fun ds R => ∃ h x y c d, ds = [hsD h x y, ctlD c, ctlD d] ∧ GoodH h ∧ InH h c ∧ InH h d ∧ R .non
/-! sights, the search -/
def run (c : Ctl) : Nat → List Int → Option Nat
  | k, [] => some k
  | k, g :: s => match tgt (c.getD k default) g with
    | none => none
    | some j => run c j s
def optD : Option Nat → D
  | none => .non
  | some k => .int k
def sightD (s : List Int) : D := .tup (s.map D.int)
def pre_state_behind : Pre := fun ds R => ∃ Γ c s, ds = [ctlD c, sightD s] ∧ GoodC Γ c ∧ (∀ g ∈ s, -99 ≤ g ∧ g ≤ 99) ∧ s.length ≤ 1000 ∧ R (optD (run c 0 s))
def pre__law_state : Pre := fun ds R => ∃ Γ c s, ds = [ctlD c, sightD s] ∧ GoodC Γ c ∧ R (optD (run c 0 s))
def pre_game_behind : Pre := fun ds R => ∃ h x y c s k, ds = [hsD h x y, ctlD c, sightD s] ∧ GoodH h ∧ InH h c ∧ (∀ g ∈ s, -99 ≤ g ∧ g ≤ 99) ∧ s.length ≤ 1000 ∧ run c 0 s = some k ∧ R (.str (c.getD k default).name)
abbrev Item := List Int × Nat × Nat
def push (a b : Stt) (s : List Int) : List Int → List Item → List (Nat × Nat) → List Item × List (Nat × Nat)
  | [], w, seen => (w, seen)
  | g :: gs, w, seen =>
    let p := ((tgt a g).getD 0, (tgt b g).getD 0)
    if p ∈ seen then push a b s gs w seen else push a b s gs (w ++ [(s ++ [g], p.1, p.2)]) (seen ++ [p])
/-- the search: none where its turns are used up -/
def bfs (c d : Ctl) : Nat → List Item → List (Nat × Nat) → Option (Option (List Int))
  | 0, _, _ => none
  | _ + 1, [], _ => some none
  | n + 1, (s, i, j) :: w, seen =>
    if (c.getD i default).name ≠ (d.getD j default).name then some (some s)
    else let r := push (c.getD i default) (d.getD j default) s (c.getD i default).keys w seen
      bfs c d n r.1 r.2
def part (c d : Ctl) : Option (Option (List Int)) := bfs c d 60 [([], 0, 0)] [(0, 0)]
def resD : Option (List Int) → D
  | none => .non
  | some s => sightD s
def pre_parting_in : Pre := fun ds R => ∃ Γ c d r, ds = [ctlD c, ctlD d] ∧ GoodC Γ c ∧ GoodC Γ d ∧ part c d = some r ∧ R (resD r)
def pre__law_parting : Pre := pre_parting_in
def pre_parting_sight : Pre := fun ds R => ∃ h x y c d r, ds = [hsD h x y, ctlD c, ctlD d] ∧ GoodH h ∧ InH h c ∧ InH h d ∧ part c d = some r ∧ R (resD r)
def pre_are_alike : Pre := fun ds R => ∃ h x y c d r, ds = [hsD h x y, ctlD c, ctlD d] ∧ GoodH h ∧ InH h c ∧ InH h d ∧ part c d = some r ∧ R (.bl r.isNone)
/-! states in another order -/
def reord (c : Ctl) (order : List Nat) : Ctl := order.map fun k => let s := c.getD k default; ⟨s.name, s.keys, s.tos.map fun t => order.idxOf t⟩
def natsD (ns : List Nat) : D := .lst (ns.map fun (n : Nat) => .int (n : Int))
def pre_reordered_states : Pre := fun ds R => ∃ Γ c order, ds = [ctlD c, natsD order] ∧ GoodC Γ c ∧ order.Nodup ∧ (∀ k, k ∈ order ↔ k < c.length) ∧ R (ctlD (reord c order))
def begun (c : Ctl) (i : Nat) : Ctl := reord c (i :: (List.range c.length).filter fun k => k != i)
def pre_begun_at : Pre := fun ds R => ∃ Γ c i, ds = [ctlD c, .int (i : Nat)] ∧ GoodC Γ c ∧ i < c.length ∧ R (ctlD (begun c i))
def shift (c : Ctl) : Ctl := c.map fun s => ⟨s.name, s.keys, s.tos.map fun t => t + 1⟩
def fromC (c : Ctl) (i : Nat) : Ctl := (shift c).getD i default :: shift c
def pre__law_from : Pre := fun ds R => ∃ Γ c i, ds = [ctlD c, .int (i : Nat)] ∧ GoodC Γ c ∧ c.length ≤ 4 ∧ i < c.length ∧ R (ctlD (fromC c i))
/-! the least controller -/
def alikeB (c : Ctl) (i j : Nat) : Bool := part (begun c i) (begun c j) == some none
def headOf (c : Ctl) (i : Nat) : Nat := ((List.range c.length).filter fun j => alikeB c i j).headD 0
/-- states met from those of the list on: each one's way to name the next is h, in says whether one is met -/
def addAll (a : Stt) (h : Nat → Nat) (met : List Nat → Nat → Bool) : List Int → List Nat → List Nat
  | [], o => o
  | g :: gs, o => let t := (tgt a g).getD 0; if met o t then addAll a h met gs o else addAll a h met gs (o ++ [h t])
def walkO (c : Ctl) (h : Nat → Nat) (met : List Nat → Nat → Bool) : Nat → Nat → List Nat → Option (List Nat)
  | 0, _, _ => none
  | n + 1, at_, o => if at_ < o.length then walkO c h met n (at_ + 1) (addAll (c.getD (o.getD at_ 0) default) h met (c.getD (o.getD at_ 0) default).keys o) else some o
def orderOf (c : Ctl) : Option (List Nat) := walkO c (headOf c) (fun o t => decide (headOf c t ∈ o)) 60 0 [headOf c 0]
def leastBy (c : Ctl) (o : List Nat) : Ctl := o.map fun k => let s := c.getD k default; ⟨s.name, s.keys, s.tos.map fun t => o.idxOf (headOf c t)⟩
def Parts (f : Ctl → Nat → Ctl) (c : Ctl) : Prop := ∀ i j, i < c.length → j < c.length → ∃ r, part (f c i) (f c j) = some r
structure LeastOk (c : Ctl) (o : List Nat) : Prop where
  parts : Parts begun c
  self : ∀ i, i < c.length → alikeB c i i = true
  ord : orderOf c = some o
  lt : ∀ k ∈ o, k < c.length
  clo : ∀ k ∈ o, ∀ t ∈ (c.getD k default).tos, headOf c t ∈ o
  few : o.length ≤ 100
def pre_least_in : Pre := fun ds R => ∃ Γ c o, ds = [ctlD c] ∧ GoodC Γ c ∧ c.length ≤ 4 ∧ LeastOk c o ∧ R (ctlD (leastBy c o))
def pre_least_controller : Pre := fun ds R => ∃ h x y c o, ds = [hsD h x y, ctlD c] ∧ GoodH h ∧ InH h c ∧ LeastOk c o ∧ R (ctlD (leastBy c o))
def pre_is_least : Pre := fun ds R => ∃ h x y c o, ds = [hsD h x y, ctlD c] ∧ GoodH h ∧ InH h c ∧ LeastOk c o ∧ R (.bl (eqD (ctlD (leastBy c o)) (ctlD c)))
def alikeF (c : Ctl) (i j : Nat) : Bool := part (fromC c i) (fromC c j) == some none
def sortsOf (c : Ctl) : Option (List Nat) := walkO c id (fun o t => o.any fun one => alikeF c one t) 60 0 [0]
structure SortsOk (c : Ctl) (o : List Nat) : Prop where
  parts : Parts fromC c
  ord : sortsOf c = some o
def pre__law_sorts : Pre := fun ds R => ∃ Γ c o, ds = [ctlD c] ∧ GoodC Γ c ∧ c.length ≤ 4 ∧ SortsOk c o ∧ R (natsD o)
end K46

set_option Elab.async false
set_option linter.all false
set_option maxRecDepth 100000
set_option maxHeartbeats 2000000
/-! readings of comprehensions whose body leaves things alone -/
namespace K46
open PySem PySem.Spec PyProof.Rows L2
theorem lc_map {tg : Tg} {te : DTE} {vs : List Nat} {ds : List D} {δ1 : List Sl} {R : Rv → List Sl → Prop} (f : D → D) (hw : wOk δ1 vs = true) (hl : ds.length ≤ 100000)
    (step : ∀ (d : D) (Q : D → List Sl → Prop), d ∈ ds → (∀ δ5, wpD δ5 vs = wpD δ1 vs → Q (f d) δ5) → ∃ δ3, tg.set d (wpD δ1 vs) = some δ3 ∧ te δ3 Q) (fin : R (.nl (ds.map f)) δ1) :
    ∃ Iv : Nat → List D → List Sl → Prop, wOk δ1 vs = true ∧ ds.length ≤ 100000 ∧ Iv 0 [] (wpD δ1 vs) ∧ LcTurn tg none te vs ds Iv ∧ ∀ acc δ2, acc.length ≤ ds.length → Iv ds.length acc δ2 → R (.nl acc) (unD δ1 vs δ2) := by
  refine ⟨fun i acc δ => acc = (ds.take i).map f ∧ δ = wpD δ1 vs, hw, hl, ⟨by simp, rfl⟩, fun i d acc δ2 hd _ ⟨ha, hδ⟩ => ?_, fun acc δ2 _ ⟨ha, hδ⟩ => ?_⟩
  · subst ha hδ
    obtain ⟨δ3, e3, ht⟩ := step d (fun y δ5 => y = f d ∧ wpD δ5 vs = wpD δ1 vs → True) (List.mem_of_getElem? hd) fun _ _ _ => trivial
    obtain ⟨δ3, e3, ht⟩ := step d (fun y δ5 => (ds.take i).map f ++ [y] = (ds.take (i + 1)).map f ∧ wpD δ5 vs = wpD δ1 vs) (List.mem_of_getElem? hd) fun δ5 h5 => ⟨by rw [List.take_add_one, hd]; simp, h5⟩
    exact ⟨δ3, e3, fun _ => ht, fun z => nomatch z⟩
  · subst ha hδ
    rw [unD_wpD, List.take_length]
    exact fin
/-- with a test -/
theorem lc_filter {tg : Tg} {tt : DTT} {te : DTE} {vs : List Nat} {ds : List D} {δ1 : List Sl} {R : Rv → List Sl → Prop} (p : D → Bool) (f : D → D) (hw : wOk δ1 vs = true) (hl : ds.length ≤ 100000)
    (step : ∀ (d : D) (Q : Bool → List Sl → Prop), d ∈ ds → (∀ δ4, (p d = true → ∀ Q' : D → List Sl → Prop, (∀ δ5, wpD δ5 vs = wpD δ1 vs → Q' (f d) δ5) → te δ4 Q') → (p d = false → wpD δ4 vs = wpD δ1 vs) → Q (p d) δ4) → ∃ δ3, tg.set d (wpD δ1 vs) = some δ3 ∧ tt δ3 Q) (fin : R (.nl ((ds.filter p).map f)) δ1) :
    ∃ Iv : Nat → List D → List Sl → Prop, wOk δ1 vs = true ∧ ds.length ≤ 100000 ∧ Iv 0 [] (wpD δ1 vs) ∧ LcTurn tg (some tt) te vs ds Iv ∧ ∀ acc δ2, acc.length ≤ ds.length → Iv ds.length acc δ2 → R (.nl acc) (unD δ1 vs δ2) := by
  refine ⟨fun i acc δ => acc = ((ds.take i).filter p).map f ∧ δ = wpD δ1 vs, hw, hl, ⟨by simp, rfl⟩, fun i d acc δ2 hd _ ⟨ha, hδ⟩ => ?_, fun acc δ2 _ ⟨ha, hδ⟩ => ?_⟩
  · subst ha hδ
    have ht1 : ds.take (i + 1) = ds.take i ++ [d] := by rw [List.take_add_one, hd]; rfl
    exact step d _ (List.mem_of_getElem? hd) fun δ4 h1 h2 => ⟨fun e => h1 e _ fun δ5 h5 => ⟨by rw [ht1, List.filter_append]; simp [e], h5⟩, fun e => ⟨by rw [ht1, List.filter_append]; simp [e], h2 e⟩⟩
  · subst ha hδ
    rw [unD_wpD, List.take_length]
    exact fin
/-- over a locked dict -/
theorem lcK_map {p : DPath} {vals : Bool} {tg : Tg} {te : DTE} {vs : List Nat} {δ : List Sl} {ks : List Key} {ds : List D} {R : Rv → List Sl → Prop} (f : D → D) (hp : p.get δ = some (ks, ds)) (hw : wOk δ vs = true) (hl : ks.length ≤ 100000)
    (step : ∀ (d : D) (Q : D → List Sl → Prop), d ∈ (if vals = true then ds else ks.map kD) → (∀ δ5, wpD δ5 vs = wpD δ vs → Q (f d) δ5) → ∃ δ3, tg.set d (wpD δ vs) = some δ3 ∧ te δ3 Q) (fin : R (.nl ((if vals = true then ds else ks.map kD).map f)) δ) : drLcK p vals tg none te vs δ R := by
  refine ⟨ks, ds, hp, fun i acc δ' => acc = ((if vals = true then ds else ks.map kD).take i).map f ∧ δ' = wpD δ vs, hw, hl, ⟨by simp, rfl⟩, fun i d acc δ2 hd _ ⟨ha, hδ⟩ => ?_, fun acc δ2 ⟨ha, hδ⟩ => ?_⟩
  · subst ha hδ
    obtain ⟨δ3, e3, ht⟩ := step d (fun y δ5 => ((if vals = true then ds else ks.map kD).take i).map f ++ [y] = ((if vals = true then ds else ks.map kD).take (i + 1)).map f ∧ wpD δ5 vs = wpD δ vs) (List.mem_of_getElem? hd) fun δ5 h5 => ⟨by rw [List.take_add_one, hd]; simp, h5⟩
    exact ⟨δ3, e3, fun _ => ht, fun z => nomatch z⟩
  · subst ha hδ
    rw [unD_wpD, List.take_length]
    exact fin
/-- a dict comprehension with distinct keys -/
theorem dc_map {tg : Tg} {tk tv : DTE} {vs : List Nat} {ds : List D} {δ1 : List Sl} {R : D → List Sl → Prop} (kf : D → Key) (f : D → D) (hw : wOk δ1 vs = true) (hl : ds.length ≤ 100000) (hn : (ds.map kf).Nodup)
    (step : ∀ (d : D) (Q : Key → D → List Sl → Prop), d ∈ ds → (∀ δ5, wpD δ5 vs = wpD δ1 vs → Q (kf d) (f d) δ5) → ∃ δ3, tg.set d (wpD δ1 vs) = some δ3 ∧ tk δ3 fun x δ4 => tv δ4 fun y δ5 => ∃ k, keyD x = some k ∧ Q k y δ5) (fin : R (.dic (ds.map kf) (ds.map f)) δ1) :
    ∃ Iv : Nat → List Key → List D → List Sl → Prop, wOk δ1 vs = true ∧ ds.length ≤ 100000 ∧ Iv 0 [] [] (wpD δ1 vs) ∧ DcTurn tg tk tv vs ds Iv ∧ ∀ ks acc δ2, Iv ds.length ks acc δ2 → R (.dic ks acc) (unD δ1 vs δ2) := by
  refine ⟨fun i ks acc δ => ks = (ds.take i).map kf ∧ acc = (ds.take i).map f ∧ δ = wpD δ1 vs, hw, hl, ⟨by simp, by simp, rfl⟩, fun i d ks acc δ2 hd _ ⟨hk, ha, hδ⟩ => ?_, fun ks acc δ2 ⟨hk, ha, hδ⟩ => ?_⟩
  · subst hk ha hδ
    have ht1 : ds.take (i + 1) = ds.take i ++ [d] := by rw [List.take_add_one, hd]; rfl
    refine step d (fun k y δ5 => k ∉ (ds.take i).map kf ∧ (ds.take i).map kf ++ [k] = (ds.take (i + 1)).map kf ∧ (ds.take i).map f ++ [y] = (ds.take (i + 1)).map f ∧ wpD δ5 vs = wpD δ1 vs) (List.mem_of_getElem? hd) fun δ5 h5 => ⟨fun z => ?_, by rw [ht1]; simp, by rw [ht1]; simp, h5⟩
    have hn2 : ((ds.take (i + 1)).map kf).Nodup := by
      rw [List.map_take]
      exact hn.sublist (List.take_sublist _ _)
    rw [ht1, List.map_append] at hn2
    exact (List.nodup_append.mp hn2).2.2 _ z _ (by simp) rfl
  · subst hk ha hδ
    rw [unD_wpD, List.take_length]
    exact fin
/-- the same, from the source on -/
theorem lcMap {ti : DTI} {tg : Tg} {te : DTE} {vs : List Nat} {ds : List D} {δ δ1 : List Sl} {R : Rv → List Sl → Prop} (f : D → D) (hs : ∀ RR : List D → List Sl → Prop, RR ds δ1 → ti δ RR) (hw : wOk δ1 vs = true) (hl : ds.length ≤ 100000)
    (step : ∀ (d : D) (Q : D → List Sl → Prop), d ∈ ds → (∀ δ5, wpD δ5 vs = wpD δ1 vs → Q (f d) δ5) → ∃ δ3, tg.set d (wpD δ1 vs) = some δ3 ∧ te δ3 Q) (fin : R (.nl (ds.map f)) δ1) : drLc ti tg none te vs δ R := hs _ (lc_map f hw hl step fin)
theorem lcFilter {ti : DTI} {tg : Tg} {tt : DTT} {te : DTE} {vs : List Nat} {ds : List D} {δ δ1 : List Sl} {R : Rv → List Sl → Prop} (p : D → Bool) (f : D → D) (hs : ∀ RR : List D → List Sl → Prop, RR ds δ1 → ti δ RR) (hw : wOk δ1 vs = true) (hl : ds.length ≤ 100000)
    (step : ∀ (d : D) (Q : Bool → List Sl → Prop), d ∈ ds → (∀ δ4, (p d = true → ∀ Q' : D → List Sl → Prop, (∀ δ5, wpD δ5 vs = wpD δ1 vs → Q' (f d) δ5) → te δ4 Q') → (p d = false → wpD δ4 vs = wpD δ1 vs) → Q (p d) δ4) → ∃ δ3, tg.set d (wpD δ1 vs) = some δ3 ∧ tt δ3 Q) (fin : R (.nl ((ds.filter p).map f)) δ1) :
    drLc ti tg (some tt) te vs δ R := hs _ (lc_filter p f hw hl step fin)
theorem dcMap {ti : DTI} {tg : Tg} {tk tv : DTE} {vs : List Nat} {ds : List D} {δ δ1 : List Sl} {R : D → List Sl → Prop} (kf : D → Key) (f : D → D) (hs : ∀ RR : List D → List Sl → Prop, RR ds δ1 → ti δ RR) (hw : wOk δ1 vs = true) (hl : ds.length ≤ 100000) (hn : (ds.map kf).Nodup)
    (step : ∀ (d : D) (Q : Key → D → List Sl → Prop), d ∈ ds → (∀ δ5, wpD δ5 vs = wpD δ1 vs → Q (kf d) (f d) δ5) → ∃ δ3, tg.set d (wpD δ1 vs) = some δ3 ∧ tk δ3 fun x δ4 => tv δ4 fun y δ5 => ∃ k, keyD x = some k ∧ Q k y δ5) (fin : R (.dic (ds.map kf) (ds.map f)) δ1) :
    dDc ti tg tk tv vs δ R := hs _ (dc_map kf f hw hl hn step fin)
/-- a loop whose state is known at each turn -/
theorem forD {ti : DTI} {tg : Tg} {tb : DTS} {E : DEnds} {δ δ1 : List Sl} {ds : List D} (Iv : Nat → List Sl → Prop) (hs : ∀ RR : List D → List Sl → Prop, RR ds δ1 → ti δ RR) (i0 : Iv 0 δ1)
    (turn : ∀ (i : Nat) (d : D) δ2, ds[i]? = some d → Iv i δ2 → ∃ δ3, tg.set d δ2 = some δ3 ∧ tb { E with nx := Iv (i + 1), ct := Iv (i + 1), bk := E.nx } δ3) (fin : ∀ δ2, Iv ds.length δ2 → E.nx δ2) : dFor ti tg tb E δ := hs _ ⟨Iv, i0, turn, fin⟩
theorem fAll_true {ds : List D} : fAll [.lst (ds.map fun _ => .bl true)] = some (.bl true) := by
  have e : ds.map (fun _ => D.bl true) = (ds.map fun _ => true).map D.bl := by rw [List.map_map]; rfl
  rw [e]
  show (allB ((ds.map fun _ => true).map D.bl)).map (fun bs => D.bl (bs.all id)) = _
  rw [allB_map]
  simp
theorem rngD_len (n : Nat) : (rngD n).length = n := by simp [rngD]
end K46

set_option Elab.async false
set_option linter.all false
set_option maxRecDepth 100000
set_option maxHeartbeats 2000000
/-! facts about the data of controllers -/
namespace K46
open PySem PySem.Spec PyProof.Rows L2
theorem luD_rule (g : Int) : ∀ (ks : List Int) (ts : List Nat), luD (ks.map Sum.inl) (ts.map fun (n : Nat) => D.int (n : Int)) (.inl g) = ((ks.zip ts).lookup g).map fun (n : Nat) => D.int (n : Int)
  | [], _ => rfl
  | _ :: _, [] => rfl
  | k :: ks, t :: ts => by
    have ih := luD_rule g ks ts
    unfold luD at ih ⊢
    rw [List.map_cons, List.map_cons, List.zip_cons_cons, List.find?_cons, List.zip_cons_cons]
    by_cases e : k = g
    · subst e; simp [List.lookup]
    · have e1 : decide ((Sum.inl k : Key) = .inl g) = false := by simp [e]
      have e2 : (g == k) = false := by simpa using fun z => e z.symm
      rw [e1]
      simp only [List.lookup, e2]
      exact ih
theorem tgt_some {s : Stt} {g : Int} (hl : s.tos.length = s.keys.length) (h : g ∈ s.keys) : ∃ t, tgt s g = some t ∧ t ∈ s.tos := by
  obtain ⟨nm, ks, ts⟩ := s
  unfold tgt
  simp only at hl h ⊢
  induction ks generalizing ts with
  | nil => cases h
  | cons k ks ih =>
    cases ts with
    | nil => cases hl
    | cons t ts =>
      rw [List.zip_cons_cons]
      by_cases e : g = k
      · subst e; exact ⟨t, by simp [List.lookup], List.mem_cons_self⟩
      · have e2 : (g == k) = false := by simpa using e
        have hg : g ∈ ks := by
          rcases List.mem_cons.mp h with z | z
          · exact (e z).elim
          · exact z
        obtain ⟨t', h1, h2⟩ := ih ts (by simpa using hl) hg
        exact ⟨t', by simp only [List.lookup, e2]; exact h1, List.mem_cons_of_mem _ h2⟩
theorem tgt_mem {s : Stt} {g : Int} {t : Nat} (h : tgt s g = some t) : g ∈ s.keys ∧ t ∈ s.tos := by
  obtain ⟨nm, ks, ts⟩ := s
  unfold tgt at h
  simp only at h ⊢
  induction ks generalizing ts with
  | nil => cases h
  | cons k ks ih =>
    cases ts with
    | nil => cases h
    | cons t' ts =>
      rw [List.zip_cons_cons] at h
      simp only [List.lookup] at h
      split at h
      · rename_i z
        cases h
        have : g = k := by simpa using z
        exact ⟨by rw [this]; exact List.mem_cons_self, List.mem_cons_self⟩
      · obtain ⟨a, b⟩ := ih ts h
        exact ⟨List.mem_cons_of_mem _ a, List.mem_cons_of_mem _ b⟩
theorem tgt_iff {s : Stt} {g : Int} (hl : s.tos.length = s.keys.length) : (tgt s g).isSome = decide (g ∈ s.keys) := by
  by_cases h : g ∈ s.keys
  · obtain ⟨t, e, _⟩ := tgt_some hl h
    rw [e]; simp [h]
  · cases e : tgt s g with
    | none => simp [h]
    | some t => exact (h (tgt_mem e).1).elim
theorem ixN_ok {n i : Nat} (h : i < n) : ixN n (i : Int) = some i := by
  have := ixN_nat (n := (i : Int)) (l := n) (by omega) (by simpa using h)
  simpa using this
theorem atD_nat {α : Type} {f : α → D} {xs : List α} {i : Nat} {x : α} (h : xs[i]? = some x) : atD (xs.map f) (i : Int) = some (f x) := by
  unfold atD
  rw [List.length_map, ixN_ok (List.getElem?_eq_some_iff.mp h).1]
  show (xs.map f)[i]? = _
  rw [List.getElem?_map, h]; rfl
theorem getD_get {c : Ctl} {i : Nat} (h : i < c.length) : c[i]? = some (c.getD i default) := by
  rw [List.getElem?_eq_getElem h]
  simp [List.getD, List.getElem?_eq_getElem h]
theorem getD_mem {c : Ctl} {i : Nat} (h : i < c.length) : c.getD i default ∈ c := List.mem_of_getElem? (getD_get h)
theorem fIx_ctl {c : Ctl} {i : Nat} (h : i < c.length) : fIx (ctlD c) (.int (i : Int)) = some (stD (c.getD i default)) := atD_nat (getD_get h)
theorem GoodC.tl {Γ : Str → List Int} {c : Ctl} (g : GoodC Γ c) {i : Nat} (h : i < c.length) : (c.getD i default).tos.length = (c.getD i default).keys.length := (g.st _ (getD_mem h)).len
theorem GoodC.tlt {Γ : Str → List Int} {c : Ctl} (g : GoodC Γ c) {i : Nat} (h : i < c.length) {x : Int} {t : Nat} (e : tgt (c.getD i default) x = some t) : t < c.length := (g.st _ (getD_mem h)).lt _ (tgt_mem e).2
theorem fIx_rule {s : Stt} {g : Int} : fIx (.dic (s.keys.map Sum.inl) (s.tos.map fun (n : Nat) => D.int (n : Int))) (.int g) = (tgt s g).map fun (n : Nat) => D.int (n : Int) := luD_rule g s.keys s.tos
theorem fIn_rule {s : Stt} {g : Int} : fIn (.int g) (.dic (s.keys.map Sum.inl) (s.tos.map fun (n : Nat) => D.int (n : Int))) = some (.bl (tgt s g).isSome) := by
  show some (D.bl (luD _ _ (.inl g)).isSome) = _
  rw [luD_rule]
  unfold tgt
  cases (s.keys.zip s.tos).lookup g <;> rfl
theorem allS_cons (x : Str) : True := trivial
theorem fIn_hou {h : Hou} {x : Str} : fIn (.str x) (houD h) = some (.bl (luD (h.map fun p => .inr p.1) (h.map fun p => gameD p.2) (.inr x)).isSome) := rfl
theorem sum_small {g : Game} (h : GoodG g) : (gainsL g).length < 64 := by
  have h1 : (gainsL g).length ≤ g.length * 6 := by
    unfold gainsL
    rw [List.length_map, List.length_flatten]
    have : ∀ (ms : List (List Row)), (∀ rs ∈ ms, rs.length ≤ 6) → (ms.map List.length).sum ≤ ms.length * 6 := by
      intro ms
      induction ms with
      | nil => intro _; simp
      | cons a ms ih =>
        intro hh
        have h1 := hh a List.mem_cons_self
        have h2 := ih fun rs hr => hh rs (List.mem_cons_of_mem _ hr)
        simp only [List.map_cons, List.sum_cons, List.length_cons]
        omega
    exact this g fun rs hr => (h.ms rs hr).few
  have := h.few
  omega
theorem gains_bound {g : Game} (h : GoodG g) {x : Int} (hx : x ∈ gainsU g) : -99 ≤ x ∧ x ≤ 99 := by
  unfold gainsU gainsL at hx
  rw [mem_sortU] at hx
  obtain ⟨r, hr, rfl⟩ := List.mem_map.mp hx
  obtain ⟨rs, h1, h2⟩ := List.mem_flatten.mp hr
  have := (h.ms rs h1).mv r h2
  exact ⟨this.2.2.1, this.2.2.2.1⟩
end K46

set_option Elab.async false
set_option linter.all false
set_option maxRecDepth 100000
set_option maxHeartbeats 2000000
/-! reordered controllers -/
namespace K46
open PySem PySem.Spec PyProof.Rows L2
theorem map_tgt {s : Stt} (hl : s.tos.length = s.keys.length) (hn : s.keys.Nodup) : s.keys.map (fun g => (tgt s g).getD 0) = s.tos := by
  obtain ⟨nm, ks, ts⟩ := s
  simp only at hl hn ⊢
  unfold tgt
  simp only
  induction ks generalizing ts with
  | nil => cases ts with
    | nil => rfl
    | cons _ _ => cases hl
  | cons k ks ih =>
    cases ts with
    | nil => cases hl
    | cons t ts =>
      have hn' := List.nodup_cons.mp hn
      rw [List.map_cons, List.zip_cons_cons]
      have e1 : (((k, t) :: ks.zip ts).lookup k).getD 0 = t := by simp [List.lookup]
      rw [e1]
      congr 1
      rw [← ih ts (by simpa using hl) hn'.2]
      refine List.map_congr_left fun g hg => ?_
      have e2 : (g == k) = false := by
        simp only [beq_eq_false_iff_ne, ne_eq]
        intro z; rw [z] at hg; exact hn'.1 hg
      simp only [List.lookup, e2]
      rw [ih ts (by simpa using hl) hn'.2]
theorem order_len {c : Ctl} {o : List Nat} (hn : o.Nodup) (hm : ∀ k, k ∈ o ↔ k < c.length) : o.length = c.length := by
  have hp : o.Perm (List.range c.length) := (List.perm_ext_iff_of_nodup hn List.nodup_range).mpr fun k => by rw [hm, List.mem_range]
  rw [hp.length_eq, List.length_range]
theorem reord_good {Γ : Str → List Int} {c : Ctl} {o : List Nat} (hg : GoodC Γ c) (hn : o.Nodup) (hm : ∀ k, k ∈ o ↔ k < c.length) : GoodC Γ (reord c o) := by
  have hl := order_len hn hm
  have hl2 : (reord c o).length = c.length := by unfold reord; rw [List.length_map, hl]
  refine ⟨by rw [hl2]; exact hg.one, by rw [hl2]; exact hg.few, fun s hs => ?_, hg.asc, hg.short⟩
  obtain ⟨k, hk, rfl⟩ := List.mem_map.mp hs
  have hk2 := (hm k).mp hk
  have g := hg.st _ (getD_mem hk2)
  refine ⟨g.keys, by simp only [List.length_map]; exact g.len, fun t ht => ?_⟩
  obtain ⟨t', ht', rfl⟩ := List.mem_map.mp ht
  rw [hl2, ← hl]
  exact List.idxOf_lt_length_of_mem ((hm t').mpr (g.lt t' ht'))
theorem begun_order {c : Ctl} {i : Nat} (hi : i < c.length) : (i :: (List.range c.length).filter fun k => k != i).Nodup ∧ ∀ k, k ∈ (i :: (List.range c.length).filter fun k => k != i) ↔ k < c.length := by
  constructor
  · refine List.nodup_cons.mpr ⟨?_, List.nodup_range.filter _⟩
    intro z
    have := (List.mem_filter.mp z).2
    simp at this
  · intro k
    rw [List.mem_cons, List.mem_filter, List.mem_range]
    constructor
    · rintro (h | ⟨h, _⟩)
      · rw [h]; exact hi
      · exact h
    · intro h
      by_cases e : k = i
      · exact .inl e
      · exact .inr ⟨h, by simpa using e⟩
theorem begun_good {Γ : Str → List Int} {c : Ctl} {i : Nat} (hg : GoodC Γ c) (hi : i < c.length) : GoodC Γ (begun c i) := reord_good hg (begun_order hi).1 (begun_order hi).2
theorem from_good {Γ : Str → List Int} {c : Ctl} {i : Nat} (hg : GoodC Γ c) (h4 : c.length ≤ 4) (hi : i < c.length) : GoodC Γ (fromC c i) := by
  have hl : (shift c).length = c.length := by unfold shift; rw [List.length_map]
  have hl2 : (fromC c i).length = c.length + 1 := by unfold fromC; rw [List.length_cons, hl]
  have hsh : ∀ s ∈ shift c, GoodSt Γ (c.length + 1) s := fun s hs => by
    obtain ⟨s0, h0, rfl⟩ := List.mem_map.mp hs
    have g := hg.st _ h0
    refine ⟨g.keys, by simp only [List.length_map]; exact g.len, fun t ht => ?_⟩
    obtain ⟨t', ht', rfl⟩ := List.mem_map.mp ht
    have := g.lt t' ht'
    omega
  refine ⟨by rw [hl2]; omega, by rw [hl2]; omega, fun s hs => ?_, hg.asc, hg.short⟩
  rw [hl2]
  unfold fromC at hs
  rcases List.mem_cons.mp hs with e | e
  · rw [e]
    exact hsh _ (getD_mem (by rw [hl]; exact hi))
  · exact hsh s e
theorem luD_idx : ∀ (o : List Nat) (j : Nat) (t : Nat), t ∈ o → luD (o.map fun (n : Nat) => Sum.inl (n : Int)) ((List.range' j o.length).map fun (n : Nat) => D.int (n : Int)) (.inl (t : Int)) = some (.int ((j + o.idxOf t : Nat) : Int))
  | [], _, _, h => by cases h
  | k :: o, j, t, h => by
    have ih := luD_idx o (j + 1) t
    rw [List.length_cons, List.range'_succ, List.map_cons, List.map_cons]
    unfold luD at ih ⊢
    rw [List.zip_cons_cons, List.find?_cons, List.idxOf_cons]
    by_cases e : k = t
    · subst e; simp
    · have e1 : decide ((Sum.inl (k : Int) : Key) = .inl (t : Int)) = false := by
        simp only [decide_eq_false_iff_not, Sum.inl.injEq]
        omega
      have e2 : (k == t) = false := by simpa using e
      rw [e1, e2]
      have ht : t ∈ o := by
        rcases List.mem_cons.mp h with z | z
        · exact (e z.symm).elim
        · exact z
      rw [ih ht]
      show some (D.int _) = some (D.int _)
      congr 2
      simp
      omega
end K46

set_option Elab.async false
set_option linter.all false
set_option maxRecDepth 100000
set_option maxHeartbeats 2000000
/-! what the drawing defs promise -/
namespace K46
open PySem PySem.Spec PyProof.Rows L2
/-- the dice: what is left of the great number, the blend, the count -/
def diceD (a b c : Int) : List D := [.int a, .int b, .int c]
def GoodD (dc : List D) : Prop := ∃ a b c : Int, dc = diceD a b c ∧ 0 ≤ a ∧ 0 ≤ b ∧ 0 ≤ c
def pre__law_roll : PreM := fun dc ds R => ∃ n : Nat, ds = [.int n] ∧ GoodD dc ∧ 0 < n ∧ n ≤ 100 ∧ ∀ (i : Nat) dc', i < n → GoodD dc' → R (.int i) dc'
def pre__law_pick : PreM := fun dc ds R => ∃ xs, ds = [.lst xs] ∧ GoodD dc ∧ 0 < xs.length ∧ xs.length ≤ 100 ∧ ∀ x dc', x ∈ xs → GoodD dc' → R x dc'
/-- k of the list, taken one after another -/
def Drawn (xs : List D) (k : Nat) (ys : List D) : Prop := ys.length = min k xs.length ∧ ∃ rest, (ys ++ rest).Perm xs
def pre__law_some : PreM := fun dc ds R => ∃ (xs : List D) (k : Nat), ds = [.lst xs, .int k] ∧ GoodD dc ∧ xs.length ≤ 100 ∧ k ≤ 100 ∧ ∀ ys dc', Drawn xs k ys → GoodD dc' → R (.lst ys) dc'
def chancesL : Nat → List (List (Int × Int))
  | 1 => [[(1, 1)]]
  | 2 => [[(1, 2), (1, 2)], [(1, 3), (2, 3)], [(3, 4), (1, 4)], [(1, 6), (5, 6)]]
  | 3 => [[(1, 3), (1, 3), (1, 3)], [(1, 2), (1, 4), (1, 4)], [(1, 6), (1, 3), (1, 2)], [(1, 4), (1, 2), (1, 4)]]
  | _ => []
def pre__law_chances : PreM := fun dc ds R => ∃ n : Nat, ds = [.int n] ∧ GoodD dc ∧ 1 ≤ n ∧ n ≤ 3 ∧ ∀ ps dc', ps ∈ chancesL n → GoodD dc' → R (.lst (ps.map pD)) dc'
def pre__law_moves : PreM := fun dc ds R => ∃ n : Nat, ds = [.int n] ∧ GoodD dc ∧ 1 ≤ n ∧ n ≤ 3 ∧ ∀ rs dc', GoodMs n rs → GoodD dc' → R (rowsD rs) dc'
def pre__law_game : PreM := fun dc ds R => ∃ n : Nat, ds = [.int n] ∧ GoodD dc ∧ 1 ≤ n ∧ n ≤ 3 ∧ ∀ g dc', GoodG g → g.length = n → GoodD dc' → R (gameD g) dc'
def pre__law_house : PreM := fun dc ds R => ds = [] ∧ GoodD dc ∧ ∀ h dc', GoodH h → GoodD dc' → R (houD h) dc'
def pre__law_known_house : PreM := pre__law_house
def pre__law_controller : PreM := fun dc ds R => ∃ (h : Hou) (n : Nat), ds = [houD h, .int n] ∧ GoodD dc ∧ GoodH h ∧ 1 ≤ n ∧ n ≤ 4 ∧ ∀ c dc', InH h c → c.length ≤ n → GoodD dc' → R (ctlD c) dc'
/-- a comprehension whose body rolls the dice -/
theorem lcDice {ti : DTI} {tg : Tg} {te : DTE} {vs : List Nat} {ds : List D} {δ : List Sl} {R : Rv → List Sl → Prop} (δ0 : List D → List Sl) (P : D → D → Prop) {dc : List D} (gd : GoodD dc) (hs : ∀ RR : List D → List Sl → Prop, RR ds (δ0 dc) → ti δ RR) (hw : wOk (δ0 dc) vs = true) (hl : ds.length ≤ 100000)
    (hu : ∀ dc', unD (δ0 dc) vs (wpD (δ0 dc') vs) = δ0 dc')
    (step : ∀ (d : D) (dc : List D) (Q : D → List Sl → Prop), d ∈ ds → GoodD dc → (∀ y dc' δ5, P d y → GoodD dc' → wpD δ5 vs = wpD (δ0 dc') vs → Q y δ5) → ∃ δ3, tg.set d (wpD (δ0 dc) vs) = some δ3 ∧ te δ3 Q)
    (fin : ∀ ys dc', GoodD dc' → ys.length = ds.length → (∀ (j : Nat) d y, ds[j]? = some d → ys[j]? = some y → P d y) → R (.nl ys) (δ0 dc')) : drLc ti tg none te vs δ R := by
  refine hs _ ⟨fun i acc δ => ∃ dc, GoodD dc ∧ δ = wpD (δ0 dc) vs ∧ acc.length = i ∧ ∀ (j : Nat) d y, ds[j]? = some d → acc[j]? = some y → P d y, hw, hl, ⟨dc, gd, rfl, rfl, fun j d y _ h => nomatch h⟩, ?_, ?_⟩
  · rintro i d acc δ2 hd _ ⟨dc, gd, rfl, hai, hP⟩
    obtain ⟨δ3, e3, ht⟩ := step d dc (fun y δ5 => ∃ dc', GoodD dc' ∧ wpD δ5 vs = wpD (δ0 dc') vs ∧ (acc ++ [y]).length = i + 1 ∧ ∀ (j : Nat) d y', ds[j]? = some d → (acc ++ [y])[j]? = some y' → P d y') (List.mem_of_getElem? hd) gd (fun y dc' δ5 hp hg h5 => ⟨dc', hg, h5, by rw [List.length_append, hai]; rfl, fun j d' y' h1 h2 => by
      by_cases hj : j < acc.length
      · rw [List.getElem?_append_left hj] at h2
        exact hP j d' y' h1 h2
      · rw [List.getElem?_append_right (by omega)] at h2
        have hj2 : j = i := by
          have := (List.getElem?_eq_some_iff.mp h2).1
          simp at this
          omega
        subst hj2
        rw [hd] at h1
        cases h1
        rw [hai, Nat.sub_self] at h2
        cases h2
        exact hp⟩)
    exact ⟨δ3, e3, fun _ => ht, fun z => nomatch z⟩
  · rintro acc δ2 _ ⟨dc', gd', rfl, hai, hP⟩
    rw [hu]
    exact fin acc dc' gd' hai hP
theorem all_map {α : Type} {f : α → D} {G : α → Prop} : ∀ {ys : List D}, (∀ y ∈ ys, ∃ x, y = f x ∧ G x) → ∃ xs : List α, ys = xs.map f ∧ ∀ x ∈ xs, G x
  | [], _ => ⟨[], rfl, fun _ h => nomatch h⟩
  | y :: ys, h => by
    obtain ⟨x, e, hx⟩ := h y List.mem_cons_self
    obtain ⟨xs, e2, h2⟩ := all_map (ys := ys) fun z hz => h z (List.mem_cons_of_mem _ hz)
    refine ⟨x :: xs, by rw [e, e2]; rfl, fun z hz => ?_⟩
    rcases List.mem_cons.mp hz with rfl | hz
    · exact hx
    · exact h2 z hz
end K46

set_option Elab.async false
set_option linter.all false
set_option maxRecDepth 100000
set_option maxHeartbeats 2000000
/-! what the judging defs promise -/
namespace K46
open PySem PySem.Spec PyProof.Rows L2
def pre_init : PreI := fun d R => ∃ h : Hou, d = houD h ∧ GoodH h ∧ ∀ (h' : Hou) x y, h'.Perm h → R [houD h', x, y]
def pre__law_made : Pre := fun ds R => ∃ h : Hou, ds = [houD h] ∧ GoodH h ∧ ∀ (h' : Hou) x y, h'.Perm h → R (hsD h' x y)
def nameOf (c : Ctl) : Option Nat → D
  | none => .non
  | some k => .str (c.getD k default).name
def pre__law_told_behind : Pre := fun ds R => ∃ h x y c s, ds = [hsD h x y, ctlD c, sightD s] ∧ GoodH h ∧ InH h c ∧ (∀ g ∈ s, -99 ≤ g ∧ g ≤ 99) ∧ s.length ≤ 1000 ∧ R (nameOf c (run c 0 s))
/-- what the plain mathematics says of the least controller s of c, with its order o, and the order o' of the sorts -/
structure LeastIs (h : Hou) (c s : Ctl) (o o' : List Nat) : Prop where
  ok : LeastOk c o
  eq : s = leastBy c o
  inH : InH h s
  sorts : SortsOk c o'
  lt : ∀ k ∈ o', k < c.length
  few : o'.length ≤ 100
  alike : part s c = some none
  names : s.map (·.name) = o'.map fun k => (c.getD k default).name
  ok2 : ∃ o2, LeastOk s o2 ∧ leastBy s o2 = s
  sorts2 : SortsOk s (List.range s.length)
def pre__law_least_right : Pre := fun ds R => ∃ h x y c s o o', ds = [hsD h x y, ctlD c] ∧ GoodH h ∧ InH h c ∧ LeastIs h c s o o' ∧ R (.bl true)
/-- what the plain mathematics says of two controllers -/
structure TwoIs (c d : Ctl) : Prop where
  part : ∃ r, part c d = some r ∧ ∀ s, r = some s → (∀ g ∈ s, -99 ≤ g ∧ g ≤ 99) ∧ s.length ≤ 1000 ∧ ∃ i j, run c 0 s = some i ∧ run d 0 s = some j ∧ (c.getD i default).name ≠ (d.getD j default).name
  self : K46.part c c = some none
def Maths : Prop := (∀ h c d, GoodH h → InH h c → InH h d → TwoIs c d) ∧ ∀ h c, GoodH h → InH h c → ∃ s o o', LeastIs h c s o o'
def pre__law_right : PreM := fun dc ds R => Maths ∧ ds = [] ∧ GoodD dc ∧ ∀ dc', GoodD dc' → R (.bl true) dc'
end K46

set_option Elab.async false
set_option linter.all false
set_option maxRecDepth 100000
set_option maxHeartbeats 1000000
/-! plain mathematics of controllers: what a state answers to each sight -/
namespace K46
open PySem (Str)
namespace M
abbrev st (c : Ctl) (i : Nat) : Stt := c.getD i default
abbrev nm (c : Ctl) (i : Nat) : Str := (c.getD i default).name
def beh (c : Ctl) (i : Nat) (s : List Int) : Option Str := (run c i s).map (nm c)
def Al (c : Ctl) (i : Nat) (d : Ctl) (j : Nat) : Prop := ∀ s, beh c i s = beh d j s
theorem Al.refl (c : Ctl) (i : Nat) : Al c i c i := fun _ => rfl
theorem Al.symm {c d : Ctl} {i j : Nat} (h : Al c i d j) : Al d j c i := fun s => (h s).symm
theorem Al.trans {c d e : Ctl} {i j k : Nat} (h : Al c i d j) (h2 : Al d j e k) : Al c i e k := fun s => (h s).trans (h2 s)
theorem Al.name {c d : Ctl} {i j : Nat} (h : Al c i d j) : nm c i = nm d j := by
  have := h []
  simpa [beh, run] using this
theorem run_cons {c : Ctl} {i t : Nat} {g : Int} {s : List Int} (h : tgt (st c i) g = some t) : run c i (g :: s) = run c t s := by
  unfold st at h
  simp only [run, h]
theorem run_cons_none {c : Ctl} {i : Nat} {g : Int} {s : List Int} (h : tgt (st c i) g = none) : run c i (g :: s) = none := by
  unfold st at h
  simp only [run, h]
theorem Al.step {c d : Ctl} {i j t u : Nat} {g : Int} (h : Al c i d j) (h1 : tgt (st c i) g = some t) (h2 : tgt (st d j) g = some u) : Al c t d u := fun s => by
  have := h (g :: s)
  unfold beh at this ⊢
  rw [run_cons h1, run_cons h2] at this
  exact this
theorem run_append (c : Ctl) : ∀ (s : List Int) (k j : Nat) (g : Int), run c k s = some j → run c k (s ++ [g]) = tgt (st c j) g
  | [], k, j, g, h => by
    simp only [run] at h
    cases h
    show run c k [g] = _
    cases e : tgt (st c k) g with
    | none => exact run_cons_none e
    | some t => rw [run_cons e]; rfl
  | x :: s, k, j, g, h => by
    cases e : tgt (st c k) x with
    | none => rw [run_cons_none e] at h; cases h
    | some t =>
      rw [run_cons e] at h
      show run c k (x :: (s ++ [g])) = _
      rw [run_cons e]
      exact run_append c s t j g h
theorem al_bisim {c d : Ctl} (R : Nat → Nat → Prop) (h : ∀ i j, R i j → nm c i = nm d j ∧ ∀ g, (tgt (st c i) g = none ∧ tgt (st d j) g = none) ∨ ∃ t u, tgt (st c i) g = some t ∧ tgt (st d j) g = some u ∧ R t u) {i j : Nat} (hr : R i j) : Al c i d j := by
  intro s
  induction s generalizing i j with
  | nil => simp [beh, run]; exact (h i j hr).1
  | cons g s ih =>
    unfold beh
    rcases (h i j hr).2 g with ⟨a, b⟩ | ⟨t, u, a, b, r⟩
    · rw [run_cons_none a, run_cons_none b]; rfl
    · rw [run_cons a, run_cons b]; exact ih r

/-! the rules of a state -/
theorem lz_some {g : Int} : ∀ {ks : List Int} {ts : List Nat}, ts.length = ks.length → g ∈ ks → ∃ t, (ks.zip ts).lookup g = some t
  | [], _, _, h => nomatch h
  | k :: ks, [], e, _ => by cases e
  | k :: ks, t :: ts, e, h => by
    simp only [List.zip_cons_cons, List.lookup]
    by_cases z : g = k
    · subst z; simp
    · have : (g == k) = false := by simpa using z
      rw [this]
      exact lz_some (by simpa using e) ((List.mem_cons.mp h).resolve_left z)
theorem lz_mem {g : Int} {t : Nat} : ∀ {ks : List Int} {ts : List Nat}, (ks.zip ts).lookup g = some t → g ∈ ks ∧ t ∈ ts
  | [], _, h => by simp at h
  | k :: ks, [], h => by simp at h
  | k :: ks, u :: ts, h => by
    simp only [List.zip_cons_cons, List.lookup] at h
    by_cases z : g = k
    · subst z
      simp at h
      subst h
      exact ⟨List.mem_cons_self, List.mem_cons_self⟩
    · have : (g == k) = false := by simpa using z
      rw [this] at h
      obtain ⟨a, b⟩ := lz_mem h
      exact ⟨List.mem_cons_of_mem _ a, List.mem_cons_of_mem _ b⟩
theorem lz_map {g : Int} (f : Nat → Nat) : ∀ {ks : List Int} {ts : List Nat}, (ks.zip (ts.map f)).lookup g = ((ks.zip ts).lookup g).map f
  | [], _ => by simp
  | k :: ks, [] => by simp
  | k :: ks, u :: ts => by
    simp only [List.map_cons, List.zip_cons_cons, List.lookup]
    by_cases z : g = k
    · subst z; simp
    · have : (g == k) = false := by simpa using z
      rw [this]
      exact lz_map f
theorem lz_back {t : Nat} : ∀ {ks : List Int} {ts : List Nat}, ks.Nodup → ts.length = ks.length → t ∈ ts → ∃ g, g ∈ ks ∧ (ks.zip ts).lookup g = some t
  | [], [], _, _, h => nomatch h
  | k :: ks, [], _, e, _ => by cases e
  | [], t :: ts, _, e, _ => by cases e
  | k :: ks, u :: ts, n, e, h => by
    by_cases z : t = u
    · subst z
      exact ⟨k, List.mem_cons_self, by simp [List.lookup]⟩
    · obtain ⟨g, h1, h2⟩ := lz_back (List.nodup_cons.mp n).2 (by simpa using e) ((List.mem_cons.mp h).resolve_left z)
      refine ⟨g, List.mem_cons_of_mem _ h1, ?_⟩
      simp only [List.zip_cons_cons, List.lookup]
      have : (g == k) = false := by
        have : g ≠ k := fun z => (List.nodup_cons.mp n).1 (z ▸ h1)
        simpa using this
      rw [this]
      exact h2
theorem st_mem {c : Ctl} {i : Nat} (h : i < c.length) : st c i ∈ c := by
  have : st c i = c[i] := by simp [st, List.getD, h]
  rw [this]; exact List.getElem_mem h
section
variable {Γ : Str → List Int} {c d : Ctl}
theorem gs (hc : GoodC Γ c) {i : Nat} (h : i < c.length) : GoodSt Γ c.length (st c i) := hc.st _ (st_mem h)
theorem gnd (hc : GoodC Γ c) {i : Nat} (h : i < c.length) : (st c i).keys.Nodup := by
  rw [(gs hc h).keys]
  exact List.Pairwise.imp (fun h => Int.ne_of_lt h) (hc.asc _)
theorem tg_some (hc : GoodC Γ c) {i : Nat} (h : i < c.length) {g : Int} (hg : g ∈ (st c i).keys) : ∃ t, tgt (st c i) g = some t := lz_some (gs hc h).len hg
theorem tg_lt (hc : GoodC Γ c) {i t : Nat} (h : i < c.length) {g : Int} (e : tgt (st c i) g = some t) : t < c.length := (gs hc h).lt _ (lz_mem e).2
theorem tg_key {i t : Nat} {g : Int} (e : tgt (st c i) g = some t) : g ∈ (st c i).keys := (lz_mem e).1
theorem tg_none {i : Nat} {g : Int} (h : g ∉ (st c i).keys) : tgt (st c i) g = none := by
  cases e : tgt (st c i) g with
  | none => rfl
  | some t => exact (h (tg_key e)).elim
theorem tg_back (hc : GoodC Γ c) {i t : Nat} (h : i < c.length) (ht : t ∈ (st c i).tos) : ∃ g, g ∈ (st c i).keys ∧ tgt (st c i) g = some t := lz_back (gnd hc h) (gs hc h).len ht
theorem keys_eq (hc : GoodC Γ c) (hd : GoodC Γ d) {i j : Nat} (hi : i < c.length) (hj : j < d.length) (hn : nm c i = nm d j) : (st c i).keys = (st d j).keys := by
  rw [(gs hc hi).keys, (gs hd hj).keys]
  exact congrArg Γ hn
/-- a relation that each step keeps -/
theorem al_of (hc : GoodC Γ c) (hd : GoodC Γ d) (R : Nat → Nat → Prop) (h : ∀ i j, R i j → i < c.length ∧ j < d.length ∧ nm c i = nm d j ∧ ∀ g t u, tgt (st c i) g = some t → tgt (st d j) g = some u → R t u) {i j : Nat} (hr : R i j) : Al c i d j := by
  refine al_bisim R (fun i j hr => ?_) hr
  obtain ⟨hi, hj, hn, hs⟩ := h i j hr
  refine ⟨hn, fun g => ?_⟩
  have ek := keys_eq hc hd hi hj hn
  by_cases hg : g ∈ (st c i).keys
  · obtain ⟨t, ht⟩ := tg_some hc hi hg
    obtain ⟨u, hu⟩ := tg_some hd hj (ek ▸ hg)
    exact .inr ⟨t, u, ht, hu, hs g t u ht hu⟩
  · exact .inl ⟨tg_none hg, tg_none (ek ▸ hg)⟩
theorem run_lt' (hc : GoodC Γ c) : ∀ (s : List Int) (k j : Nat), k < c.length → run c k s = some j → j < c.length
  | [], k, j, h, e => by simp only [run] at e; cases e; exact h
  | g :: s, k, j, h, e => by
    cases q : tgt (st c k) g with
    | none => rw [run_cons_none q] at e; cases e
    | some t => rw [run_cons q] at e; exact run_lt' hc s t j (tg_lt hc h q) e
end

/-! the search -/
theorem len_le_of_sub {α : Type} [DecidableEq α] : ∀ {l m : List α}, l.Nodup → (∀ x ∈ l, x ∈ m) → l.length ≤ m.length
  | [], m, _, _ => Nat.zero_le _
  | x :: l, m, hn, hs => by
    have hx : x ∈ m := hs x List.mem_cons_self
    have : l.length ≤ (m.erase x).length := len_le_of_sub (List.nodup_cons.mp hn).2 fun y hy => by
      have hne : y ≠ x := fun z => (List.nodup_cons.mp hn).1 (z ▸ hy)
      exact (List.mem_erase_of_ne hne).mpr (hs y (List.mem_cons_of_mem _ hy))
    rw [List.length_erase_of_mem hx] at this
    have := List.length_pos_of_mem hx
    simp only [List.length_cons]
    omega
theorem nodup_map {α β : Type} {f : α → β} : ∀ {l : List α}, l.Nodup → (∀ x ∈ l, ∀ y ∈ l, f x = f y → x = y) → (l.map f).Nodup
  | [], _, _ => List.nodup_nil
  | x :: l, hn, hi => by
    rw [List.map_cons, List.nodup_cons]
    refine ⟨fun hm => ?_, nodup_map (List.nodup_cons.mp hn).2 fun a ha b hb => hi a (List.mem_cons_of_mem _ ha) b (List.mem_cons_of_mem _ hb)⟩
    obtain ⟨y, hy, e⟩ := List.mem_map.mp hm
    have := hi y (List.mem_cons_of_mem _ hy) x List.mem_cons_self e
    exact (List.nodup_cons.mp hn).1 (this ▸ hy)
theorem pairs_le {m n : Nat} {l : List (Nat × Nat)} (hn : l.Nodup) (h : ∀ p ∈ l, p.1 < m ∧ p.2 < n) (h5 : n ≤ 5) : l.length ≤ m * 5 := by
  have hn2 : (l.map fun p => p.1 * 5 + p.2).Nodup := nodup_map hn fun x hx y hy e => by
    have h1 := h x hx
    have h2 := h y hy
    have e1 : x.1 = y.1 := by omega
    have e2 : x.2 = y.2 := by omega
    exact Prod.ext e1 e2
  have := len_le_of_sub (m := List.range (m * 5)) hn2 fun x hx => by
    obtain ⟨p, hp, rfl⟩ := List.mem_map.mp hx
    have := h p hp
    rw [List.mem_range]
    omega
  simpa using this

structure SI (c d : Ctl) (w : List Item) (seen : List (Nat × Nat)) : Prop where
  nd : seen.Nodup
  rg : ∀ p ∈ seen, p.1 < c.length ∧ p.2 < d.length
  it : ∀ x ∈ w, x.2 ∈ seen ∧ run c 0 x.1 = some x.2.1 ∧ run d 0 x.1 = some x.2.2 ∧ x.1.length ≤ seen.length ∧ ∀ g ∈ x.1, ∃ k, k < c.length ∧ g ∈ (st c k).keys
def Done (c d : Ctl) (seen : List (Nat × Nat)) (p : Nat × Nat) : Prop := nm c p.1 = nm d p.2 ∧ ∀ g t u, tgt (st c p.1) g = some t → tgt (st d p.2) g = some u → (t, u) ∈ seen
theorem Done.mono {c d : Ctl} {seen x : List (Nat × Nat)} {p : Nat × Nat} (h : Done c d seen p) : Done c d (seen ++ x) p := ⟨h.1, fun g t u a b => List.mem_append_left _ (h.2 g t u a b)⟩
section
variable {Γ : Str → List Int} {c d : Ctl}
theorem push_spec (hc : GoodC Γ c) (hd : GoodC Γ d) {i j : Nat} {s : List Int} (hi : i < c.length) (hj : j < d.length) (hn : nm c i = nm d j) (r1 : run c 0 s = some i) (r2 : run d 0 s = some j) (hk : ∀ g ∈ s, ∃ k, k < c.length ∧ g ∈ (st c k).keys) :
    ∀ (gs : List Int) (w : List Item) (seen : List (Nat × Nat)), (∀ g ∈ gs, g ∈ (st c i).keys) → s.length ≤ seen.length → SI c d w seen →
      SI c d (push (st c i) (st d j) s gs w seen).1 (push (st c i) (st d j) s gs w seen).2 ∧
      (∃ x : List Item, (push (st c i) (st d j) s gs w seen).1 = w ++ x ∧ (push (st c i) (st d j) s gs w seen).2 = seen ++ x.map (·.2)) ∧
      ∀ g ∈ gs, ∀ t u, tgt (st c i) g = some t → tgt (st d j) g = some u → (t, u) ∈ (push (st c i) (st d j) s gs w seen).2
  | [], w, seen, _, _, h => ⟨h, ⟨[], by simp [push]⟩, fun g hg => nomatch hg⟩
  | g :: gs, w, seen, hg, hl, h => by
    have hg1 := hg g List.mem_cons_self
    obtain ⟨t, ht⟩ := tg_some hc hi hg1
    obtain ⟨u, hu⟩ := tg_some hd hj (keys_eq hc hd hi hj hn ▸ hg1)
    have e : push (st c i) (st d j) s (g :: gs) w seen = if (t, u) ∈ seen then push (st c i) (st d j) s gs w seen else push (st c i) (st d j) s gs (w ++ [(s ++ [g], t, u)]) (seen ++ [(t, u)]) := by
      simp only [push, ht, hu, Option.getD_some]
    by_cases hm : (t, u) ∈ seen
    · rw [if_pos hm] at e
      obtain ⟨a, ⟨x, b1, b2⟩, b3⟩ := push_spec hc hd hi hj hn r1 r2 hk gs w seen (fun g' h' => hg g' (List.mem_cons_of_mem _ h')) hl h
      rw [e]
      refine ⟨a, ⟨x, b1, b2⟩, fun g' h' t' u' a1 a2 => ?_⟩
      rcases List.mem_cons.mp h' with z | z
      · subst z
        rw [ht] at a1; rw [hu] at a2
        cases a1; cases a2
        rw [b2]; exact List.mem_append_left _ hm
      · exact b3 g' z t' u' a1 a2
    · rw [if_neg hm] at e
      have hs : SI c d (w ++ [(s ++ [g], t, u)]) (seen ++ [(t, u)]) := by
        refine ⟨?_, ?_, ?_⟩
        · rw [List.nodup_append]
          refine ⟨h.nd, by simp, fun a ha b hb => ?_⟩
          rw [List.mem_singleton.mp hb]
          exact fun z => hm (z ▸ ha)
        · intro p hp
          rcases List.mem_append.mp hp with z | z
          · exact h.rg p z
          · rw [List.mem_singleton.mp z]
            exact ⟨tg_lt hc hi ht, tg_lt hd hj hu⟩
        · intro x hx
          rcases List.mem_append.mp hx with z | z
          · obtain ⟨a1, a2, a3, a4, a5⟩ := h.it x z
            exact ⟨List.mem_append_left _ a1, a2, a3, by rw [List.length_append]; omega, a5⟩
          · rw [List.mem_singleton.mp z]
            refine ⟨List.mem_append_right _ List.mem_cons_self, by rw [run_append c s 0 i g r1]; exact ht, by rw [run_append d s 0 j g r2]; exact hu, by simp; omega, fun g' h' => ?_⟩
            rcases List.mem_append.mp h' with z | z
            · exact hk g' z
            · rw [List.mem_singleton.mp z]; exact ⟨i, hi, hg1⟩
      obtain ⟨a, ⟨x, b1, b2⟩, b3⟩ := push_spec hc hd hi hj hn r1 r2 hk gs _ _ (fun g' h' => hg g' (List.mem_cons_of_mem _ h')) (by rw [List.length_append]; omega) hs
      rw [e]
      refine ⟨a, ⟨(s ++ [g], t, u) :: x, by rw [b1]; simp, by rw [b2]; simp⟩, fun g' h' t' u' a1 a2 => ?_⟩
      rcases List.mem_cons.mp h' with z | z
      · subst z
        rw [ht] at a1; rw [hu] at a2
        cases a1; cases a2
        rw [b2]; exact List.mem_append_left _ (List.mem_append_right _ List.mem_cons_self)
      · exact b3 g' z t' u' a1 a2
theorem bfs_spec (hc : GoodC Γ c) (hd : GoodC Γ d) : ∀ (n : Nat) (w : List Item) (seen : List (Nat × Nat)), SI c d w seen → (0, 0) ∈ seen → (∀ p ∈ seen, p ∈ w.map (·.2) ∨ Done c d seen p) → w.length + c.length * 5 < n + seen.length →
    ∃ r, bfs c d n w seen = some r ∧ (r = none → ∃ sn : List (Nat × Nat), (0, 0) ∈ sn ∧ (∀ p ∈ sn, p.1 < c.length ∧ p.2 < d.length) ∧ ∀ p ∈ sn, Done c d sn p) ∧
      ∀ s, r = some s → (∀ g ∈ s, ∃ k, k < c.length ∧ g ∈ (st c k).keys) ∧ s.length ≤ 1000 ∧ ∃ i j, run c 0 s = some i ∧ run d 0 s = some j ∧ nm c i ≠ nm d j
  | 0, w, seen, h, _, _, hm => by
    have := pairs_le h.nd h.rg hd.few
    omega
  | n + 1, [], seen, h, h0, hp, hm => ⟨none, by simp [bfs], fun _ => ⟨seen, h0, h.rg, fun p q => (hp p q).resolve_left (by simp)⟩, fun s e => by cases e⟩
  | n + 1, (s, i, j) :: w, seen, h, h0, hp, hm => by
    obtain ⟨a1, a2, a3, a4, a5⟩ := h.it _ List.mem_cons_self
    have hb := pairs_le h.nd h.rg hd.few
    have hcf := hc.few
    by_cases hne : nm c i = nm d j
    · obtain ⟨hi, hj⟩ := h.rg _ a1
      simp only at hi hj a2 a3 a4 a5
      have h' : SI c d w seen := ⟨h.nd, h.rg, fun x hx => h.it x (List.mem_cons_of_mem _ hx)⟩
      obtain ⟨b1, ⟨x, b2, b3⟩, b4⟩ := push_spec hc hd hi hj hne a2 a3 a5 (st c i).keys w seen (fun g hg => hg) a4 h'
      have e : bfs c d (n + 1) ((s, i, j) :: w) seen = bfs c d n (push (st c i) (st d j) s (st c i).keys w seen).1 (push (st c i) (st d j) s (st c i).keys w seen).2 := by
        show (if (c.getD i default).name ≠ (d.getD j default).name then _ else _) = _
        rw [if_neg (fun z => z hne)]
      rw [e]
      refine bfs_spec hc hd n _ _ b1 (by rw [b3]; exact List.mem_append_left _ h0) ?_ ?_
      · intro p hp'
        rw [b3] at hp'
        rcases List.mem_append.mp hp' with z | z
        · rcases hp p z with y | y
          · rw [List.map_cons] at y
            rcases List.mem_cons.mp y with y | y
            · right
              subst y
              exact ⟨hne, fun g t u q1 q2 => b4 g (tg_key q1) t u q1 q2⟩
            · left
              rw [b2, List.map_append]; exact List.mem_append_left _ y
          · right
            rw [b3]; exact y.mono
        · left
          rw [b2, List.map_append]; exact List.mem_append_right _ z
      · have l2 := congrArg List.length b2
        have l3 := congrArg List.length b3
        rw [List.length_append] at l2 l3
        rw [List.length_map] at l3
        rw [List.length_cons] at hm
        omega
    · refine ⟨some s, ?_, (fun z => nomatch z), fun s' e => ?_⟩
      · show (if (c.getD i default).name ≠ (d.getD j default).name then _ else _) = _
        rw [if_pos hne]
      · cases e
        exact ⟨a5, by simp only at a4; omega, i, j, a2, a3, hne⟩
/-- the search, as a whole -/
theorem part_spec (hc : GoodC Γ c) (hd : GoodC Γ d) : ∃ r, part c d = some r ∧ (r = none ↔ Al c 0 d 0) ∧
      ∀ s, r = some s → (∀ g ∈ s, ∃ k, k < c.length ∧ g ∈ (st c k).keys) ∧ s.length ≤ 1000 ∧ ∃ i j, run c 0 s = some i ∧ run d 0 s = some j ∧ nm c i ≠ nm d j := by
  have h1 := hc.one
  have h2 := hd.one
  have h3 := hc.few
  obtain ⟨r, e, hn, hs⟩ := bfs_spec hc hd 60 [([], 0, 0)] [(0, 0)] ⟨by simp, fun p hp => by rw [List.mem_singleton.mp hp]; exact ⟨by show 0 < _; omega, by show 0 < _; omega⟩, fun x hx => by
    rw [List.mem_singleton.mp hx]
    exact ⟨List.mem_cons_self, rfl, rfl, Nat.zero_le _, fun g hg => nomatch hg⟩⟩ List.mem_cons_self (fun p hp => by left; simpa using hp) (by simp only [List.length_cons, List.length_nil]; omega)
  refine ⟨r, e, ⟨fun z => ?_, fun z => ?_⟩, hs⟩
  · obtain ⟨sn, h0, hr, hd2⟩ := hn z
    refine al_of hc hd (fun i j => (i, j) ∈ sn) (fun i j hij => ?_) h0
    obtain ⟨q1, q2⟩ := hd2 _ hij
    exact ⟨(hr _ hij).1, (hr _ hij).2, q1, q2⟩
  · cases r with
    | none => rfl
    | some s =>
      obtain ⟨_, _, i, j, r1, r2, hne⟩ := hs s rfl
      have := z s
      unfold beh at this
      rw [r1, r2] at this
      simp at this
      exact (hne this).elim
theorem part_al (hc : GoodC Γ c) (hd : GoodC Γ d) : part c d = some none ↔ Al c 0 d 0 := by
  obtain ⟨r, e, h, _⟩ := part_spec hc hd
  rw [e, ← h]
  simp
end
end M
end K46

set_option Elab.async false
set_option linter.all false
set_option maxRecDepth 100000
set_option maxHeartbeats 1000000
/-! plain mathematics of controllers: heads, orders, the least controller -/
namespace K46
open PySem (Str)
namespace M
theorem st_map {o : List Nat} {f : Nat → Stt} {p : Nat} (h : p < o.length) : st (o.map f) p = f (o.getD p 0) := by
  simp [st, List.getD, h]
theorem getD_idx {o : List Nat} {k : Nat} (h : k ∈ o) : o.idxOf k < o.length ∧ o.getD (o.idxOf k) 0 = k := by
  have hl := List.idxOf_lt_length_of_mem h
  refine ⟨hl, ?_⟩
  simp [List.getD, hl]
theorem getD_mem' {o : List Nat} {p : Nat} (h : p < o.length) : o.getD p 0 ∈ o := by
  have : o.getD p 0 = o[p] := by simp [List.getD, h]
  rw [this]; exact List.getElem_mem h
section
variable {Γ : Str → List Int} {c : Ctl}
theorem tgt_map (n : Str) (ks : List Int) (ts : List Nat) (f : Nat → Nat) (g : Int) : tgt ⟨n, ks, ts.map f⟩ g = (tgt ⟨n, ks, ts⟩ g).map f := lz_map f
theorem reord_al (hc : GoodC Γ c) {o : List Nat} (hn : o.Nodup) (hm : ∀ k, k ∈ o ↔ k < c.length) {p : Nat} (hp : p < o.length) : Al (reord c o) p c (o.getD p 0) := by
  have hl : (reord c o).length = o.length := by unfold reord; rw [List.length_map]
  refine al_of (reord_good hc hn hm) hc (fun p k => p < o.length ∧ k = o.getD p 0) (fun p k h => ?_) ⟨hp, rfl⟩
  obtain ⟨hp, rfl⟩ := h
  have hk : o.getD p 0 < c.length := (hm _).mp (getD_mem' hp)
  have es : st (reord c o) p = ⟨(st c (o.getD p 0)).name, (st c (o.getD p 0)).keys, (st c (o.getD p 0)).tos.map fun t => o.idxOf t⟩ := st_map hp
  refine ⟨by rw [hl]; exact hp, hk, by show (st (reord c o) p).name = _; rw [es], fun g t u e1 e2 => ?_⟩
  rw [es, tgt_map] at e1
  have e2' : tgt ⟨(st c (o.getD p 0)).name, (st c (o.getD p 0)).keys, (st c (o.getD p 0)).tos⟩ g = some u := e2
  rw [e2'] at e1
  cases e1
  have hu : u ∈ o := (hm u).mpr (tg_lt hc hk e2)
  exact ⟨(getD_idx hu).1, (getD_idx hu).2.symm⟩
theorem begun_al (hc : GoodC Γ c) {i : Nat} (hi : i < c.length) : Al (begun c i) 0 c i := by
  have := reord_al hc (begun_order hi).1 (begun_order hi).2 (p := 0) (by simp)
  exact this
theorem parts_begun (hc : GoodC Γ c) : Parts begun c := fun i j hi hj => by
  obtain ⟨r, e, _⟩ := part_spec (begun_good hc hi) (begun_good hc hj)
  exact ⟨r, e⟩
theorem alikeB_iff (hc : GoodC Γ c) {i j : Nat} (hi : i < c.length) (hj : j < c.length) : alikeB c i j = true ↔ Al c i c j := by
  have h := part_al (begun_good hc hi) (begun_good hc hj)
  unfold alikeB
  rw [beq_iff_eq, h]
  have a := begun_al hc hi
  have b := begun_al hc hj
  exact ⟨fun z => a.symm.trans (z.trans b), fun z => a.trans (z.trans b.symm)⟩
theorem st_shift {k : Nat} (hk : k < c.length) : st (shift c) k = ⟨(st c k).name, (st c k).keys, (st c k).tos.map fun t => t + 1⟩ := by
  simp [st, shift, List.getD, hk]
theorem from_al (hc : GoodC Γ c) (h4 : c.length ≤ 4) {i : Nat} (hi : i < c.length) : Al (fromC c i) 0 c i := by
  have hl : (fromC c i).length = c.length + 1 := by unfold fromC shift; rw [List.length_cons, List.length_map]
  have es : ∀ k, k < c.length → ∀ p, (p = 0 ∧ k = i) ∨ p = k + 1 → st (fromC c i) p = ⟨(st c k).name, (st c k).keys, (st c k).tos.map fun t => t + 1⟩ := fun k hk p h => by
    rcases h with ⟨rfl, rfl⟩ | rfl
    · show st (shift c) k = _
      exact st_shift hk
    · show st (shift c) k = _
      exact st_shift hk
  refine al_of (from_good hc h4 hi) hc (fun p k => k < c.length ∧ ((p = 0 ∧ k = i) ∨ p = k + 1)) (fun p k h => ?_) ⟨hi, .inl ⟨rfl, rfl⟩⟩
  obtain ⟨hk, h⟩ := h
  have e := es k hk p h
  refine ⟨by rw [hl]; omega, hk, by show (st (fromC c i) p).name = _; rw [e], fun g t u e1 e2 => ?_⟩
  rw [e, tgt_map] at e1
  have e2' : tgt ⟨(st c k).name, (st c k).keys, (st c k).tos⟩ g = some u := e2
  rw [e2'] at e1
  cases e1
  exact ⟨tg_lt hc hk e2, .inr rfl⟩
theorem parts_from (hc : GoodC Γ c) (h4 : c.length ≤ 4) : Parts fromC c := fun i j hi hj => by
  obtain ⟨r, e, _⟩ := part_spec (from_good hc h4 hi) (from_good hc h4 hj)
  exact ⟨r, e⟩
theorem alikeF_iff (hc : GoodC Γ c) (h4 : c.length ≤ 4) {i j : Nat} (hi : i < c.length) (hj : j < c.length) : alikeF c i j = true ↔ Al c i c j := by
  have h := part_al (from_good hc h4 hi) (from_good hc h4 hj)
  unfold alikeF
  rw [beq_iff_eq, h]
  have a := from_al hc h4 hi
  have b := from_al hc h4 hj
  exact ⟨fun z => a.symm.trans (z.trans b), fun z => a.trans (z.trans b.symm)⟩

/-! heads -/
theorem headD_filter (p : Nat → Bool) : ∀ {l : List Nat} {k : Nat}, k ∈ l → p k = true → (l.filter p).headD 0 ∈ l ∧ p ((l.filter p).headD 0) = true := fun {l k} hk hp => by
  have hm : k ∈ l.filter p := List.mem_filter.mpr ⟨hk, hp⟩
  cases e : l.filter p with
  | nil => rw [e] at hm; cases hm
  | cons a r =>
    have : a ∈ l.filter p := by rw [e]; exact List.mem_cons_self
    exact List.mem_filter.mp this
theorem head_spec (hc : GoodC Γ c) {i : Nat} (hi : i < c.length) : headOf c i < c.length ∧ Al c i c (headOf c i) := by
  have h := headD_filter (fun j => alikeB c i j) (List.mem_range.mpr hi) ((alikeB_iff hc hi hi).mpr (.refl c i))
  have h1 : headOf c i < c.length := List.mem_range.mp h.1
  exact ⟨h1, (alikeB_iff hc hi h1).mp h.2⟩
theorem head_eq (hc : GoodC Γ c) {i j : Nat} (hi : i < c.length) (hj : j < c.length) : headOf c i = headOf c j ↔ Al c i c j := by
  constructor
  · intro e
    have a := (head_spec hc hi).2
    have b := (head_spec hc hj).2
    rw [e] at a
    exact a.trans b.symm
  · intro a
    have : ∀ k ∈ List.range c.length, alikeB c i k = alikeB c j k := fun k hk => by
      have hk := List.mem_range.mp hk
      have h1 := alikeB_iff hc hi hk
      have h2 := alikeB_iff hc hj hk
      rw [Bool.eq_iff_iff, h1, h2]
      exact ⟨fun z => a.symm.trans z, fun z => a.trans z⟩
    unfold headOf
    rw [List.filter_congr this]
theorem head_head (hc : GoodC Γ c) {i : Nat} (hi : i < c.length) : headOf c (headOf c i) = headOf c i :=
  (head_eq hc (head_spec hc hi).1 hi).mpr (head_spec hc hi).2.symm

/-! the walk through the heads -/
abbrev metB (c : Ctl) : List Nat → Nat → Bool := fun o t => decide (headOf c t ∈ o)
structure WI (c : Ctl) (o : List Nat) : Prop where
  nd : o.Nodup
  hd : ∀ k ∈ o, k < c.length ∧ headOf c k = k
theorem WI.few {o : List Nat} (h : WI c o) : o.length ≤ c.length := by
  have := len_le_of_sub (m := List.range c.length) h.nd fun k hk => List.mem_range.mpr (h.hd k hk).1
  simpa using this
theorem add_spec (hc : GoodC Γ c) {k : Nat} (hk : k < c.length) : ∀ (gs : List Int) (o : List Nat), (∀ g ∈ gs, g ∈ (st c k).keys) → WI c o →
    WI c (addAll (st c k) (headOf c) (metB c) gs o) ∧ o <+: addAll (st c k) (headOf c) (metB c) gs o ∧ ∀ g ∈ gs, ∀ t, tgt (st c k) g = some t → headOf c t ∈ addAll (st c k) (headOf c) (metB c) gs o
  | [], o, _, h => ⟨h, List.prefix_rfl, fun g hg => nomatch hg⟩
  | g :: gs, o, hg, h => by
    obtain ⟨t, ht⟩ := tg_some hc hk (hg g List.mem_cons_self)
    have htl := tg_lt hc hk ht
    have e : addAll (st c k) (headOf c) (metB c) (g :: gs) o = if headOf c t ∈ o then addAll (st c k) (headOf c) (metB c) gs o else addAll (st c k) (headOf c) (metB c) gs (o ++ [headOf c t]) := by
      simp only [addAll, ht, Option.getD_some, decide_eq_true_eq]
    have hg' : ∀ g' ∈ gs, g' ∈ (st c k).keys := fun g' h' => hg g' (List.mem_cons_of_mem _ h')
    by_cases hm : headOf c t ∈ o
    · rw [if_pos hm] at e
      obtain ⟨a, b, d⟩ := add_spec hc hk gs o hg' h
      rw [e]
      refine ⟨a, b, fun g' h' t' e' => ?_⟩
      rcases List.mem_cons.mp h' with z | z
      · subst z
        rw [ht] at e'; cases e'
        exact b.subset hm
      · exact d g' z t' e'
    · rw [if_neg hm] at e
      have h2 : WI c (o ++ [headOf c t]) := by
        refine ⟨?_, fun x hx => ?_⟩
        · rw [List.nodup_append]
          refine ⟨h.nd, by simp, fun a ha b hb => ?_⟩
          rw [List.mem_singleton.mp hb]
          exact fun z => hm (z ▸ ha)
        · rcases List.mem_append.mp hx with z | z
          · exact h.hd x z
          · rw [List.mem_singleton.mp z]
            exact ⟨(head_spec hc htl).1, head_head hc htl⟩
      obtain ⟨a, b, d⟩ := add_spec hc hk gs _ hg' h2
      rw [e]
      have b' : o <+: addAll (st c k) (headOf c) (metB c) gs (o ++ [headOf c t]) := (List.prefix_append o _).trans b
      refine ⟨a, b', fun g' h' t' e' => ?_⟩
      rcases List.mem_cons.mp h' with z | z
      · subst z
        rw [ht] at e'; cases e'
        exact b.subset (List.mem_append_right _ List.mem_cons_self)
      · exact d g' z t' e'
def Clo (c : Ctl) (n : Nat) (o : List Nat) : Prop := ∀ p, p < n → p < o.length → ∀ g t, tgt (st c (o.getD p 0)) g = some t → headOf c t ∈ o
theorem getD_prefix {o o' : List Nat} (h : o <+: o') {p : Nat} (hp : p < o.length) : o'.getD p 0 = o.getD p 0 := by
  obtain ⟨x, rfl⟩ := h
  simp [List.getD, List.getElem?_append_left hp]
theorem walk_spec (hc : GoodC Γ c) : ∀ (n at_ : Nat) (o : List Nat), WI c o → at_ ≤ o.length → c.length < n + at_ → Clo c at_ o →
    ∃ f, walkO c (headOf c) (metB c) n at_ o = some f ∧ WI c f ∧ o <+: f ∧ Clo c f.length f
  | 0, at_, o, h, ha, hn, _ => by
    have := h.few
    omega
  | n + 1, at_, o, h, ha, hn, hcl => by
    by_cases hlt : at_ < o.length
    · have hk := (h.hd _ (getD_mem' hlt)).1
      obtain ⟨a, b, d⟩ := add_spec hc hk (st c (o.getD at_ 0)).keys o (fun g hg => hg) h
      have e : walkO c (headOf c) (metB c) (n + 1) at_ o = walkO c (headOf c) (metB c) n (at_ + 1) (addAll (st c (o.getD at_ 0)) (headOf c) (metB c) (st c (o.getD at_ 0)).keys o) := by
        show (if at_ < o.length then _ else _) = _
        rw [if_pos hlt]
      obtain ⟨f, e2, w, pf, cl⟩ := walk_spec hc n (at_ + 1) _ a (Nat.lt_of_lt_of_le hlt b.length_le) (by omega) (fun p hp hp2 g t et => by
        by_cases z : p = at_
        · subst z
          rw [getD_prefix b hlt] at et
          exact d g (tg_key et) t et
        · have hp' : p < at_ := by omega
          have hpo : p < o.length := by omega
          rw [getD_prefix b hpo] at et
          exact b.subset (hcl p hp' hpo g t et))
      exact ⟨f, by rw [e]; exact e2, w, b.trans pf, cl⟩
    · refine ⟨o, ?_, h, List.prefix_rfl, ?_⟩
      · show (if at_ < o.length then _ else _) = _
        rw [if_neg hlt]
      · have : at_ = o.length := by omega
        rw [← this]; exact hcl
theorem order_spec (hc : GoodC Γ c) : ∃ o, orderOf c = some o ∧ WI c o ∧ [headOf c 0] <+: o ∧ Clo c o.length o := by
  have h0 := hc.one
  have hf := hc.few
  refine walk_spec hc 60 0 [headOf c 0] ⟨by simp, fun k hk => ?_⟩ (Nat.zero_le _) (by omega) (fun p hp => by omega)
  rw [List.mem_singleton.mp hk]
  exact ⟨(head_spec hc h0).1, head_head hc h0⟩

/-! the least controller -/
structure OI (c : Ctl) (o : List Nat) : Prop where
  ord : orderOf c = some o
  wi : WI c o
  pre : [headOf c 0] <+: o
  clo : Clo c o.length o
theorem OI.tgt {o : List Nat} (h : OI c o) {k t : Nat} {g : Int} (hk : k ∈ o) (e : tgt (st c k) g = some t) : headOf c t ∈ o := by
  obtain ⟨a, b⟩ := getD_idx hk
  exact h.clo _ a a g t (by rw [b]; exact e)
theorem OI.tos (hc : GoodC Γ c) {o : List Nat} (h : OI c o) {k t : Nat} (hk : k ∈ o) (ht : t ∈ (st c k).tos) : headOf c t ∈ o := by
  obtain ⟨g, _, e⟩ := tg_back hc (h.wi.hd k hk).1 ht
  exact h.tgt hk e
theorem OI.leastOk (hc : GoodC Γ c) {o : List Nat} (h : OI c o) : LeastOk c o where
  parts := parts_begun hc
  self := fun i hi => (alikeB_iff hc hi hi).mpr (.refl c i)
  ord := h.ord
  lt := fun k hk => (h.wi.hd k hk).1
  clo := fun k hk t ht => h.tos hc hk ht
  few := by have := h.wi.few; have := hc.few; omega
theorem OI.one {o : List Nat} (h : OI c o) : 1 ≤ o.length := by simpa using h.pre.length_le
theorem least_len (c : Ctl) (o : List Nat) : (leastBy c o).length = o.length := List.length_map _
theorem least_good (hc : GoodC Γ c) {o : List Nat} (h : OI c o) : GoodC Γ (leastBy c o) := by
  have hf := h.wi.few
  have hf2 := hc.few
  refine ⟨by rw [least_len]; exact h.one, by rw [least_len]; omega, fun s hs => ?_, hc.asc, hc.short⟩
  obtain ⟨k, hk, rfl⟩ := List.mem_map.mp hs
  have g := gs hc (h.wi.hd k hk).1
  refine ⟨g.keys, by simp only [List.length_map]; exact g.len, fun t ht => ?_⟩
  obtain ⟨t', ht', rfl⟩ := List.mem_map.mp ht
  rw [least_len]
  exact List.idxOf_lt_length_of_mem (h.tos hc hk ht')
theorem least_st {o : List Nat} {p : Nat} (hp : p < o.length) : st (leastBy c o) p = ⟨(st c (o.getD p 0)).name, (st c (o.getD p 0)).keys, (st c (o.getD p 0)).tos.map fun t => o.idxOf (headOf c t)⟩ := st_map hp
theorem least_tgt {o : List Nat} {p : Nat} (hp : p < o.length) (g : Int) : tgt (st (leastBy c o) p) g = (tgt (st c (o.getD p 0)) g).map fun t => o.idxOf (headOf c t) := by
  rw [least_st hp, tgt_map]
theorem least_al (hc : GoodC Γ c) {o : List Nat} (h : OI c o) {p : Nat} (hp : p < o.length) : Al (leastBy c o) p c (o.getD p 0) := by
  refine al_of (least_good hc h) hc (fun p k => p < o.length ∧ k < c.length ∧ Al c (o.getD p 0) c k) (fun p k hr => ?_) ⟨hp, (h.wi.hd _ (getD_mem' hp)).1, .refl _ _⟩
  obtain ⟨hp, hk, a⟩ := hr
  have hm := getD_mem' hp
  have hl := (h.wi.hd _ hm).1
  refine ⟨by rw [least_len]; exact hp, hk, ?_, fun g t u e1 e2 => ?_⟩
  · show (st (leastBy c o) p).name = _
    rw [least_st hp]
    exact a.name
  · rw [least_tgt hp] at e1
    cases q : tgt (st c (o.getD p 0)) g with
    | none => rw [q] at e1; cases e1
    | some v =>
      rw [q] at e1
      cases e1
      have hv := tg_lt hc hl q
      have hmem := h.tgt hm q
      obtain ⟨b1, b2⟩ := getD_idx hmem
      refine ⟨b1, tg_lt hc hk e2, ?_⟩
      rw [b2]
      exact (head_spec hc hv).2.symm.trans (a.step q e2)
theorem least_al0 (hc : GoodC Γ c) {o : List Nat} (h : OI c o) : Al (leastBy c o) 0 c 0 := by
  have e : o.getD 0 0 = headOf c 0 := by
    have := getD_prefix h.pre (p := 0) (by simp)
    rw [this]; rfl
  have a := least_al hc h h.one
  rw [e] at a
  exact a.trans (head_spec hc hc.one).2.symm
theorem nodup_getD {o : List Nat} (hn : o.Nodup) {p q : Nat} (hp : p < o.length) (hq : q < o.length) (e : o.getD p 0 = o.getD q 0) : p = q := by
  have e1 : o.getD p 0 = o[p] := by simp [List.getD, hp]
  have e2 : o.getD q 0 = o[q] := by simp [List.getD, hq]
  rw [e1, e2] at e
  exact (List.getElem_inj hn).mp e
/-- in the least controller no state is alike another one -/
theorem least_head (hc : GoodC Γ c) {o : List Nat} (h : OI c o) {p : Nat} (hp : p < o.length) : headOf (leastBy c o) p = p := by
  have hg := least_good hc h
  have hp' : p < (leastBy c o).length := by rw [least_len]; exact hp
  obtain ⟨a, b⟩ := head_spec hg hp'
  have hq : headOf (leastBy c o) p < o.length := by rw [least_len] at a; exact a
  have a1 := least_al hc h hp
  have a2 := least_al hc h hq
  have a3 : Al c (o.getD p 0) c (o.getD (headOf (leastBy c o) p) 0) := a1.symm.trans (b.trans a2)
  have hkp := h.wi.hd _ (getD_mem' hp)
  have hkq := h.wi.hd _ (getD_mem' hq)
  have e := (head_eq hc hkp.1 hkq.1).mpr a3
  rw [hkp.2, hkq.2] at e
  exact (nodup_getD h.wi.nd hp hq e).symm

/-! two walks beside one another: the heads, the states as they come -/
abbrev metF (c : Ctl) : List Nat → Nat → Bool := fun o t => o.any fun one => alikeF c one t
theorem met_eq (hc : GoodC Γ c) (h4 : c.length ≤ 4) {o2 : List Nat} (ho : ∀ k ∈ o2, k < c.length) {t u : Nat} (hu : u < c.length) (e : headOf c t = headOf c u) : metB c (o2.map (headOf c)) t = metF c o2 u := by
  rw [Bool.eq_iff_iff]
  simp only [decide_eq_true_eq, List.any_eq_true, List.mem_map]
  constructor
  · rintro ⟨k, hk, e2⟩
    exact ⟨k, hk, (alikeF_iff hc h4 (ho k hk) hu).mpr ((head_eq hc (ho k hk) hu).mp (e2.trans e))⟩
  · rintro ⟨k, hk, e2⟩
    exact ⟨k, hk, ((head_eq hc (ho k hk) hu).mpr ((alikeF_iff hc h4 (ho k hk) hu).mp e2)).trans e.symm⟩
theorem add_two (hc : GoodC Γ c) (h4 : c.length ≤ 4) {k l : Nat} (hk : k < c.length) (hl : l < c.length) (a : Al c k c l) : ∀ (gs : List Int) (o2 : List Nat), (∀ g ∈ gs, g ∈ (st c k).keys) → (∀ x ∈ o2, x < c.length) →
    addAll (st c k) (headOf c) (metB c) gs (o2.map (headOf c)) = (addAll (st c l) id (metF c) gs o2).map (headOf c) ∧ ∀ x ∈ addAll (st c l) id (metF c) gs o2, x < c.length
  | [], o2, _, h => ⟨rfl, h⟩
  | g :: gs, o2, hg, h => by
    have hg1 := hg g List.mem_cons_self
    obtain ⟨t, ht⟩ := tg_some hc hk hg1
    obtain ⟨u, hu⟩ := tg_some hc hl (keys_eq hc hc hk hl a.name ▸ hg1)
    have htl := tg_lt hc hk ht
    have hul := tg_lt hc hl hu
    have eh : headOf c t = headOf c u := (head_eq hc htl hul).mpr (a.step ht hu)
    have hg' : ∀ g' ∈ gs, g' ∈ (st c k).keys := fun g' h' => hg g' (List.mem_cons_of_mem _ h')
    have em := met_eq hc h4 h hul eh
    have e1 : addAll (st c k) (headOf c) (metB c) (g :: gs) (o2.map (headOf c)) = if metB c (o2.map (headOf c)) t then addAll (st c k) (headOf c) (metB c) gs (o2.map (headOf c)) else addAll (st c k) (headOf c) (metB c) gs (o2.map (headOf c) ++ [headOf c t]) := by
      simp only [addAll, ht, Option.getD_some]
    have e2 : addAll (st c l) id (metF c) (g :: gs) o2 = if metF c o2 u then addAll (st c l) id (metF c) gs o2 else addAll (st c l) id (metF c) gs (o2 ++ [u]) := by
      simp only [addAll, hu, Option.getD_some, id]
    rw [e1, e2, em]
    cases metF c o2 u with
    | true => exact add_two hc h4 hk hl a gs o2 hg' h
    | false =>
      have em2 : o2.map (headOf c) ++ [headOf c t] = (o2 ++ [u]).map (headOf c) := by rw [List.map_append, eh]; rfl
      rw [em2]
      refine add_two hc h4 hk hl a gs (o2 ++ [u]) hg' fun x hx => ?_
      rcases List.mem_append.mp hx with z | z
      · exact h x z
      · rw [List.mem_singleton.mp z]; exact hul
theorem getD_map {o : List Nat} {f : Nat → Nat} {p : Nat} (h : p < o.length) : (o.map f).getD p 0 = f (o.getD p 0) := by
  simp [List.getD, h]
theorem walk_two (hc : GoodC Γ c) (h4 : c.length ≤ 4) : ∀ (n at_ : Nat) (o2 f : List Nat), (∀ x ∈ o2, x < c.length) → walkO c (headOf c) (metB c) n at_ (o2.map (headOf c)) = some f →
    ∃ f2, walkO c id (metF c) n at_ o2 = some f2 ∧ f = f2.map (headOf c) ∧ ∀ x ∈ f2, x < c.length
  | 0, _, _, _, _, e => by simp [walkO] at e
  | n + 1, at_, o2, f, h, e => by
    by_cases hlt : at_ < o2.length
    · have hlt' : at_ < (o2.map (headOf c)).length := by rw [List.length_map]; exact hlt
      have hl := h _ (getD_mem' hlt)
      have hk := head_spec hc hl
      have e1 : walkO c (headOf c) (metB c) (n + 1) at_ (o2.map (headOf c)) = walkO c (headOf c) (metB c) n (at_ + 1) (addAll (st c (headOf c (o2.getD at_ 0))) (headOf c) (metB c) (st c (headOf c (o2.getD at_ 0))).keys (o2.map (headOf c))) := by
        show (if at_ < (o2.map (headOf c)).length then _ else _) = _
        rw [if_pos hlt', getD_map hlt]
      have e2 : walkO c id (metF c) (n + 1) at_ o2 = walkO c id (metF c) n (at_ + 1) (addAll (st c (o2.getD at_ 0)) id (metF c) (st c (o2.getD at_ 0)).keys o2) := by
        show (if at_ < o2.length then _ else _) = _
        rw [if_pos hlt]
      obtain ⟨q1, q2⟩ := add_two hc h4 hk.1 hl hk.2.symm (st c (headOf c (o2.getD at_ 0))).keys o2 (fun g hg => hg) h
      rw [e1, q1] at e
      have ek := keys_eq hc hc hk.1 hl hk.2.symm.name
      rw [ek] at e q2
      rw [e2]
      exact walk_two hc h4 n (at_ + 1) _ f q2 e
    · have hlt' : ¬ at_ < (o2.map (headOf c)).length := by rw [List.length_map]; exact hlt
      have e1 : walkO c (headOf c) (metB c) (n + 1) at_ (o2.map (headOf c)) = some (o2.map (headOf c)) := by
        show (if at_ < (o2.map (headOf c)).length then _ else _) = _
        rw [if_neg hlt']
      rw [e1] at e
      cases e
      refine ⟨o2, ?_, rfl, h⟩
      show (if at_ < o2.length then _ else _) = _
      rw [if_neg hlt]
theorem sorts_spec (hc : GoodC Γ c) (h4 : c.length ≤ 4) {o : List Nat} (h : OI c o) : ∃ o', SortsOk c o' ∧ o = o'.map (headOf c) ∧ ∀ k ∈ o', k < c.length := by
  obtain ⟨f2, e, e2, e3⟩ := walk_two hc h4 60 0 [0] o (fun x hx => by rw [List.mem_singleton.mp hx]; exact hc.one) h.ord
  exact ⟨f2, ⟨parts_from hc h4, e⟩, e2, e3⟩

/-! the walk through the least controller -/
theorem range_add (n : Nat) : List.range n ++ [n] = List.range (n + 1) := List.range_succ.symm
theorem idx_lt_prefix {o o1 : List Nat} (hn : o.Nodup) (hp : o1 <+: o) {k : Nat} (hk : k ∈ o) : k ∈ o1 ↔ o.idxOf k < o1.length := by
  obtain ⟨x, rfl⟩ := hp
  constructor
  · intro h
    rw [List.idxOf_append, if_pos h]
    exact List.idxOf_lt_length_of_mem h
  · intro h
    obtain ⟨a, b⟩ := getD_idx hk
    rw [← b, getD_prefix (List.prefix_append o1 x) h]
    exact getD_mem' h
theorem add_least (hc : GoodC Γ c) {o : List Nat} (h : OI c o) {p : Nat} (hp : p < o.length) : ∀ (gs : List Int) (o1 : List Nat), (∀ g ∈ gs, g ∈ (st c (o.getD p 0)).keys) → WI c o1 → addAll (st c (o.getD p 0)) (headOf c) (metB c) gs o1 <+: o →
    addAll (st (leastBy c o) p) (headOf (leastBy c o)) (metB (leastBy c o)) gs (List.range o1.length) = List.range (addAll (st c (o.getD p 0)) (headOf c) (metB c) gs o1).length
  | [], o1, _, _, _ => rfl
  | g :: gs, o1, hg, hw, hpf => by
    have hm := getD_mem' hp
    have hk := (h.wi.hd _ hm).1
    obtain ⟨t, ht⟩ := tg_some hc hk (hg g List.mem_cons_self)
    have hmem := h.tgt hm ht
    have ht2 : tgt (st (leastBy c o) p) g = some (o.idxOf (headOf c t)) := by rw [least_tgt hp, ht]; rfl
    have hil := (getD_idx hmem).1
    have hh := least_head hc h hil
    have hg' : ∀ g' ∈ gs, g' ∈ (st c (o.getD p 0)).keys := fun g' h' => hg g' (List.mem_cons_of_mem _ h')
    have e1 : addAll (st c (o.getD p 0)) (headOf c) (metB c) (g :: gs) o1 = if headOf c t ∈ o1 then addAll (st c (o.getD p 0)) (headOf c) (metB c) gs o1 else addAll (st c (o.getD p 0)) (headOf c) (metB c) gs (o1 ++ [headOf c t]) := by
      simp only [addAll, ht, Option.getD_some, decide_eq_true_eq]
    have e2 : addAll (st (leastBy c o) p) (headOf (leastBy c o)) (metB (leastBy c o)) (g :: gs) (List.range o1.length) = if o.idxOf (headOf c t) < o1.length then addAll (st (leastBy c o) p) (headOf (leastBy c o)) (metB (leastBy c o)) gs (List.range o1.length) else addAll (st (leastBy c o) p) (headOf (leastBy c o)) (metB (leastBy c o)) gs (List.range o1.length ++ [o.idxOf (headOf c t)]) := by
      simp only [addAll, ht2, Option.getD_some, decide_eq_true_eq, hh, List.mem_range]
    by_cases hin : headOf c t ∈ o1
    · rw [if_pos hin] at e1
      rw [e1] at hpf ⊢
      have hpf1 : o1 <+: o := (add_spec hc hk gs o1 hg' hw).2.1.trans hpf
      rw [if_pos ((idx_lt_prefix h.wi.nd hpf1 hmem).mp hin)] at e2
      rw [e2]
      exact add_least hc h hp gs o1 hg' hw hpf
    · rw [if_neg hin] at e1
      rw [e1] at hpf ⊢
      have hw2 : WI c (o1 ++ [headOf c t]) := by
        refine ⟨?_, fun x hx => ?_⟩
        · rw [List.nodup_append]
          refine ⟨hw.nd, by simp, fun a ha b hb => ?_⟩
          rw [List.mem_singleton.mp hb]
          exact fun z => hin (z ▸ ha)
        · rcases List.mem_append.mp hx with z | z
          · exact hw.hd x z
          · rw [List.mem_singleton.mp z]
            exact h.wi.hd _ hmem
      have hpf2 : o1 ++ [headOf c t] <+: o := (add_spec hc hk gs _ hg' hw2).2.1.trans hpf
      have hpf1 : o1 <+: o := (List.prefix_append _ _).trans hpf2
      rw [if_neg (fun z => hin ((idx_lt_prefix h.wi.nd hpf1 hmem).mpr z))] at e2
      have ei : o.idxOf (headOf c t) = o1.length := by
        have l2 := hpf2.length_le
        rw [List.length_append] at l2
        have l2' : o1.length < o.length := by simp at l2; omega
        refine nodup_getD h.wi.nd hil l2' ?_
        rw [(getD_idx hmem).2, getD_prefix hpf2 (by simp)]
        simp [List.getD]
      rw [e2, ei, range_add]
      have := add_least hc h hp gs _ hg' hw2 hpf
      rw [List.length_append] at this
      exact this
theorem add_pre (a : Stt) : ∀ (gs : List Int) (o1 : List Nat), o1 <+: addAll a (headOf c) (metB c) gs o1
| [], o1 => List.prefix_rfl
| g :: gs, o1 => by
  simp only [addAll]
  split
  · exact add_pre a gs o1
  · exact (List.prefix_append _ _).trans (add_pre a gs _)
theorem walk_pre : ∀ (n at_ : Nat) (o1 : List Nat) {f : List Nat} (_ : walkO c (headOf c) (metB c) n at_ o1 = some f), o1 <+: f
| 0, _, _, _, e => by simp [walkO] at e
| n + 1, at_, o1, f, e => by
  by_cases hlt : at_ < o1.length
  · have e1 : walkO c (headOf c) (metB c) (n + 1) at_ o1 = walkO c (headOf c) (metB c) n (at_ + 1) (addAll (st c (o1.getD at_ 0)) (headOf c) (metB c) (st c (o1.getD at_ 0)).keys o1) := by
      show (if at_ < o1.length then _ else _) = _
      rw [if_pos hlt]
    rw [e1] at e
    exact (add_pre _ _ _).trans (walk_pre n (at_ + 1) _ e)
  · have e1 : walkO c (headOf c) (metB c) (n + 1) at_ o1 = some o1 := by
      show (if at_ < o1.length then _ else _) = _
      rw [if_neg hlt]
    rw [e1] at e
    cases e
    exact List.prefix_rfl
theorem walk_least (hc : GoodC Γ c) {o : List Nat} (h : OI c o) : ∀ (n at_ : Nat) (o1 : List Nat), WI c o1 → o1 <+: o → walkO c (headOf c) (metB c) n at_ o1 = some o →
    walkO (leastBy c o) (headOf (leastBy c o)) (metB (leastBy c o)) n at_ (List.range o1.length) = some (List.range o.length)
  | 0, _, _, _, _, e => by simp [walkO] at e
  | n + 1, at_, o1, hw, hpf, e => by
    by_cases hlt : at_ < o1.length
    · have hpo : at_ < o.length := Nat.lt_of_lt_of_le hlt hpf.length_le
      have eg := getD_prefix hpf hlt
      have hk := (hw.hd _ (getD_mem' hlt)).1
      have e1 : walkO c (headOf c) (metB c) (n + 1) at_ o1 = walkO c (headOf c) (metB c) n (at_ + 1) (addAll (st c (o1.getD at_ 0)) (headOf c) (metB c) (st c (o1.getD at_ 0)).keys o1) := by
        show (if at_ < o1.length then _ else _) = _
        rw [if_pos hlt]
      rw [e1] at e
      obtain ⟨a, b, _⟩ := add_spec hc hk (st c (o1.getD at_ 0)).keys o1 (fun g hg => hg) hw
      have hpf2 : addAll (st c (o1.getD at_ 0)) (headOf c) (metB c) (st c (o1.getD at_ 0)).keys o1 <+: o := walk_pre n (at_ + 1) _ e
      have er : (List.range o1.length).getD at_ 0 = at_ := by simp [List.getD, hlt]
      have e2 : walkO (leastBy c o) (headOf (leastBy c o)) (metB (leastBy c o)) (n + 1) at_ (List.range o1.length) = walkO (leastBy c o) (headOf (leastBy c o)) (metB (leastBy c o)) n (at_ + 1) (addAll (st (leastBy c o) at_) (headOf (leastBy c o)) (metB (leastBy c o)) (st (leastBy c o) at_).keys (List.range o1.length)) := by
        show (if at_ < (List.range o1.length).length then _ else _) = _
        rw [if_pos (by rw [List.length_range]; exact hlt), er]
      have ek : (st (leastBy c o) at_).keys = (st c (o1.getD at_ 0)).keys := by rw [least_st hpo, eg]
      rw [e2, ek]
      have := add_least hc h hpo (st c (o1.getD at_ 0)).keys o1 (fun g hg => by rw [eg]; exact hg) hw (by rw [eg]; exact hpf2)
      rw [this, eg]
      exact walk_least hc h n (at_ + 1) _ a hpf2 e
    · have e1 : walkO c (headOf c) (metB c) (n + 1) at_ o1 = some o1 := by
        show (if at_ < o1.length then _ else _) = _
        rw [if_neg hlt]
      rw [e1] at e
      have eo : o1 = o := Option.some.inj e
      subst eo
      show (if at_ < (List.range o1.length).length then _ else _) = _
      rw [if_neg (by rw [List.length_range]; exact hlt)]
theorem least_order (hc : GoodC Γ c) {o : List Nat} (h : OI c o) : OI (leastBy c o) (List.range o.length) := by
  have hg := least_good hc h
  have h0 : headOf (leastBy c o) 0 = 0 := least_head hc h h.one
  have e : orderOf (leastBy c o) = some (List.range o.length) := by
    have := walk_least hc h 60 0 [headOf c 0] ⟨by simp, fun k hk => by rw [List.mem_singleton.mp hk]; exact ⟨(head_spec hc hc.one).1, head_head hc hc.one⟩⟩ h.pre h.ord
    unfold orderOf
    rw [h0]
    exact this
  obtain ⟨o2, e2, w, pf, cl⟩ := order_spec hg
  rw [e] at e2
  cases e2
  exact ⟨e, w, pf, cl⟩
theorem least_least (hc : GoodC Γ c) {o : List Nat} (h : OI c o) : leastBy (leastBy c o) (List.range o.length) = leastBy c o := by
  have h2 := least_order hc h
  have hg := least_good hc h
  refine List.ext_getElem (by rw [least_len, least_len, List.length_range]) fun p h1 h2' => ?_
  have hp : p < o.length := by rw [least_len] at h2'; exact h2'
  have hpr : p < (List.range o.length).length := by rw [List.length_range]; exact hp
  have er : (List.range o.length).getD p 0 = p := by simp [List.getD, hp]
  have e1 : st (leastBy (leastBy c o) (List.range o.length)) p = st (leastBy c o) p := by
    rw [least_st hpr, er]
    have em : (st (leastBy c o) p).tos.map (fun t => (List.range o.length).idxOf (headOf (leastBy c o) t)) = (st (leastBy c o) p).tos := by
      conv => rhs; rw [← List.map_id (st (leastBy c o) p).tos]
      refine List.map_congr_left fun t ht => ?_
      have htl : t < o.length := by
        have := (gs hg (by rw [least_len]; exact hp)).lt t ht
        rw [least_len] at this; exact this
      rw [least_head hc h htl]
      have hmem : t ∈ List.range o.length := List.mem_range.mpr htl
      obtain ⟨a, b⟩ := getD_idx hmem
      have a' : (List.range o.length).idxOf t < o.length := by rw [List.length_range] at a; exact a
      have er2 : (List.range o.length).getD ((List.range o.length).idxOf t) 0 = (List.range o.length).idxOf t := by simp only [List.getD, List.getElem?_range a', Option.getD_some]
      rw [er2] at b
      exact b
    rw [em]
  have q1 : st (leastBy (leastBy c o) (List.range o.length)) p = (leastBy (leastBy c o) (List.range o.length))[p] := by simp [st, List.getD, h1]
  have q2 : st (leastBy c o) p = (leastBy c o)[p] := by simp [st, List.getD, h2']
  rw [← q1, ← q2]; exact e1
end
end M
end K46

set_option Elab.async false
set_option linter.all false
set_option maxRecDepth 100000
set_option maxHeartbeats 1000000
/-! what the plain mathematics gives the law -/
namespace K46
open PySem PySem.Spec PyProof.Rows L2
namespace M
theorem look {x : Str} {g : Game} : ∀ {h : Hou}, h.lookup x = some g → (x, g) ∈ h
| p :: h, e => by
  simp only [List.lookup] at e
  split at e
  · rename_i z
    cases e
    have : x = p.1 := by simpa using z
    rw [this]; exact List.mem_cons_self
  · exact List.mem_cons_of_mem _ (look e)
theorem key_bound {h : Hou} {c : Ctl} (hg : GoodH h) (hc : InH h c) {k : Nat} {g : Int} (hk : k < c.length) (hm : g ∈ (st c k).keys) : -99 ≤ g ∧ g ≤ 99 := by
  have hs := st_mem hk
  have h1 := hc.mem _ hs
  have h2 := (hc.good.st _ hs).keys
  cases e : h.lookup (st c k).name with
  | none => rw [e] at h1; cases h1
  | some gg =>
    rw [h2] at hm
    unfold hΓ gm at hm
    rw [e] at hm
    refine gains_bound (hg.game _ (look e)) hm
theorem two_is {h : Hou} {c d : Ctl} (hg : GoodH h) (hc : InH h c) (hd : InH h d) : TwoIs c d := by
  constructor
  · obtain ⟨r, e, _, hs⟩ := part_spec hc.good hd.good
    refine ⟨r, e, fun s es => ?_⟩
    obtain ⟨a, b, i, j, r1, r2, hne⟩ := hs s es
    refine ⟨fun g hgs => ?_, b, i, j, r1, r2, hne⟩
    obtain ⟨k, hk, hm⟩ := a g hgs
    exact key_bound hg hc hk hm
  · exact (part_al hc.good hc.good).mpr (.refl c 0)
theorem least_is {h : Hou} {c : Ctl} (hc : InH h c) : ∃ s o o', LeastIs h c s o o' := by
  obtain ⟨o, e, w, pf, cl⟩ := order_spec hc.good
  have oi : OI c o := ⟨e, w, pf, cl⟩
  have hl := least_good hc.good oi
  have hf := w.few
  have h4 := hc.four
  have l4 : (leastBy c o).length ≤ 4 := by rw [least_len]; omega
  obtain ⟨o', so, eo, lt'⟩ := sorts_spec hc.good h4 oi
  have oi2 := least_order hc.good oi
  obtain ⟨o2, so2, eo2, lt2⟩ := sorts_spec hl l4 oi2
  have e2 : o2 = List.range o.length := by
    rw [eo2]
    conv => lhs; rw [← List.map_id o2]
    refine List.map_congr_left fun k hk => ?_
    have := lt2 k hk
    rw [least_len] at this
    rw [least_head hc.good oi this]; rfl
  refine ⟨leastBy c o, o, o', oi.leastOk hc.good, rfl, ⟨fun s hs => ?_, hl, l4⟩, so, lt', ?_, (part_al hl hc.good).mpr (least_al0 hc.good oi), ?_, ⟨_, oi2.leastOk hl, least_least hc.good oi⟩, ?_⟩
  · obtain ⟨k, hk, rfl⟩ := List.mem_map.mp hs
    exact hc.mem (st c k) (st_mem (w.hd k hk).1)
  · have : o.length = o'.length := by rw [eo, List.length_map]
    omega
  · unfold leastBy
    rw [List.map_map]
    show o.map (fun k => nm c k) = _
    rw [eo, List.map_map]
    refine List.map_congr_left fun k hk => ?_
    exact (head_spec hc.good (lt' k hk)).2.name.symm
  · rw [least_len, ← e2]; exact so2
theorem maths : Maths := ⟨fun _ _ _ hg hc hd => two_is hg hc hd, fun _ _ _ hc => least_is hc⟩
end M
end K46

set_option Elab.async false
set_option linter.all false
set_option maxRecDepth 100000
set_option maxHeartbeats 2000000
/-! House.__init__ by hand; words for proofs that mix data and the hand layer -/
namespace K46
open PySem PySem.Spec PyProof.Rows L2
section
variable {q : Pm} {Dn : Ends} {F H : Hp} {dty : Addr → Prop} {al : Nat → Addr} {δ : List Sl} {σ : L2.St}
theorem bnd_im {w : World} {C : Addr} (hl : σ.length = δ.length) (hno : ∀ i : Nat, isM δ[i]? = false) (him : ∀ (i : Nat) (d : D), δ[i]? = some (.im d) → ∃ v, σ[i]? = some (some v) ∧ Has w C F d v) : Bnd w C none F H al dty δ σ where
  len := hl
  im := him
  at_ := fun i e => by rw [hno i] at e; cases e
  ml := fun i ds e => by have := hno i; rw [e] at this; cases this
  md := fun i ks ds e => by have := hno i; rw [e] at this; cases this
  inj := fun i j _ e _ => by rw [hno i] at e; cases e
  pr := fun p e => nomatch e
theorem cf_im {w : World} {C : Addr} {m : Option Addr} (hf : Fit m F H) (hl : σ.length = δ.length) (hno : ∀ i : Nat, isM δ[i]? = false) (him : ∀ (i : Nat) (d : D), δ[i]? = some (.im d) → ∃ v, σ[i]? = some (some v) ∧ Has w C F d v) : Cf ⟨w, C, none, m⟩ F H (fun _ => 0) (fun _ => False) δ σ := ⟨fun _ z => z.elim, hf, bnd_im hl hno him⟩
/-- a statement on data, what holds behind it said at once -/
theorem lS_mk {t : DTS} (c : Cf q F H al dty δ σ) (Nx : List Sl → Prop) (h : t { nx := Nx, rt := fun _ _ => False } δ) (k : ∀ σ' δ' F' H' al' dty', Stp dty F H F' H' → (∀ a, dty' a → dty a ∨ H a = none) → Cf q F' H' al' dty' δ' σ' → Nx δ' → Dn.nx σ' H') : lS q t Dn σ H :=
  ⟨F, al, dty, δ, _, c, h, fun σ' δ' F' H' al' dty' s h2 c2 => ⟨fun z => k σ' δ' F' H' al' dty' s h2 c2 z, fun z => z.elim, fun z => z.elim, fun _ _ _ z => z.elim⟩⟩
end
theorem FnOk.or2 {P : Program} {w : World} {K : PySem.W.Frag} {mg : Str → Option Value} {base : Heap} {CX : CXT} {k : Nat} {f : Addr} {fd : FuncData} {ps : List Str} {sp1 sp2 : Sp} (a : FnOk P w K mg base CX k f fd ps sp1) (b : FnOk P w K mg base CX k f fd ps sp2) :
    FnOk P w K mg base CX k f fd ps (fun vs H Q E => sp1 vs H Q E ∨ sp2 vs H Q E) :=
  ⟨fun vs H Q E h => h.elim (a.len vs H Q E) (b.len vs H Q E), fun A outer s H args us vs Q E hr i bd rv h => h.elim (a.run A outer s H args us vs Q E hr i bd rv) (b.run A outer s H args us vs Q E hr i bd rv)⟩
/-! ### an address taken out of the data -/
def drop (x : Addr) (F : Hp) : Hp := fun a => if a = x then none else F a
section
variable {x : Addr} {o : HO} {F H F' H' : Hp}
theorem drop_ne {a : Addr} (h : a ≠ x) : drop x F a = F a := if_neg h
theorem drop_self : drop x F x = none := if_pos rfl
theorem le_drop (hF : F x = none) (le : Le (upd F x o) F') : Le F (drop x F') := fun a u e => by
  have ne : a ≠ x := ne_of_none e hF
  rw [drop_ne ne]
  exact le a u (by rw [upd_ne ne]; exact e)
theorem drop_step (hF : F x = none) (s : Stp0 (upd F x o) H F' H') : Stp (fun a => a = x) F H (drop x F') H' where
  up := le_drop hF s.up
  new := fun a u e => by
    by_cases z : a = x
    · exact .inr (.inr z)
    · rw [drop_ne z] at e
      rcases s.new a u e with y | y | y
      · rw [upd_ne z] at y; exact .inl y
      · exact .inr (.inl y)
      · exact y.elim
  keep := fun a u e n d => s.keep a u e (by rw [upd_ne d]; exact n) fun z => z
  live := s.live
  frz := s.frz
theorem drop_fit (f : Fit none F' H') : Fit none (drop x F') H' := fun a u e => by
  by_cases z : a = x
  · subst z; rw [drop_self] at e; cases e
  · rw [drop_ne z] at e; exact f a u e
theorem has_drop_strs {w : World} {C C' dx : Addr} {fs : List (Str × V)} {zs : List Str} {v : V} (hx : F' x = some (.ins C' dx fs)) (h : Has w C F' (.tup (zs.map D.str)) v) : Has w C (drop x F') (.tup (zs.map D.str)) v := by
  obtain ⟨a, vs, rfl, e1, e2⟩ := has_tup.mp h
  have ne : a ≠ x := fun z => by subst z; rw [hx] at e1; cases e1
  exact has_tup.mpr ⟨a, vs, rfl, by rw [drop_ne ne]; exact e1, HasL.strs.mpr (HasL.strs.mp e2)⟩
end
/-! ### a field of a house that is being made -/
def fHf (n i : Nat) : D → Option D
  | .hou ds => if ds.length = n then ds[i]? else none
  | _ => none
theorem de_hfld {X : Cx} {q : Pm} {e : Expr} {te : DTE} {pos : Pos} {f : Str} (n i : Nat) (hl : ∀ (vs : List V) (v : V), vs.length = n → vs[i]? = some v → (hfs vs).lookup f = some v) (cl : Cls X.K q.C) (na : NoAttr X.K q.C f) (h : DE X q e te) (hb : attributeBase e f X.env (eval e X.env) = eval e X.env := by rfl) :
    DE X q (.Attribute e f pos) (d1 (fHf n i) te) :=
  PE.imp (pe_fld h hb) fun σ H Q h => by
    obtain ⟨F, al, dty, δ, R, c, t, k⟩ := h
    refine ⟨F, al, dty, δ, _, c, t, fun x d δ1 F1 H1 s1 c1 hx hR => ?_⟩
    obtain ⟨dd, hf, hR⟩ := hR
    unfold fHf at hf
    split at hf
    · split at hf
      · rename_i hn
        obtain ⟨a, dx, vs, rfl, e1, e2⟩ := has_hou.mp hx
        obtain ⟨v, ev, hv⟩ := e2.get hf
        exact ⟨a, q.C, dx, _, v, rfl, c1.fit.ins e1, cl, na, hl vs v (by rw [e2.length, hn]) ev, k _ _ δ1 F1 H1 s1 c1 hv hR⟩
      · cases hf
    · cases hf
theorem no_ite {A B : Prop} (h : B) : if false = true then A else B := by rw [if_neg (by decide)]; exact h
theorem hl10 : ∀ (vs : List V) (v : V), vs.length = 1 → vs[0]? = some v → (hfs vs).lookup ("own_games" : Str) = some v
  | [a], v, _, e => by cases e; rfl
theorem hl20 : ∀ (vs : List V) (v : V), vs.length = 2 → vs[0]? = some v → (hfs vs).lookup ("own_games" : Str) = some v
  | [a, b], v, _, e => by cases e; rfl
theorem hl21 : ∀ (vs : List V) (v : V), vs.length = 2 → vs[1]? = some v → (hfs vs).lookup ("own_names" : Str) = some v
  | [a, b], v, _, e => by cases e; rfl
theorem isM_im2 {d : D} {a : Sl} (ha : isM (some a) = false) : ∀ i : Nat, isM [a, .im d][i]? = false
  | 0 => ha
  | 1 => rfl
  | _ + 2 => rfl
section
variable {P : Program} {w : World} {K : PySem.W.Frag} {mg : Str → Option Value} {base : Heap} {C f : Addr} {fd : FuncData}
theorem ok_House_init (E : En K mg C) (M : Mk K C f) (F : FunD K "__init__" "House.__init__" (defArgs S_House_init) (defBody S_House_init) (defScope S_House_init) [] [] f fd)
    (G_are_games : OkD P w K mg base C "are_games" 7 1 none ["value"] pre_are_games) (G_ascending_rows : OkD P w K mg base C "ascending_rows" 1 1 none ["rows"] pre_ascending_rows) : OkH P w K mg base C 8 pre_init := by
  have nd : (["self", "games"] : List Str).Nodup := by decide +kernel
  refine ⟨f, fd, M, F.ok (N := ["self", "games"]) ⟨rfl, rfl, rfl, nd, rfl, by decide +kernel, by decide +kernel⟩ (fun vs H Q E h => ?_) (fun cdv A outer s H vs Q E' hr h => ⟨_, PSs.nox
    (pss_cons (ps_if (tc := lT ⟨w, C, none, none⟩ _) (dt_not (dt_val (de_callD G_are_games (hr.mono (by decide)) rfl (da_cons (de_var 1) da_nil)))) (pss_one ps_never) pss_nil)
    (pss_cons (ps_fld (pv 0) (de_callD (q := ⟨w, C, none, none⟩) G_ascending_rows (hr.mono (by decide)) rfl (da_cons (de_var 1) da_nil)) rfl)
    (pss_cons (ps_fld (pv 0) (de_ct (q := ⟨w, C, none, none⟩) call_tuple_of cp_tuple rfl E.m_tuple rfl (da_cons (de_ct (call_list_of.or (call_listD rfl)) cp_list rfl E.m_list rfl (da_cons (de_hfld 1 0 hl10 E.cls E.na_games (de_var 0)) da_nil)) da_nil)) rfl)
    (pss_one (ps_fld (pv 0) (de_cb (q := ⟨w, C, none, none⟩) call_lenAll cp_len rfl E.m_len rfl (da_cons (de_ixD (un1 hr) (de_hfld 2 0 hl20 E.cls E.na_games (de_var 0)) (de_ixD (un1 hr) (de_hfld 2 1 hl21 E.cls E.na_names (de_var 0)) de_int)) da_nil)) rfl))))), ?_⟩), E.m_House, F.bindsN fun _ _ _ _ _ _ us hl => match us, hl with | [_, _], _ => rfl⟩
  · obtain ⟨_, _, _, _, _, _, rfl, _⟩ := h
    rfl
  obtain ⟨F0, x, dx, g, d, R, rfl, hx, hFx, hf, hd, ⟨hh, rfl, hg, hR⟩, k⟩ := h
  have hst : start ["self", "games"] [V.ref x, g] = [some (.ref x), some g] := rfl
  have him : ∀ (s0 : Sl), (∀ d, s0 = .im d → False) → ∀ (F1 : Hp), Le F0 F1 → ∀ (i : Nat) (d : D), ([s0, .im (houD hh)] : List Sl)[i]? = some (.im d) → ∃ v, ([some (.ref x), some g] : L2.St)[i]? = some (some v) ∧ Has w C F1 d v := fun s0 hs F1 le i d e => by
    match i, e with
    | 0, e => cases e; exact (hs d rfl).elim
    | 1, e => cases e; exact ⟨g, rfl, hd.mono le⟩
  have himS : ∀ (ds : List D) (us : List V) (F1 : Hp), Le F0 F1 → F1 x = some (.ins C dx (hfs us)) → HasL w C F1 ds us → ∀ (i : Nat) (d : D), ([.im (.hou ds), .im (houD hh)] : List Sl)[i]? = some (.im d) → ∃ v, ([some (.ref x), some g] : L2.St)[i]? = some (some v) ∧ Has w C F1 d v := fun ds us F1 le e0 hu i d e => by
    match i, e with
    | 0, e => cases e; exact ⟨.ref x, rfl, has_hou.mpr ⟨x, dx, us, rfl, e0, hu⟩⟩
    | 1, e => cases e; exact ⟨g, rfl, hd.mono le⟩
  have keepx : ∀ {F1 H1 : Hp}, Stp0 F0 H F1 H1 → F1 x = none ∧ H1 x = some (.ins C dx []) := fun {F1 H1} s1 => by
    refine ⟨?_, s1.keep x _ hx hFx fun z => z⟩
    cases e : F1 x with
    | none => rfl
    | some u =>
      rcases s1.new x u e with y | y | y
      · rw [hFx] at y; cases y
      · rw [hx] at y; cases y
      · exact y.elim
  rw [hst]
  -- are_games
  refine ⟨F0, fun _ => 0, fun _ => False, [.no, .im (houD hh)], fun b δ => b = false, cf_im hf rfl (isM_im2 rfl) (him .no (fun d z => nomatch z) F0 (.refl _)), ?_, ?_⟩
  · exact ⟨_, rfl, rfl, hh, rfl, hg, _, rfl, rfl⟩
  rintro b δ1 F1 H1 s1 c1 rfl
  refine no_ite ?_
  obtain ⟨f1x, h1x⟩ := keepx s1
  -- own_games
  refine ⟨F1, fun _ => 0, fun _ => False, [.no, .im (houD hh)], fun d δ => ∃ h' : Hou, h'.Perm hh ∧ d = houD h', cf_im c1.fit rfl (isM_im2 rfl) (him .no (fun d z => nomatch z) F1 s1.up), ?_, ?_⟩
  · exact ⟨_, rfl, rfl, hh, rfl, hg, fun h' hp => ⟨h', hp, rfl⟩⟩
  rintro v1 d1 δ2 F2 H2 s2 c2 hv1 ⟨h', hp, rfl⟩
  have s02 : Stp0 F0 H F2 H2 := s1.trans0 s2
  obtain ⟨f2x, h2x⟩ := keepx s02
  refine ⟨.ref x, rfl, x, C, dx, [], rfl, h2x, E.cls, E.na_games, by simp, ?_⟩
  have e3 : upd H2 x (.ins C dx (putF "own_games" v1 [])) = upd H2 x (.ins C dx (hfs [v1])) := rfl
  rw [e3]
  have s3 : Stp (fun a => a = x) F0 H F2 (upd H2 x (.ins C dx (hfs [v1]))) := (s02.any (dty := fun a => a = x)).trans0 (.write rfl f2x fun ob u z => by rw [h2x] at z; cases z)
  have ft3 : Fit none F2 (upd H2 x (.ins C dx (hfs [v1]))) := c2.fit.updM f2x
  have lg : h'.length = hh.length := hp.length_eq
  -- own_names
  have fr3 : Fit none (upd F2 x (.ins C dx (hfs [v1]))) (upd H2 x (.ins C dx (hfs [v1]))) := ft3.froze upd_same
  have le3 : Le F2 (upd F2 x (.ins C dx (hfs [v1]))) := fun a u e => by rw [upd_ne (ne_of_none e f2x)]; exact e
  refine ⟨upd F2 x (.ins C dx (hfs [v1])), fun _ => 0, fun _ => False, [.im (.hou [houD h']), .im (houD hh)], fun d δ => d = .tup ((h'.map (·.1)).map D.str), cf_im fr3 rfl (isM_im2 rfl) (himS _ [v1] _ (s3.up.trans le3) upd_same (.cons (hv1.mono le3) .nil)), ?_, ?_⟩
  · refine ⟨_, rfl, _, rfl, .lst ((h'.map (·.1)).map D.str), ?_, .tup ((h'.map (·.1)).map D.str), rfl, rfl⟩
    · show (if _ then some _ else none) = _
      rw [if_pos (by simp)]
      congr 2
      rw [List.map_map, List.map_map]
      rfl
  rintro v2 d2 δ3 F4 H4 s4 c4 hv2 rfl
  have e4x : F4 x = some (.ins C dx (hfs [v1])) := s4.up x _ upd_same
  have h4x : H4 x = some (.ins C dx (hfs [v1])) := c4.fit.ins e4x
  have hv2' := has_drop_strs e4x hv2
  have s5 := drop_step f2x s4
  have ft5 : Fit none (drop x F4) H4 := drop_fit c4.fit
  have le5 := le_drop f2x s4.up
  refine ⟨.ref x, rfl, x, C, dx, _, rfl, h4x, E.cls, E.na_names, (show (1 : Nat) < 1000 by omega), ?_⟩
  have e5 : upd H4 x (.ins C dx (putF "own_names" v2 (hfs [v1]))) = upd H4 x (.ins C dx (hfs [v1, v2])) := rfl
  rw [e5]
  have s6 : Stp (fun a => a = x) F0 H (drop x F4) (upd H4 x (.ins C dx (hfs [v1, v2]))) := (s3.trans0 s5).trans0 (.write rfl drop_self fun ob u z => by rw [h4x] at z; cases z)
  have ft6 : Fit none (drop x F4) (upd H4 x (.ins C dx (hfs [v1, v2]))) := ft5.updM drop_self
  -- own_size
  have fr6 : Fit none (upd (drop x F4) x (.ins C dx (hfs [v1, v2]))) (upd H4 x (.ins C dx (hfs [v1, v2]))) := ft6.froze upd_same
  have le6 : Le (drop x F4) (upd (drop x F4) x (.ins C dx (hfs [v1, v2]))) := fun a u e => by rw [upd_ne (ne_of_none e drop_self)]; exact e
  have hus : HasL w C (drop x F4) [houD h', .tup ((h'.map (·.1)).map D.str)] [v1, v2] := .cons (hv1.mono le5) (.cons hv2' .nil)
  refine ⟨upd (drop x F4) x (.ins C dx (hfs [v1, v2])), fun _ => 0, fun _ => False, [.im (.hou [houD h', .tup ((h'.map (·.1)).map D.str)]), .im (houD hh)], fun d δ => ∃ n : Int, d = .int n, cf_im fr6 rfl (isM_im2 rfl) (himS _ [v1, v2] _ (s6.up.trans le6) upd_same (hus.mono le6)), ?_, ?_⟩
  · have h1 := hg.one
    rw [← lg] at h1
    match h', h1 with
    | p :: r, _ =>
      have e0 : fIx (.tup ((((p :: r) : Hou).map (·.1)).map D.str)) (.int 0) = some (.str p.1) := by
        show atD ((((p :: r) : Hou).map (·.1)).map D.str) ((0 : Nat) : Int) = _
        exact atD_nat (x := p.1) rfl
      refine ⟨_, rfl, _, rfl, _, rfl, _, rfl, .str p.1, e0, gameD p.2, ?_, _, rfl, _, rfl⟩
      show luD _ _ (Sum.inr p.1) = _
      simp [luD]
  rintro v3 d3 δ4 F7 H7 s7 c7 hv3 ⟨n, rfl⟩
  have e7x : F7 x = some (.ins C dx (hfs [v1, v2])) := s7.up x _ upd_same
  have h7x : H7 x = some (.ins C dx (hfs [v1, v2])) := c7.fit.ins e7x
  have s8 := drop_step drop_self s7
  have ft8 : Fit none (drop x F7) H7 := drop_fit c7.fit
  have le8 := le_drop drop_self s7.up
  refine ⟨.ref x, rfl, x, C, dx, _, rfl, h7x, E.cls, E.na_size, (show (2 : Nat) < 1000 by omega), ?_⟩
  have e8 : upd H7 x (.ins C dx (putF "own_size" v3 (hfs [v1, v2]))) = upd H7 x (.ins C dx (hfs [v1, v2, v3])) := rfl
  rw [e8]
  have s9 : Stp (fun a => a = x) F0 H (drop x F7) (upd H7 x (.ins C dx (hfs [v1, v2, v3]))) := (s6.trans0 s8).trans0 (.write rfl drop_self fun ob u z => by rw [h7x] at z; cases z)
  have hn3 : Has w C (drop x F7) (.int n) v3 := has_int.mpr (has_int.mp hv3)
  exact k _ _ [v1, v2, v3] [houD h', .tup ((h'.map (·.1)).map D.str), .int n] s9 (ft8.updM drop_self) drop_self upd_same (.cons ((hv1.mono le5).mono le8) (.cons (hv2'.mono le8) (.cons hn3 .nil))) (hR h' _ _ hp)
end
end K46

set_option Elab.async false
set_option linter.all false
set_option maxRecDepth 100000
set_option maxHeartbeats 2000000
namespace K46
open PySem PySem.Spec PyProof.Rows L2
section
variable {P : Program} {w : World} {K : PySem.W.Frag} {mg : Str → Option Value} {base : Heap} {C f : Addr} {fd : FuncData}
theorem ok_is_integer {m : Option Addr} (E : En K mg C) (F : Fd K mg "is_integer" Sis_integer f fd) : OkD P w K mg base C "is_integer" 1 1 m ["value"] pre_is_integer := by
  have nd : (["value"] : List Str).Nodup := by decide +kernel
  refine F.ok (N := ["value"]) ⟨rfl, rfl, rfl, nd, rfl, by decide +kernel, by decide +kernel⟩ rfl (F.fun_.bindsN fun _ _ _ _ _ _ us hl => match us, hl with | [_], _ => rfl) (fun cdv A outer s H X hr =>
    (dss_one (ds_ret (de_and (de_isi rfl E.m_isinstance rfl E.m_int (de_var 0)) (de_and (de_not (de_isi rfl E.m_isinstance rfl E.m_bool (de_var 0))) (de_one (de_chain (od_lt (un0 hr)) (od_lt (un0 hr)) (de_neg (de_globI rfl E.i_LONGEST)) (de_var 0) (de_globI rfl E.i_LONGEST)))))))) ?_
  rintro ds R _ ⟨i, rfl, hs, h⟩
  have L : (1000000 : Int) < 10 ^ 300 := by decide +kernel
  obtain ⟨h1, h2⟩ := hs
  simp [dRet, dAndV, dIsi, dVar, dNotV, dChain, st0, isiT, dC, d1, fNeg, fLt]
  right
  have a : -10 ^ 300 < i := by omega
  have b : i < 10 ^ 300 := by omega
  refine ⟨a, ?_⟩
  rw [decide_eq_true b]
  exact h

theorem ok_is_within {m : Option Addr} (E : En K mg C) (F : Fd K mg "is_within" Sis_within f fd)
    (G_is_integer : ∀ m, OkD P w K mg base C "is_integer" 1 1 m ["value"] pre_is_integer) : OkD P w K mg base C "is_within" 2 3 m ["value", "least", "most"] pre_is_within := by
  have nd : (["value", "least", "most"] : List Str).Nodup := by decide +kernel
  refine F.ok (N := ["value", "least", "most"]) ⟨rfl, rfl, rfl, nd, rfl, by decide +kernel, by decide +kernel⟩ rfl (F.fun_.bindsN fun _ _ _ _ _ _ us hl => match us, hl with | [_, _, _], _ => rfl) (fun cdv A outer s H X hr =>
    (dss_one (ds_ret (de_and (de_callD (G_is_integer _) (hr.mono (by decide)) rfl (da_cons (de_var 0) da_nil)) (de_one (de_chain od_le od_le (de_var 1) (de_var 0) (de_var 2))))))) ?_
  rintro ds R _ ⟨i, a, b, rfl, hs, h⟩
  simp [dRet, dAndV, dVar, dChain, st0, dCall, daCons, daNil, pre_is_integer, fLe]
  refine ⟨hs, ?_⟩
  by_cases h1 : a ≤ i
  · right; exact ⟨h1, by simpa [h1] using h⟩
  · left; exact ⟨by omega, by simpa [h1] using h⟩

theorem ok_is_word {m : Option Addr} (E : En K mg C) (F : Fd K mg "is_word" Sis_word f fd) : OkD P w K mg base C "is_word" 1 1 m ["value"] pre_is_word := by
  have nd : (["value", "sign"] : List Str).Nodup := by decide +kernel
  refine F.ok (N := ["value", "sign"]) ⟨rfl, rfl, rfl, nd, rfl, by decide +kernel, by decide +kernel⟩ rfl (F.fun_.bindsN fun _ _ _ _ _ _ us hl => match us, hl with | [_], _ => rfl) (fun cdv A outer s H X hr =>
    (dss_one (ds_ret (de_and (de_isi rfl E.m_isinstance rfl E.m_str (de_var 0)) (de_and (de_chain od_le od_le de_int (de_cb call_lenAll cp_len rfl E.m_len rfl (da_cons (de_var 0) da_nil)) (de_globI rfl E.i_MAX_LETTERS)) (de_one (de_cb (cr_all rfl) cp_all rfl E.m_all rfl (da_cons (de_ofR (dr_lc (own := [("sign", 1)]) (tg := (.nm 1)) rfl nd (di_str (de_var 0)) (blkOk_by (N := ["value", "sign"]) (sc := (defScope Sis_word)) (by decide +kernel)) (by decide) (fun _ _ _ _ _ => (pg_name (i := 1) nd rfl (by first | exact Or.inl rfl | exact Or.inr rfl))) (tt := none) (fun _ _ _ _ _ => dts_nil) (fun _ _ _ _ _ => (de_cmpD (od_in (un65 hr)) (de_var 1) (de_globS rfl E.s_LETTERS))))) da_nil)))))))) ?_
  rintro ds R _ ⟨z, rfl, ⟨h1, h2, h3⟩, h⟩
  have hl : z.cps.toList.length = z.length := by simp [Str.length]
  have hz : z.length ≤ 100000 := by omega
  have e1 : (1 : Int) ≤ z.length := by omega
  have e8 : (z.length : Int) ≤ 8 := by omega
  simp [dSeq, dIfS, dNext, dRet, dDrop, dSet, dUnp, dParD, dPar, dSetR, dAug, dOr, dAnd, dNot, dTst, dAndV, dOrV, dNotV, dIfE, dVar, dC, d1, d2, dL, dP, gf, dTup, drLst, drNd, drE, deR, draNil, draCons, daNil, daCons, daStar, itemsD, dChain, dIsi, dIsiC, isiT, dCall, dCallM, st0, stM, setAll, setR, setRs, Tg.set, dApp, dPop, dIxM, dStL, dStD, dBor, dBorT, frzS, diLst, diTup, diRng, diStr, diEnum, dItems, dValues, dListZip, dListRg, dIdx, dGet2, dHouse, dDisp, dPairs, dFrz, isM, tstD, fAdd, fSub, fMul, fDiv, fMod, fLt, fLe, fGt, fGe, fI, mulOk, fIs, fIsNot, isNon, fNeg, fLen, fAbs, fMax, fMin, fInt, fTuple, fList, fGames, fIx, atD, ixN, keyD, fEq, fNe, fEqS, fNeS, cmpX, cmpE, sK, eqD, hz, e1, e8]
  refine lcMap (fun _ => .bl true) (fun RR h => ⟨_, rfl, _, rfl, h⟩) rfl (by rw [List.length_map, hl]; exact hz) (fun d Q hd hQ => ?_) ⟨_, fAll_true, h⟩
  obtain ⟨c, hc, rfl⟩ := List.mem_map.mp hd
  refine ⟨_, rfl, _, rfl, _, ?_, hQ _ rfl⟩
  show (if (1 : Nat) = 1 then some (D.bl (decide (c ∈ letters.cps.toList))) else none) = _
  rw [if_pos rfl, decide_eq_true (h3 c hc)]

theorem ok_divisor_of {m : Option Addr} (E : En K mg C) (F : Fd K mg "divisor_of" Sdivisor_of f fd) : OkD P w K mg base C "divisor_of" 1 2 none ["one", "other"] pre_divisor_of := by
  have nd : (["one", "other"] : List Str).Nodup := by decide +kernel
  refine F.ok (N := ["one", "other"]) ⟨rfl, rfl, rfl, nd, rfl, by decide +kernel, by decide +kernel⟩ rfl (F.fun_.bindsN fun _ _ _ _ _ _ us hl => match us, hl with | [_, _], _ => rfl) (fun cdv A outer s H X hr =>
    (dss_cons (ds_par2D (i := 0) (j := 1) rfl nd rfl rfl (by decide) rfl rfl (da_cons (de_cb call_abs cp_abs rfl E.m_abs rfl (da_cons (de_var 0) da_nil)) (da_cons (de_cb call_abs cp_abs rfl E.m_abs rfl (da_cons (de_var 1) da_nil)) da_nil)) (by rfl))
    (dss_cons (ds_while (dt_cmpD od_gt (de_var 1) de_int) (dss_one (ds_par2D (i := 0) (j := 1) rfl nd rfl rfl (by decide) rfl rfl (da_cons (de_var 1) (da_cons (de_bin od_mod (de_var 0) (de_var 1)) da_nil)) (by rfl))) PassesOwn.never)
    (dss_one (ds_ret (de_var 0)))))) ?_
  rintro ds R _ ⟨a, b, rfl, h⟩
  simp [dSeq, dIfS, dNext, dRet, dDrop, dSet, dUnp, dParD, dPar, dSetR, dAug, dOr, dAnd, dNot, dTst, dAndV, dOrV, dNotV, dIfE, dVar, dC, d1, d2, dL, dP, gf, dTup, drLst, drNd, drE, deR, draNil, draCons, daNil, daCons, daStar, itemsD, dChain, dIsi, dIsiC, isiT, dCall, dCallM, st0, stM, setAll, setR, setRs, Tg.set, dApp, dPop, dIxM, dStL, dStD, dBor, dBorT, frzS, diLst, diTup, diRng, diStr, diEnum, dItems, dValues, dListZip, dListRg, dIdx, dGet2, dHouse, dDisp, dPairs, dFrz, isM, tstD, fAdd, fSub, fMul, fDiv, fMod, fLt, fLe, fGt, fGe, fI, mulOk, fIs, fIsNot, isNon, fNeg, fLen, fAbs, fMax, fMin, fInt, fTuple, fList, fGames, fIx, atD, ixN, keyD, fEq, fNe, fEqS, fNeS, cmpX, cmpE, sK, eqD]
  have e1 : (if a < 0 then -a else a) = (a.natAbs : Int) := by split <;> omega
  have e2 : (if b < 0 then -b else b) = (b.natAbs : Int) := by split <;> omega
  rw [e1, e2]
  refine ⟨fun m δ => ∃ x y : Nat, δ = [.im (.int x), .im (.int y)] ∧ m = y ∧ Nat.gcd x y = Int.gcd a b, ⟨_, _, _, rfl, rfl, rfl⟩, ?_⟩
  rintro m δ ⟨x, y, rfl, rfl, hg⟩
  simp [dSeq, dIfS, dNext, dRet, dDrop, dSet, dUnp, dParD, dPar, dSetR, dAug, dOr, dAnd, dNot, dTst, dAndV, dOrV, dNotV, dIfE, dVar, dC, d1, d2, dL, dP, gf, dTup, drLst, drNd, drE, deR, draNil, draCons, daNil, daCons, daStar, itemsD, dChain, dIsi, dIsiC, isiT, dCall, dCallM, st0, stM, setAll, setR, setRs, Tg.set, dApp, dPop, dIxM, dStL, dStD, dBor, dBorT, frzS, diLst, diTup, diRng, diStr, diEnum, dItems, dValues, dListZip, dListRg, dIdx, dGet2, dHouse, dDisp, dPairs, dFrz, isM, tstD, fAdd, fSub, fMul, fDiv, fMod, fLt, fLe, fGt, fGe, fI, mulOk, fIs, fIsNot, isNon, fNeg, fLen, fAbs, fMax, fMin, fInt, fTuple, fList, fGames, fIx, atD, ixN, keyD, fEq, fNe, fEqS, fNeS, cmpX, cmpE, sK, eqD]
  by_cases hy : m = 0
  · left
    subst hy
    rw [Nat.gcd_zero_right] at hg
    subst hg
    exact ⟨rfl, h⟩
  · right
    refine ⟨by omega, _, ⟨by omega, rfl⟩, x % m, Nat.mod_lt _ (by omega), m, x % m, ⟨rfl, by simp⟩, rfl, ?_⟩
    rw [← hg, Nat.gcd_comm x m, Nat.gcd_rec m x, Nat.gcd_comm]

theorem ok_is_fraction {m : Option Addr} (E : En K mg C) (F : Fd K mg "is_fraction" Sis_fraction f fd)
    (G_is_integer : ∀ m, OkD P w K mg base C "is_integer" 1 1 m ["value"] pre_is_integer)
    (G_divisor_of : OkD P w K mg base C "divisor_of" 1 2 none ["one", "other"] pre_divisor_of) : OkD P w K mg base C "is_fraction" 2 1 none ["value"] pre_is_fraction := by
  have nd : (["value"] : List Str).Nodup := by decide +kernel
  refine F.ok (N := ["value"]) ⟨rfl, rfl, rfl, nd, rfl, by decide +kernel, by decide +kernel⟩ rfl (F.fun_.bindsN fun _ _ _ _ _ _ us hl => match us, hl with | [_], _ => rfl) (fun cdv A outer s H X hr =>
    (dss_cons (ds_if (dt_w (dw_or (dt_not (dt_val (de_isi rfl E.m_isinstance rfl E.m_tuple (de_var 0)))) (dw_or (dt_cmpD (od_ne rfl (un8 hr)) (de_cb call_lenAll cp_len rfl E.m_len rfl (da_cons (de_var 0) da_nil)) de_int) (dw_or (dt_not (dt_val (de_callD (G_is_integer _) (hr.mono (by decide)) rfl (da_cons (de_ixD (un1 hr) (de_var 0) de_int) da_nil)))) (dw_or1 (dt_not (dt_val (de_callD (G_is_integer _) (hr.mono (by decide)) rfl (da_cons (de_ixD (un1 hr) (de_var 0) de_int) da_nil))))))))) (dss_one (ds_ret de_bl)) dss_nil)
    (dss_one (ds_ret (de_and (de_cmpD od_ge (de_ixD (un1 hr) (de_var 0) de_int) de_int) (de_one (de_cmpD (od_eq rfl (un8 hr)) (de_callD G_divisor_of (hr.mono (by decide)) rfl (da_cons (de_ixD (un1 hr) (de_var 0) de_int) (da_cons (de_ixD (un1 hr) (de_var 0) de_int) da_nil))) de_int))))))) ?_
  rintro ds R _ ⟨⟨a, b⟩, rfl, h1, h2, h3, h4, h⟩
  simp only at h1 h2 h3 h4
  simp [dSeq, dIfS, dNext, dRet, dDrop, dSet, dUnp, dParD, dPar, dSetR, dAug, dOr, dAnd, dNot, dTst, dAndV, dOrV, dNotV, dIfE, dVar, dC, d1, d2, dL, dP, gf, dTup, drLst, drNd, drE, deR, draNil, draCons, daNil, daCons, daStar, itemsD, dChain, dIsi, dIsiC, isiT, dCall, dCallM, st0, stM, setAll, setR, setRs, Tg.set, dApp, dPop, dIxM, dStL, dStD, dBor, dBorT, frzS, diLst, diTup, diRng, diStr, diEnum, dItems, dValues, dListZip, dListRg, dIdx, dGet2, dHouse, dDisp, dPairs, dFrz, isM, tstD, fAdd, fSub, fMul, fDiv, fMod, fLt, fLe, fGt, fGe, fI, mulOk, fIs, fIsNot, isNon, fNeg, fLen, fAbs, fMax, fMin, fInt, fTuple, fList, fGames, fIx, atD, ixN, keyD, fEq, fNe, fEqS, fNeS, cmpX, cmpE, sK, eqD, pD, pre_is_integer, pre_divisor_of, h1, h2, h3, h4]
  exact ⟨a, b, ⟨rfl, rfl⟩, by rw [h4]; exact h⟩

theorem ok_is_chance {m : Option Addr} (E : En K mg C) (F : Fd K mg "is_chance" Sis_chance f fd)
    (G_is_fraction : OkD P w K mg base C "is_fraction" 2 1 none ["value"] pre_is_fraction) : OkD P w K mg base C "is_chance" 3 1 none ["value"] pre_is_chance := by
  have nd : (["value"] : List Str).Nodup := by decide +kernel
  refine F.ok (N := ["value"]) ⟨rfl, rfl, rfl, nd, rfl, by decide +kernel, by decide +kernel⟩ rfl (F.fun_.bindsN fun _ _ _ _ _ _ us hl => match us, hl with | [_], _ => rfl) (fun cdv A outer s H X hr =>
    (dss_one (ds_ret (de_and (de_callD G_is_fraction (hr.mono (by decide)) rfl (da_cons (de_var 0) da_nil)) (de_one (de_chain od_le od_le de_int (de_ixD (un1 hr) (de_var 0) de_int) (de_ixD (un1 hr) (de_var 0) de_int))))))) ?_
  rintro ds R _ ⟨⟨a, b⟩, rfl, ⟨h1, h2, h3, h4⟩, h⟩
  simp only at h1 h2 h3 h4
  simp [dSeq, dIfS, dNext, dRet, dDrop, dSet, dUnp, dParD, dPar, dSetR, dAug, dOr, dAnd, dNot, dTst, dAndV, dOrV, dNotV, dIfE, dVar, dC, d1, d2, dL, dP, gf, dTup, drLst, drNd, drE, deR, draNil, draCons, daNil, daCons, daStar, itemsD, dChain, dIsi, dIsiC, isiT, dCall, dCallM, st0, stM, setAll, setR, setRs, Tg.set, dApp, dPop, dIxM, dStL, dStD, dBor, dBorT, frzS, diLst, diTup, diRng, diStr, diEnum, dItems, dValues, dListZip, dListRg, dIdx, dGet2, dHouse, dDisp, dPairs, dFrz, isM, tstD, fAdd, fSub, fMul, fDiv, fMod, fLt, fLe, fGt, fGe, fI, mulOk, fIs, fIsNot, isNon, fNeg, fLen, fAbs, fMax, fMin, fInt, fTuple, fList, fGames, fIx, atD, ixN, keyD, fEq, fNe, fEqS, fNeS, cmpX, cmpE, sK, eqD, pD, pre_is_fraction, small]
  exact ⟨a, b, ⟨rfl, rfl⟩, by omega, by omega, by omega, h4, .inr ⟨by omega, by rw [decide_eq_true h2]; exact h⟩⟩

theorem ok_fraction_of {m : Option Addr} (E : En K mg C) (F : Fd K mg "fraction_of" Sfraction_of f fd)
    (G_divisor_of : OkD P w K mg base C "divisor_of" 1 2 none ["one", "other"] pre_divisor_of)
    (G_is_integer : ∀ m, OkD P w K mg base C "is_integer" 1 1 m ["value"] pre_is_integer) : OkD P w K mg base C "fraction_of" 2 2 none ["top", "bottom"] pre_fraction_of := by
  have nd : (["top", "bottom", "divisor", "sign", "pair"] : List Str).Nodup := by decide +kernel
  refine F.ok (N := ["top", "bottom", "divisor", "sign", "pair"]) ⟨rfl, rfl, rfl, nd, rfl, by decide +kernel, by decide +kernel⟩ rfl (F.fun_.bindsN fun _ _ _ _ _ _ us hl => match us, hl with | [_, _], _ => rfl) (fun cdv A outer s H X hr =>
    (dss_cons (ds_set (i := 2) nd (de_callD G_divisor_of (hr.mono (by decide)) rfl (da_cons (de_var 0) (da_cons (de_var 1) da_nil))))
    (dss_cons (ds_set (i := 3) nd (de_ifE (dt_cmpD (od_lt (un0 hr)) (de_var 1) de_int) (de_neg de_int) de_int))
    (dss_cons (ds_set (i := 4) nd (de_tup (da_cons (de_bin od_div (de_bin od_mul (de_var 3) (de_var 0)) (de_var 2)) (da_cons (de_bin od_div (de_bin od_mul (de_var 3) (de_var 1)) (de_var 2)) da_nil))))
    (dss_cons (ds_if (dt_w (dw_or (dt_not (dt_val (de_callD (G_is_integer _) (hr.mono (by decide)) rfl (da_cons (de_ixD (un1 hr) (de_var 4) de_int) da_nil)))) (dw_or1 (dt_not (dt_val (de_callD (G_is_integer _) (hr.mono (by decide)) rfl (da_cons (de_ixD (un1 hr) (de_var 4) de_int) da_nil))))))) (dss_one (ds_never _)) dss_nil)
    (dss_one (ds_ret (de_var 4)))))))) ?_
  rintro ds R _ ⟨t, b, rfl, h1, h2, h3, h4, h⟩
  simp [dSeq, dIfS, dNext, dRet, dDrop, dSet, dUnp, dParD, dPar, dSetR, dAug, dOr, dAnd, dNot, dTst, dAndV, dOrV, dNotV, dIfE, dVar, dC, d1, d2, dL, dP, gf, dTup, drLst, drNd, drE, deR, draNil, draCons, daNil, daCons, daStar, itemsD, dChain, dIsi, dIsiC, isiT, dCall, dCallM, st0, stM, setAll, setR, setRs, Tg.set, dApp, dPop, dIxM, dStL, dStD, dBor, dBorT, frzS, diLst, diTup, diRng, diStr, diEnum, dItems, dValues, dListZip, dListRg, dIdx, dGet2, dHouse, dDisp, dPairs, dFrz, isM, tstD, fAdd, fSub, fMul, fDiv, fMod, fLt, fLe, fGt, fGe, fI, mulOk, fIs, fIsNot, isNon, fNeg, fLen, fAbs, fMax, fMin, fInt, fTuple, fList, fGames, fIx, atD, ixN, keyD, fEq, fNe, fEqS, fNeS, cmpX, cmpE, sK, eqD, pD, pre_divisor_of, pre_is_integer, small]
  have g1 : 1 ≤ Int.gcd t b := Int.gcd_pos_of_ne_zero_right _ (by omega)
  have g2 : (Int.gcd t b : Int) ≤ b := Int.le_of_dvd (by omega) (Int.gcd_dvd_right ..)
  have q1 : 0 ≤ t / (Int.gcd t b : Nat) := Int.ediv_nonneg h1 (by omega)
  have q2 : t / (Int.gcd t b : Nat) ≤ t := Int.ediv_le_self _ h1
  have q3 : 0 ≤ b / (Int.gcd t b : Nat) := Int.ediv_nonneg (by omega) (by omega)
  have q4 : b / (Int.gcd t b : Nat) ≤ b := Int.ediv_le_self _ (by omega)
  refine ⟨t, b, ⟨rfl, rfl⟩, .inl ⟨by omega, _, ⟨⟨.inr (by omega), by omega⟩, rfl⟩, _, ⟨⟨.inr (by omega), by omega⟩, rfl⟩, _, rfl, by omega, _, rfl, by omega, h⟩⟩

theorem ok_plus {m : Option Addr} (E : En K mg C) (F : Fd K mg "plus" Splus f fd)
    (G_fraction_of : OkD P w K mg base C "fraction_of" 2 2 none ["top", "bottom"] pre_fraction_of) : OkD P w K mg base C "plus" 3 2 none ["one", "other"] pre_plus := by
  have nd : (["one", "other"] : List Str).Nodup := by decide +kernel
  refine F.ok (N := ["one", "other"]) ⟨rfl, rfl, rfl, nd, rfl, by decide +kernel, by decide +kernel⟩ rfl (F.fun_.bindsN fun _ _ _ _ _ _ us hl => match us, hl with | [_, _], _ => rfl) (fun cdv A outer s H X hr =>
    (dss_one (ds_ret (de_callD G_fraction_of (hr.mono (by decide)) rfl (da_cons (de_bin od_add (de_bin od_mul (de_ixD (un1 hr) (de_var 0) de_int) (de_ixD (un1 hr) (de_var 1) de_int)) (de_bin od_mul (de_ixD (un1 hr) (de_var 1) de_int) (de_ixD (un1 hr) (de_var 0) de_int))) (da_cons (de_bin od_mul (de_ixD (un1 hr) (de_var 0) de_int) (de_ixD (un1 hr) (de_var 1) de_int)) da_nil)))))) ?_
  rintro ds R _ ⟨⟨a, b⟩, ⟨c, d⟩, rfl, h1, h2, h⟩
  simp only [okP, Bool.and_eq_true, decide_eq_true_eq] at h1 h2
  obtain ⟨⟨⟨a0, a1⟩, b0⟩, b1⟩ := h1
  obtain ⟨⟨⟨c0, c1⟩, d0⟩, d1⟩ := h2
  have p1 : 0 ≤ a * d := Int.mul_nonneg a0 (by omega)
  have p2 : a * d ≤ 500 * 500 := Int.mul_le_mul a1 d1 (by omega) (by omega)
  have p3 : 0 ≤ c * b := Int.mul_nonneg c0 (by omega)
  have p4 : c * b ≤ 500 * 500 := Int.mul_le_mul c1 b1 (by omega) (by omega)
  have p5 : 1 * 1 ≤ b * d := Int.mul_le_mul b0 d0 (by omega) (by omega)
  have p6 : b * d ≤ 500 * 500 := Int.mul_le_mul b1 d1 (by omega) (by omega)
  simp [dSeq, dIfS, dNext, dRet, dDrop, dSet, dUnp, dParD, dPar, dSetR, dAug, dOr, dAnd, dNot, dTst, dAndV, dOrV, dNotV, dIfE, dVar, dC, d1, d2, dL, dP, gf, dTup, drLst, drNd, drE, deR, draNil, draCons, daNil, daCons, daStar, itemsD, dChain, dIsi, dIsiC, isiT, dCall, dCallM, st0, stM, setAll, setR, setRs, Tg.set, dApp, dPop, dIxM, dStL, dStD, dBor, dBorT, frzS, diLst, diTup, diRng, diStr, diEnum, dItems, dValues, dListZip, dListRg, dIdx, dGet2, dHouse, dDisp, dPairs, dFrz, isM, tstD, fAdd, fSub, fMul, fDiv, fMod, fLt, fLe, fGt, fGe, fI, mulOk, fIs, fIsNot, isNon, fNeg, fLen, fAbs, fMax, fMin, fInt, fTuple, fList, fGames, fIx, atD, ixN, keyD, fEq, fNe, fEqS, fNeS, cmpX, cmpE, sK, eqD, pD, pre_fraction_of]
  exact ⟨_, ⟨.inl (by omega), rfl⟩, _, ⟨.inl (by omega), rfl⟩, _, rfl, _, ⟨.inl (by omega), rfl⟩, _, _, ⟨rfl, rfl⟩, by omega, by omega, by omega, by omega, h⟩

theorem ok_sum_of {m : Option Addr} (E : En K mg C) (F : Fd K mg "sum_of" Ssum_of f fd)
    (G_plus : OkD P w K mg base C "plus" 3 2 none ["one", "other"] pre_plus) : OkD P w K mg base C "sum_of" 4 1 none ["pairs"] pre_sum_of := by
  have nd : (["pairs", "found", "pair"] : List Str).Nodup := by decide +kernel
  refine F.ok (N := ["pairs", "found", "pair"]) ⟨rfl, rfl, rfl, nd, rfl, by decide +kernel, by decide +kernel⟩ rfl (F.fun_.bindsN fun _ _ _ _ _ _ us hl => match us, hl with | [_], _ => rfl) (fun cdv A outer s H X hr =>
    (dss_cons (ds_set (i := 1) nd (de_tup (da_cons de_int (da_cons de_int da_nil))))
    (dss_cons (ds_for (tg := (.nm 2)) PassesOwn.never rfl (di_lst (de_var 0)) (pg_name (i := 2) nd rfl (by first | exact Or.inl rfl | exact Or.inr rfl)) (dss_one (ds_set (i := 1) nd (de_callD G_plus (hr.mono (by decide)) rfl (da_cons (de_var 1) (da_cons (de_var 2) da_nil))))))
    (dss_one (ds_ret (de_var 1)))))) ?_
  rintro ds R _ ⟨ps, s, rfl, hs, h⟩
  simp only [dSeq, dIfS, dNext, dRet, dDrop, dSet, dUnp, dParD, dPar, dSetR, dAug, dOr, dAnd, dNot, dTst, dAndV, dOrV, dNotV, dIfE, dVar, dC, d1, d2, dL, dP, gf, dTup, drLst, drNd, drE, deR, draNil, draCons, daNil, daCons, daStar, itemsD, dChain, dIsi, dIsiC, isiT, dCall, dCallM, st0, stM, setAll, setR, setRs, Tg.set, dApp, dPop, dIxM, dStL, dStD, dBor, dBorT, frzS, diLst, diTup, diRng, diStr, diEnum, dItems, dValues, dListZip, dListRg, dIdx, dGet2, dHouse, dDisp, dPairs, dFrz, isM, tstD]
  refine ⟨by decide, forD (ds := ps.map pD) (fun i δ => ∃ f x, δ = [.im (.lst (ps.map pD)), .im (pD f), x] ∧ sumP f (ps.drop i) = some s) (fun RR h => ⟨_, rfl, _, rfl, h⟩) ⟨_, _, rfl, hs⟩ ?_ ?_⟩
  · rintro i d δ2 hd ⟨f, x, rfl, hf⟩
    rw [List.getElem?_map] at hd
    cases hp : ps[i]? with
    | none => rw [hp] at hd; cases hd
    | some p =>
      rw [hp] at hd
      cases hd
      have hi := (List.getElem?_eq_some_iff.mp hp).1
      have e : ps.drop i = p :: ps.drop (i + 1) := by
        rw [List.drop_eq_getElem_cons hi]
        rw [List.getElem?_eq_getElem hi] at hp
        cases hp; rfl
      rw [e, sumP] at hf
      split at hf
      · rename_i hok
        rw [Bool.and_eq_true] at hok
        exact ⟨_, rfl, _, rfl, _, rfl, rfl, f, p, rfl, hok.1, hok.2, _, _, rfl, hf⟩
      · cases hf
  · rintro δ2 ⟨f, x, rfl, hf⟩
    rw [List.length_map, List.drop_length, sumP] at hf
    cases hf
    exact ⟨_, rfl, h⟩

end
end K46

set_option Elab.async false
set_option linter.all false
set_option maxRecDepth 100000
set_option maxHeartbeats 2000000
namespace K46
open PySem PySem.Spec PyProof.Rows L2
section
variable {P : Program} {w : World} {K : PySem.W.Frag} {mg : Str → Option Value} {base : Heap} {C f : Addr} {fd : FuncData}
theorem luD_hou {x : Str} : ∀ {h : Hou}, luD (h.map fun p => .inr p.1) (h.map fun p => gameD p.2) (.inr x) = (h.lookup x).map gameD
  | [] => rfl
  | p :: h => by
    have ih := luD_hou (x := x) (h := h)
    unfold luD at ih ⊢
    rw [List.map_cons, List.map_cons, List.zip_cons_cons, List.find?_cons]
    by_cases e : p.1 = x
    · subst e
      simp [List.lookup]
    · have e1 : decide ((Sum.inr p.1 : Key) = .inr x) = false := by simp [e]
      have e2 : (x == p.1) = false := by simpa using fun z => e z.symm
      rw [e1]
      obtain ⟨a, b⟩ := p
      simp only [List.lookup, e2]
      exact ih
theorem lookup_mem {h : Hou} (hn : (h.map (·.1)).Nodup) {p : Str × Game} (hp : p ∈ h) : h.lookup p.1 = some p.2 := by
  induction h with
  | nil => cases hp
  | cons r h ih =>
    have hn' := List.nodup_cons.mp (by simpa using hn : (r.1 :: h.map (·.1)).Nodup)
    obtain ⟨a, b⟩ := r
    rcases List.mem_cons.mp hp with e | e
    · subst e; simp [List.lookup]
    · have ne : (p.1 == a) = false := by
        have : p.1 ∈ h.map (·.1) := List.mem_map.mpr ⟨p, e, rfl⟩
        simp only [beq_eq_false_iff_ne, ne_eq]
        intro z
        rw [z] at this
        exact hn'.1 this
      simp only [List.lookup, ne]
      exact ih hn'.2 e
theorem lookup_mem' {h : Hou} {x : Str} {g : Game} (e : h.lookup x = some g) : (x, g) ∈ h := by
  induction h with
  | nil => cases e
  | cons r h ih =>
    obtain ⟨a, b⟩ := r
    simp only [List.lookup] at e
    split at e
    · rename_i z
      cases e
      have : x = a := by simpa using z
      subst this
      exact List.mem_cons_self
    · exact List.mem_cons_of_mem _ (ih e)
theorem gm_map {h : Hou} (hn : (h.map (·.1)).Nodup) : (h.map (·.1)).map (fun x => (x, gm h x)) = h := by
  rw [List.map_map]
  have : ∀ p ∈ h, ((fun x => (x, gm h x)) ∘ (·.1)) p = id p := fun p hp => by
    show (p.1, gm h p.1) = p
    unfold gm
    rw [lookup_mem hn hp]
    rfl
  rw [List.map_congr_left this, List.map_id]
theorem ok_ascending_rows {m : Option Addr} (E : En K mg C) (F : Fd K mg "ascending_rows" Sascending_rows f fd) : OkD P w K mg base C "ascending_rows" 1 1 none ["rows"] pre_ascending_rows := by
  have nd : (["rows", "key"] : List Str).Nodup := by decide +kernel
  refine F.ok (N := ["rows", "key"]) ⟨rfl, rfl, rfl, nd, rfl, by decide +kernel, by decide +kernel⟩ rfl (F.fun_.bindsN fun _ _ _ _ _ _ us hl => match us, hl with | [_], _ => rfl) (fun cdv A outer s H X hr =>
    (dss_one (ds_ret (de_dc (own := [("key", 1)]) (tg := (.nm 1)) rfl nd (di_lst (de_cb (call_sortedAll rfl) (cp_sorted rfl) rfl E.m_sorted rfl (da_cons (de_ct (call_list_of.or (call_listD rfl)) cp_list rfl E.m_list rfl (da_cons (de_var 0) da_nil)) da_nil))) (blkOk_by (N := ["rows", "key"]) (sc := (defScope Sascending_rows)) (by decide +kernel)) (by decide) (fun _ _ _ _ _ => (pg_name (i := 1) nd rfl (by first | exact Or.inl rfl | exact Or.inr rfl))) (fun _ _ _ _ _ => (de_var 1)) (fun _ _ _ _ _ => (de_ixD (un1 hr) (de_var 0) (de_var 1))))))) ?_
  rintro ds R _ ⟨hh, rfl, hg, h⟩
  simp only [dSeq, dIfS, dNext, dRet, dDrop, dSet, dUnp, dParD, dPar, dSetR, dAug, dOr, dAnd, dNot, dTst, dAndV, dOrV, dNotV, dIfE, dVar, dC, d1, d2, dL, dP, gf, dTup, drLst, drNd, drE, deR, draNil, draCons, daNil, daCons, daStar, itemsD, dChain, dIsi, dIsiC, isiT, dCall, dCallM, st0, stM, setAll, setR, setRs, Tg.set, dApp, dPop, dIxM, dStL, dStD, dBor, dBorT, frzS, diLst, diTup, diRng, diStr, diEnum, dItems, dValues, dListZip, dListRg, dIdx, dGet2, dHouse, dDisp, dPairs, dFrz, isM, tstD]
  have hk : (hh.map fun p => (Sum.inr p.1 : Key)).map kD = (hh.map (·.1)).map D.str := by rw [List.map_map, List.map_map]; rfl
  have src : ∀ (RR : List D → List Sl → Prop), (∀ ys : List Str, ys.Perm (hh.map (·.1)) → RR (ys.map D.str) [.im (houD hh), .no]) → diLst (dP gSorted (daCons (dP (gf fList) (daCons (dVar 0) daNil)) daNil)) [.im (houD hh), .no] RR := fun RR hRR => by
    refine ⟨_, rfl, .lst ((hh.map fun p => (Sum.inr p.1 : Key)).map kD), ?_, ?_⟩
    · simp [fList, houD]
    · refine .inr ⟨hh.map (·.1), hk, by rw [List.length_map]; have := hg.few; omega, fun ys hp => ⟨_, rfl, hRR ys hp⟩⟩
  refine src _ fun ys hp => ?_
  have hl : ys.length ≤ 4 := by rw [hp.length_eq, List.length_map]; exact hg.few
  refine dc_map (R := fun d _ => R d) (tg := .nm 1) (tk := dVar 1) (tv := d2 fIx (dVar 0) (dVar 1)) (ds := ys.map D.str) (vs := [1]) (δ1 := [.im (houD hh), .no]) (fun d => match d with | .str x => .inr x | _ => .inl 0) (fun d => match d with | .str x => gameD (gm hh x) | _ => .non) rfl (by rw [List.length_map]; omega) ?_ (fun d Q hd hQ => ?_) ?_
  · rw [List.map_map]
    have hn : ys.Nodup := hp.symm.nodup hg.nd
    exact List.pairwise_map.mpr (List.Pairwise.imp (fun h z => h (by cases z; rfl)) hn)
  · obtain ⟨x, hx, rfl⟩ := List.mem_map.mp hd
    have hx' := hp.mem_iff.mp hx
    obtain ⟨p, hpm, rfl⟩ := List.mem_map.mp hx'
    refine ⟨_, rfl, _, rfl, _, rfl, _, rfl, _, ?_, _, rfl, hQ _ rfl⟩
    show luD _ _ (.inr p.1) = _
    rw [luD_hou, lookup_mem hg.nd hpm]
    simp [gm, lookup_mem hg.nd hpm]
  · rw [List.map_map, List.map_map]
    have e : R (houD (ys.map fun x => (x, gm hh x))) := h _ (by
      have := hp.map fun x => (x, gm hh x)
      rwa [gm_map hg.nd] at this)
    unfold houD at e
    rw [List.map_map, List.map_map] at e
    exact e

theorem ok_is_move {m : Option Addr} (E : En K mg C) (F : Fd K mg "is_move" Sis_move f fd)
    (G_is_within : ∀ m, OkD P w K mg base C "is_within" 2 3 m ["value", "least", "most"] pre_is_within)
    (G_is_chance : OkD P w K mg base C "is_chance" 3 1 none ["value"] pre_is_chance) : OkD P w K mg base C "is_move" 4 2 none ["value", "size"] pre_is_move := by
  have nd : (["value", "size"] : List Str).Nodup := by decide +kernel
  refine F.ok (N := ["value", "size"]) ⟨rfl, rfl, rfl, nd, rfl, by decide +kernel, by decide +kernel⟩ rfl (F.fun_.bindsN fun _ _ _ _ _ _ us hl => match us, hl with | [_, _], _ => rfl) (fun cdv A outer s H X hr =>
    (dss_cons (ds_if (dt_w (dw_or (dt_not (dt_val (de_isi rfl E.m_isinstance rfl E.m_tuple (de_var 0)))) (dw_or (dt_cmpD (od_ne rfl (un8 hr)) (de_cb call_lenAll cp_len rfl E.m_len rfl (da_cons (de_var 0) da_nil)) de_int) (dw_or1 (dt_not (dt_val (de_callD (G_is_within _) (hr.mono (by decide)) rfl (da_cons (de_ixD (un1 hr) (de_var 0) de_int) (da_cons de_int (da_cons (de_bin od_sub (de_var 1) de_int) da_nil)))))))))) (dss_one (ds_ret de_bl)) dss_nil)
    (dss_one (ds_ret (de_and (de_callD (G_is_within _) (hr.mono (by decide)) rfl (da_cons (de_ixD (un1 hr) (de_var 0) de_int) (da_cons (de_neg (de_globI rfl E.i_MAX_GAIN)) (da_cons (de_globI rfl E.i_MAX_GAIN) da_nil)))) (de_and (de_callD G_is_chance (hr.mono (by decide)) rfl (da_cons (de_ixD (un1 hr) (de_var 0) de_int) da_nil)) (de_one (de_cmpD od_gt (de_ixD (un1 hr) (de_ixD (un1 hr) (de_var 0) de_int) de_int) de_int)))))))) ?_
  rintro ds R _ ⟨r, n, rfl, hn, ⟨h1, h2, h3, h4, h5⟩, h⟩
  simp [dSeq, dIfS, dNext, dRet, dDrop, dSet, dUnp, dParD, dPar, dSetR, dAug, dOr, dAnd, dNot, dTst, dAndV, dOrV, dNotV, dIfE, dVar, dC, d1, d2, dL, dP, gf, dTup, drLst, drNd, drE, deR, draNil, draCons, daNil, daCons, daStar, itemsD, dChain, dIsi, dIsiC, isiT, dCall, dCallM, st0, stM, setAll, setR, setRs, Tg.set, dApp, dPop, dIxM, dStL, dStD, dBor, dBorT, frzS, diLst, diTup, diRng, diStr, diEnum, dItems, dValues, dListZip, dListRg, dIdx, dGet2, dHouse, dDisp, dPairs, dFrz, isM, tstD, fAdd, fSub, fMul, fDiv, fMod, fLt, fLe, fGt, fGe, fI, mulOk, fIs, fIsNot, isNon, fNeg, fLen, fAbs, fMax, fMin, fInt, fTuple, fList, fGames, fIx, atD, ixN, keyD, fEq, fNe, fEqS, fNeS, cmpX, cmpE, sK, eqD, rowD, pre_is_within, pre_is_chance, small]
  refine ⟨_, _, _, ⟨rfl, rfl, rfl⟩, by omega, fun z => by have := z (by omega); omega, fun _ _ => ⟨_, _, _, ⟨rfl, rfl, rfl⟩, by omega, fun _ _ => ⟨_, _, rfl, h5, ?_⟩, fun z => by have := z (by omega); omega⟩⟩
  rw [decide_eq_true h5.1]; exact h

theorem zipL_map {α : Type} (f : α → D) : ∀ xs ys : List α, zipL (xs.map f) (ys.map f) = (xs.zip ys).map fun p => .tup [f p.1, f p.2]
  | [], _ => rfl
  | _ :: _, [] => rfl
  | x :: xs, y :: ys => by
    have ih := zipL_map f xs ys
    unfold zipL at ih ⊢
    rw [List.map_cons, List.map_cons, List.zip_cons_cons, List.map_cons, ih, List.zip_cons_cons, List.map_cons]
theorem zip_tail {P : Row → Row → Prop} : ∀ {rs : List Row}, rs.Pairwise P → ∀ p ∈ rs.zip (rs.drop 1), P p.1 p.2
  | [], _, p, hp => by simp at hp
  | [a], _, p, hp => by simp at hp
  | a :: b :: rs, h, p, hp => by
    have h' := List.pairwise_cons.mp h
    rw [List.drop_one, List.tail_cons, List.zip_cons_cons] at hp
    rcases List.mem_cons.mp hp with e | e
    · rw [e]; exact h'.1 b List.mem_cons_self
    · exact zip_tail h'.2 p (by rw [List.drop_one, List.tail_cons]; exact e)
theorem lexLt_pLt {x y : Row} (h : pLt x y) : HT.lexLt [x.t, x.g] [y.t, y.g] = true := by
  rw [HT.lexLt_cons, HT.lexLt_cons]
  rcases h with h | ⟨h1, h2⟩
  · rw [if_neg (by omega)]; exact decide_eq_true h
  · rw [if_pos h1, if_neg (by omega)]; exact decide_eq_true h2
theorem ok_are_moves {m : Option Addr} (E : En K mg C) (F : Fd K mg "are_moves" Sare_moves f fd)
    (G_sum_of : OkD P w K mg base C "sum_of" 4 1 none ["pairs"] pre_sum_of)
    (G_is_move : OkD P w K mg base C "is_move" 4 2 none ["value", "size"] pre_is_move) : OkD P w K mg base C "are_moves" 5 2 none ["value", "size"] pre_are_moves := by
  have nd : (["value", "size", "move", "one", "other"] : List Str).Nodup := by decide +kernel
  refine F.ok (N := ["value", "size", "move", "one", "other"]) ⟨rfl, rfl, rfl, nd, rfl, by decide +kernel, by decide +kernel⟩ rfl (F.fun_.bindsN fun _ _ _ _ _ _ us hl => match us, hl with | [_, _], _ => rfl) (fun cdv A outer s H X hr =>
    (dss_cons (ds_if (dt_w (dw_or (dt_not (dt_val (de_isi rfl E.m_isinstance rfl E.m_tuple (de_var 0)))) (dw_or1 (dt_not (dt_chain od_le od_le de_int (de_cb call_lenAll cp_len rfl E.m_len rfl (da_cons (de_var 0) da_nil)) (de_globI rfl E.i_MAX_MOVES)))))) (dss_one (ds_ret de_bl)) dss_nil)
    (dss_cons (ds_if (dt_not (dt_val (de_cb (cr_all rfl) cp_all rfl E.m_all rfl (da_cons (de_ofR (dr_lc (own := [("move", 2)]) (tg := (.nm 2)) rfl nd (di_tup (de_var 0)) (blkOk_by (N := ["value", "size", "move", "one", "other"]) (sc := (defScope Sare_moves)) (by decide +kernel)) (by decide) (fun _ _ _ _ _ => (pg_name (i := 2) nd rfl (by first | exact Or.inl rfl | exact Or.inr rfl))) (tt := none) (fun _ _ _ _ _ => dts_nil) (fun _ _ _ _ _ => (de_callD G_is_move (hr.mono (by decide)) rfl (da_cons (de_var 2) (da_cons (de_var 1) da_nil)))))) da_nil)))) (dss_one (ds_ret de_bl)) dss_nil)
    (dss_cons (ds_if (dt_not (dt_val (de_cb (cr_all rfl) cp_all rfl E.m_all rfl (da_cons (de_ofR (dr_lc (own := [("one", 3), ("other", 4)]) (tg := (.tp [3, 4])) rfl nd (di_lst (de_listZip rfl (da_cons (de_var 0) (da_cons (de_slLo (de_var 0)) da_nil)) rfl E.m_list rfl E.m_zip)) (blkOk_by (N := ["value", "size", "move", "one", "other"]) (sc := (defScope Sare_moves)) (by decide +kernel)) (by decide) (fun _ _ _ _ _ => (pg_tup rfl (pgs_cons (pg_name (i := 3) nd rfl (by first | exact Or.inl rfl | exact Or.inr rfl)) (pgs_cons (pg_name (i := 4) nd rfl (by first | exact Or.inl rfl | exact Or.inr rfl)) pgs_nil)))) (tt := none) (fun _ _ _ _ _ => dts_nil) (fun _ _ _ _ _ => (de_cmpD (od_lt (un0 hr)) (de_slHi (de_var 3)) (de_slHi (de_var 4)))))) da_nil)))) (dss_one (ds_ret de_bl)) dss_nil)
    (dss_one (ds_ret (de_cmpD (od_eq rfl (un8 hr)) (de_callD G_sum_of (hr.mono (by decide)) rfl (da_cons (de_ofR (dr_lc (own := [("move", 2)]) (tg := (.nm 2)) rfl nd (di_tup (de_var 0)) (blkOk_by (N := ["value", "size", "move", "one", "other"]) (sc := (defScope Sare_moves)) (by decide +kernel)) (by decide) (fun _ _ _ _ _ => (pg_name (i := 2) nd rfl (by first | exact Or.inl rfl | exact Or.inr rfl))) (tt := none) (fun _ _ _ _ _ => dts_nil) (fun _ _ _ _ _ => (de_ixD (un1 hr) (de_var 2) de_int)))) da_nil)) (de_tup (da_cons de_int (da_cons de_int da_nil)))))))))) ?_
  rintro ds R _ ⟨rs, n, rfl, hn, hg, h⟩
  have l1 := hg.one
  have l2 := hg.few
  have lm : (rs.map rowD).length = rs.length := List.length_map _
  simp [dSeq, dIfS, dNext, dRet, dDrop, dSet, dUnp, dParD, dPar, dSetR, dAug, dOr, dAnd, dNot, dTst, dAndV, dOrV, dNotV, dIfE, dVar, dC, d1, d2, dL, dP, gf, dTup, drLst, drNd, drE, deR, draNil, draCons, daNil, daCons, daStar, itemsD, dChain, dIsi, dIsiC, isiT, dCall, dCallM, st0, stM, setAll, setR, setRs, Tg.set, dApp, dPop, dIxM, dStL, dStD, dBor, dBorT, frzS, diLst, diTup, diRng, diStr, diEnum, dItems, dValues, dListZip, dListRg, dIdx, dGet2, dHouse, dDisp, dPairs, dFrz, isM, tstD, fAdd, fSub, fMul, fDiv, fMod, fLt, fLe, fGt, fGe, fI, mulOk, fIs, fIsNot, isNon, fNeg, fLen, fAbs, fMax, fMin, fInt, fTuple, fList, fGames, fIx, atD, ixN, keyD, fEq, fNe, fEqS, fNeS, cmpX, cmpE, sK, eqD, rowsD]
  refine .inr ⟨by omega, .inr ⟨by omega, ?_⟩⟩
  refine lcMap (fun _ => .bl true) (fun RR h => ⟨_, rfl, _, rfl, h⟩) rfl (by rw [lm]; omega) (fun d Q hd hQ => ?_) ⟨_, fAll_true, .inr ⟨rfl, ?_⟩⟩
  · obtain ⟨r, hr, rfl⟩ := List.mem_map.mp hd
    exact ⟨_, rfl, _, rfl, _, rfl, rfl, r, n, rfl, hn, hg.mv r hr, hQ _ rfl⟩
  refine lcMap (ds := zipL (rs.map rowD) ((rs.drop 1).map rowD)) (δ1 := [.im (.tup (rs.map rowD)), .im (.int n), .no, .no, .no]) (fun _ => .bl true) (fun RR h => ?_) rfl ?_ (fun d Q hd hQ => ?_) ⟨_, fAll_true, .inr ⟨rfl, ?_⟩⟩
  · have e : cutD (rs.map rowD) (some 1) none = (rs.drop 1).map rowD := by
      unfold cutD
      have s1 : HT.sIx (rs.map rowD).length 0 (some 1) = 1 := by
        simp [HT.sIx, lm]
        omega
      have s2 : HT.sIx (rs.map rowD).length (rs.map rowD).length none = (rs.map rowD).length := rfl
      rw [s1, s2, List.map_drop, List.take_of_length_le (by rw [List.length_drop]; omega)]
    refine ⟨_, rfl, _, rfl, _, rfl, _, _, rfl, _, rfl, ?_⟩
    rw [e]
    exact h
  · rw [zipL_map, List.length_map, List.length_zip, List.length_drop]; omega
  · rw [zipL_map] at hd
    obtain ⟨⟨x, y⟩, hp, rfl⟩ := List.mem_map.mp hd
    have hlt := lexLt_pLt (zip_tail hg.asc (x, y) hp)
    refine ⟨_, rfl, _, rfl, _, rfl, _, rfl, _, rfl, .bl (HT.lexLt [x.t, x.g] [y.t, y.g]), rfl, ?_⟩
    rw [hlt]
    exact hQ _ rfl
  refine lcMap (ds := rs.map rowD) (fun d => match d with | .tup [_, _, c] => c | _ => .non) (fun RR h => ⟨_, rfl, _, rfl, h⟩) rfl (by rw [lm]; omega) (fun d Q hd hQ => ?_) ?_
  · obtain ⟨r, hr, rfl⟩ := List.mem_map.mp hd
    exact ⟨_, rfl, _, rfl, _, rfl, hQ _ rfl⟩
  refine ⟨rs.map fun r => (r.a, r.b), (1, 1), ?_, hg.sum, _, rfl, h⟩
  show [D.lst _] = [D.lst _]
  rw [List.map_map, List.map_map]
  rfl

theorem ok_is_game {m : Option Addr} (E : En K mg C) (F : Fd K mg "is_game" Sis_game f fd)
    (G_are_moves : OkD P w K mg base C "are_moves" 5 2 none ["value", "size"] pre_are_moves) : OkD P w K mg base C "is_game" 6 1 none ["value"] pre_is_game := by
  have nd : (["value", "moves"] : List Str).Nodup := by decide +kernel
  refine F.ok (N := ["value", "moves"]) ⟨rfl, rfl, rfl, nd, rfl, by decide +kernel, by decide +kernel⟩ rfl (F.fun_.bindsN fun _ _ _ _ _ _ us hl => match us, hl with | [_], _ => rfl) (fun cdv A outer s H X hr =>
    (dss_cons (ds_if (dt_w (dw_or (dt_not (dt_val (de_isi rfl E.m_isinstance rfl E.m_tuple (de_var 0)))) (dw_or1 (dt_not (dt_chain od_le od_le de_int (de_cb call_lenAll cp_len rfl E.m_len rfl (da_cons (de_var 0) da_nil)) (de_globI rfl E.i_MAX_STANDINGS)))))) (dss_one (ds_ret de_bl)) dss_nil)
    (dss_one (ds_ret (de_cb (cr_all rfl) cp_all rfl E.m_all rfl (da_cons (de_ofR (dr_lc (own := [("moves", 1)]) (tg := (.nm 1)) rfl nd (di_tup (de_var 0)) (blkOk_by (N := ["value", "moves"]) (sc := (defScope Sis_game)) (by decide +kernel)) (by decide) (fun _ _ _ _ _ => (pg_name (i := 1) nd rfl (by first | exact Or.inl rfl | exact Or.inr rfl))) (tt := none) (fun _ _ _ _ _ => dts_nil) (fun _ _ _ _ _ => (de_callD G_are_moves (hr.mono (by decide)) rfl (da_cons (de_var 1) (da_cons (de_cb call_lenAll cp_len rfl E.m_len rfl (da_cons (de_var 0) da_nil)) da_nil)))))) da_nil)))))) ?_
  rintro ds R _ ⟨g, rfl, hg, h⟩
  have l1 := hg.one
  have l2 := hg.few
  have lm : (g.map rowsD).length = g.length := List.length_map _
  simp [dSeq, dIfS, dNext, dRet, dDrop, dSet, dUnp, dParD, dPar, dSetR, dAug, dOr, dAnd, dNot, dTst, dAndV, dOrV, dNotV, dIfE, dVar, dC, d1, d2, dL, dP, gf, dTup, drLst, drNd, drE, deR, draNil, draCons, daNil, daCons, daStar, itemsD, dChain, dIsi, dIsiC, isiT, dCall, dCallM, st0, stM, setAll, setR, setRs, Tg.set, dApp, dPop, dIxM, dStL, dStD, dBor, dBorT, frzS, diLst, diTup, diRng, diStr, diEnum, dItems, dValues, dListZip, dListRg, dIdx, dGet2, dHouse, dDisp, dPairs, dFrz, isM, tstD, fAdd, fSub, fMul, fDiv, fMod, fLt, fLe, fGt, fGe, fI, mulOk, fIs, fIsNot, isNon, fNeg, fLen, fAbs, fMax, fMin, fInt, fTuple, fList, fGames, fIx, atD, ixN, keyD, fEq, fNe, fEqS, fNeS, cmpX, cmpE, sK, eqD, gameD]
  refine .inr ⟨by omega, .inr ⟨by omega, ?_⟩⟩
  refine lcMap (fun _ => .bl true) (fun RR h => ⟨_, rfl, _, rfl, h⟩) rfl (by rw [lm]; omega) (fun d Q hd hQ => ?_) ⟨_, fAll_true, h⟩
  obtain ⟨rs, hr, rfl⟩ := List.mem_map.mp hd
  exact ⟨_, rfl, _, rfl, _, rfl, _, rfl, rfl, rs, g.length, (by rw [lm]), by omega, hg.ms rs hr, hQ _ rfl⟩

theorem ok_are_games {m : Option Addr} (E : En K mg C) (F : Fd K mg "are_games" Sare_games f fd)
    (G_is_game : OkD P w K mg base C "is_game" 6 1 none ["value"] pre_is_game)
    (G_is_word : ∀ m, OkD P w K mg base C "is_word" 1 1 m ["value"] pre_is_word) : OkD P w K mg base C "are_games" 7 1 none ["value"] pre_are_games := by
  have nd : (["value", "games", "game", "name"] : List Str).Nodup := by decide +kernel
  refine F.ok (N := ["value", "games", "game", "name"]) ⟨rfl, rfl, rfl, nd, rfl, by decide +kernel, by decide +kernel⟩ rfl (F.fun_.bindsN fun _ _ _ _ _ _ us hl => match us, hl with | [_], _ => rfl) (fun cdv A outer s H X hr =>
    (dss_cons (ds_if (dt_w (dw_or (dt_not (dt_val (de_isi rfl E.m_isinstance rfl E.m_dict (de_var 0)))) (dw_or (dt_not (dt_chain od_le od_le de_int (de_cb call_lenAll cp_len rfl E.m_len rfl (da_cons (de_var 0) da_nil)) (de_globI rfl E.i_MAX_GAMES))) (dw_or1 (dt_not (dt_val (de_cb (cr_all rfl) cp_all rfl E.m_all rfl (da_cons (de_ofR (dr_lcKeys (p := (.sl 0)) (own := [("name", 3)]) (tg := (.nm 3)) rfl nd rfl (pe_var (i := 0) rfl (by first | exact Or.inl rfl | exact Or.inr (Or.inl rfl) | exact Or.inr (Or.inr rfl))) (blkOk_by (N := ["value", "games", "game", "name"]) (sc := (defScope Sare_games)) (by decide +kernel)) (by decide) (fun _ _ _ _ _ => (pg_name (i := 3) nd rfl (by first | exact Or.inl rfl | exact Or.inr rfl))) (tt := none) (fun _ _ _ _ _ _ => dts_nil) (fun _ _ _ _ _ _ => (de_callD (G_is_word _) (hr.mono (by decide)) rfl (da_cons (de_var 3) da_nil))))) da_nil)))))))) (dss_one (ds_ret de_bl)) dss_nil)
    (dss_cons (ds_set (i := 1) nd (de_values rfl rfl (de_var 0) rfl E.m_list))
    (dss_one (ds_ret (de_and (de_cb (cr_all rfl) cp_all rfl E.m_all rfl (da_cons (de_ofR (dr_lc (own := [("game", 2)]) (tg := (.nm 2)) rfl nd (di_lst (de_var 1)) (blkOk_by (N := ["value", "games", "game", "name"]) (sc := (defScope Sare_games)) (by decide +kernel)) (by decide) (fun _ _ _ _ _ => (pg_name (i := 2) nd rfl (by first | exact Or.inl rfl | exact Or.inr rfl))) (tt := none) (fun _ _ _ _ _ => dts_nil) (fun _ _ _ _ _ => (de_callD G_is_game (hr.mono (by decide)) rfl (da_cons (de_var 2) da_nil))))) da_nil)) (de_one (de_cmpD (od_eq rfl (un8 hr)) (de_cb call_lenAll cp_len rfl E.m_len rfl (da_cons (de_ct (call_setL rfl) (cp_set rfl) rfl E.m_set rfl (da_cons (de_ofR (dr_lc (own := [("game", 2)]) (tg := (.nm 2)) rfl nd (di_lst (de_var 1)) (blkOk_by (N := ["value", "games", "game", "name"]) (sc := (defScope Sare_games)) (by decide +kernel)) (by decide) (fun _ _ _ _ _ => (pg_name (i := 2) nd rfl (by first | exact Or.inl rfl | exact Or.inr rfl))) (tt := none) (fun _ _ _ _ _ => dts_nil) (fun _ _ _ _ _ => (de_cb call_lenAll cp_len rfl E.m_len rfl (da_cons (de_var 2) da_nil))))) da_nil)) da_nil)) de_int)))))))) ?_
  rintro ds R _ ⟨hh, rfl, hg, h⟩
  have l1 := hg.one
  have l2 := hg.few
  have lm : (hh.map fun p => (Sum.inr p.1 : Key)).length = hh.length := List.length_map _
  have lg : (hh.map fun p => gameD p.2).length = hh.length := List.length_map _
  simp [dSeq, dIfS, dNext, dRet, dDrop, dSet, dUnp, dParD, dPar, dSetR, dAug, dOr, dAnd, dNot, dTst, dAndV, dOrV, dNotV, dIfE, dVar, dC, d1, d2, dL, dP, gf, dTup, drLst, drNd, drE, deR, draNil, draCons, daNil, daCons, daStar, itemsD, dChain, dIsi, dIsiC, isiT, dCall, dCallM, st0, stM, setAll, setR, setRs, Tg.set, dApp, dPop, dIxM, dStL, dStD, dBor, dBorT, frzS, diLst, diTup, diRng, diStr, diEnum, dItems, dValues, dListZip, dListRg, dIdx, dGet2, dHouse, dDisp, dPairs, dFrz, isM, tstD, fAdd, fSub, fMul, fDiv, fMod, fLt, fLe, fGt, fGe, fI, mulOk, fIs, fIsNot, isNon, fNeg, fLen, fAbs, fMax, fMin, fInt, fTuple, fList, fGames, fIx, atD, ixN, keyD, fEq, fNe, fEqS, fNeS, cmpX, cmpE, sK, eqD, houD]
  refine .inr ⟨by omega, .inr ⟨by omega, ?_⟩⟩
  refine lcK_map (fun _ => .bl true) rfl rfl (by rw [lm]; omega) (fun d Q hd hQ => ?_) ⟨_, fAll_true, .inr ⟨rfl, ?_⟩⟩
  · rw [if_neg Bool.false_ne_true] at hd
    obtain ⟨k, hk, rfl⟩ := List.mem_map.mp hd
    obtain ⟨p, hp, rfl⟩ := List.mem_map.mp hk
    exact ⟨_, rfl, _, rfl, rfl, p.1, rfl, hg.word p hp, hQ _ rfl⟩
  refine ⟨_, rfl, _, _, rfl, ?_⟩
  refine lcMap (ds := hh.map fun p => gameD p.2) (fun _ => .bl true) (fun RR h => ⟨_, rfl, _, rfl, h⟩) rfl (by rw [lg]; omega) (fun d Q hd hQ => ?_) ⟨_, fAll_true, .inr ⟨rfl, ?_⟩⟩
  · obtain ⟨p, hp, rfl⟩ := List.mem_map.mp hd
    exact ⟨_, rfl, _, rfl, rfl, p.2, rfl, hg.game p hp, hQ _ rfl⟩
  obtain ⟨n, hn⟩ := hg.same
  refine lcMap (ds := hh.map fun p => gameD p.2) (fun _ => .int (n : Int)) (fun RR h => ⟨_, rfl, _, rfl, h⟩) rfl (by rw [lg]; omega) (fun d Q hd hQ => ?_) ?_
  · obtain ⟨p, hp, rfl⟩ := List.mem_map.mp hd
    refine ⟨_, rfl, _, rfl, _, rfl, ?_⟩
    have e := hn p hp
    show Q (.int ((p.2.map rowsD).length : Nat)) _
    rw [List.length_map, e]
    exact hQ _ rfl
  have es : sortU ((hh.map fun p => gameD p.2).map fun _ => (n : Int)) = [(n : Int)] := by
    refine asc_ext (sortU_asc _) (by simp) fun k => ?_
    rw [mem_sortU]
    cases hh with
    | nil => simp at l1
    | cons p hh =>
      simp
      exact fun _ _ _ z => z.symm
  refine ⟨.set [(n : Int)], ?_, .int 1, rfl, .bl true, ?_, h⟩
  · show fSet [.lst ((hh.map fun p => gameD p.2).map fun _ => .int (n : Int))] = _
    have e0 : (hh.map fun p => gameD p.2).map (fun _ => D.int (n : Int)) = ((hh.map fun p => gameD p.2).map fun _ => (n : Int)).map D.int := by rw [List.map_map (l := hh.map fun p => gameD p.2)]; rfl
    rw [e0]
    unfold fSet
    simp only
    rw [if_pos (by simp; omega), allI_map, ← es]
    rfl
  · simp [eqD]

theorem ok_require_house {m : Option Addr} (E : En K mg C) (F : Fd K mg "require_house" Srequire_house f fd) : OkD P w K mg base C "require_house" 1 1 none ["value"] pre_require_house := by
  have nd : (["value"] : List Str).Nodup := by decide +kernel
  refine F.ok (N := ["value"]) ⟨rfl, rfl, rfl, nd, rfl, by decide +kernel, by decide +kernel⟩ rfl (F.fun_.bindsN fun _ _ _ _ _ _ us hl => match us, hl with | [_], _ => rfl) (fun cdv A outer s H X hr =>
    (dss_one (ds_if (dt_not (dt_val (de_isiC E.isC rfl E.m_isinstance rfl E.m_House (de_var 0)))) (dss_one (ds_never _)) dss_nil))) ?_
  rintro ds R _ ⟨es, rfl, h⟩
  simp [dSeq, dIfS, dNext, dRet, dDrop, dSet, dUnp, dParD, dPar, dSetR, dAug, dOr, dAnd, dNot, dTst, dAndV, dOrV, dNotV, dIfE, dVar, dC, d1, d2, dL, dP, gf, dTup, drLst, drNd, drE, deR, draNil, draCons, daNil, daCons, daStar, itemsD, dChain, dIsi, dIsiC, isiT, dCall, dCallM, st0, stM, setAll, setR, setRs, Tg.set, dApp, dPop, dIxM, dStL, dStD, dBor, dBorT, frzS, diLst, diTup, diRng, diStr, diEnum, dItems, dValues, dListZip, dListRg, dIdx, dGet2, dHouse, dDisp, dPairs, dFrz, isM, tstD, fAdd, fSub, fMul, fDiv, fMod, fLt, fLe, fGt, fGe, fI, mulOk, fIs, fIsNot, isNon, fNeg, fLen, fAbs, fMax, fMin, fInt, fTuple, fList, fGames, fIx, atD, ixN, keyD, fEq, fNe, fEqS, fNeS, cmpX, cmpE, sK, eqD]
  exact h

theorem mapI_int {ns : List Int} : allI (ns.map D.int) = some ns := allI_map ns
theorem ok_gains_in {m : Option Addr} (E : En K mg C) (F : Fd K mg "gains_in" Sgains_in f fd) : OkD P w K mg base C "gains_in" 1 1 none ["game"] pre_gains_in := by
  have nd : (["game", "moves", "to", "gain", "chance"] : List Str).Nodup := by decide +kernel
  refine F.ok (N := ["game", "moves", "to", "gain", "chance"]) ⟨rfl, rfl, rfl, nd, rfl, by decide +kernel, by decide +kernel⟩ rfl (F.fun_.bindsN fun _ _ _ _ _ _ us hl => match us, hl with | [_], _ => rfl) (fun cdv A outer s H X hr =>
    (dss_one (ds_ret (de_cb (call_sortedAll rfl) (cp_sorted rfl) rfl E.m_sorted rfl (da_cons (de_ct (call_setL rfl) (cp_set rfl) rfl E.m_set rfl (da_cons (de_ofR (dr_lc2 (own := [("moves", 1), ("to", 2), ("gain", 3), ("chance", 4)]) (vs1 := [2, 3, 4]) (tg := (.nm 1)) (tg1 := (.tp [2, 3, 4])) rfl nd (di_tup (de_var 0)) (blkOk_by (N := ["game", "moves", "to", "gain", "chance"]) (sc := (defScope Sgains_in)) (by decide +kernel)) (by decide) (by decide) (by decide) (fun _ _ _ _ _ => (pg_name (i := 1) nd rfl (by first | exact Or.inl rfl | exact Or.inr rfl))) (fun _ _ _ _ _ => (di_tup (de_var 1))) (fun _ _ _ _ _ => (pg_tup rfl (pgs_cons (pg_name (i := 2) nd rfl (by first | exact Or.inl rfl | exact Or.inr rfl)) (pgs_cons (pg_name (i := 3) nd rfl (by first | exact Or.inl rfl | exact Or.inr rfl)) (pgs_cons (pg_name (i := 4) nd rfl (by first | exact Or.inl rfl | exact Or.inr rfl)) pgs_nil))))) (fun _ _ _ _ _ => (de_var 3)))) da_nil)) da_nil))))) ?_
  rintro ds R _ ⟨g, rfl, hl, h⟩
  have lg : (g.map rowsD).length = g.length := List.length_map _
  simp [dSeq, dIfS, dNext, dRet, dDrop, dSet, dUnp, dParD, dPar, dSetR, dAug, dOr, dAnd, dNot, dTst, dAndV, dOrV, dNotV, dIfE, dVar, dC, d1, d2, dL, dP, gf, dTup, drLst, drNd, drE, deR, draNil, draCons, daNil, daCons, daStar, itemsD, dChain, dIsi, dIsiC, isiT, dCall, dCallM, st0, stM, setAll, setR, setRs, Tg.set, dApp, dPop, dIxM, dStL, dStD, dBor, dBorT, frzS, diLst, diTup, diRng, diStr, diEnum, dItems, dValues, dListZip, dListRg, dIdx, dGet2, dHouse, dDisp, dPairs, dFrz, isM, tstD, fAdd, fSub, fMul, fDiv, fMod, fLt, fLe, fGt, fGe, fI, mulOk, fIs, fIsNot, isNon, fNeg, fLen, fAbs, fMax, fMin, fInt, fTuple, fList, fGames, fIx, atD, ixN, keyD, fEq, fNe, fEqS, fNeS, cmpX, cmpE, sK, eqD, gameD]
  refine ⟨_, rfl, _, rfl, fun i acc δ => acc = ((g.take i).flatten.map fun r => .int r.g) ∧ δ = [.im (.tup (g.map rowsD)), .no, .no, .no, .no], rfl, ⟨by simp, rfl⟩, ?_, ?_⟩
  · rintro i d acc δ2 hd ⟨rfl, rfl⟩
    rw [List.getElem?_map] at hd
    cases hp : g[i]? with
    | none => rw [hp] at hd; cases hd
    | some rs =>
      rw [hp] at hd
      cases hd
      have hi := (List.getElem?_eq_some_iff.mp hp).1
      have et : g.take (i + 1) = g.take i ++ [rs] := by rw [List.take_add_one, hp]; rfl
      refine ⟨_, rfl, _, rfl, _, rfl, fun j acc1 δ => acc1 = ((g.take i).flatten.map fun r => .int r.g) ++ ((rs.take j).map fun r => .int r.g) ∧ δ = [.im (.tup (g.map rowsD)), .im (rowsD rs), .no, .no, .no], ⟨by simp, rfl⟩, ?_, ?_⟩
      · rintro j d1 acc1 δ5 hd1 ⟨rfl, rfl⟩
        rw [List.getElem?_map] at hd1
        cases hr : rs[j]? with
        | none => rw [hr] at hd1; cases hd1
        | some r =>
          rw [hr] at hd1
          cases hd1
          have et2 : rs.take (j + 1) = rs.take j ++ [r] := by rw [List.take_add_one, hr]; rfl
          refine ⟨?_, _, rfl, _, rfl, ⟨by rw [et2]; simp, rfl⟩⟩
          have h1 : ((g.take (i + 1)).flatten).length ≤ g.flatten.length := by
            have : g.flatten = (g.take (i + 1)).flatten ++ (g.drop (i + 1)).flatten := by rw [← List.flatten_append, List.take_append_drop]
            rw [this, List.length_append]; omega
          unfold gainsL at hl
          rw [List.length_map] at hl
          rw [et, List.flatten_append, List.length_append] at h1
          have h2 : (List.flatten [rs]).length = rs.length := by simp
          have h3 : (rs.take j).length ≤ rs.length := by rw [List.length_take]; omega
          rw [List.length_append, List.length_map, List.length_map]
          omega
      · rintro acc1 δ5 ⟨rfl, rfl⟩
        refine ⟨?_, rfl⟩
        rw [et, List.flatten_append, List.map_append, List.length_map, List.take_length]
        simp
  · rintro acc δ2 ⟨rfl, rfl⟩
    rw [lg, List.take_length]
    have e0 : (g.flatten.map fun r => D.int r.g) = (gainsL g).map D.int := by unfold gainsL; rw [List.map_map]; rfl
    refine ⟨.set (gainsU g), ?_, ⟨sortU_asc _, Nat.lt_of_le_of_lt (sortU_len _) hl, h⟩⟩
    show fSet [.lst _] = _
    rw [e0]
    unfold fSet
    simp only
    rw [if_pos (by rw [List.length_map]; omega), allI_map]
    rfl

theorem ok__law_gains {m : Option Addr} (E : En K mg C) (F : Fd K mg "_law_gains" S_law_gains f fd) : OkD P w K mg base C "_law_gains" 1 1 none ["_law_game_here"] pre__law_gains := by
  have nd : (["_law_game_here", "_law_found", "_law_moves_here", "_law_to", "_law_gain", "_law_chance"] : List Str).Nodup := by decide +kernel
  refine F.ok (N := ["_law_game_here", "_law_found", "_law_moves_here", "_law_to", "_law_gain", "_law_chance"]) ⟨rfl, rfl, rfl, nd, rfl, by decide +kernel, by decide +kernel⟩ rfl (F.fun_.bindsN fun _ _ _ _ _ _ us hl => match us, hl with | [_], _ => rfl) (fun cdv A outer s H X hr =>
    (dss_cons (ds_set (i := 1) nd (de_ofR (dr_lst da_nil)))
    (dss_cons (ds_for (tg := (.nm 2)) PassesOwn.never rfl (di_tup (de_var 0)) (pg_name (i := 2) nd rfl (by first | exact Or.inl rfl | exact Or.inr rfl)) (dss_one (ds_set (i := 1) nd (de_bin od_add (de_var 1) (de_ofR (dr_lc (own := [("_law_to", 3), ("_law_gain", 4), ("_law_chance", 5)]) (tg := (.tp [3, 4, 5])) rfl nd (di_tup (de_var 2)) (blkOk_by (N := ["_law_game_here", "_law_found", "_law_moves_here", "_law_to", "_law_gain", "_law_chance"]) (sc := (defScope S_law_gains)) (by decide +kernel)) (by decide) (fun _ _ _ _ _ => (pg_tup rfl (pgs_cons (pg_name (i := 3) nd rfl (by first | exact Or.inl rfl | exact Or.inr rfl)) (pgs_cons (pg_name (i := 4) nd rfl (by first | exact Or.inl rfl | exact Or.inr rfl)) (pgs_cons (pg_name (i := 5) nd rfl (by first | exact Or.inl rfl | exact Or.inr rfl)) pgs_nil))))) (tt := none) (fun _ _ _ _ _ => dts_nil) (fun _ _ _ _ _ => (de_var 4))))))))
    (dss_one (ds_ret (de_cb (call_sortedAll rfl) (cp_sorted rfl) rfl E.m_sorted rfl (da_cons (de_ct (call_setL rfl) (cp_set rfl) rfl E.m_set rfl (da_cons (de_var 1) da_nil)) da_nil))))))) ?_
  rintro ds R _ ⟨g, rfl, hl, h⟩
  have lg : (g.map rowsD).length = g.length := List.length_map _
  simp only [dSeq, dIfS, dNext, dRet, dDrop, dSet, dUnp, dParD, dPar, dSetR, dAug, dOr, dAnd, dNot, dTst, dAndV, dOrV, dNotV, dIfE, dVar, dC, d1, d2, dL, dP, gf, dTup, drLst, drNd, drE, deR, draNil, draCons, daNil, daCons, daStar, itemsD, dChain, dIsi, dIsiC, isiT, dCall, dCallM, st0, stM, setAll, setR, setRs, Tg.set, dApp, dPop, dIxM, dStL, dStD, dBor, dBorT, frzS, diLst, diTup, diRng, diStr, diEnum, dItems, dValues, dListZip, dListRg, dIdx, dGet2, dHouse, dDisp, dPairs, dFrz, isM, tstD]
  have bound : ∀ i rs, g[i]? = some rs → ((g.take i).flatten.map fun r => D.int r.g).length + rs.length ≤ 64 := fun i rs hp => by
    have et : g.take (i + 1) = g.take i ++ [rs] := by rw [List.take_add_one, hp]; rfl
    have h1 : ((g.take (i + 1)).flatten).length ≤ g.flatten.length := by
      have : g.flatten = (g.take (i + 1)).flatten ++ (g.drop (i + 1)).flatten := by rw [← List.flatten_append, List.take_append_drop]
      rw [this, List.length_append]; omega
    unfold gainsL at hl
    rw [List.length_map] at hl
    rw [et, List.flatten_append, List.length_append] at h1
    have h2 : (List.flatten [rs]).length = rs.length := by simp
    rw [List.length_map]
    omega
  refine ⟨by decide, forD (ds := g.map rowsD) (fun i δ => ∃ a b c e, δ = [.im (gameD g), .im (.lst ((g.take i).flatten.map fun r => .int r.g)), a, b, c, e] ∧ isM (some b) = false ∧ isM (some c) = false ∧ isM (some e) = false) (fun RR h => ⟨_, rfl, _, rfl, h⟩) ⟨_, _, _, _, rfl, rfl, rfl, rfl⟩ ?_ ?_⟩
  · rintro i d δ2 hd ⟨a, b, c, e, rfl, hb, hc, he⟩
    rw [List.getElem?_map] at hd
    cases hp : g[i]? with
    | none => rw [hp] at hd; cases hd
    | some rs =>
      rw [hp] at hd
      cases hd
      have hb1 := bound i rs hp
      have et : g.take (i + 1) = g.take i ++ [rs] := by rw [List.take_add_one, hp]; rfl
      have lr : (rs.map rowD).length = rs.length := List.length_map _
      refine ⟨_, rfl, _, rfl, ?_⟩
      refine lcMap (ds := rs.map rowD) (δ1 := [.im (gameD g), .im (.lst ((g.take i).flatten.map fun r => .int r.g)), .im (rowsD rs), b, c, e]) (fun d => match d with | .tup [_, x, _] => x | _ => .non) (fun RR h => ⟨_, rfl, _, rfl, h⟩) ?_ (by rw [lr]; omega) (fun d Q hd hQ => ?_) ?_
      · show (!isM (some b) && (!isM (some c) && (!isM (some e) && true))) = true
        rw [hb, hc, he]; rfl
      · obtain ⟨r, hr, rfl⟩ := List.mem_map.mp hd
        exact ⟨_, rfl, _, rfl, hQ _ rfl⟩
      · refine ⟨.lst (((g.take (i + 1)).flatten).map fun r => .int r.g), ?_, _, _, _, _, rfl, hb, hc, he⟩
        have e1 : (rs.map rowD).map (fun d => match d with | .tup [_, x, _] => x | _ => D.non) = rs.map fun r => D.int r.g := by rw [List.map_map]; rfl
        show fAdd (.lst _) (.lst ((rs.map rowD).map _)) = _
        rw [e1, et, List.flatten_append, List.map_append]
        show (if _ then some (D.lst _) else none) = _
        rw [if_pos (by rw [List.length_map (as := rs)]; omega)]
        simp
  · rintro δ2 ⟨a, b, c, e, rfl, _⟩
    rw [lg, List.take_length]
    have e0 : (g.flatten.map fun r => D.int r.g) = (gainsL g).map D.int := by unfold gainsL; rw [List.map_map]; rfl
    refine ⟨_, rfl, .set (gainsU g), ?_, ⟨sortU_asc _, Nat.lt_of_le_of_lt (sortU_len _) hl, h⟩⟩
    show fSet [.lst _] = _
    rw [e0]
    unfold fSet
    simp only
    rw [if_pos (by rw [List.length_map]; omega), allI_map]
    rfl

end
end K46

set_option Elab.async false
set_option linter.all false
set_option maxRecDepth 100000
set_option maxHeartbeats 2000000
namespace K46
open PySem PySem.Spec PyProof.Rows L2
section
variable {P : Program} {w : World} {K : PySem.W.Frag} {mg : Str → Option Value} {base : Heap} {C f : Addr} {fd : FuncData}
theorem ok_is_state_in {m : Option Addr} (E : En K mg C) (F : Fd K mg "is_state_in" Sis_state_in f fd)
    (G_gains_in : OkD P w K mg base C "gains_in" 1 1 none ["game"] pre_gains_in)
    (G_is_word : ∀ m, OkD P w K mg base C "is_word" 1 1 m ["value"] pre_is_word)
    (G_is_within : ∀ m, OkD P w K mg base C "is_within" 2 3 m ["value", "least", "most"] pre_is_within) : OkD P w K mg base C "is_state_in" 3 3 none ["house", "value", "size"] pre_is_state_in := by
  have nd : (["house", "value", "size", "gains", "to", "gain"] : List Str).Nodup := by decide +kernel
  refine F.ok (N := ["house", "value", "size", "gains", "to", "gain"]) ⟨rfl, rfl, rfl, nd, rfl, by decide +kernel, by decide +kernel⟩ rfl (F.fun_.bindsN fun _ _ _ _ _ _ us hl => match us, hl with | [_, _, _], _ => rfl) (fun cdv A outer s H X hr =>
    (dss_cons (ds_if (dt_w (dw_or (dt_not (dt_val (de_isi rfl E.m_isinstance rfl E.m_tuple (de_var 1)))) (dw_or (dt_cmpD (od_ne rfl (un8 hr)) (de_cb call_lenAll cp_len rfl E.m_len rfl (da_cons (de_var 1) da_nil)) de_int) (dw_or (dt_not (dt_val (de_callD (G_is_word _) (hr.mono (by decide)) rfl (da_cons (de_ixD (un1 hr) (de_var 1) de_int) da_nil)))) (dw_or1 (dt_cmpD (od_notIn (un65 hr)) (de_ixD (un1 hr) (de_var 1) de_int) (de_games E.cls E.na_games (de_var 0)))))))) (dss_one (ds_ret de_bl)) dss_nil)
    (dss_cons (ds_set (i := 3) nd (de_callD G_gains_in (hr.mono (by decide)) rfl (da_cons (de_ixD (un1 hr) (de_games E.cls E.na_games (de_var 0)) (de_ixD (un1 hr) (de_var 1) de_int)) da_nil)))
    (dss_cons (ds_if (dt_w (dw_or (dt_not (dt_val (de_isi rfl E.m_isinstance rfl E.m_dict (de_ixD (un1 hr) (de_var 1) de_int)))) (dw_or1 (dt_cmpD (od_ne rfl (un8 hr)) (de_cb call_lenAll cp_len rfl E.m_len rfl (da_cons (de_ixD (un1 hr) (de_var 1) de_int) da_nil)) (de_cb call_lenAll cp_len rfl E.m_len rfl (da_cons (de_var 3) da_nil)))))) (dss_one (ds_ret de_bl)) dss_nil)
    (dss_cons (ds_if (dt_not (dt_val (de_cb (cr_all rfl) cp_all rfl E.m_all rfl (da_cons (de_ofR (dr_lcKeys (p := (.it 1 1)) (own := [("gain", 5)]) (tg := (.nm 5)) rfl nd rfl (pe_ix ix_tup (pe_var (i := 1) rfl (by first | exact Or.inl rfl | exact Or.inr (Or.inl rfl) | exact Or.inr (Or.inr rfl))) pe_int (by intro _ _; rfl)) (blkOk_by (N := ["house", "value", "size", "gains", "to", "gain"]) (sc := (defScope Sis_state_in)) (by decide +kernel)) (by decide) (fun _ _ _ _ _ => (pg_name (i := 5) nd rfl (by first | exact Or.inl rfl | exact Or.inr rfl))) (tt := none) (fun _ _ _ _ _ _ => dts_nil) (fun _ _ _ _ _ _ => (de_and (de_callD (G_is_within _) (hr.mono (by decide)) rfl (da_cons (de_var 5) (da_cons (de_neg de_int) (da_cons de_int da_nil)))) (de_one (de_cmpD (od_in (un65 hr)) (de_var 5) (de_var 3))))))) da_nil)))) (dss_one (ds_ret de_bl)) dss_nil)
    (dss_one (ds_ret (de_cb (cr_all rfl) cp_all rfl E.m_all rfl (da_cons (de_ofR (dr_lcVals (p := (.it 1 1)) (own := [("to", 4)]) (tg := (.nm 4)) rfl nd rfl (pe_ix ix_tup (pe_var (i := 1) rfl (by first | exact Or.inl rfl | exact Or.inr (Or.inl rfl) | exact Or.inr (Or.inr rfl))) pe_int (by intro _ _; rfl)) (blkOk_by (N := ["house", "value", "size", "gains", "to", "gain"]) (sc := (defScope Sis_state_in)) (by decide +kernel)) (by decide) (fun _ _ _ _ _ => (pg_name (i := 4) nd rfl (by first | exact Or.inl rfl | exact Or.inr rfl))) (tt := none) (fun _ _ _ _ _ _ => dts_nil) (fun _ _ _ _ _ _ => (de_callD (G_is_within _) (hr.mono (by decide)) rfl (da_cons (de_var 4) (da_cons de_int (da_cons (de_bin od_sub (de_var 2) de_int) da_nil))))))) da_nil))))))))) ?_
  rintro ds R _ ⟨hh, x, y, s, n, rfl, hg, hm, hs, hn, h⟩
  obtain ⟨g, hlk⟩ := Option.isSome_iff_exists.mp hm
  have hmem := lookup_mem' hlk
  have hgood := hg.game _ hmem
  have hgm : gm hh s.name = g := by unfold gm; rw [hlk]; rfl
  have hk : s.keys = gainsU g := by rw [hs.keys]; unfold hΓ; rw [hgm]
  have hlt : (gainsU g).length < 64 := Nat.lt_of_le_of_lt (sortU_len _) (sum_small hgood)
  have hle : s.keys.length < 64 := by rw [hk]; exact hlt
  have ht := hs.len
  simp [dSeq, dIfS, dNext, dRet, dDrop, dSet, dUnp, dParD, dPar, dSetR, dAug, dOr, dAnd, dNot, dTst, dAndV, dOrV, dNotV, dIfE, dVar, dC, d1, d2, dL, dP, gf, dTup, drLst, drNd, drE, deR, draNil, draCons, daNil, daCons, daStar, itemsD, dChain, dIsi, dIsiC, isiT, dCall, dCallM, st0, stM, setAll, setR, setRs, Tg.set, dApp, dPop, dIxM, dStL, dStD, dBor, dBorT, frzS, diLst, diTup, diRng, diStr, diEnum, dItems, dValues, dListZip, dListRg, dIdx, dGet2, dHouse, dDisp, dPairs, dFrz, isM, tstD, fAdd, fSub, fMul, fDiv, fMod, fLt, fLe, fGt, fGe, fI, mulOk, fIs, fIsNot, isNon, fNeg, fLen, fAbs, fMax, fMin, fInt, fTuple, fList, fGames, fIx, atD, ixN, keyD, fEq, fNe, fEqS, fNeS, cmpX, cmpE, sK, eqD, hsD, stD, pre_is_word]
  refine ⟨hg.word _ hmem, .bl false, ?_, .inl ⟨rfl, gameD g, ?_, ?_⟩⟩
  · unfold fNotIn
    rw [fIn_hou, luD_hou, hlk]
    rfl
  · show luD _ _ (.inr s.name) = _
    rw [luD_hou, hlk]
    rfl
  refine ⟨g, rfl, sum_small hgood, _, ⟨ht.symm, rfl⟩, .int (gainsU g).length, by simp, .bl false, ?_, .inl ⟨rfl, ?_⟩⟩
  · rw [hk]; simp [eqD]
  refine lcK_map (fun _ => .bl true) rfl rfl (by rw [List.length_map]; omega) (fun d Q hd hQ => ?_) ⟨_, fAll_true, .inr ⟨rfl, ?_⟩⟩
  · rw [if_neg Bool.false_ne_true] at hd
    obtain ⟨k, hk1, rfl⟩ := List.mem_map.mp hd
    obtain ⟨v, hv, rfl⟩ := List.mem_map.mp hk1
    have hv2 : v ∈ gainsU g := by rw [← hk]; exact hv
    have hb := gains_bound hgood hv2
    refine ⟨_, rfl, _, rfl, _, rfl, rfl, v, -99, 99, rfl, ⟨by omega, by omega⟩, true, ?_, fun _ => ?_, fun z => nomatch z⟩
    · rw [decide_eq_true hb.1, decide_eq_true hb.2]; rfl
    · refine ⟨_, rfl, _, rfl, .bl true, ?_, hQ _ rfl⟩
      show (allI ((gainsU g).map D.int)).map _ = _
      rw [allI_map]
      simp [hv2]
  refine lcK_map (fun _ => .bl true) rfl rfl (by rw [List.length_map]; omega) (fun d Q hd hQ => ?_) ⟨_, fAll_true, h⟩
  rw [if_pos rfl] at hd
  obtain ⟨t, ht1, rfl⟩ := List.mem_map.mp hd
  have hb := hs.lt t ht1
  refine ⟨_, rfl, _, rfl, _, rfl, _, rfl, rfl, (t : Int), 0, (n : Int) - 1, rfl, ⟨by omega, by omega⟩, ?_⟩
  rw [decide_eq_true (by omega : (0 : Int) ≤ t), decide_eq_true (by omega : (t : Int) ≤ n - 1)]
  exact hQ _ rfl

theorem ok_is_controller_in {m : Option Addr} (E : En K mg C) (F : Fd K mg "is_controller_in" Sis_controller_in f fd)
    (G_is_state_in : OkD P w K mg base C "is_state_in" 3 3 none ["house", "value", "size"] pre_is_state_in) : OkD P w K mg base C "is_controller_in" 4 2 none ["house", "value"] pre_is_controller_in := by
  have nd : (["house", "value", "state"] : List Str).Nodup := by decide +kernel
  refine F.ok (N := ["house", "value", "state"]) ⟨rfl, rfl, rfl, nd, rfl, by decide +kernel, by decide +kernel⟩ rfl (F.fun_.bindsN fun _ _ _ _ _ _ us hl => match us, hl with | [_, _], _ => rfl) (fun cdv A outer s H X hr =>
    (dss_cons (ds_if (dt_w (dw_or (dt_not (dt_val (de_isi rfl E.m_isinstance rfl E.m_tuple (de_var 1)))) (dw_or1 (dt_not (dt_chain od_le od_le de_int (de_cb call_lenAll cp_len rfl E.m_len rfl (da_cons (de_var 1) da_nil)) (de_globI rfl E.i_MAX_STATES)))))) (dss_one (ds_ret de_bl)) dss_nil)
    (dss_one (ds_ret (de_cb (cr_all rfl) cp_all rfl E.m_all rfl (da_cons (de_ofR (dr_lc (own := [("state", 2)]) (tg := (.nm 2)) rfl nd (di_tup (de_var 1)) (blkOk_by (N := ["house", "value", "state"]) (sc := (defScope Sis_controller_in)) (by decide +kernel)) (by decide) (fun _ _ _ _ _ => (pg_name (i := 2) nd rfl (by first | exact Or.inl rfl | exact Or.inr rfl))) (tt := none) (fun _ _ _ _ _ => dts_nil) (fun _ _ _ _ _ => (de_callD G_is_state_in (hr.mono (by decide)) rfl (da_cons (de_var 0) (da_cons (de_var 2) (da_cons (de_cb call_lenAll cp_len rfl E.m_len rfl (da_cons (de_var 1) da_nil)) da_nil))))))) da_nil)))))) ?_
  rintro ds R _ ⟨hh, x, y, c, rfl, hg, hi, h⟩
  have l1 := hi.good.one
  have l2 := hi.four
  have lc : (c.map stD).length = c.length := List.length_map _
  simp [dSeq, dIfS, dNext, dRet, dDrop, dSet, dUnp, dParD, dPar, dSetR, dAug, dOr, dAnd, dNot, dTst, dAndV, dOrV, dNotV, dIfE, dVar, dC, d1, d2, dL, dP, gf, dTup, drLst, drNd, drE, deR, draNil, draCons, daNil, daCons, daStar, itemsD, dChain, dIsi, dIsiC, isiT, dCall, dCallM, st0, stM, setAll, setR, setRs, Tg.set, dApp, dPop, dIxM, dStL, dStD, dBor, dBorT, frzS, diLst, diTup, diRng, diStr, diEnum, dItems, dValues, dListZip, dListRg, dIdx, dGet2, dHouse, dDisp, dPairs, dFrz, isM, tstD, fAdd, fSub, fMul, fDiv, fMod, fLt, fLe, fGt, fGe, fI, mulOk, fIs, fIsNot, isNon, fNeg, fLen, fAbs, fMax, fMin, fInt, fTuple, fList, fGames, fIx, atD, ixN, keyD, fEq, fNe, fEqS, fNeS, cmpX, cmpE, sK, eqD, ctlD]
  refine .inr ⟨by omega, .inr ⟨by omega, ?_⟩⟩
  refine lcMap (fun _ => .bl true) (fun RR h => ⟨_, rfl, _, rfl, h⟩) rfl (by rw [lc]; omega) (fun d Q hd hQ => ?_) ⟨_, fAll_true, h⟩
  obtain ⟨s, hs, rfl⟩ := List.mem_map.mp hd
  exact ⟨_, rfl, _, rfl, _, rfl, _, rfl, _, rfl, rfl, hh, x, y, s, c.length, (by rw [lc]), hg, hi.mem s hs, hi.good.st s hs, by omega, hQ _ rfl⟩

theorem ok_require_controller {m : Option Addr} (E : En K mg C) (F : Fd K mg "require_controller" Srequire_controller f fd)
    (G_require_house : OkD P w K mg base C "require_house" 1 1 none ["value"] pre_require_house)
    (G_is_controller_in : OkD P w K mg base C "is_controller_in" 4 2 none ["house", "value"] pre_is_controller_in) : OkD P w K mg base C "require_controller" 5 2 none ["house", "controller"] pre_require_controller := by
  have nd : (["house", "controller"] : List Str).Nodup := by decide +kernel
  refine F.ok (N := ["house", "controller"]) ⟨rfl, rfl, rfl, nd, rfl, by decide +kernel, by decide +kernel⟩ rfl (F.fun_.bindsN fun _ _ _ _ _ _ us hl => match us, hl with | [_, _], _ => rfl) (fun cdv A outer s H X hr =>
    (dss_cons (ds_expr (de_callD G_require_house (hr.mono (by decide)) rfl (da_cons (de_var 0) da_nil)))
    (dss_one (ds_if (dt_not (dt_val (de_callD G_is_controller_in (hr.mono (by decide)) rfl (da_cons (de_var 0) (da_cons (de_var 1) da_nil))))) (dss_one (ds_never _)) dss_nil)))) ?_
  rintro ds R _ ⟨hh, x, y, c, rfl, hg, hi, h⟩
  simp only [dSeq, dIfS, dNext, dRet, dDrop, dSet, dUnp, dParD, dPar, dSetR, dAug, dOr, dAnd, dNot, dTst, dAndV, dOrV, dNotV, dIfE, dVar, dC, d1, d2, dL, dP, gf, dTup, drLst, drNd, drE, deR, draNil, draCons, daNil, daCons, daStar, itemsD, dChain, dIsi, dIsiC, isiT, dCall, dCallM, st0, stM, setAll, setR, setRs, Tg.set, dApp, dPop, dIxM, dStL, dStD, dBor, dBorT, frzS, diLst, diTup, diRng, diStr, diEnum, dItems, dValues, dListZip, dListRg, dIdx, dGet2, dHouse, dDisp, dPairs, dFrz, isM, tstD]
  exact ⟨_, rfl, rfl, _, rfl, _, rfl, _, rfl, rfl, hh, x, y, c, rfl, hg, hi, true, rfl, (fun z => nomatch z), fun _ => h⟩

theorem ok_require_both {m : Option Addr} (E : En K mg C) (F : Fd K mg "require_both" Srequire_both f fd)
    (G_require_controller : OkD P w K mg base C "require_controller" 5 2 none ["house", "controller"] pre_require_controller) : OkD P w K mg base C "require_both" 6 3 none ["house", "one", "other"] pre_require_both := by
  have nd : (["house", "one", "other"] : List Str).Nodup := by decide +kernel
  refine F.ok (N := ["house", "one", "other"]) ⟨rfl, rfl, rfl, nd, rfl, by decide +kernel, by decide +kernel⟩ rfl (F.fun_.bindsN fun _ _ _ _ _ _ us hl => match us, hl with | [_, _, _], _ => rfl) (fun cdv A outer s H X hr =>
    (dss_cons (ds_expr (de_callD G_require_controller (hr.mono (by decide)) rfl (da_cons (de_var 0) (da_cons (de_var 1) da_nil))))
    (dss_one (ds_expr (de_callD G_require_controller (hr.mono (by decide)) rfl (da_cons (de_var 0) (da_cons (de_var 2) da_nil))))))) ?_
  rintro ds R _ ⟨hh, x, y, c, d, rfl, hg, hc, hd, h⟩
  simp only [dSeq, dIfS, dNext, dRet, dDrop, dSet, dUnp, dParD, dPar, dSetR, dAug, dOr, dAnd, dNot, dTst, dAndV, dOrV, dNotV, dIfE, dVar, dC, d1, d2, dL, dP, gf, dTup, drLst, drNd, drE, deR, draNil, draCons, daNil, daCons, daStar, itemsD, dChain, dIsi, dIsiC, isiT, dCall, dCallM, st0, stM, setAll, setR, setRs, Tg.set, dApp, dPop, dIxM, dStL, dStD, dBor, dBorT, frzS, diLst, diTup, diRng, diStr, diEnum, dItems, dValues, dListZip, dListRg, dIdx, dGet2, dHouse, dDisp, dPairs, dFrz, isM, tstD]
  exact ⟨_, rfl, _, rfl, rfl, hh, x, y, c, rfl, hg, hc, _, rfl, _, rfl, rfl, hh, x, y, d, rfl, hg, hd, h⟩

theorem run_snoc (c : Ctl) : ∀ (s : List Int) (k : Nat) (g : Int), run c k (s ++ [g]) = (run c k s).bind fun j => tgt (c.getD j default) g
  | [], k, g => by
    show (match tgt (c.getD k default) g with | none => none | some j => run c j []) = tgt (c.getD k default) g
    cases tgt (c.getD k default) g <;> rfl
  | x :: s, k, g => by
    show (match tgt (c.getD k default) x with | none => none | some j => run c j (s ++ [g])) = (match tgt (c.getD k default) x with | none => none | some j => run c j s).bind _
    cases tgt (c.getD k default) x with
    | none => rfl
    | some j => exact run_snoc c s j g
theorem run_lt {Γ : Str → List Int} {c : Ctl} (hg : GoodC Γ c) : ∀ (s : List Int) (k j : Nat), k < c.length → run c k s = some j → j < c.length
  | [], k, j, hk, e => by cases e; exact hk
  | g :: s, k, j, hk, e => by
    have e : (match tgt (c.getD k default) g with | none => none | some j => run c j s) = some j := e
    cases ht : tgt (c.getD k default) g with
    | none => rw [ht] at e; cases e
    | some t => rw [ht] at e; exact run_lt hg s t j (hg.tlt hk ht) e
theorem run_none (c : Ctl) {s : List Int} {k : Nat} {i : Nat} (h : run c k (s.take i) = none) : run c k s = none := by
  have : ∀ (a b : List Int) k, run c k a = none → run c k (a ++ b) = none := by
    intro a
    induction a with
    | nil => intro b k h; cases h
    | cons g a ih =>
      intro b k h
      have h : (match tgt (c.getD k default) g with | none => none | some j => run c j a) = none := h
      show (match tgt (c.getD k default) g with | none => none | some j => run c j (a ++ b)) = none
      cases e : tgt (c.getD k default) g with
      | none => rfl
      | some j => rw [e] at h; exact ih b j h
  have := this _ (s.drop i) k h
  rwa [List.take_append_drop] at this
theorem ok_state_behind {m : Option Addr} (E : En K mg C) (F : Fd K mg "state_behind" Sstate_behind f fd)
    (G_is_within : ∀ m, OkD P w K mg base C "is_within" 2 3 m ["value", "least", "most"] pre_is_within) : OkD P w K mg base C "state_behind" 3 2 none ["controller", "sight"] pre_state_behind := by
  have nd : (["controller", "sight", "state", "gain"] : List Str).Nodup := by decide +kernel
  refine F.ok (N := ["controller", "sight", "state", "gain"]) ⟨rfl, rfl, rfl, nd, rfl, by decide +kernel, by decide +kernel⟩ rfl (F.fun_.bindsN fun _ _ _ _ _ _ us hl => match us, hl with | [_, _], _ => rfl) (fun cdv A outer s H X hr =>
    (dss_cons (ds_if (dt_w (dw_or (dt_not (dt_val (de_isi rfl E.m_isinstance rfl E.m_tuple (de_var 1)))) (dw_or1 (dt_not (dt_val (de_cb (cr_all rfl) cp_all rfl E.m_all rfl (da_cons (de_ofR (dr_lc (own := [("gain", 3)]) (tg := (.nm 3)) rfl nd (di_tup (de_var 1)) (blkOk_by (N := ["controller", "sight", "state", "gain"]) (sc := (defScope Sstate_behind)) (by decide +kernel)) (by decide) (fun _ _ _ _ _ => (pg_name (i := 3) nd rfl (by first | exact Or.inl rfl | exact Or.inr rfl))) (tt := none) (fun _ _ _ _ _ => dts_nil) (fun _ _ _ _ _ => (de_callD (G_is_within _) (hr.mono (by decide)) rfl (da_cons (de_var 3) (da_cons (de_neg de_int) (da_cons de_int da_nil))))))) da_nil))))))) (dss_one (ds_ret de_non)) dss_nil)
    (dss_cons (ds_set (i := 2) nd de_int)
    (dss_cons (ds_for (tg := (.nm 3)) PassesOwn.never rfl (di_tup (de_var 1)) (pg_name (i := 3) nd rfl (by first | exact Or.inl rfl | exact Or.inr rfl)) (dss_cons (ds_if (dt_cmpD (od_notIn (un65 hr)) (de_var 3) (de_ixD (un1 hr) (de_ixD (un1 hr) (de_var 0) (de_var 2)) de_int)) (dss_one (ds_ret de_non)) dss_nil)
    (dss_one (ds_set (i := 2) nd (de_ixD (un1 hr) (de_ixD (un1 hr) (de_ixD (un1 hr) (de_var 0) (de_var 2)) de_int) (de_var 3))))))
    (dss_one (ds_ret (de_var 2))))))) ?_
  rintro ds R _ ⟨Γ, c, s, rfl, hg, hb, hs, h⟩
  simp only [dSeq, dIfS, dNext, dRet, dDrop, dSet, dUnp, dParD, dPar, dSetR, dAug, dOr, dAnd, dNot, dTst, dAndV, dOrV, dNotV, dIfE, dVar, dC, d1, d2, dL, dP, gf, dTup, drLst, drNd, drE, deR, draNil, draCons, daNil, daCons, daStar, itemsD, dChain, dIsi, dIsiC, isiT, dCall, dCallM, st0, stM, setAll, setR, setRs, Tg.set, dApp, dPop, dIxM, dStL, dStD, dBor, dBorT, frzS, diLst, diTup, diRng, diStr, diEnum, dItems, dValues, dListZip, dListRg, dIdx, dGet2, dHouse, dDisp, dPairs, dFrz, isM, tstD, sightD]
  refine ⟨_, rfl, true, rfl, true, rfl, (fun z => nomatch z), fun _ => ?_⟩
  refine lcMap (ds := s.map D.int) (δ1 := [.im (ctlD c), .im (sightD s), .no, .no]) (fun _ => .bl true) (fun RR h => ⟨_, rfl, _, rfl, h⟩) rfl (by rw [List.length_map]; omega) (fun d Q hd hQ => ?_) ⟨_, fAll_true, true, rfl, (fun z => nomatch z), fun _ => ?_⟩
  · obtain ⟨g, hgm, rfl⟩ := List.mem_map.mp hd
    have hb1 := hb g hgm
    refine ⟨_, rfl, _, rfl, _, rfl, rfl, g, -99, 99, rfl, ⟨by omega, by omega⟩, ?_⟩
    rw [decide_eq_true hb1.1, decide_eq_true hb1.2]
    exact hQ _ rfl
  refine forD (ds := s.map D.int) (fun i δ => ∃ k x, δ = [.im (ctlD c), .im (sightD s), .im (.int (k : Nat)), x] ∧ k < c.length ∧ run c k (s.drop i) = run c 0 s) (fun RR h => ⟨_, rfl, _, rfl, h⟩) ⟨0, _, rfl, hg.one, rfl⟩ ?_ ?_
  · rintro i d δ2 hd ⟨k, x, rfl, hk, hr⟩
    rw [List.getElem?_map] at hd
    cases hp : s[i]? with
    | none => rw [hp] at hd; cases hd
    | some g =>
      rw [hp] at hd
      cases hd
      have hi := (List.getElem?_eq_some_iff.mp hp).1
      have e : s.drop i = g :: s.drop (i + 1) := by
        rw [List.drop_eq_getElem_cons hi]
        rw [List.getElem?_eq_getElem hi] at hp
        cases hp; rfl
      rw [e] at hr
      have hr : (match tgt (c.getD k default) g with | none => none | some j => run c j (s.drop (i + 1))) = run c 0 s := hr
      refine ⟨_, rfl, _, rfl, _, rfl, _, rfl, _, fIx_ctl hk, .dic _ _, rfl, .bl (!(tgt (c.getD k default) g).isSome), ?_, !(tgt (c.getD k default) g).isSome, rfl, ?_, ?_⟩
      · unfold fNotIn
        rw [fIn_rule]
      · intro hn
        cases ht : tgt (c.getD k default) g with
        | none => rw [ht] at hr; rw [← hr] at h; exact h
        | some t => rw [ht] at hn; cases hn
      · intro hn
        cases ht : tgt (c.getD k default) g with
        | none => rw [ht] at hn; cases hn
        | some t =>
          rw [ht] at hr
          exact ⟨_, rfl, _, rfl, _, fIx_ctl hk, .dic _ _, rfl, _, rfl, .int (t : Nat), by rw [fIx_rule, ht]; rfl, t, _, rfl, hg.tlt hk ht, hr⟩
  · rintro δ2 ⟨k, x, rfl, hk, hr⟩
    rw [List.length_map, List.drop_length] at hr
    have hr : some k = run c 0 s := hr
    rw [← hr] at h
    exact ⟨_, rfl, h⟩

theorem ok__law_state {m : Option Addr} (E : En K mg C) (F : Fd K mg "_law_state" S_law_state f fd) : OkD P w K mg base C "_law_state" 1 2 none ["_law_controller_here", "_law_sight"] pre__law_state := by
  have nd : (["_law_controller_here", "_law_sight", "_law_state_here", "_law_gain"] : List Str).Nodup := by decide +kernel
  refine F.ok (N := ["_law_controller_here", "_law_sight", "_law_state_here", "_law_gain"]) ⟨rfl, rfl, rfl, nd, rfl, by decide +kernel, by decide +kernel⟩ rfl (F.fun_.bindsN fun _ _ _ _ _ _ us hl => match us, hl with | [_, _], _ => rfl) (fun cdv A outer s H X hr =>
    (dss_cons (ds_set (i := 2) nd de_int)
    (dss_cons (ds_for (tg := (.nm 3)) PassesOwn.never rfl (di_tup (de_var 1)) (pg_name (i := 3) nd rfl (by first | exact Or.inl rfl | exact Or.inr rfl)) (dss_cons (ds_if (dt_cmpD (od_notIn (un65 hr)) (de_var 3) (de_ixD (un1 hr) (de_ixD (un1 hr) (de_var 0) (de_var 2)) de_int)) (dss_one (ds_ret de_non)) dss_nil)
    (dss_one (ds_set (i := 2) nd (de_ixD (un1 hr) (de_ixD (un1 hr) (de_ixD (un1 hr) (de_var 0) (de_var 2)) de_int) (de_var 3))))))
    (dss_one (ds_ret (de_var 2)))))) ?_
  rintro ds R _ ⟨Γ, c, s, rfl, hg, h⟩
  simp only [dSeq, dIfS, dNext, dRet, dDrop, dSet, dUnp, dParD, dPar, dSetR, dAug, dOr, dAnd, dNot, dTst, dAndV, dOrV, dNotV, dIfE, dVar, dC, d1, d2, dL, dP, gf, dTup, drLst, drNd, drE, deR, draNil, draCons, daNil, daCons, daStar, itemsD, dChain, dIsi, dIsiC, isiT, dCall, dCallM, st0, stM, setAll, setR, setRs, Tg.set, dApp, dPop, dIxM, dStL, dStD, dBor, dBorT, frzS, diLst, diTup, diRng, diStr, diEnum, dItems, dValues, dListZip, dListRg, dIdx, dGet2, dHouse, dDisp, dPairs, dFrz, isM, tstD, sightD]
  refine forD (ds := s.map D.int) (fun i δ => ∃ k x, δ = [.im (ctlD c), .im (sightD s), .im (.int (k : Nat)), x] ∧ k < c.length ∧ run c k (s.drop i) = run c 0 s) (fun RR h => ⟨_, rfl, _, rfl, h⟩) ⟨0, _, rfl, hg.one, rfl⟩ ?_ ?_
  · rintro i d δ2 hd ⟨k, x, rfl, hk, hr⟩
    rw [List.getElem?_map] at hd
    cases hp : s[i]? with
    | none => rw [hp] at hd; cases hd
    | some g =>
      rw [hp] at hd
      cases hd
      have hi := (List.getElem?_eq_some_iff.mp hp).1
      have e : s.drop i = g :: s.drop (i + 1) := by
        rw [List.drop_eq_getElem_cons hi]
        rw [List.getElem?_eq_getElem hi] at hp
        cases hp; rfl
      rw [e] at hr
      have hr : (match tgt (c.getD k default) g with | none => none | some j => run c j (s.drop (i + 1))) = run c 0 s := hr
      refine ⟨_, rfl, _, rfl, _, rfl, _, rfl, _, fIx_ctl hk, .dic _ _, rfl, .bl (!(tgt (c.getD k default) g).isSome), ?_, !(tgt (c.getD k default) g).isSome, rfl, ?_, ?_⟩
      · unfold fNotIn
        rw [fIn_rule]
      · intro hn
        cases ht : tgt (c.getD k default) g with
        | none => rw [ht] at hr; rw [← hr] at h; exact h
        | some t => rw [ht] at hn; cases hn
      · intro hn
        cases ht : tgt (c.getD k default) g with
        | none => rw [ht] at hn; cases hn
        | some t =>
          rw [ht] at hr
          exact ⟨_, rfl, _, rfl, _, fIx_ctl hk, .dic _ _, rfl, _, rfl, .int (t : Nat), by rw [fIx_rule, ht]; rfl, t, _, rfl, hg.tlt hk ht, hr⟩
  · rintro δ2 ⟨k, x, rfl, hk, hr⟩
    rw [List.length_map, List.drop_length] at hr
    have hr : some k = run c 0 s := hr
    rw [← hr] at h
    exact ⟨_, rfl, h⟩

theorem ok_game_behind {m : Option Addr} (E : En K mg C) (F : Fd K mg "game_behind" Sgame_behind f fd)
    (G_require_controller : OkD P w K mg base C "require_controller" 5 2 none ["house", "controller"] pre_require_controller)
    (G_state_behind : OkD P w K mg base C "state_behind" 3 2 none ["controller", "sight"] pre_state_behind) : OkD P w K mg base C "game_behind" 6 3 none ["house", "controller", "sight"] pre_game_behind := by
  have nd : (["house", "controller", "sight", "state"] : List Str).Nodup := by decide +kernel
  refine F.ok (N := ["house", "controller", "sight", "state"]) ⟨rfl, rfl, rfl, nd, rfl, by decide +kernel, by decide +kernel⟩ rfl (F.fun_.bindsN fun _ _ _ _ _ _ us hl => match us, hl with | [_, _, _], _ => rfl) (fun cdv A outer s H X hr =>
    (dss_cons (ds_expr (de_callD G_require_controller (hr.mono (by decide)) rfl (da_cons (de_var 0) (da_cons (de_var 1) da_nil))))
    (dss_cons (ds_set (i := 3) nd (de_callD G_state_behind (hr.mono (by decide)) rfl (da_cons (de_var 1) (da_cons (de_var 2) da_nil))))
    (dss_cons (ds_if (dt_cmpD od_is (de_var 3) de_non) (dss_one (ds_never _)) dss_nil)
    (dss_one (ds_ret (de_ixD (un1 hr) (de_ixD (un1 hr) (de_var 1) (de_var 3)) de_int))))))) ?_
  rintro ds R _ ⟨hh, x, y, c, s, k, rfl, hg, hi, hb, hs, hr, h⟩
  simp only [dSeq, dIfS, dNext, dRet, dDrop, dSet, dUnp, dParD, dPar, dSetR, dAug, dOr, dAnd, dNot, dTst, dAndV, dOrV, dNotV, dIfE, dVar, dC, d1, d2, dL, dP, gf, dTup, drLst, drNd, drE, deR, draNil, draCons, daNil, daCons, daStar, itemsD, dChain, dIsi, dIsiC, isiT, dCall, dCallM, st0, stM, setAll, setR, setRs, Tg.set, dApp, dPop, dIxM, dStL, dStD, dBor, dBorT, frzS, diLst, diTup, diRng, diStr, diEnum, dItems, dValues, dListZip, dListRg, dIdx, dGet2, dHouse, dDisp, dPairs, dFrz, isM, tstD]
  have hk := run_lt hi.good s 0 k hi.good.one hr
  refine ⟨_, rfl, _, rfl, rfl, hh, x, y, c, rfl, hg, hi, _, rfl, _, rfl, rfl, _, c, s, rfl, hi.good, hb, hs, ?_⟩
  rw [hr]
  exact ⟨_, rfl, .bl false, rfl, false, rfl, (fun z => nomatch z), fun _ => ⟨_, rfl, _, rfl, _, fIx_ctl hk, .str _, rfl, h⟩⟩

end
end K46

set_option Elab.async false
set_option linter.all false
set_option maxRecDepth 100000
set_option maxHeartbeats 2000000
namespace K46
open PySem PySem.Spec PyProof.Rows L2
section
variable {P : Program} {w : World} {K : PySem.W.Frag} {mg : Str → Option Value} {base : Heap} {C f : Addr} {fd : FuncData}
def natP (p : Nat × Nat) : D := .tup [.int (p.1 : Int), .int (p.2 : Int)]
def itemD (x : Item) : D := .tup [sightD x.1, .int (x.2.1 : Int), .int (x.2.2 : Int)]
theorem natP_list (seen : List (Nat × Nat)) : seen.map natP = (seen.map fun p => ((p.1 : Int), (p.2 : Int))).map fun p => D.tup [.int p.1, .int p.2] := by rw [List.map_map]; rfl
theorem mem_natP {p : Nat × Nat} {seen : List (Nat × Nat)} : ((p.1 : Int), (p.2 : Int)) ∈ seen.map (fun p => ((p.1 : Int), (p.2 : Int))) ↔ p ∈ seen := by
  constructor
  · intro h
    obtain ⟨q, hq, e⟩ := List.mem_map.mp h
    have e1 : (q.1 : Int) = p.1 := congrArg Prod.fst e
    have e2 : (q.2 : Int) = p.2 := congrArg Prod.snd e
    have : q = p := Prod.ext (by omega) (by omega)
    rw [← this]; exact hq
  · intro h; exact List.mem_map.mpr ⟨p, h, rfl⟩
theorem fNotIn_pair {p : Nat × Nat} {seen : List (Nat × Nat)} (hl : seen.length ≤ 100000) : fNotIn (natP p) (.lst (seen.map natP)) = some (.bl (!decide (p ∈ seen))) := by
  have e : fIn (natP p) (.lst (seen.map natP)) = some (.bl (decide (p ∈ seen))) := by
    show (if (seen.map natP).length ≤ 100000 then (allP (seen.map natP)).map _ else none) = _
    rw [if_pos (by rw [List.length_map]; exact hl), natP_list, allP_map]
    show some (D.bl (decide _)) = _
    congr 2
    exact decide_eq_decide.mpr mem_natP
  unfold fNotIn
  rw [e]
theorem ne_nil {ds : List D} : fNe (.lst ds) (.lst []) = some (.bl (!ds.isEmpty)) := by
  cases ds with
  | nil => rfl
  | cons d ds => simp [fNe, cmpX, cmpE, cmpN, eqD, eqL]
theorem st_name {s : Stt} : fIx (stD s) (.int 0) = some (.str s.name) := rfl
theorem st_rule {s : Stt} : fIx (stD s) (.int 1) = some (.dic (s.keys.map Sum.inl) (s.tos.map fun (n : Nat) => .int (n : Int))) := rfl
theorem ne_str {a b : Str} : fNe (.str a) (.str b) = some (.bl (!decide (a = b))) := by
  show some (D.bl (!(a == b))) = _
  congr 2

theorem sortU_self {l : List Int} (h : l.Pairwise (· < ·)) : sortU l = l := asc_ext (sortU_asc l) h fun k => mem_sortU
theorem GoodC.kasc {Γ : Str → List Int} {c : Ctl} (g : GoodC Γ c) {i : Nat} (h : i < c.length) : (c.getD i default).keys.Pairwise (· < ·) := by rw [(g.st _ (getD_mem h)).keys]; exact g.asc _
theorem GoodC.kshort {Γ : Str → List Int} {c : Ctl} (g : GoodC Γ c) {i : Nat} (h : i < c.length) : (c.getD i default).keys.length < 64 := by rw [(g.st _ (getD_mem h)).keys]; exact g.short _
/-- the keys of a rule, in order: as sorted gives them, of the dict or of the list of its keys -/
theorem sorted_keys {s : Stt} (ha : s.keys.Pairwise (· < ·)) (hs : s.keys.length < 64) {R : D → Prop} (h : R (.lst (s.keys.map D.int))) : gSorted [.lst ((s.keys.map Sum.inl).map kD)] R := by
  refine .inl ⟨s.keys, by rw [List.map_map]; rfl, List.Pairwise.imp (fun h => Int.ne_of_lt h) ha, hs, ?_⟩
  rw [sortU_self ha]; exact h
theorem sorted_dict {s : Stt} (hl : s.tos.length = s.keys.length) (ha : s.keys.Pairwise (· < ·)) (hs : s.keys.length < 64) {R : D → Prop} (h : R (.lst (s.keys.map D.int))) : gSorted [.dic (s.keys.map Sum.inl) (s.tos.map fun (n : Nat) => D.int (n : Int))] R := by
  refine .inl ⟨s.keys, rfl, by rw [List.length_map, List.length_map, hl], List.Pairwise.imp (fun h => Int.ne_of_lt h) ha, hs, ?_⟩
  rw [sortU_self ha]; exact h
theorem list_keys {s : Stt} (hl : s.tos.length = s.keys.length) : fList [.dic (s.keys.map Sum.inl) (s.tos.map fun (n : Nat) => D.int (n : Int))] = some (.lst ((s.keys.map Sum.inl).map kD)) := by
  show (if _ then some _ else none) = _
  rw [if_pos (by rw [List.length_map, List.length_map, hl])]
def itemsOk (c d : Ctl) (n : Nat) (w : List Item) : Prop := ∀ x ∈ w, x.2.1 < c.length ∧ x.2.2 < d.length ∧ x.1.length ≤ n
theorem tgt_get {s : Stt} {g : Int} (hl : s.tos.length = s.keys.length) (h : g ∈ s.keys) : tgt s g = some ((tgt s g).getD 0) := by
  obtain ⟨t, e, _⟩ := tgt_some hl h
  rw [e]; rfl
theorem ok_parting_in {m : Option Addr} (E : En K mg C) (F : Fd K mg "parting_in" Sparting_in f fd) : OkD P w K mg base C "parting_in" 1 2 none ["one", "other"] pre_parting_in := by
  have nd : (["one", "other", "waiting", "seen", "gain", "sight", "first", "second", "pair"] : List Str).Nodup := by decide +kernel
  refine F.ok (N := ["one", "other", "waiting", "seen", "gain", "sight", "first", "second", "pair"]) ⟨rfl, rfl, rfl, nd, rfl, by decide +kernel, by decide +kernel⟩ rfl (F.fun_.bindsN fun _ _ _ _ _ _ us hl => match us, hl with | [_, _], _ => rfl) (fun cdv A outer s H X hr =>
    (dss_cons (ds_par2 (i := 2) (j := 3) rfl nd rfl rfl (by decide) (by decide) rfl rfl (dra_cons (dr_lst (da_cons (de_tup (da_cons (de_tup da_nil) (da_cons de_int (da_cons de_int da_nil)))) da_nil)) (dra_cons (dr_lst (da_cons (de_tup (da_cons de_int (da_cons de_int da_nil))) da_nil)) dra_nil)) (by rfl))
    (dss_cons (ds_while (dt_bor rfl (dt_cmpD (od_ne rfl (un8 hr)) (de_var 2) (de_ofR (dr_lst da_nil)))) (dss_cons (ds_unp (tg := (.tp [5, 6, 7])) (pg_tup rfl (pgs_cons (pg_name (i := 5) nd rfl (by first | exact Or.inl rfl | exact Or.inr rfl)) (pgs_cons (pg_name (i := 6) nd rfl (by first | exact Or.inl rfl | exact Or.inr rfl)) (pgs_cons (pg_name (i := 7) nd rfl (by first | exact Or.inl rfl | exact Or.inr rfl)) pgs_nil)))) (de_pop 2 de_int))
    (dss_cons (ds_if (dt_cmpD (od_ne rfl (un8 hr)) (de_ixD (un1 hr) (de_ixD (un1 hr) (de_var 0) (de_var 6)) de_int) (de_ixD (un1 hr) (de_ixD (un1 hr) (de_var 1) (de_var 7)) de_int)) (dss_one (ds_ret (de_var 5))) dss_nil)
    (dss_one (ds_for (tg := (.nm 4)) PassesOwn.never rfl (di_lst (de_cb (call_sortedAll rfl) (cp_sorted rfl) rfl E.m_sorted rfl (da_cons (de_ct (call_list_of.or (call_listD rfl)) cp_list rfl E.m_list rfl (da_cons (de_ixD (un1 hr) (de_ixD (un1 hr) (de_var 0) (de_var 6)) de_int) da_nil)) da_nil))) (pg_name (i := 4) nd rfl (by first | exact Or.inl rfl | exact Or.inr rfl)) (dss_cons (ds_set (i := 8) nd (de_tup (da_cons (de_ixD (un1 hr) (de_ixD (un1 hr) (de_ixD (un1 hr) (de_var 0) (de_var 6)) de_int) (de_var 4)) (da_cons (de_ixD (un1 hr) (de_ixD (un1 hr) (de_ixD (un1 hr) (de_var 1) (de_var 7)) de_int) (de_var 4)) da_nil))))
    (dss_one (ds_if (dt_bor rfl (dt_cmpD (od_notIn (un65 hr)) (de_var 8) (de_var 3))) (dss_cons (ds_app 3 (de_var 8))
    (dss_one (ds_app 2 (de_tup (da_cons (de_tup (da_star (de_var 5) (da_cons (de_var 4) da_nil))) (da_star (de_var 8) da_nil)))))) dss_nil))))))) PassesOwn.never)
    (dss_one (ds_ret de_non))))) ?_
  rintro ds R _ ⟨Γ, c, d, r, rfl, hc, hd, hp, h⟩
  simp only [dSeq, dIfS, dNext, dRet, dDrop, dSet, dUnp, dParD, dPar, dSetR, dAug, dOr, dAnd, dNot, dTst, dAndV, dOrV, dNotV, dIfE, dVar, dC, d1, d2, dL, dP, gf, dTup, drLst, drNd, drE, deR, draNil, draCons, daNil, daCons, daStar, itemsD, dChain, dIsi, dIsiC, isiT, dCall, dCallM, st0, stM, setAll, setR, setRs, Tg.set, dApp, dPop, dIxM, dStL, dStD, dBor, dBorT, frzS, diLst, diTup, diRng, diStr, diEnum, dItems, dValues, dListZip, dListRg, dIdx, dGet2, dHouse, dDisp, dPairs, dFrz, isM, tstD]
  refine ⟨by decide, by decide, by decide, by decide, by decide, rfl, ?_⟩
  refine ⟨fun m δ => ∃ (w : List Item) (seen : List (Nat × Nat)) (a b e f g : Sl), δ = [.im (ctlD c), .im (ctlD d), .ml (w.map itemD), .ml (seen.map natP), a, b, e, f, g] ∧ isM (some a) = false ∧ isM (some b) = false ∧ isM (some e) = false ∧ isM (some f) = false ∧ isM (some g) = false ∧
    m ≤ 60 ∧ seen.length ≤ 1 + 64 * (60 - m) ∧ w.length ≤ 1 + 64 * (60 - m) ∧ itemsOk c d (60 - m) w ∧ bfs c d m w seen = some r, ⟨60, [([], 0, 0)], [(0, 0)], _, _, _, _, _, rfl, rfl, rfl, rfl, rfl, rfl, by omega, by decide, by decide, ?_, hp⟩, ?_⟩
  · intro x hx
    rw [List.mem_singleton.mp hx]
    exact ⟨hc.one, hd.one, Nat.le_refl _⟩
  rintro m δ ⟨w, seen, a, b, e, f, g, rfl, ha, hb, he, hf, hg, hm, hl1, hl2, hio, hbf⟩
  refine ⟨_, rfl, Nat.zero_le _, .bl (!(w.map itemD).isEmpty), ne_nil, _, rfl, fun hne => ?_, fun hne => ?_⟩
  · cases w with
    | nil => cases hne
    | cons x w =>
      obtain ⟨s, i, j⟩ := x
      cases m with
      | zero => cases hbf
      | succ m =>
        obtain ⟨hi, hj, hs⟩ := hio _ List.mem_cons_self
        simp only at hi hj hs
        refine ⟨⟨_, rfl⟩, _, _, _, rfl, rfl, by decide, by rw [List.length_map]; omega, rfl, _, rfl, ?_⟩
        have hl2' : w.length + 1 ≤ 1 + 64 * (60 - (m + 1)) := hl2
        have hbf : (if (c.getD i default).name ≠ (d.getD j default).name then some (some s) else bfs c d m (push (c.getD i default) (d.getD j default) s (c.getD i default).keys w seen).1 (push (c.getD i default) (d.getD j default) s (c.getD i default).keys w seen).2) = some r := hbf
        refine ⟨_, rfl, _, rfl, _, fIx_ctl hi, _, st_name, _, rfl, _, rfl, _, fIx_ctl hj, _, st_name, _, ne_str, _, rfl, fun hn => ?_, fun hn => ?_⟩
        · have hn : (c.getD i default).name ≠ (d.getD j default).name := by simpa using hn
          rw [if_pos hn] at hbf
          cases hbf
          exact ⟨_, rfl, h⟩
        · have hn : (c.getD i default).name = (d.getD j default).name := by simpa using hn
          rw [if_neg (by simpa using hn)] at hbf
          have hk : (d.getD j default).keys = (c.getD i default).keys := by rw [(hd.st _ (getD_mem hj)).keys, (hc.st _ (getD_mem hi)).keys, hn]
          generalize hsa : c.getD i default = sa at *
          generalize hsb : d.getD j default = sb at *
          have la : sa.tos.length = sa.keys.length := by rw [← hsa]; exact hc.tl hi
          have lb : sb.tos.length = sb.keys.length := by rw [← hsb]; exact hd.tl hj
          have ka : sa.keys.Pairwise (· < ·) := by rw [← hsa]; exact hc.kasc hi
          have ks : sa.keys.length < 64 := by rw [← hsa]; exact hc.kshort hi
          have fa : fIx (ctlD c) (.int (i : Int)) = some (stD sa) := by rw [← hsa]; exact fIx_ctl hi
          have fb : fIx (ctlD d) (.int (j : Int)) = some (stD sb) := by rw [← hsb]; exact fIx_ctl hj
          have ta : ∀ g ∈ sa.keys, (tgt sa g).getD 0 < c.length := fun g hg => by
            obtain ⟨t, e1, _⟩ := tgt_some la hg
            rw [e1]
            exact hc.tlt hi (by rw [hsa]; exact e1)
          have tb : ∀ g ∈ sa.keys, (tgt sb g).getD 0 < d.length := fun g hg => by
            obtain ⟨t, e1, _⟩ := tgt_some lb (by rw [hk]; exact hg)
            rw [e1]
            exact hd.tlt hj (by rw [hsb]; exact e1)
          unfold dNext
          simp only []
          refine forD (ds := sa.keys.map D.int) (δ1 := [.im (ctlD c), .im (ctlD d), .ml (w.map itemD), .ml (seen.map natP), a, .im (sightD s), .im (.int i), .im (.int j), g]) (fun k δ => ∃ (w' : List Item) (seen' : List (Nat × Nat)) (a g : Sl), δ = [.im (ctlD c), .im (ctlD d), .ml (w'.map itemD), .ml (seen'.map natP), a, .im (sightD s), .im (.int i), .im (.int j), g] ∧ isM (some a) = false ∧ isM (some g) = false ∧
            seen'.length ≤ seen.length + k ∧ w'.length ≤ w.length + k ∧ itemsOk c d (60 - m) w' ∧ push sa sb s (sa.keys.drop k) w' seen' = push sa sb s sa.keys w seen) (fun RR hRR => ?_) ?_ ?_ ?_
          · refine ⟨_, rfl, _, rfl, _, fa, _, st_rule, _, list_keys la, ?_⟩
            refine sorted_keys (R := fun d => ∃ ds, d = D.lst ds ∧ RR ds _) ka ks ⟨_, rfl, hRR⟩
          · refine ⟨w, seen, a, g, rfl, ha, hg, Nat.le_refl _, Nat.le_refl _, fun x hx => ?_, rfl⟩
            obtain ⟨h1, h2, h3⟩ := hio x (List.mem_cons_of_mem _ hx)
            exact ⟨h1, h2, by omega⟩
          · rintro k dk δ2 hdk ⟨w', seen', a', g', rfl, ha', hg', hq1, hq2, hio', hpu⟩
            rw [List.getElem?_map] at hdk
            cases hkk : sa.keys[k]? with
            | none => rw [hkk] at hdk; cases hdk
            | some x =>
              rw [hkk] at hdk
              cases hdk
              have hk1 := (List.getElem?_eq_some_iff.mp hkk).1
              have hxm : x ∈ sa.keys := List.mem_of_getElem? hkk
              have ed : sa.keys.drop k = x :: sa.keys.drop (k + 1) := by
                rw [List.drop_eq_getElem_cons hk1]
                rw [List.getElem?_eq_getElem hk1] at hkk
                cases hkk; rfl
              have tga : fIx (.dic (sa.keys.map Sum.inl) (sa.tos.map fun (n : Nat) => .int (n : Int))) (.int x) = some (.int ((tgt sa x).getD 0 : Nat)) := by rw [fIx_rule, tgt_get la hxm]; rfl
              have tgb : fIx (.dic (sb.keys.map Sum.inl) (sb.tos.map fun (n : Nat) => .int (n : Int))) (.int x) = some (.int ((tgt sb x).getD 0 : Nat)) := by rw [fIx_rule, tgt_get lb (by rw [hk]; exact hxm)]; rfl
              have t1 := ta x hxm
              have t2 := tb x hxm
              refine ⟨_, rfl, _, rfl, _, rfl, _, fa, _, st_rule, _, rfl, _, tga, _, rfl, _, rfl, _, fb, _, st_rule, _, rfl, _, tgb, (by simp), _, rfl, _, rfl, .bl (!decide (((tgt sa x).getD 0, (tgt sb x).getD 0) ∈ seen')), fNotIn_pair (p := ((tgt sa x).getD 0, (tgt sb x).getD 0)) (by omega), _, rfl, fun hn => ?_, fun hn => ?_⟩
              · have hn : ((tgt sa x).getD 0, (tgt sb x).getD 0) ∉ seen' := by simpa using hn
                rw [ed, push, if_neg hn] at hpu
                refine ⟨⟨_, rfl⟩, _, rfl, _, rfl, by rw [List.length_map]; omega, ⟨_, rfl⟩, _, rfl, _, rfl, _, rfl, ?_, _, rfl, _, rfl, ?_, _, rfl, by rw [List.length_map]; omega, w' ++ [(s ++ [x], (tgt sa x).getD 0, (tgt sb x).getD 0)], seen' ++ [((tgt sa x).getD 0, (tgt sb x).getD 0)], .im (.int x), .im (natP ((tgt sa x).getD 0, (tgt sb x).getD 0)), ?_, rfl, rfl, ?_, ?_, ?_, hpu⟩
                · show ((s.map D.int) ++ [D.int x]).length ≤ 100000
                  rw [List.length_append, List.length_map]
                  simp
                  omega
                · show ([_] ++ [_, _]).length ≤ 100000
                  simp
                · rw [List.map_append, List.map_append]
                  have e1 : itemD (s ++ [x], (tgt sa x).getD 0, (tgt sb x).getD 0) = .tup ([.tup (s.map D.int ++ [.int x])] ++ [.int ((tgt sa x).getD 0 : Nat), .int ((tgt sb x).getD 0 : Nat)]) := by
                    unfold itemD sightD
                    rw [List.map_append]; rfl
                  simp only [List.map_cons, List.map_nil, e1]
                  rfl
                · rw [List.length_append]; simp; omega
                · rw [List.length_append]; simp; omega
                · intro y hy
                  rcases List.mem_append.mp hy with z | z
                  · exact hio' y z
                  · rw [List.mem_singleton.mp z]
                    exact ⟨t1, t2, by simp; omega⟩
              · have hn : ((tgt sa x).getD 0, (tgt sb x).getD 0) ∈ seen' := by simpa using hn
                rw [ed, push, if_pos hn] at hpu
                exact ⟨w', seen', .im (.int x), .im (natP ((tgt sa x).getD 0, (tgt sb x).getD 0)), rfl, rfl, rfl, by omega, by omega, hio', hpu⟩
          · rintro δ2 ⟨w', seen', a', g', rfl, ha', hg', hq1, hq2, hio', hpu⟩
            rw [List.length_map, List.drop_length] at hpu
            have hpu : (w', seen') = _ := hpu
            rw [List.length_map] at hq1 hq2
            rw [← hpu] at hbf
            exact ⟨m, Nat.lt_succ_self m, w', seen', a', _, _, _, g', rfl, ha', rfl, rfl, rfl, hg', by omega, by omega, by omega, hio', hbf⟩
  · cases w with
    | cons x w => cases hne
    | nil =>
      cases m with
      | zero => cases hbf
      | succ m =>
        cases hbf
        exact h

theorem ok__law_parting {m : Option Addr} (E : En K mg C) (F : Fd K mg "_law_parting" S_law_parting f fd) : OkD P w K mg base C "_law_parting" 1 2 none ["_law_one", "_law_other"] pre__law_parting := by
  have nd : (["_law_one", "_law_other", "_law_rows", "_law_seen", "_law_at", "_law_gain", "_law_sight", "_law_first", "_law_second", "_law_pair"] : List Str).Nodup := by decide +kernel
  refine F.ok (N := ["_law_one", "_law_other", "_law_rows", "_law_seen", "_law_at", "_law_gain", "_law_sight", "_law_first", "_law_second", "_law_pair"]) ⟨rfl, rfl, rfl, nd, rfl, by decide +kernel, by decide +kernel⟩ rfl (F.fun_.bindsN fun _ _ _ _ _ _ us hl => match us, hl with | [_, _], _ => rfl) (fun cdv A outer s H X hr =>
    (dss_cons (ds_par3 (i := 2) (j := 3) (l := 4) rfl nd rfl rfl rfl (by decide) (by decide) (by decide) (by decide) rfl rfl rfl (dra_cons (dr_lst (da_cons (de_tup (da_cons (de_tup da_nil) (da_cons de_int (da_cons de_int da_nil)))) da_nil)) (dra_cons (dr_lst (da_cons (de_tup (da_cons de_int (da_cons de_int da_nil))) da_nil)) (dra_cons (dr_ofE de_int) dra_nil))) (by rfl))
    (dss_cons (ds_while (dt_bor rfl (dt_cmpD (od_lt (un0 hr)) (de_var 4) (de_cb call_lenAll cp_len rfl E.m_len rfl (da_cons (de_var 2) da_nil)))) (dss_cons (ds_unp (tg := (.tp [6, 7, 8])) (pg_tup rfl (pgs_cons (pg_name (i := 6) nd rfl (by first | exact Or.inl rfl | exact Or.inr rfl)) (pgs_cons (pg_name (i := 7) nd rfl (by first | exact Or.inl rfl | exact Or.inr rfl)) (pgs_cons (pg_name (i := 8) nd rfl (by first | exact Or.inl rfl | exact Or.inr rfl)) pgs_nil)))) (de_ixM 2 (de_var 4) (by intro _ _; rfl)))
    (dss_cons (ds_if (dt_cmpD (od_ne rfl (un8 hr)) (de_ixD (un1 hr) (de_ixD (un1 hr) (de_var 0) (de_var 7)) de_int) (de_ixD (un1 hr) (de_ixD (un1 hr) (de_var 1) (de_var 8)) de_int)) (dss_one (ds_ret (de_var 6))) dss_nil)
    (dss_cons (ds_for (tg := (.nm 5)) PassesOwn.never rfl (di_lst (de_cb (call_sortedAll rfl) (cp_sorted rfl) rfl E.m_sorted rfl (da_cons (de_ixD (un1 hr) (de_ixD (un1 hr) (de_var 0) (de_var 7)) de_int) da_nil))) (pg_name (i := 5) nd rfl (by first | exact Or.inl rfl | exact Or.inr rfl)) (dss_cons (ds_set (i := 9) nd (de_tup (da_cons (de_ixD (un1 hr) (de_ixD (un1 hr) (de_ixD (un1 hr) (de_var 0) (de_var 7)) de_int) (de_var 5)) (da_cons (de_ixD (un1 hr) (de_ixD (un1 hr) (de_ixD (un1 hr) (de_var 1) (de_var 8)) de_int) (de_var 5)) da_nil))))
    (dss_one (ds_if (dt_bor rfl (dt_cmpD (od_notIn (un65 hr)) (de_var 9) (de_var 3))) (dss_cons (ds_app 3 (de_var 9))
    (dss_one (ds_app 2 (de_bin od_add (de_tup (da_cons (de_bin od_add (de_var 6) (de_tup (da_cons (de_var 5) da_nil))) da_nil)) (de_var 9))))) dss_nil))))
    (dss_one (ds_set (i := 4) nd (de_bin od_add (de_var 4) de_int)))))) PassesOwn.never)
    (dss_one (ds_ret de_non))))) ?_
  rintro ds R _ ⟨Γ, c, d, r, rfl, hc, hd, hp, h⟩
  simp only [dSeq, dIfS, dNext, dRet, dDrop, dSet, dUnp, dParD, dPar, dSetR, dAug, dOr, dAnd, dNot, dTst, dAndV, dOrV, dNotV, dIfE, dVar, dC, d1, d2, dL, dP, gf, dTup, drLst, drNd, drE, deR, draNil, draCons, daNil, daCons, daStar, itemsD, dChain, dIsi, dIsiC, isiT, dCall, dCallM, st0, stM, setAll, setR, setRs, Tg.set, dApp, dPop, dIxM, dStL, dStD, dBor, dBorT, frzS, diLst, diTup, diRng, diStr, diEnum, dItems, dValues, dListZip, dListRg, dIdx, dGet2, dHouse, dDisp, dPairs, dFrz, isM, tstD]
  refine ⟨by decide, by decide, by decide, by decide, by decide, rfl, ?_⟩
  refine ⟨fun m δ => ∃ (w : List Item) (at_ : Nat) (seen : List (Nat × Nat)) (a b e f g : Sl), δ = [.im (ctlD c), .im (ctlD d), .ml (w.map itemD), .ml (seen.map natP), .im (.int at_), a, b, e, f, g] ∧ isM (some a) = false ∧ isM (some b) = false ∧ isM (some e) = false ∧ isM (some f) = false ∧ isM (some g) = false ∧
    m ≤ 60 ∧ seen.length ≤ 1 + 64 * (60 - m) ∧ w.length ≤ 1 + 65 * (60 - m) ∧ at_ ≤ w.length ∧ itemsOk c d (60 - m) w ∧ bfs c d m (w.drop at_) seen = some r, ⟨60, [([], 0, 0)], 0, [(0, 0)], _, _, _, _, _, rfl, rfl, rfl, rfl, rfl, rfl, by omega, by decide, by decide, by decide, ?_, hp⟩, ?_⟩
  · intro x hx
    rw [List.mem_singleton.mp hx]
    exact ⟨hc.one, hd.one, Nat.le_refl _⟩
  rintro m δ ⟨w, at_, seen, a, b, e, f, g, rfl, ha, hb, he, hf, hg, hm, hl1, hl2, hat, hio, hbf⟩
  refine ⟨_, rfl, _, rfl, .int (w.map itemD).length, rfl, .bl (decide ((at_ : Int) < (w.map itemD).length)), rfl, _, rfl, fun hne => ?_, fun hne => ?_⟩
  · have hlt : at_ < w.length := by
      have := of_decide_eq_true hne
      rw [List.length_map] at this
      omega
    have ew : w.drop at_ = w[at_] :: w.drop (at_ + 1) := List.drop_eq_getElem_cons hlt
    have hgw : (w.map itemD)[at_]? = some (itemD w[at_]) := by rw [List.getElem?_map, List.getElem?_eq_getElem hlt]; rfl
    have hmem : w[at_] ∈ w := List.getElem_mem hlt
    rw [ew] at hbf
    generalize hx : w[at_] = x at *
    obtain ⟨s, i, j⟩ := x
    cases m with
    | zero => cases hbf
    | succ m =>
      obtain ⟨hi, hj, hs⟩ := hio _ hmem
      simp only at hi hj hs
      refine ⟨⟨_, rfl⟩, _, rfl, _, _, _, rfl, rfl, by omega, hgw, _, rfl, ?_⟩
      have hbf : (if (c.getD i default).name ≠ (d.getD j default).name then some (some s) else bfs c d m (push (c.getD i default) (d.getD j default) s (c.getD i default).keys (w.drop (at_ + 1)) seen).1 (push (c.getD i default) (d.getD j default) s (c.getD i default).keys (w.drop (at_ + 1)) seen).2) = some r := hbf
      refine ⟨_, rfl, _, rfl, _, fIx_ctl hi, _, st_name, _, rfl, _, rfl, _, fIx_ctl hj, _, st_name, _, ne_str, _, rfl, fun hn => ?_, fun hn => ?_⟩
      · have hn : (c.getD i default).name ≠ (d.getD j default).name := by simpa using hn
        rw [if_pos hn] at hbf
        cases hbf
        exact ⟨_, rfl, h⟩
      · have hn : (c.getD i default).name = (d.getD j default).name := by simpa using hn
        rw [if_neg (by simpa using hn)] at hbf
        have hk : (d.getD j default).keys = (c.getD i default).keys := by rw [(hd.st _ (getD_mem hj)).keys, (hc.st _ (getD_mem hi)).keys, hn]
        generalize hsa : c.getD i default = sa at *
        generalize hsb : d.getD j default = sb at *
        have la : sa.tos.length = sa.keys.length := by rw [← hsa]; exact hc.tl hi
        have lb : sb.tos.length = sb.keys.length := by rw [← hsb]; exact hd.tl hj
        have ka : sa.keys.Pairwise (· < ·) := by rw [← hsa]; exact hc.kasc hi
        have ks : sa.keys.length < 64 := by rw [← hsa]; exact hc.kshort hi
        have fa : fIx (ctlD c) (.int (i : Int)) = some (stD sa) := by rw [← hsa]; exact fIx_ctl hi
        have fb : fIx (ctlD d) (.int (j : Int)) = some (stD sb) := by rw [← hsb]; exact fIx_ctl hj
        have ta : ∀ g ∈ sa.keys, (tgt sa g).getD 0 < c.length := fun g hg => by
          obtain ⟨t, e1, _⟩ := tgt_some la hg
          rw [e1]
          exact hc.tlt hi (by rw [hsa]; exact e1)
        have tb : ∀ g ∈ sa.keys, (tgt sb g).getD 0 < d.length := fun g hg => by
          obtain ⟨t, e1, _⟩ := tgt_some lb (by rw [hk]; exact hg)
          rw [e1]
          exact hd.tlt hj (by rw [hsb]; exact e1)
        unfold dNext
        simp only []
        refine forD (ds := sa.keys.map D.int) (δ1 := [.im (ctlD c), .im (ctlD d), .ml (w.map itemD), .ml (seen.map natP), .im (.int at_), a, .im (sightD s), .im (.int i), .im (.int j), g]) (fun k δ => ∃ (w' : List Item) (seen' : List (Nat × Nat)) (a g : Sl), δ = [.im (ctlD c), .im (ctlD d), .ml (w'.map itemD), .ml (seen'.map natP), .im (.int at_), a, .im (sightD s), .im (.int i), .im (.int j), g] ∧ isM (some a) = false ∧ isM (some g) = false ∧
          seen'.length ≤ seen.length + k ∧ w'.length ≤ w.length + k ∧ at_ + 1 ≤ w'.length ∧ itemsOk c d (60 - m) w' ∧ push sa sb s (sa.keys.drop k) (w'.drop (at_ + 1)) seen' = push sa sb s sa.keys (w.drop (at_ + 1)) seen) (fun RR hRR => ?_) ?_ ?_ ?_
        · refine ⟨_, rfl, _, rfl, _, fa, _, st_rule, ?_⟩
          refine sorted_dict (R := fun d => ∃ ds, d = D.lst ds ∧ RR ds _) la ka ks ⟨_, rfl, hRR⟩
        · refine ⟨w, seen, a, g, rfl, ha, hg, Nat.le_refl _, Nat.le_refl _, hlt, fun x hx => ?_, rfl⟩
          obtain ⟨h1, h2, h3⟩ := hio x hx
          exact ⟨h1, h2, by omega⟩
        · rintro k dk δ2 hdk ⟨w', seen', a', g', rfl, ha', hg', hq1, hq2, hq3, hio', hpu⟩
          rw [List.getElem?_map] at hdk
          cases hkk : sa.keys[k]? with
          | none => rw [hkk] at hdk; cases hdk
          | some x =>
            rw [hkk] at hdk
            cases hdk
            have hk1 := (List.getElem?_eq_some_iff.mp hkk).1
            have hxm : x ∈ sa.keys := List.mem_of_getElem? hkk
            have ed : sa.keys.drop k = x :: sa.keys.drop (k + 1) := by
              rw [List.drop_eq_getElem_cons hk1]
              rw [List.getElem?_eq_getElem hk1] at hkk
              cases hkk; rfl
            have tga : fIx (.dic (sa.keys.map Sum.inl) (sa.tos.map fun (n : Nat) => .int (n : Int))) (.int x) = some (.int ((tgt sa x).getD 0 : Nat)) := by rw [fIx_rule, tgt_get la hxm]; rfl
            have tgb : fIx (.dic (sb.keys.map Sum.inl) (sb.tos.map fun (n : Nat) => .int (n : Int))) (.int x) = some (.int ((tgt sb x).getD 0 : Nat)) := by rw [fIx_rule, tgt_get lb (by rw [hk]; exact hxm)]; rfl
            have t1 := ta x hxm
            have t2 := tb x hxm
            refine ⟨_, rfl, _, rfl, _, rfl, _, fa, _, st_rule, _, rfl, _, tga, _, rfl, _, rfl, _, fb, _, st_rule, _, rfl, _, tgb, (by simp), _, rfl, _, rfl, .bl (!decide (((tgt sa x).getD 0, (tgt sb x).getD 0) ∈ seen')), fNotIn_pair (p := ((tgt sa x).getD 0, (tgt sb x).getD 0)) (by omega), _, rfl, fun hn => ?_, fun hn => ?_⟩
            · have hn : ((tgt sa x).getD 0, (tgt sb x).getD 0) ∉ seen' := by simpa using hn
              rw [ed, push, if_neg hn] at hpu
              refine ⟨⟨_, rfl⟩, _, rfl, _, rfl, by rw [List.length_map]; omega, ⟨_, rfl⟩, _, rfl, _, rfl, (by simp), .tup (s.map D.int ++ [D.int x]), ?_, (by simp), _, rfl, .tup ([.tup (s.map D.int ++ [D.int x])] ++ [.int ((tgt sa x).getD 0 : Nat), .int ((tgt sb x).getD 0 : Nat)]), ?_, _, rfl, by rw [List.length_map]; omega, w' ++ [(s ++ [x], (tgt sa x).getD 0, (tgt sb x).getD 0)], seen' ++ [((tgt sa x).getD 0, (tgt sb x).getD 0)], .im (.int x), .im (natP ((tgt sa x).getD 0, (tgt sb x).getD 0)), ?_, rfl, rfl, ?_, ?_, ?_, ?_, ?_⟩
              · show (if (s.map D.int).length + [D.int x].length ≤ 100000 then some (D.tup _) else none) = _
                rw [if_pos (by rw [List.length_map]; simp; omega)]
              · show (if [D.tup (s.map D.int ++ [D.int x])].length + [D.int ((tgt sa x).getD 0 : Nat), D.int ((tgt sb x).getD 0 : Nat)].length ≤ 100000 then some (D.tup _) else none) = _
                rw [if_pos (by simp)]
              · rw [List.map_append, List.map_append]
                have e1 : itemD (s ++ [x], (tgt sa x).getD 0, (tgt sb x).getD 0) = .tup ([.tup (s.map D.int ++ [.int x])] ++ [.int ((tgt sa x).getD 0 : Nat), .int ((tgt sb x).getD 0 : Nat)]) := by
                  unfold itemD sightD
                  rw [List.map_append]; rfl
                simp only [List.map_cons, List.map_nil, e1]
                rfl
              · rw [List.length_append]; simp; omega
              · rw [List.length_append]; simp; omega
              · rw [List.length_append]; simp; omega
              · intro y hy
                rcases List.mem_append.mp hy with z | z
                · exact hio' y z
                · rw [List.mem_singleton.mp z]
                  exact ⟨t1, t2, by simp; omega⟩
              · rw [List.drop_append_of_le_length hq3]
                exact hpu
            · have hn : ((tgt sa x).getD 0, (tgt sb x).getD 0) ∈ seen' := by simpa using hn
              rw [ed, push, if_pos hn] at hpu
              exact ⟨w', seen', .im (.int x), .im (natP ((tgt sa x).getD 0, (tgt sb x).getD 0)), rfl, rfl, rfl, by omega, by omega, hq3, hio', hpu⟩
        · rintro δ2 ⟨w', seen', a', g', rfl, ha', hg', hq1, hq2, hq3, hio', hpu⟩
          rw [List.length_map, List.drop_length] at hpu
          have hpu : (w'.drop (at_ + 1), seen') = _ := hpu
          rw [List.length_map] at hq1 hq2
          rw [← hpu] at hbf
          exact ⟨_, rfl, _, rfl, m, Nat.lt_succ_self m, w', at_ + 1, seen', a', _, _, _, g', rfl, ha', rfl, rfl, rfl, hg', by omega, by omega, by omega, hq3, hio', hbf⟩
  · have hge : at_ = w.length := by
      have := of_decide_eq_false hne
      rw [List.length_map] at this
      omega
    subst hge
    rw [List.drop_length] at hbf
    cases m with
    | zero => cases hbf
    | succ m =>
      cases hbf
      exact h

theorem ok_parting_sight {m : Option Addr} (E : En K mg C) (F : Fd K mg "parting_sight" Sparting_sight f fd)
    (G_require_both : OkD P w K mg base C "require_both" 6 3 none ["house", "one", "other"] pre_require_both)
    (G_parting_in : OkD P w K mg base C "parting_in" 1 2 none ["one", "other"] pre_parting_in) : OkD P w K mg base C "parting_sight" 7 3 none ["house", "one", "other"] pre_parting_sight := by
  have nd : (["house", "one", "other"] : List Str).Nodup := by decide +kernel
  refine F.ok (N := ["house", "one", "other"]) ⟨rfl, rfl, rfl, nd, rfl, by decide +kernel, by decide +kernel⟩ rfl (F.fun_.bindsN fun _ _ _ _ _ _ us hl => match us, hl with | [_, _, _], _ => rfl) (fun cdv A outer s H X hr =>
    (dss_cons (ds_expr (de_callD G_require_both (hr.mono (by decide)) rfl (da_cons (de_var 0) (da_cons (de_var 1) (da_cons (de_var 2) da_nil)))))
    (dss_one (ds_ret (de_callD G_parting_in (hr.mono (by decide)) rfl (da_cons (de_var 1) (da_cons (de_var 2) da_nil))))))) ?_
  rintro ds R _ ⟨hh, x, y, c, d, r, rfl, hg, hc, hd, hp, h⟩
  simp only [dSeq, dIfS, dNext, dRet, dDrop, dSet, dUnp, dParD, dPar, dSetR, dAug, dOr, dAnd, dNot, dTst, dAndV, dOrV, dNotV, dIfE, dVar, dC, d1, d2, dL, dP, gf, dTup, drLst, drNd, drE, deR, draNil, draCons, daNil, daCons, daStar, itemsD, dChain, dIsi, dIsiC, isiT, dCall, dCallM, st0, stM, setAll, setR, setRs, Tg.set, dApp, dPop, dIxM, dStL, dStD, dBor, dBorT, frzS, diLst, diTup, diRng, diStr, diEnum, dItems, dValues, dListZip, dListRg, dIdx, dGet2, dHouse, dDisp, dPairs, dFrz, isM, tstD]
  exact ⟨_, rfl, _, rfl, _, rfl, rfl, hh, x, y, c, d, rfl, hg, hc, hd, _, rfl, _, rfl, rfl, _, c, d, r, rfl, hc.good, hd.good, hp, h⟩

theorem ok_are_alike {m : Option Addr} (E : En K mg C) (F : Fd K mg "are_alike" Sare_alike f fd)
    (G_require_both : OkD P w K mg base C "require_both" 6 3 none ["house", "one", "other"] pre_require_both)
    (G_parting_in : OkD P w K mg base C "parting_in" 1 2 none ["one", "other"] pre_parting_in) : OkD P w K mg base C "are_alike" 7 3 none ["house", "one", "other"] pre_are_alike := by
  have nd : (["house", "one", "other"] : List Str).Nodup := by decide +kernel
  refine F.ok (N := ["house", "one", "other"]) ⟨rfl, rfl, rfl, nd, rfl, by decide +kernel, by decide +kernel⟩ rfl (F.fun_.bindsN fun _ _ _ _ _ _ us hl => match us, hl with | [_, _, _], _ => rfl) (fun cdv A outer s H X hr =>
    (dss_cons (ds_expr (de_callD G_require_both (hr.mono (by decide)) rfl (da_cons (de_var 0) (da_cons (de_var 1) (da_cons (de_var 2) da_nil)))))
    (dss_one (ds_ret (de_cmpD od_is (de_callD G_parting_in (hr.mono (by decide)) rfl (da_cons (de_var 1) (da_cons (de_var 2) da_nil))) de_non))))) ?_
  rintro ds R _ ⟨hh, x, y, c, d, r, rfl, hg, hc, hd, hp, h⟩
  simp only [dSeq, dIfS, dNext, dRet, dDrop, dSet, dUnp, dParD, dPar, dSetR, dAug, dOr, dAnd, dNot, dTst, dAndV, dOrV, dNotV, dIfE, dVar, dC, d1, d2, dL, dP, gf, dTup, drLst, drNd, drE, deR, draNil, draCons, daNil, daCons, daStar, itemsD, dChain, dIsi, dIsiC, isiT, dCall, dCallM, st0, stM, setAll, setR, setRs, Tg.set, dApp, dPop, dIxM, dStL, dStD, dBor, dBorT, frzS, diLst, diTup, diRng, diStr, diEnum, dItems, dValues, dListZip, dListRg, dIdx, dGet2, dHouse, dDisp, dPairs, dFrz, isM, tstD]
  refine ⟨_, rfl, _, rfl, _, rfl, rfl, hh, x, y, c, d, rfl, hg, hc, hd, _, rfl, _, rfl, rfl, _, c, d, r, rfl, hc.good, hd.good, hp, _, ?_, h⟩
  cases r <;> rfl

end
end K46

set_option Elab.async false
set_option linter.all false
set_option maxRecDepth 100000
set_option maxHeartbeats 2000000
namespace K46
open PySem PySem.Spec PyProof.Rows L2
section
variable {P : Program} {w : World} {K : PySem.W.Frag} {mg : Str → Option Value} {base : Heap} {C f : Addr} {fd : FuncData}
theorem ok_begun_at {m : Option Addr} (E : En K mg C) (F : Fd K mg "begun_at" Sbegun_at f fd)
    (G_reordered_states : OkD P w K mg base C "reordered_states" 1 2 none ["controller", "order"] pre_reordered_states) : OkD P w K mg base C "begun_at" 2 2 none ["controller", "state"] pre_begun_at := by
  have nd : (["controller", "state", "order", "one"] : List Str).Nodup := by decide +kernel
  refine F.ok (N := ["controller", "state", "order", "one"]) ⟨rfl, rfl, rfl, nd, rfl, by decide +kernel, by decide +kernel⟩ rfl (F.fun_.bindsN fun _ _ _ _ _ _ us hl => match us, hl with | [_, _], _ => rfl) (fun cdv A outer s H X hr =>
    (dss_cons (ds_set (i := 2) nd (de_ofR (dr_lst (da_cons (de_var 1) (da_star (de_ofR (dr_lc (own := [("one", 3)]) (tg := (.nm 3)) rfl nd (di_rng rfl E.m_range (de_cb call_lenAll cp_len rfl E.m_len rfl (da_cons (de_var 0) da_nil))) (blkOk_by (N := ["controller", "state", "order", "one"]) (sc := (defScope Sbegun_at)) (by decide +kernel)) (by decide) (fun _ _ _ _ _ => (pg_name (i := 3) nd rfl (by first | exact Or.inl rfl | exact Or.inr rfl))) (fun _ _ _ _ _ => dts_one (dt_cmpD (od_ne rfl (un8 hr)) (de_var 3) (de_var 1))) (fun _ _ _ _ _ => (de_var 3)))) da_nil)))))
    (dss_one (ds_ret (de_callD G_reordered_states (hr.mono (by decide)) rfl (da_cons (de_var 0) (da_cons (de_var 2) da_nil))))))) ?_
  rintro ds R _ ⟨Γ, c, i, rfl, hg, hi, h⟩
  have lc : (c.map stD).length = c.length := List.length_map _
  simp only [dSeq, dIfS, dNext, dRet, dDrop, dSet, dUnp, dParD, dPar, dSetR, dAug, dOr, dAnd, dNot, dTst, dAndV, dOrV, dNotV, dIfE, dVar, dC, d1, d2, dL, dP, gf, dTup, drLst, drNd, drE, deR, draNil, draCons, daNil, daCons, daStar, itemsD, dChain, dIsi, dIsiC, isiT, dCall, dCallM, st0, stM, setAll, setR, setRs, Tg.set, dApp, dPop, dIxM, dStL, dStD, dBor, dBorT, frzS, diLst, diTup, diRng, diStr, diEnum, dItems, dValues, dListZip, dListRg, dIdx, dGet2, dHouse, dDisp, dPairs, dFrz, isM, tstD]
  refine ⟨_, rfl, ?_⟩
  refine lcFilter (ds := rngD c.length) (δ1 := [.im (ctlD c), .im (.int i), .no, .no]) (fun d => match d with | .int k => !decide (k = (i : Int)) | _ => false) id (fun RR h => ?_) rfl (by rw [rngD_len]; have := hg.few; omega) (fun d Q hd hQ => ?_) ?_
  · refine ⟨_, rfl, .int (c.map stD).length, rfl, _, rfl, by rw [lc]; omega, by rw [lc]; have := hg.few; omega, ?_⟩
    rw [lc]
    exact h
  · obtain ⟨k, hk, rfl⟩ := List.mem_map.mp hd
    refine ⟨_, rfl, _, rfl, _, rfl, .bl (!decide ((k : Int) = i)), ?_, _, rfl, ?_⟩
    · show some (D.bl (!((k : Int) == i))) = _
      congr 2
    · refine hQ _ (fun _ Q' hQ' => ⟨_, rfl, hQ' _ rfl⟩) fun _ => rfl
  · have e0 : ((rngD c.length).filter fun d => match d with | .int k => !decide (k = (i : Int)) | _ => false) = ((List.range c.length).filter fun k => k != i).map fun (k : Nat) => D.int (k : Int) := by
      unfold rngD
      rw [List.filter_map]
      congr 1
      refine List.filter_congr fun k _ => ?_
      show (!decide ((k : Int) = i)) = (k != i)
      have : decide ((k : Int) = i) = (k == i) := by rw [Bool.eq_iff_iff]; simp; omega
      rw [this]; rfl
    rw [e0, List.map_id]
    refine ⟨_, rfl, ?_, _, rfl, _, rfl, rfl, Γ, c, i :: (List.range c.length).filter (fun k => k != i), ?_, hg, (begun_order hi).1, (begun_order hi).2, h⟩
    · simp
      have : ((List.range c.length).filter fun k => k != i).length ≤ c.length := Nat.le_trans (List.length_filter_le _ _) (by simp)
      have := hg.few
      omega
    · show [ctlD c, D.lst (D.int i :: (_ ++ []))] = _
      rw [List.append_nil]
      rfl

theorem ok_reordered_states {m : Option Addr} (E : En K mg C) (F : Fd K mg "reordered_states" Sreordered_states f fd) : OkD P w K mg base C "reordered_states" 1 2 none ["controller", "order"] pre_reordered_states := by
  have nd : (["controller", "order", "places", "found", "state", "name", "rule", "at", "gain"] : List Str).Nodup := by decide +kernel
  refine F.ok (N := ["controller", "order", "places", "found", "state", "name", "rule", "at", "gain"]) ⟨rfl, rfl, rfl, nd, rfl, by decide +kernel, by decide +kernel⟩ rfl (F.fun_.bindsN fun _ _ _ _ _ _ us hl => match us, hl with | [_, _], _ => rfl) (fun cdv A outer s H X hr =>
    (dss_cons (ds_set (i := 2) nd (de_dc (own := [("at", 7), ("state", 4)]) (tg := (.tp [7, 4])) rfl nd (di_enum rfl E.m_enumerate (de_var 1)) (blkOk_by (N := ["controller", "order", "places", "found", "state", "name", "rule", "at", "gain"]) (sc := (defScope Sreordered_states)) (by decide +kernel)) (by decide) (fun _ _ _ _ _ => (pg_tup rfl (pgs_cons (pg_name (i := 7) nd rfl (by first | exact Or.inl rfl | exact Or.inr rfl)) (pgs_cons (pg_name (i := 4) nd rfl (by first | exact Or.inl rfl | exact Or.inr rfl)) pgs_nil)))) (fun _ _ _ _ _ => (de_var 4)) (fun _ _ _ _ _ => (de_var 7))))
    (dss_cons (ds_setR (i := 3) nd (dr_lst da_nil) (by decide))
    (dss_cons (ds_for (tg := (.nm 4)) PassesOwn.never rfl (di_lst (de_var 1)) (pg_name (i := 4) nd rfl (by first | exact Or.inl rfl | exact Or.inr rfl)) (dss_cons (ds_unp (tg := (.tp [5, 6])) (pg_tup rfl (pgs_cons (pg_name (i := 5) nd rfl (by first | exact Or.inl rfl | exact Or.inr rfl)) (pgs_cons (pg_name (i := 6) nd rfl (by first | exact Or.inl rfl | exact Or.inr rfl)) pgs_nil))) (de_ixD (un1 hr) (de_var 0) (de_var 4)))
    (dss_one (ds_app 3 (de_tup (da_cons (de_var 5) (da_cons (de_dc (own := [("gain", 8)]) (tg := (.nm 8)) rfl nd (di_lst (de_cb (call_sortedAll rfl) (cp_sorted rfl) rfl E.m_sorted rfl (da_cons (de_ct (call_list_of.or (call_listD rfl)) cp_list rfl E.m_list rfl (da_cons (de_var 6) da_nil)) da_nil))) (blkOk_by (N := ["controller", "order", "places", "found", "state", "name", "rule", "at", "gain"]) (sc := (defScope Sreordered_states)) (by decide +kernel)) (by decide) (fun _ _ _ _ _ => (pg_name (i := 8) nd rfl (by first | exact Or.inl rfl | exact Or.inr rfl))) (fun _ _ _ _ _ => (de_var 8)) (fun _ _ _ _ _ => (de_ixD (un1 hr) (de_var 2) (de_ixD (un1 hr) (de_var 6) (de_var 8))))) da_nil)))))))
    (dss_frz 3 (dss_one (ds_ret (de_ct call_tuple_of cp_tuple rfl E.m_tuple rfl (da_cons (de_var 3) da_nil))))))))) ?_
  rintro ds R _ ⟨Γ, c, o, rfl, hg, hn, hm, h⟩
  have hl := order_len hn hm
  have hfew := hg.few
  have lo : (o.map fun (n : Nat) => D.int (n : Int)).length = o.length := List.length_map _
  simp only [dSeq, dIfS, dNext, dRet, dDrop, dSet, dUnp, dParD, dPar, dSetR, dAug, dOr, dAnd, dNot, dTst, dAndV, dOrV, dNotV, dIfE, dVar, dC, d1, d2, dL, dP, gf, dTup, drLst, drNd, drE, deR, draNil, draCons, daNil, daCons, daStar, itemsD, dChain, dIsi, dIsiC, isiT, dCall, dCallM, st0, stM, setAll, setR, setRs, Tg.set, dApp, dPop, dIxM, dStL, dStD, dBor, dBorT, frzS, diLst, diTup, diRng, diStr, diEnum, dItems, dValues, dListZip, dListRg, dIdx, dGet2, dHouse, dDisp, dPairs, dFrz, isM, tstD]
  refine dcMap (ds := enumD (o.map fun (n : Nat) => D.int (n : Int))) (δ1 := [.im (ctlD c), .im (natsD o), .no, .no, .no, .no, .no, .no, .no]) (fun d => match d with | .tup [_, .int k] => .inl k | _ => .inl 0) (fun d => match d with | .tup [a, _] => a | _ => .non) (fun RR h => ⟨_, rfl, _, rfl, h⟩) rfl (by unfold enumD; rw [List.length_map, List.length_range, lo]; omega) ?_ (fun d Q hd hQ => ?_) ?_
  · have e1 : (enumD (o.map fun (n : Nat) => D.int (n : Int))).map (fun d => match d with | .tup [_, .int k] => (Sum.inl k : Key) | _ => .inl 0) = o.map fun (n : Nat) => Sum.inl (n : Int) := by
      unfold enumD
      rw [List.map_map, lo]
      refine List.ext_getElem (by simp) fun j h1 h2 => ?_
      have h3 : j < o.length := by simpa using h2
      simp [List.getD, List.getElem?_eq_getElem h3]
    rw [e1]
    exact List.pairwise_map.mpr (List.Pairwise.imp (fun h z => h (by injection z with z; omega)) hn)
  · unfold enumD at hd
    obtain ⟨j, hj, rfl⟩ := List.mem_map.mp hd
    rw [List.mem_range, lo] at hj
    have e : (o.map fun (n : Nat) => D.int (n : Int)).getD j .non = .int (o[j] : Nat) := by simp [List.getD, List.getElem?_eq_getElem hj]
    rw [e] at hQ ⊢
    exact ⟨_, rfl, _, rfl, _, rfl, _, rfl, hQ _ rfl⟩
  have ek : (enumD (o.map fun (n : Nat) => D.int (n : Int))).map (fun d => match d with | .tup [_, .int k] => (Sum.inl k : Key) | _ => .inl 0) = o.map fun (n : Nat) => Sum.inl (n : Int) := by
    unfold enumD
    rw [List.map_map, lo]
    refine List.ext_getElem (by simp) fun j h1 h2 => ?_
    have h3 : j < o.length := by simpa using h2
    simp [List.getD, List.getElem?_eq_getElem h3]
  have ev : (enumD (o.map fun (n : Nat) => D.int (n : Int))).map (fun d => match d with | .tup [a, _] => a | _ => .non) = (List.range' 0 o.length).map fun (n : Nat) => D.int (n : Int) := by
    unfold enumD
    rw [List.map_map, lo, List.range_eq_range']
    rfl
  rw [ek, ev]
  refine ⟨by decide, ?_⟩
  generalize hpl : D.dic (o.map fun (n : Nat) => Sum.inl (n : Int)) ((List.range' 0 o.length).map fun (n : Nat) => D.int (n : Int)) = pl
  have lookp : ∀ t, t ∈ o → fIx pl (.int (t : Nat)) = some (.int (o.idxOf t : Nat)) := fun t ht => by
    rw [← hpl]
    show luD _ _ (.inl (t : Int)) = _
    rw [luD_idx o 0 t ht, Nat.zero_add]
  let newS : Nat → Stt := fun k => ⟨(c.getD k default).name, (c.getD k default).keys, (c.getD k default).tos.map fun t => o.idxOf t⟩
  have hre : reord c o = o.map newS := rfl
  refine forD (ds := o.map fun (n : Nat) => D.int (n : Int)) (δ1 := [.im (ctlD c), .im (natsD o), .im pl, .ml [], .no, .no, .no, .no, .no]) (fun k δ => ∃ a b e f g, δ = [.im (ctlD c), .im (natsD o), .im pl, .ml ((o.take k).map fun k => stD (newS k)), a, b, e, f, g] ∧ isM (some a) = false ∧ isM (some b) = false ∧ isM (some e) = false ∧ isM (some f) = false ∧ isM (some g) = false) (fun RR hRR => ⟨_, rfl, _, rfl, hRR⟩) ⟨_, _, _, _, _, rfl, rfl, rfl, rfl, rfl, rfl⟩ ?_ ?_
  · rintro k d δ2 hd ⟨a, b, e, f, g, rfl, ha, hb, he, hf, hgg⟩
    rw [List.getElem?_map] at hd
    cases hk : o[k]? with
    | none => rw [hk] at hd; cases hd
    | some st =>
      rw [hk] at hd
      cases hd
      have hko := (List.getElem?_eq_some_iff.mp hk).1
      have hst := (hm st).mp (List.mem_of_getElem? hk)
      have et : o.take (k + 1) = o.take k ++ [st] := by rw [List.take_add_one, hk]; rfl
      have la := hg.tl hst
      have ka := hg.kasc hst
      have ks := hg.kshort hst
      have hlt := (hg.st _ (getD_mem hst)).lt
      refine ⟨_, rfl, _, rfl, _, rfl, _, fIx_ctl hst, _, rfl, ⟨_, rfl⟩, _, rfl, ?_⟩
      refine dcMap (ds := (c.getD st default).keys.map D.int) (δ1 := [.im (ctlD c), .im (natsD o), .im pl, .ml ((o.take k).map fun k => stD (newS k)), .im (.int st), .im (.str (c.getD st default).name), .im (.dic ((c.getD st default).keys.map Sum.inl) ((c.getD st default).tos.map fun (n : Nat) => .int (n : Int))), f, g])
        (fun d => match d with | .int x => .inl x | _ => .inl 0) (fun d => match d with | .int x => .int (o.idxOf ((tgt (c.getD st default) x).getD 0) : Nat) | _ => .non) (fun RR hRR => ?_) ?_ (by rw [List.length_map]; omega) ?_ (fun d Q hd hQ => ?_) ?_
      · refine ⟨_, rfl, _, list_keys la, ?_⟩
        refine sorted_keys (R := fun d => ∃ ds, d = D.lst ds ∧ RR ds _) ka ks ⟨_, rfl, hRR⟩
      · show (!isM (some g) && true) = true
        rw [hgg]; rfl
      · rw [List.map_map]
        exact List.pairwise_map.mpr (List.Pairwise.imp (fun h z => by injection z with z; omega) ka)
      · obtain ⟨x, hx, rfl⟩ := List.mem_map.mp hd
        obtain ⟨t, e1, e2⟩ := tgt_some la hx
        refine ⟨_, rfl, _, rfl, _, rfl, _, rfl, _, rfl, _, (by rw [fIx_rule, e1]; rfl), _, lookp t ((hm t).mpr (hlt t e2)), _, rfl, ?_⟩
        simp only [e1] at hQ
        exact hQ _ rfl
      · refine ⟨(by simp), _, rfl, by rw [List.length_map, List.length_take]; omega, .im (.int st), .im (.str (c.getD st default).name), .im (.dic ((c.getD st default).keys.map Sum.inl) ((c.getD st default).tos.map fun (n : Nat) => .int (n : Int))), f, g, ?_, rfl, rfl, rfl, hf, hgg⟩
        have e3 : ((c.getD st default).keys.map D.int).map (fun d => match d with | .int x => (Sum.inl x : Key) | _ => .inl 0) = (c.getD st default).keys.map Sum.inl := by rw [List.map_map]; rfl
        have e4 : ((c.getD st default).keys.map D.int).map (fun d => match d with | .int x => D.int (o.idxOf ((tgt (c.getD st default) x).getD 0) : Nat) | _ => .non) = ((c.getD st default).tos.map fun t => o.idxOf t).map fun (n : Nat) => D.int (n : Int) := by
          rw [List.map_map, List.map_map, ← map_tgt la (List.Pairwise.imp (fun h => Int.ne_of_lt h) ka), List.map_map]
          rfl
        rw [et, List.map_append, e3, e4]
        rfl
  · rintro δ2 ⟨a, b, e, f, g, rfl, _⟩
    rw [lo, List.take_length]
    refine ⟨rfl, _, rfl, _, rfl, ?_⟩
    rw [hre] at h
    unfold ctlD at h
    rw [List.map_map] at h
    exact h

theorem ok__law_from {m : Option Addr} (E : En K mg C) (F : Fd K mg "_law_from" S_law_from f fd) : OkD P w K mg base C "_law_from" 1 2 none ["_law_controller_here", "_law_state_here"] pre__law_from := by
  have nd : (["_law_controller_here", "_law_state_here", "_law_move", "_law_rows", "_law_at", "_law_name", "_law_rule", "_law_gain"] : List Str).Nodup := by decide +kernel
  refine F.ok (N := ["_law_controller_here", "_law_state_here", "_law_move", "_law_rows", "_law_at", "_law_name", "_law_rule", "_law_gain"]) ⟨rfl, rfl, rfl, nd, rfl, by decide +kernel, by decide +kernel⟩ rfl (F.fun_.bindsN fun _ _ _ _ _ _ us hl => match us, hl with | [_, _], _ => rfl) (fun cdv A outer s H X hr =>
    (dss_cons (ds_set (i := 2) nd (de_ct (call_dictP rfl) cp_dict rfl E.m_dict rfl (da_cons (de_ofR (dr_lc (own := [("_law_at", 4)]) (tg := (.nm 4)) rfl nd (di_rng rfl E.m_range (de_cb call_lenAll cp_len rfl E.m_len rfl (da_cons (de_var 0) da_nil))) (blkOk_by (N := ["_law_controller_here", "_law_state_here", "_law_move", "_law_rows", "_law_at", "_law_name", "_law_rule", "_law_gain"]) (sc := (defScope S_law_from)) (by decide +kernel)) (by decide) (fun _ _ _ _ _ => (pg_name (i := 4) nd rfl (by first | exact Or.inl rfl | exact Or.inr rfl))) (tt := none) (fun _ _ _ _ _ => dts_nil) (fun _ _ _ _ _ => (de_tup (da_cons (de_var 4) (da_cons (de_bin od_add (de_var 4) de_int) da_nil)))))) da_nil)))
    (dss_cons (ds_setLc (i := 3) (own := [("_law_name", 5), ("_law_rule", 6)]) (tg := (.tp [5, 6])) rfl nd (by decide) rfl rfl (sw_true rfl rfl rfl (by decide +kernel)) (di_tup (de_var 0)) (blkOk_by (N := ["_law_controller_here", "_law_state_here", "_law_move", "_law_rows", "_law_at", "_law_name", "_law_rule", "_law_gain"]) (sc := (defScope S_law_from)) (by decide +kernel)) (by decide) (fun _ _ _ _ _ => (pg_tup rfl (pgs_cons (pg_name (i := 5) nd rfl (by first | exact Or.inl rfl | exact Or.inr rfl)) (pgs_cons (pg_name (i := 6) nd rfl (by first | exact Or.inl rfl | exact Or.inr rfl)) pgs_nil)))) (tt := none) (fun _ _ _ _ _ => dts_nil) (fun _ _ _ _ _ => (de_tup (da_cons (de_var 5) (da_cons (de_ct (call_dictP rfl) cp_dict rfl E.m_dict rfl (da_cons (de_ofR (dr_lcKeys (p := (.sl 6)) (own := [("_law_gain", 7)]) (tg := (.nm 7)) rfl nd rfl (pe_var (i := 6) rfl (by first | exact Or.inl rfl | exact Or.inr (Or.inl rfl) | exact Or.inr (Or.inr rfl))) (blkOk_by (N := ["_law_controller_here", "_law_state_here", "_law_move", "_law_rows", "_law_at", "_law_name", "_law_rule", "_law_gain"]) (sc := (relS lcSc1 (defScope S_law_from))) (by decide +kernel)) (by decide) (fun _ _ _ _ _ => (pg_name (i := 7) nd rfl (by first | exact Or.inl rfl | exact Or.inr rfl))) (tt := none) (fun _ _ _ _ _ _ => dts_nil) (fun _ _ _ _ _ _ => (de_tup (da_cons (de_var 7) (da_cons (de_ixD (un1 hr) (de_var 2) (de_ixD (un1 hr) (de_var 6) (de_var 7))) da_nil)))))) da_nil)) da_nil)))))
    (dss_frz 3 (dss_one (ds_ret (de_bin od_add (de_tup (da_cons (de_ixD (un1 hr) (de_var 3) (de_var 1)) da_nil)) (de_ct call_tuple_of cp_tuple rfl E.m_tuple rfl (da_cons (de_var 3) da_nil))))))))) ?_
  rintro ds R _ ⟨Γ, c, i, rfl, hg, h4, hi, h⟩
  have lc : (c.map stD).length = c.length := List.length_map _
  simp only [dSeq, dIfS, dNext, dRet, dDrop, dSet, dUnp, dParD, dPar, dSetR, dAug, dOr, dAnd, dNot, dTst, dAndV, dOrV, dNotV, dIfE, dVar, dC, d1, d2, dL, dP, gf, dTup, drLst, drNd, drE, deR, draNil, draCons, daNil, daCons, daStar, itemsD, dChain, dIsi, dIsiC, isiT, dCall, dCallM, st0, stM, setAll, setR, setRs, Tg.set, dApp, dPop, dIxM, dStL, dStD, dBor, dBorT, frzS, diLst, diTup, diRng, diStr, diEnum, dItems, dValues, dListZip, dListRg, dIdx, dGet2, dHouse, dDisp, dPairs, dFrz, isM, tstD]
  refine lcMap (ds := rngD c.length) (δ1 := [.im (ctlD c), .im (.int i), .no, .no, .no, .no, .no, .no]) (fun d => match d with | .int k => .tup [.int k, .int (k + 1)] | _ => .non) (fun RR h => ?_) rfl (by rw [rngD_len]; omega) (fun d Q hd hQ => ?_) ?_
  · refine ⟨_, rfl, .int (c.map stD).length, rfl, _, rfl, by rw [lc]; omega, by rw [lc]; omega, ?_⟩
    rw [lc]
    exact h
  · obtain ⟨k, hk, rfl⟩ := List.mem_map.mp hd
    exact ⟨_, rfl, _, rfl, _, rfl, _, rfl, (by simp), hQ _ rfl⟩
  have e0 : (rngD c.length).map (fun d => match d with | .int k => D.tup [.int k, .int (k + 1)] | _ => .non) = (List.range c.length).map fun (k : Nat) => D.tup [.int (k : Int), .int ((k : Int) + 1)] := by
    unfold rngD
    rw [List.map_map]; rfl
  have ep : ∀ l : List Nat, pairsD (l.map fun (k : Nat) => D.tup [.int (k : Int), .int ((k : Int) + 1)]) = some (l.map fun (k : Nat) => Sum.inl (k : Int), l.map fun (k : Nat) => D.int ((k : Int) + 1)) := by
    intro l
    induction l with
    | nil => rfl
    | cons k l ih => simp only [List.map_cons, pairsD, ih, keyD]; rfl
  let mv : D := .dic ((List.range c.length).map fun (k : Nat) => Sum.inl (k : Int)) ((List.range c.length).map fun (k : Nat) => D.int ((k : Int) + 1))
  have hmv : fDict [.lst ((List.range c.length).map fun (k : Nat) => D.tup [.int (k : Int), .int ((k : Int) + 1)])] = some mv := by
    unfold fDict
    simp only [ep]
    show (if _ then some _ else none) = _
    rw [if_pos]
    refine ⟨List.pairwise_map.mpr (List.Pairwise.imp (fun h z => h (by injection z with z; omega)) List.nodup_range), by simp; omega⟩
  have look : ∀ t, t < c.length → fIx mv (.int (t : Nat)) = some (.int ((t + 1 : Nat) : Int)) := fun t ht => by
    show luD _ _ (.inl (t : Int)) = _
    refine luD_nodup (i := t) (List.pairwise_map.mpr (List.Pairwise.imp (fun h z => h (by injection z with z; omega)) List.nodup_range)) ?_ ?_
    · simp [ht]
    · simp [ht]
  rw [e0]
  refine ⟨mv, hmv, ?_⟩
  refine lcMap (ds := c.map stD) (δ1 := [.im (ctlD c), .im (.int i), .im mv, .no, .no, .no, .no, .no]) (fun d => match d with | .tup [n, .dic ks ts] => .tup [n, .dic ks (ts.map fun t => match t with | .int t => .int (t + 1) | _ => .non)] | _ => .non) (fun RR h => ⟨_, rfl, _, rfl, h⟩) rfl (by rw [lc]; omega) (fun d Q hd hQ => ?_) ?_
  · obtain ⟨s, hs, rfl⟩ := List.mem_map.mp hd
    have g := hg.st s hs
    have ka : s.keys.Pairwise (· < ·) := by rw [g.keys]; exact hg.asc _
    have ks : s.keys.length < 64 := by rw [g.keys]; exact hg.short _
    refine ⟨_, rfl, _, rfl, ?_⟩
    simp only [dSeq, dIfS, dNext, dRet, dDrop, dSet, dUnp, dParD, dPar, dSetR, dAug, dOr, dAnd, dNot, dTst, dAndV, dOrV, dNotV, dIfE, dVar, dC, d1, d2, dL, dP, gf, dTup, drLst, drNd, drE, deR, draNil, draCons, daNil, daCons, daStar, itemsD, dChain, dIsi, dIsiC, isiT, dCall, dCallM, st0, stM, setAll, setR, setRs, Tg.set, dApp, dPop, dIxM, dStL, dStD, dBor, dBorT, frzS, diLst, diTup, diRng, diStr, diEnum, dItems, dValues, dListZip, dListRg, dIdx, dGet2, dHouse, dDisp, dPairs, dFrz, isM, tstD]
    refine lcK_map (p := .sl 6) (vals := false) (vs := [7]) (δ := [.im (ctlD c), .im (.int i), .im mv, .no, .no, .im (.str s.name), .im (.dic (s.keys.map Sum.inl) (s.tos.map fun (n : Nat) => .int (n : Int))), .no]) (ks := s.keys.map Sum.inl) (ds := s.tos.map fun (n : Nat) => .int (n : Int)) (fun d => match d with | .int x => .tup [.int x, .int ((tgt s x).getD 0 + 1 : Nat)] | _ => .non) rfl rfl (by rw [List.length_map]; omega) (fun d Q hd hQ => ?_) ?_
    · rw [if_neg Bool.false_ne_true, List.map_map] at hd
      obtain ⟨x, hx, rfl⟩ := List.mem_map.mp hd
      obtain ⟨t, e1, e2⟩ := tgt_some g.len hx
      refine ⟨_, rfl, _, rfl, _, rfl, _, rfl, _, rfl, .int (t : Nat), ?_, _, look t (g.lt t e2), (by simp), ?_⟩
      · show luD _ _ (.inl x) = _
        rw [luD_rule]
        show (tgt s x).map _ = _
        rw [e1]; rfl
      · have hQ2 : ∀ δ5, _ → Q (.tup [.int x, .int ((tgt s x).getD 0 + 1 : Nat)]) δ5 := hQ
        rw [e1] at hQ2
        exact hQ2 _ rfl
    · have e1 : (if false = true then s.tos.map (fun (n : Nat) => D.int (n : Int)) else (s.keys.map Sum.inl).map kD).map (fun d => match d with | .int x => D.tup [.int x, .int ((tgt s x).getD 0 + 1 : Nat)] | _ => .non) = s.keys.map fun x => D.tup [.int x, .int ((tgt s x).getD 0 + 1 : Nat)] := by
        rw [if_neg Bool.false_ne_true, List.map_map, List.map_map]; rfl
      rw [e1]
      have ep2 : ∀ l : List Int, pairsD (l.map fun x => D.tup [.int x, .int ((tgt s x).getD 0 + 1 : Nat)]) = some (l.map Sum.inl, l.map fun x => D.int ((tgt s x).getD 0 + 1 : Nat)) := by
        intro l
        induction l with
        | nil => rfl
        | cons k l ih => simp only [List.map_cons, pairsD, ih, keyD]; rfl
      have e2 : s.keys.map (fun x => D.int ((tgt s x).getD 0 + 1 : Nat)) = (s.tos.map fun (n : Nat) => D.int (n : Int)).map fun t => match t with | .int t => .int (t + 1) | _ => .non := by
        rw [List.map_map, ← map_tgt g.len (List.Pairwise.imp (fun h => Int.ne_of_lt h) ka), List.map_map]
        rfl
      refine ⟨.dic (s.keys.map Sum.inl) (s.keys.map fun x => D.int ((tgt s x).getD 0 + 1 : Nat)), ?_, (by simp), ?_⟩
      · unfold fDict
        show (pairsD (s.keys.map fun x => D.tup [.int x, .int ((tgt s x).getD 0 + 1 : Nat)])).bind _ = _
        rw [ep2]
        show (if _ then some _ else none) = _
        rw [if_pos]
        exact ⟨List.pairwise_map.mpr (List.Pairwise.imp (fun h z => by injection z with z; omega) ka), by simp; omega⟩
      · rw [e2]
        exact hQ _ rfl
  · have e1 : (c.map stD).map (fun d => match d with | .tup [n, .dic ks ts] => D.tup [n, .dic ks (ts.map fun t => match t with | .int t => .int (t + 1) | _ => .non)] | _ => .non) = (shift c).map stD := by
      unfold shift
      rw [List.map_map, List.map_map]
      refine List.map_congr_left fun s _ => ?_
      show D.tup [.str s.name, .dic (s.keys.map Sum.inl) ((s.tos.map fun (n : Nat) => D.int (n : Int)).map _)] = stD ⟨s.name, s.keys, s.tos.map fun t => t + 1⟩
      rw [List.map_map]
      unfold stD
      simp only [List.map_map]
      rfl
    rw [e1]
    have hi2 : i < (shift c).length := by unfold shift; rw [List.length_map]; exact hi
    refine ⟨rfl, _, rfl, _, rfl, stD ((shift c).getD i default), ?_, (by simp), _, rfl, .tup ((shift c).map stD), rfl, ctlD (fromC c i), ?_, h⟩
    · exact atD_nat (getD_get hi2)
    · show (if [stD ((shift c).getD i default)].length + ((shift c).map stD).length ≤ 100000 then some (D.tup ([stD ((shift c).getD i default)] ++ (shift c).map stD)) else none) = _
      rw [if_pos]
      · rfl
      · unfold shift
        simp
        omega

end
end K46

set_option Elab.async false
set_option linter.all false
set_option maxRecDepth 100000
set_option maxHeartbeats 2000000
namespace K46
open PySem PySem.Spec PyProof.Rows L2
section
variable {P : Program} {w : World} {K : PySem.W.Frag} {mg : Str → Option Value} {base : Heap} {C f : Addr} {fd : FuncData}
theorem eq_nil {ds : List D} : fEq (.lst ds) (.lst []) = some (.bl ds.isEmpty) := by
  cases ds with
  | nil => rfl
  | cons d ds => simp [fEq, cmpE, cmpN, eqD, eqL]
def alP (p : Nat → Bool) : D → Bool
  | .int k => p k.toNat
  | _ => false
theorem isM_frzS (s : Sl) : isM (some (frzS s)) = false := by cases s <;> rfl
theorem filter_int (p : Nat → Bool) (f : List Nat) : (f.map fun (n : Nat) => D.int (n : Int)).filter (alP p) = (f.filter p).map fun (n : Nat) => D.int (n : Int) := by
  rw [List.filter_map]
  congr 1
theorem filter_empty (p : Nat → Bool) : ∀ f : List Nat, ((f.filter p).map fun (n : Nat) => D.int (n : Int)).isEmpty = !f.any p
  | [] => rfl
  | k :: f => by
    rw [List.filter_cons, List.any_cons]
    cases p k with
    | true => simp
    | false => simpa using filter_empty p f
theorem isNon_res (r : Option (List Int)) : isNon (resD r) = r.isNone := by cases r <;> rfl
theorem beq_none (r : Option (List Int)) : ((some r : Option (Option (List Int))) == some none) = r.isNone := by cases r <;> rfl
theorem ok__law_sorts {m : Option Addr} (E : En K mg C) (F : Fd K mg "_law_sorts" S_law_sorts f fd)
    (G__law_parting : OkD P w K mg base C "_law_parting" 1 2 none ["_law_one", "_law_other"] pre__law_parting)
    (G__law_from : OkD P w K mg base C "_law_from" 1 2 none ["_law_controller_here", "_law_state_here"] pre__law_from) : OkD P w K mg base C "_law_sorts" 2 1 none ["_law_controller_here"] pre__law_sorts := by
  have nd : (["_law_controller_here", "_law_found", "_law_at", "_law_rule", "_law_gain", "_law_same", "_law_one"] : List Str).Nodup := by decide +kernel
  refine F.ok (N := ["_law_controller_here", "_law_found", "_law_at", "_law_rule", "_law_gain", "_law_same", "_law_one"]) ⟨rfl, rfl, rfl, nd, rfl, by decide +kernel, by decide +kernel⟩ rfl (F.fun_.bindsN fun _ _ _ _ _ _ us hl => match us, hl with | [_], _ => rfl) (fun cdv A outer s H X hr =>
    (dss_cons (ds_par2 (i := 1) (j := 2) rfl nd rfl rfl (by decide) (by decide) rfl rfl (dra_cons (dr_lst (da_cons de_int da_nil)) (dra_cons (dr_ofE de_int) dra_nil)) (by rfl))
    (dss_cons (ds_while (dt_bor rfl (dt_cmpD (od_lt (un0 hr)) (de_var 2) (de_cb call_lenAll cp_len rfl E.m_len rfl (da_cons (de_var 1) da_nil)))) (dss_cons (ds_set (i := 3) nd (de_ixD (un1 hr) (de_ixD (un1 hr) (de_var 0) (de_ixM 1 (de_var 2) (by intro _ _; rfl))) de_int))
    (dss_cons (ds_for (tg := (.nm 4)) PassesOwn.never rfl (di_lst (de_cb (call_sortedAll rfl) (cp_sorted rfl) rfl E.m_sorted rfl (da_cons (de_var 3) da_nil))) (pg_name (i := 4) nd rfl (by first | exact Or.inl rfl | exact Or.inr rfl)) (dss_cons (ds_setLcB (i := 5) (own := [("_law_one", 6)]) (tg := (.nm 6)) rfl rfl nd (by decide) rfl rfl (sw_true rfl rfl rfl (by decide +kernel)) (di_lst (de_var 1)) (blkOk_by (N := ["_law_controller_here", "_law_found", "_law_at", "_law_rule", "_law_gain", "_law_same", "_law_one"]) (sc := (defScope S_law_sorts)) (by decide +kernel)) (by decide) (fun _ _ _ _ _ => (pg_name (i := 6) nd rfl (by first | exact Or.inl rfl | exact Or.inr rfl))) (fun _ _ _ _ _ => dts_one (dt_cmpD od_is (de_callD G__law_parting (hr.mono (by decide)) rfl (da_cons (de_callD G__law_from (hr.mono (by decide)) rfl (da_cons (de_var 0) (da_cons (de_var 6) da_nil))) (da_cons (de_callD G__law_from (hr.mono (by decide)) rfl (da_cons (de_var 0) (da_cons (de_ixD (un1 hr) (de_var 3) (de_var 4)) da_nil))) da_nil))) de_non)) (fun _ _ _ _ _ => (de_var 6)))
    (dss_one (ds_if (dt_bor rfl (dt_cmpD (od_eq rfl (un8 hr)) (de_var 5) (de_ofR (dr_lst da_nil)))) (dss_one (ds_app 1 (de_ixD (un1 hr) (de_var 3) (de_var 4)))) dss_nil))))
    (dss_one (ds_set (i := 2) nd (de_bin od_add (de_var 2) de_int))))) PassesOwn.never)
    (dss_frz 1 (dss_one (ds_ret (de_var 1))))))) ?_
  rintro ds R _ ⟨Γ, c, o, rfl, hg, h4, ho, h⟩
  simp only [dSeq, dIfS, dNext, dRet, dDrop, dSet, dUnp, dParD, dPar, dSetR, dAug, dOr, dAnd, dNot, dTst, dAndV, dOrV, dNotV, dIfE, dVar, dC, d1, d2, dL, dP, gf, dTup, drLst, drNd, drE, deR, draNil, draCons, daNil, daCons, daStar, itemsD, dChain, dIsi, dIsiC, isiT, dCall, dCallM, st0, stM, setAll, setR, setRs, Tg.set, dApp, dPop, dIxM, dStL, dStD, dBor, dBorT, frzS, diLst, diTup, diRng, diStr, diEnum, dItems, dValues, dListZip, dListRg, dIdx, dGet2, dHouse, dDisp, dPairs, dFrz, isM, tstD]
  refine ⟨by decide, rfl, ?_⟩
  refine ⟨fun m δ => ∃ (at_ : Nat) (f : List Nat) (a b e g : Sl), δ = [.im (ctlD c), .ml (f.map fun (n : Nat) => .int (n : Int)), .im (.int at_), a, b, e, g] ∧ isM (some a) = false ∧ isM (some b) = false ∧ isM (some g) = false ∧ m ≤ 60 ∧ f.length ≤ 1 + 64 * (60 - m) ∧ at_ ≤ f.length ∧ (∀ k ∈ f, k < c.length) ∧
    walkO c id (fun o t => o.any fun one => alikeF c one t) m at_ f = some o, ⟨60, 0, [0], _, _, _, _, rfl, rfl, rfl, rfl, Nat.le_refl _, by decide, by decide, ?_, ho.ord⟩, ?_⟩
  · intro k hk
    rw [List.mem_singleton.mp hk]; exact hg.one
  rintro m δ ⟨at_, f, a, b, e, g, rfl, ha, hb, hgg, hm, hl, hat, hf, hw⟩
  have lf : (f.map fun (n : Nat) => D.int (n : Int)).length = f.length := List.length_map _
  refine ⟨_, rfl, _, rfl, .int (f.map fun (n : Nat) => D.int (n : Int)).length, rfl, .bl (decide ((at_ : Int) < (f.map fun (n : Nat) => D.int (n : Int)).length)), rfl, _, rfl, fun hne => ?_, fun hne => ?_⟩
  · have hlt : at_ < f.length := by
      have := of_decide_eq_true hne
      rw [lf] at this
      omega
    have hgf : f[at_]? = some f[at_] := List.getElem?_eq_getElem hlt
    have hgd : f.getD at_ 0 = f[at_] := by simp [List.getD, hgf]
    have hkm : f[at_] ∈ f := List.getElem_mem hlt
    cases m with
    | zero => cases hw
    | succ m =>
      have hw : (if at_ < f.length then walkO c id (fun o t => o.any fun one => alikeF c one t) m (at_ + 1) (addAll (c.getD (f.getD at_ 0) default) id (fun o t => o.any fun one => alikeF c one t) (c.getD (f.getD at_ 0) default).keys f) else some f) = some o := hw
      rw [if_pos hlt, hgd] at hw
      generalize hk : f[at_] = k at *
      have hkc := hf k hkm
      have la := hg.tl hkc
      have ka := hg.kasc hkc
      have ks := hg.kshort hkc
      have ht := (hg.st _ (getD_mem hkc)).lt
      have fa := fIx_ctl hkc
      generalize hsa : c.getD k default = sa at *
      refine ⟨_, rfl, ⟨_, rfl⟩, _, rfl, _, _, .int (k : Nat), rfl, rfl, by omega, ?_, _, fa, _, st_rule, ?_⟩
      · show (f.map fun (n : Nat) => D.int (n : Int))[at_]? = _
        rw [List.getElem?_map, hgf]; rfl
      simp only [dSeq]
      refine forD (ds := sa.keys.map D.int) (δ1 := [.im (ctlD c), .ml (f.map fun (n : Nat) => .int (n : Int)), .im (.int at_), .im (.dic (sa.keys.map Sum.inl) (sa.tos.map fun (n : Nat) => .int (n : Int))), b, e, g]) (fun j δ => ∃ (f' : List Nat) (a e g : Sl), δ = [.im (ctlD c), .ml (f'.map fun (n : Nat) => .int (n : Int)), .im (.int at_), .im (.dic (sa.keys.map Sum.inl) (sa.tos.map fun (n : Nat) => .int (n : Int))), a, e, g] ∧ isM (some a) = false ∧ isM (some g) = false ∧
        f'.length ≤ f.length + j ∧ at_ + 1 ≤ f'.length ∧ (∀ k ∈ f', k < c.length) ∧ addAll sa id (fun o t => o.any fun one => alikeF c one t) (sa.keys.drop j) f' = addAll sa id (fun o t => o.any fun one => alikeF c one t) sa.keys f) (fun RR hRR => ?_) ?_ ?_ ?_
      · refine ⟨_, rfl, ?_⟩
        exact sorted_dict (R := fun d => ∃ ds, d = D.lst ds ∧ RR ds _) la ka ks ⟨_, rfl, hRR⟩
      · exact ⟨f, b, e, g, rfl, hb, hgg, Nat.le_refl _, hlt, hf, rfl⟩
      · rintro j dj δ2 hdj ⟨f', a', e', g', rfl, ha', hg', hq1, hq2, hq3, hadd⟩
        rw [List.getElem?_map] at hdj
        cases hkk : sa.keys[j]? with
        | none => rw [hkk] at hdj; cases hdj
        | some x =>
          rw [hkk] at hdj
          cases hdj
          have hk1 := (List.getElem?_eq_some_iff.mp hkk).1
          have hxm : x ∈ sa.keys := List.mem_of_getElem? hkk
          have ed : sa.keys.drop j = x :: sa.keys.drop (j + 1) := by
            rw [List.drop_eq_getElem_cons hk1]
            rw [List.getElem?_eq_getElem hk1] at hkk
            cases hkk; rfl
          obtain ⟨t, e1, e2⟩ := tgt_some la hxm
          have htc := ht t e2
          have tg1 : fIx (.dic (sa.keys.map Sum.inl) (sa.tos.map fun (n : Nat) => .int (n : Int))) (.int x) = some (.int (t : Nat)) := by rw [fIx_rule, e1]; rfl
          rw [ed] at hadd
          have hadd : (if (f'.any fun one => alikeF c one ((tgt sa x).getD 0)) = true then addAll sa id (fun o t => o.any fun one => alikeF c one t) (sa.keys.drop (j + 1)) f' else addAll sa id (fun o t => o.any fun one => alikeF c one t) (sa.keys.drop (j + 1)) (f' ++ [(tgt sa x).getD 0])) = _ := hadd
          rw [e1] at hadd
          simp only [Option.getD_some] at hadd
          refine ⟨_, rfl, ?_⟩
          simp only [dSeq, dIfS, dNext, dRet, dDrop, dSet, dUnp, dParD, dPar, dSetR, dAug, dOr, dAnd, dNot, dTst, dAndV, dOrV, dNotV, dIfE, dVar, dC, d1, d2, dL, dP, gf, dTup, drLst, drNd, drE, deR, draNil, draCons, daNil, daCons, daStar, itemsD, dChain, dIsi, dIsiC, isiT, dCall, dCallM, st0, stM, setAll, setR, setRs, Tg.set, dApp, dPop, dIxM, dStL, dStD, dBor, dBorT, frzS, diLst, diTup, diRng, diStr, diEnum, dItems, dValues, dListZip, dListRg, dIdx, dGet2, dHouse, dDisp, dPairs, dFrz, isM, tstD]
          refine lcFilter (ds := f'.map fun (n : Nat) => .int (n : Int)) (δ1 := [.im (ctlD c), .im (.lst (f'.map fun (n : Nat) => .int (n : Int))), .im (.int at_), .im (.dic (sa.keys.map Sum.inl) (sa.tos.map fun (n : Nat) => .int (n : Int))), .im (.int x), frzS e', frzS g']) (alP fun q => alikeF c q t) id (fun RR h => ?_) ?_ (by rw [List.length_map]; omega) (fun d Q hd hQ => ?_) ?_
          · exact ⟨_, rfl, _, rfl, h⟩
          · show (!isM (some (frzS g')) && true) = true
            rw [isM_frzS]; rfl
          · obtain ⟨q, hq, rfl⟩ := List.mem_map.mp hd
            have hqc := hq3 q hq
            obtain ⟨r, hr⟩ := ho.parts q t hqc htc
            have ha2 : alikeF c q t = r.isNone := by unfold alikeF; rw [hr, beq_none]
            refine ⟨_, rfl, ?_⟩
            simp only [dSeq, dIfS, dNext, dRet, dDrop, dSet, dUnp, dParD, dPar, dSetR, dAug, dOr, dAnd, dNot, dTst, dAndV, dOrV, dNotV, dIfE, dVar, dC, d1, d2, dL, dP, gf, dTup, drLst, drNd, drE, deR, draNil, draCons, daNil, daCons, daStar, itemsD, dChain, dIsi, dIsiC, isiT, dCall, dCallM, st0, stM, setAll, setR, setRs, Tg.set, dApp, dPop, dIxM, dStL, dStD, dBor, dBorT, frzS, diLst, diTup, diRng, diStr, diEnum, dItems, dValues, dListZip, dListRg, dIdx, dGet2, dHouse, dDisp, dPairs, dFrz, isM, tstD]
            refine ⟨_, rfl, _, rfl, rfl, Γ, c, q, rfl, hg, h4, hqc, _, rfl, _, rfl, _, rfl, _, tg1, rfl, Γ, c, t, rfl, hg, h4, htc, rfl, Γ, fromC c q, fromC c t, r, rfl, from_good hg h4 hqc, from_good hg h4 htc, hr, .bl r.isNone, ?_, _, rfl, ?_⟩
            · show some (D.bl (isNon (resD r))) = _
              rw [isNon_res]
            · have hQ2 : ∀ δ4, (alikeF c q t = true → ∀ Q' : D → List Sl → Prop, (∀ δ5, _ → Q' (.int q) δ5) → dVar 6 δ4 Q') → (alikeF c q t = false → _) → Q (alikeF c q t) δ4 := hQ
              rw [ha2] at hQ2
              exact hQ2 _ (fun _ Q' hQ' => ⟨_, rfl, hQ' _ rfl⟩) fun _ => rfl
          · rw [filter_int, List.map_id]
            refine ⟨_, rfl, fun d hd => by obtain ⟨_, _, rfl⟩ := List.mem_map.mp hd; rfl, ?_⟩
            have hfl : ((f'.filter fun q => alikeF c q t).map fun (n : Nat) => D.int (n : Int)).length ≤ f'.length := by rw [List.length_map]; exact List.length_filter_le _ _
            simp only [dSeq, dIfS, dNext, dRet, dDrop, dSet, dUnp, dParD, dPar, dSetR, dAug, dOr, dAnd, dNot, dTst, dAndV, dOrV, dNotV, dIfE, dVar, dC, d1, d2, dL, dP, gf, dTup, drLst, drNd, drE, deR, draNil, draCons, daNil, daCons, daStar, itemsD, dChain, dIsi, dIsiC, isiT, dCall, dCallM, st0, stM, setAll, setR, setRs, Tg.set, dApp, dPop, dIxM, dStL, dStD, dBor, dBorT, frzS, diLst, diTup, diRng, diStr, diEnum, dItems, dValues, dListZip, dListRg, dIdx, dGet2, dHouse, dDisp, dPairs, dFrz, isM, tstD]
            refine ⟨_, rfl, Nat.zero_le _, .bl ((f'.filter fun q => alikeF c q t).map fun (n : Nat) => D.int (n : Int)).isEmpty, eq_nil, _, rfl, fun hn => ?_, fun hn => ?_⟩
            · rw [filter_empty] at hn
              have hn : (f'.any fun q => alikeF c q t) = false := by simpa using hn
              rw [if_neg (by rw [hn]; exact Bool.false_ne_true)] at hadd
              refine ⟨⟨_, rfl⟩, _, rfl, _, rfl, .int (t : Nat), tg1, _, rfl, by rw [List.length_map]; omega, f' ++ [t], .im (.int x), .ml ((f'.filter fun q => alikeF c q t).map fun (n : Nat) => .int (n : Int)), g', ?_, rfl, hg', ?_, ?_, ?_, hadd⟩
              · rw [List.map_append]; rfl
              · rw [List.length_append]; simp; omega
              · rw [List.length_append]; simp; omega
              · intro y hy
                rcases List.mem_append.mp hy with z | z
                · exact hq3 y z
                · rw [List.mem_singleton.mp z]; exact htc
            · rw [filter_empty] at hn
              have hn : (f'.any fun q => alikeF c q t) = true := by simpa using hn
              rw [if_pos hn] at hadd
              exact ⟨f', .im (.int x), .ml ((f'.filter fun q => alikeF c q t).map fun (n : Nat) => .int (n : Int)), g', rfl, rfl, hg', by omega, hq2, hq3, hadd⟩
      · rintro δ2 ⟨f', a', e', g', rfl, ha', hg', hq1, hq2, hq3, hadd⟩
        rw [List.length_map, List.drop_length] at hadd
        have hadd : f' = _ := hadd
        rw [List.length_map] at hq1
        rw [← hadd] at hw
        exact ⟨_, rfl, _, rfl, m, Nat.lt_succ_self m, at_ + 1, f', _, _, _, _, rfl, rfl, ha', hg', by omega, by omega, hq2, hq3, hw⟩
  · have hge : at_ = f.length := by
      have := of_decide_eq_false hne
      rw [lf] at this
      omega
    subst hge
    cases m with
    | zero => cases hw
    | succ m =>
      have hw : (if f.length < f.length then _ else some f) = some o := hw
      rw [if_neg (Nat.lt_irrefl _)] at hw
      cases hw
      exact ⟨rfl, _, rfl, h⟩

end
end K46

set_option Elab.async false
set_option linter.all false
set_option maxRecDepth 100000
set_option maxHeartbeats 2000000
namespace K46
open PySem PySem.Spec PyProof.Rows L2
section
variable {P : Program} {w : World} {K : PySem.W.Frag} {mg : Str → Option Value} {base : Heap} {C f : Addr} {fd : FuncData}
theorem luD_rng (g : Nat → D) : ∀ (n j t : Nat), j ≤ t → t < j + n → luD ((List.range' j n).map fun (n : Nat) => Sum.inl (n : Int)) ((List.range' j n).map g) (.inl (t : Int)) = some (g t)
  | 0, _, _, h1, h2 => by omega
  | n + 1, j, t, h1, h2 => by
    have ih := luD_rng g n (j + 1) t
    rw [List.range'_succ, List.map_cons, List.map_cons]
    unfold luD at ih ⊢
    rw [List.zip_cons_cons, List.find?_cons]
    by_cases e : j = t
    · subst e; simp
    · have e1 : decide ((Sum.inl (j : Int) : Key) = .inl (t : Int)) = false := by
        simp only [decide_eq_false_iff_not, Sum.inl.injEq]
        omega
      rw [e1]
      exact ih (by omega) (by omega)
def headsD (c : Ctl) : D := .dic ((List.range c.length).map fun (n : Nat) => Sum.inl (n : Int)) ((List.range c.length).map fun (n : Nat) => .int (headOf c n : Int))
theorem fIx_heads {c : Ctl} {t : Nat} (h : t < c.length) : fIx (headsD c) (.int (t : Int)) = some (.int (headOf c t : Nat)) := by
  show luD _ _ (.inl (t : Int)) = _
  rw [List.range_eq_range']
  exact luD_rng (fun n => .int (headOf c n : Int)) _ _ _ (Nat.zero_le _) (by omega)
theorem headOf_eq {c : Ctl} {i : Nat} (h : (List.range c.length).filter (fun j => alikeB c i j) ≠ []) : ((List.range c.length).filter fun j => alikeB c i j)[0]? = some (headOf c i) := by
  unfold headOf
  cases e : (List.range c.length).filter fun j => alikeB c i j with
  | nil => exact (h e).elim
  | cons a l => rfl
theorem head_lt {c : Ctl} {i : Nat} (hi : 1 ≤ c.length) : headOf c i < c.length := by
  unfold headOf
  cases e : (List.range c.length).filter fun j => alikeB c i j with
  | nil => show 0 < _; omega
  | cons a l =>
    have : a ∈ (List.range c.length).filter fun j => alikeB c i j := by rw [e]; exact List.mem_cons_self
    exact List.mem_range.mp (List.mem_filter.mp this).1
theorem addAll_sub {a : Stt} {h : Nat → Nat} {met : List Nat → Nat → Bool} : ∀ {gs : List Int} {f : List Nat}, ∀ x ∈ f, x ∈ addAll a h met gs f
  | [], f, x, hx => hx
  | g :: gs, f, x, hx => by
    show x ∈ (if met f ((tgt a g).getD 0) then addAll a h met gs f else addAll a h met gs (f ++ [h ((tgt a g).getD 0)]))
    split
    · exact addAll_sub x hx
    · exact addAll_sub x (List.mem_append_left _ hx)
theorem fIn_nats {k : Nat} {f : List Nat} : fIn (.int (k : Int)) (.lst (f.map fun (n : Nat) => D.int (n : Int))) = some (.bl (decide (k ∈ f))) := by
  have e : (f.map fun (n : Nat) => D.int (n : Int)) = (f.map fun (n : Nat) => (n : Int)).map D.int := by rw [List.map_map]; rfl
  show (allI _).map (fun ns => D.bl (decide ((k : Int) ∈ ns))) = _
  rw [e, allI_map]
  show some (D.bl _) = _
  congr 2
  refine decide_eq_decide.mpr ⟨fun h => ?_, fun h => List.mem_map.mpr ⟨k, h, rfl⟩⟩
  obtain ⟨q, hq, e⟩ := List.mem_map.mp h
  have : q = k := by omega
  rw [← this]; exact hq
theorem idxOf_cast (k : Nat) : ∀ o : List Nat, (o.map fun (n : Nat) => (n : Int)).idxOf (k : Int) = o.idxOf k
  | [] => rfl
  | a :: o => by
    rw [List.map_cons, List.idxOf_cons, List.idxOf_cons, idxOf_cast k o]
    have : ((a : Int) == (k : Int)) = (a == k) := by rw [Bool.eq_iff_iff]; simp; omega
    rw [this]
theorem ok_least_in {m : Option Addr} (E : En K mg C) (F : Fd K mg "least_in" Sleast_in f fd)
    (G_parting_in : OkD P w K mg base C "parting_in" 1 2 none ["one", "other"] pre_parting_in)
    (G_begun_at : OkD P w K mg base C "begun_at" 2 2 none ["controller", "state"] pre_begun_at) : OkD P w K mg base C "least_in" 3 1 none ["controller"] pre_least_in := by
  have nd : (["controller", "states", "heads", "state", "found", "alike", "order", "at", "rule", "gain", "name", "one"] : List Str).Nodup := by decide +kernel
  refine F.ok (N := ["controller", "states", "heads", "state", "found", "alike", "order", "at", "rule", "gain", "name", "one"]) ⟨rfl, rfl, rfl, nd, rfl, by decide +kernel, by decide +kernel⟩ rfl (F.fun_.bindsN fun _ _ _ _ _ _ us hl => match us, hl with | [_], _ => rfl) (fun cdv A outer s H X hr =>
    (dss_cons (ds_set (i := 1) nd (de_listRg rfl rfl E.m_list rfl E.m_range (de_cb call_lenAll cp_len rfl E.m_len rfl (da_cons (de_var 0) da_nil))))
    (dss_cons (ds_setR (i := 2) nd dr_nd (by decide))
    (dss_cons (ds_for (tg := (.nm 3)) PassesOwn.never rfl (di_lst (de_var 1)) (pg_name (i := 3) nd rfl (by first | exact Or.inl rfl | exact Or.inr rfl)) (dss_cons (ds_setLc (i := 5) (own := [("one", 11)]) (tg := (.nm 11)) rfl nd (by decide) rfl rfl (sw_true rfl rfl rfl (by decide +kernel)) (di_lst (de_var 1)) (blkOk_by (N := ["controller", "states", "heads", "state", "found", "alike", "order", "at", "rule", "gain", "name", "one"]) (sc := (defScope Sleast_in)) (by decide +kernel)) (by decide) (fun _ _ _ _ _ => (pg_name (i := 11) nd rfl (by first | exact Or.inl rfl | exact Or.inr rfl))) (fun _ _ _ _ _ => dts_one (dt_cmpD od_is (de_callD G_parting_in (hr.mono (by decide)) rfl (da_cons (de_callD G_begun_at (hr.mono (by decide)) rfl (da_cons (de_var 0) (da_cons (de_var 3) da_nil))) (da_cons (de_callD G_begun_at (hr.mono (by decide)) rfl (da_cons (de_var 0) (da_cons (de_var 11) da_nil))) da_nil))) de_non)) (fun _ _ _ _ _ => (de_var 11)))
    (dss_one (ds_stD 2 (un1 hr) (de_ixM 5 de_int (by intro _ _; rfl)) (de_var 3)))))
    (dss_frz 2 (dss_cons (ds_parT2 (i := 6) (j := 7) rfl nd (by decide) (pg_tup rfl (pgs_cons (pg_name (i := 6) nd rfl (by first | exact Or.inl rfl | exact Or.inr rfl)) (pgs_cons (pg_name (i := 7) nd rfl (by first | exact Or.inl rfl | exact Or.inr rfl)) pgs_nil))) (dra_cons (dr_lst (da_cons (de_ixD (un1 hr) (de_var 2) de_int) da_nil)) (dra_cons (dr_ofE de_int) dra_nil)))
    (dss_cons (ds_while (dt_bor rfl (dt_cmpD (od_lt (un0 hr)) (de_var 7) (de_cb call_lenAll cp_len rfl E.m_len rfl (da_cons (de_var 6) da_nil)))) (dss_cons (ds_set (i := 8) nd (de_ixD (un1 hr) (de_ixD (un1 hr) (de_var 0) (de_ixM 6 (de_var 7) (by intro _ _; rfl))) de_int))
    (dss_cons (ds_for (tg := (.nm 9)) PassesOwn.never rfl (di_lst (de_cb (call_sortedAll rfl) (cp_sorted rfl) rfl E.m_sorted rfl (da_cons (de_ct (call_list_of.or (call_listD rfl)) cp_list rfl E.m_list rfl (da_cons (de_var 8) da_nil)) da_nil))) (pg_name (i := 9) nd rfl (by first | exact Or.inl rfl | exact Or.inr rfl)) (dss_one (ds_if (dt_bor rfl (dt_cmpD (od_notIn (un65 hr)) (de_ixD (un1 hr) (de_var 2) (de_ixD (un1 hr) (de_var 8) (de_var 9))) (de_var 6))) (dss_one (ds_app 6 (de_ixD (un1 hr) (de_var 2) (de_ixD (un1 hr) (de_var 8) (de_var 9))))) dss_nil)))
    (dss_one (ds_aug (i := 7) nd de_int)))) PassesOwn.never)
    (dss_frz 6 (dss_cons (ds_setR (i := 4) nd (dr_lst da_nil) (by decide))
    (dss_cons (ds_for (tg := (.nm 3)) PassesOwn.never rfl (di_lst (de_var 6)) (pg_name (i := 3) nd rfl (by first | exact Or.inl rfl | exact Or.inr rfl)) (dss_cons (ds_unp (tg := (.tp [10, 8])) (pg_tup rfl (pgs_cons (pg_name (i := 10) nd rfl (by first | exact Or.inl rfl | exact Or.inr rfl)) (pgs_cons (pg_name (i := 8) nd rfl (by first | exact Or.inl rfl | exact Or.inr rfl)) pgs_nil))) (de_ixD (un1 hr) (de_var 0) (de_var 3)))
    (dss_one (ds_app 4 (de_tup (da_cons (de_var 10) (da_cons (de_dc (own := [("gain", 9)]) (tg := (.nm 9)) rfl nd (di_lst (de_cb (call_sortedAll rfl) (cp_sorted rfl) rfl E.m_sorted rfl (da_cons (de_ct (call_list_of.or (call_listD rfl)) cp_list rfl E.m_list rfl (da_cons (de_var 8) da_nil)) da_nil))) (blkOk_by (N := ["controller", "states", "heads", "state", "found", "alike", "order", "at", "rule", "gain", "name", "one"]) (sc := (defScope Sleast_in)) (by decide +kernel)) (by decide) (fun _ _ _ _ _ => (pg_name (i := 9) nd rfl (by first | exact Or.inl rfl | exact Or.inr rfl))) (fun _ _ _ _ _ => (de_var 9)) (fun _ _ _ _ _ => (de_idx (de_var 6) (da_cons (de_ixD (un1 hr) (de_var 2) (de_ixD (un1 hr) (de_var 8) (de_var 9))) da_nil)))) da_nil)))))))
    (dss_frz 4 (dss_one (ds_ret (de_ct call_tuple_of cp_tuple rfl E.m_tuple rfl (da_cons (de_var 4) da_nil))))))))))))))) ?_
  rintro ds R _ ⟨Γ, c, o, rfl, hg, h4, ho, h⟩
  have lc : (c.map stD).length = c.length := List.length_map _
  have rl : (rngD c.length).length ≤ 100000 := by rw [rngD_len]; omega
  simp only [dSeq, dIfS, dNext, dRet, dDrop, dSet, dUnp, dParD, dPar, dSetR, dAug, dOr, dAnd, dNot, dTst, dAndV, dOrV, dNotV, dIfE, dVar, dC, d1, d2, dL, dP, gf, dTup, drLst, drNd, drE, deR, draNil, draCons, daNil, daCons, daStar, itemsD, dChain, dIsi, dIsiC, isiT, dCall, dCallM, st0, stM, setAll, setR, setRs, Tg.set, dApp, dPop, dIxM, dStL, dStD, dBor, dBorT, frzS, diLst, diTup, diRng, diStr, diEnum, dItems, dValues, dListZip, dListRg, dIdx, dGet2, dHouse, dDisp, dPairs, dFrz, isM, tstD]
  refine ⟨_, rfl, .int (c.map stD).length, rfl, _, rfl, by rw [lc]; omega, by rw [lc]; omega, ?_⟩
  rw [lc]
  refine forD (ds := rngD c.length) (δ1 := [.im (ctlD c), .im (.lst (rngD c.length)), .md [] [], .no, .no, .no, .no, .no, .no, .no, .no, .no]) (fun k δ => ∃ a b e, δ = [.im (ctlD c), .im (.lst (rngD c.length)), .md ((List.range k).map fun (n : Nat) => Sum.inl (n : Int)) ((List.range k).map fun (n : Nat) => .int (headOf c n : Int)), a, .no, b, .no, .no, .no, .no, .no, e] ∧ isM (some a) = false ∧ isM (some e) = false) (fun RR hRR => ⟨_, rfl, _, rfl, hRR⟩) ⟨_, _, _, rfl, rfl, rfl⟩ ?_ ?_
  · rintro k d δ2 hd ⟨a, b, e, rfl, ha, he⟩
    unfold rngD at hd
    rw [List.getElem?_map] at hd
    cases hkk : (List.range c.length)[k]? with
    | none => rw [hkk] at hd; cases hd
    | some k' =>
      rw [hkk] at hd
      cases hd
      obtain ⟨hk, rfl⟩ := List.getElem?_eq_some_iff.mp hkk
      rw [List.length_range] at hk
      rw [List.getElem_range]
      refine ⟨_, rfl, ?_⟩
      simp only [dSeq, dIfS, dNext, dRet, dDrop, dSet, dUnp, dParD, dPar, dSetR, dAug, dOr, dAnd, dNot, dTst, dAndV, dOrV, dNotV, dIfE, dVar, dC, d1, d2, dL, dP, gf, dTup, drLst, drNd, drE, deR, draNil, draCons, daNil, daCons, daStar, itemsD, dChain, dIsi, dIsiC, isiT, dCall, dCallM, st0, stM, setAll, setR, setRs, Tg.set, dApp, dPop, dIxM, dStL, dStD, dBor, dBorT, frzS, diLst, diTup, diRng, diStr, diEnum, dItems, dValues, dListZip, dListRg, dIdx, dGet2, dHouse, dDisp, dPairs, dFrz, isM, tstD]
      refine lcFilter (ds := rngD c.length) (δ1 := [.im (ctlD c), .im (.lst (rngD c.length)), .md ((List.range k).map fun (n : Nat) => Sum.inl (n : Int)) ((List.range k).map fun (n : Nat) => .int (headOf c n : Int)), .im (.int k), .no, b, .no, .no, .no, .no, .no, e]) (alP fun q => alikeB c k q) id (fun RR h => ⟨_, rfl, _, rfl, h⟩) ?_ rl (fun d Q hd hQ => ?_) ?_
      · show (!isM (some e) && true) = true
        rw [he]; rfl
      · unfold rngD at hd
        obtain ⟨q, hq, rfl⟩ := List.mem_map.mp hd
        have hqc := List.mem_range.mp hq
        obtain ⟨r, hr⟩ := ho.parts k q hk hqc
        have ha2 : alikeB c k q = r.isNone := by unfold alikeB; rw [hr, beq_none]
        refine ⟨_, rfl, _, rfl, _, rfl, rfl, Γ, c, k, rfl, hg, hk, _, rfl, _, rfl, rfl, Γ, c, q, rfl, hg, hqc, rfl, Γ, begun c k, begun c q, r, rfl, begun_good hg hk, begun_good hg hqc, hr, .bl r.isNone, ?_, _, rfl, ?_⟩
        · show some (D.bl (isNon (resD r))) = _
          rw [isNon_res]
        · have hQ2 : ∀ δ4, (alikeB c k q = true → ∀ Q' : D → List Sl → Prop, (∀ δ5, _ → Q' (.int q) δ5) → dVar 11 δ4 Q') → (alikeB c k q = false → _) → Q (alikeB c k q) δ4 := hQ
          rw [ha2] at hQ2
          exact hQ2 _ (fun _ Q' hQ' => ⟨_, rfl, hQ' _ rfl⟩) fun _ => rfl
      · have e0 : (rngD c.length).filter (alP fun q => alikeB c k q) = ((List.range c.length).filter fun q => alikeB c k q).map fun (n : Nat) => D.int (n : Int) := filter_int _ _
        rw [e0, List.map_id]
        have hne : (List.range c.length).filter (fun q => alikeB c k q) ≠ [] := fun z => by
          have : k ∈ (List.range c.length).filter (fun q => alikeB c k q) := List.mem_filter.mpr ⟨List.mem_range.mpr hk, ho.self k hk⟩
          rw [z] at this; cases this
        simp only [dSeq, dIfS, dNext, dRet, dDrop, dSet, dUnp, dParD, dPar, dSetR, dAug, dOr, dAnd, dNot, dTst, dAndV, dOrV, dNotV, dIfE, dVar, dC, d1, d2, dL, dP, gf, dTup, drLst, drNd, drE, deR, draNil, draCons, daNil, daCons, daStar, itemsD, dChain, dIsi, dIsiC, isiT, dCall, dCallM, st0, stM, setAll, setR, setRs, Tg.set, dApp, dPop, dIxM, dStL, dStD, dBor, dBorT, frzS, diLst, diTup, diRng, diStr, diEnum, dItems, dValues, dListZip, dListRg, dIdx, dGet2, dHouse, dDisp, dPairs, dFrz, isM, tstD]
        refine ⟨⟨_, rfl⟩, _, _, .int (headOf c k : Nat), rfl, rfl, Int.le_refl _, ?_, ⟨_, _, rfl⟩, _, rfl, _, _, _, rfl, rfl, ?_, ?_, .im (.int k), .ml (((List.range c.length).filter fun q => alikeB c k q).map fun (n : Nat) => D.int (n : Int)), e, ?_, rfl, he⟩
        · show (List.map _ _)[0]? = _
          rw [List.getElem?_map, headOf_eq hne]; rfl
        · rw [List.length_map, List.length_range]; omega
        · intro z
          obtain ⟨j, hj, ej⟩ := List.mem_map.mp z
          have := List.mem_range.mp hj
          injection ej with ej
          omega
        · rw [List.range_succ, List.map_append, List.map_append]
          rfl
  · rintro δ2 ⟨a, b, e, rfl, ha, he⟩
    rw [rngD_len]
    simp only [dSeq, dIfS, dNext, dRet, dDrop, dSet, dUnp, dParD, dPar, dSetR, dAug, dOr, dAnd, dNot, dTst, dAndV, dOrV, dNotV, dIfE, dVar, dC, d1, d2, dL, dP, gf, dTup, drLst, drNd, drE, deR, draNil, draCons, daNil, daCons, daStar, itemsD, dChain, dIsi, dIsiC, isiT, dCall, dCallM, st0, stM, setAll, setR, setRs, Tg.set, dApp, dPop, dIxM, dStL, dStD, dBor, dBorT, frzS, diLst, diTup, diRng, diStr, diEnum, dItems, dValues, dListZip, dListRg, dIdx, dGet2, dHouse, dDisp, dPairs, dFrz, isM, tstD]
    have h0 := hg.one
    refine ⟨rfl, headsD c, rfl, .int (headOf c 0 : Nat), fIx_heads h0, (by show 1 ≤ 100000; omega), rfl, ?_⟩
    refine ⟨fun m δ => ∃ (at_ : Nat) (f : List Nat) (a b e g r : Sl), δ = [.im (ctlD c), .im (.lst (rngD c.length)), .im (headsD c), a, .no, b, .ml (f.map fun (n : Nat) => .int (n : Int)), .im (.int at_), r, g, .no, e] ∧ isM (some a) = false ∧ isM (some e) = false ∧ isM (some g) = false ∧ isM (some r) = false ∧ m ≤ 60 ∧ f.length ≤ 1 + 64 * (60 - m) ∧ at_ ≤ f.length ∧ (∀ k ∈ f, k < c.length) ∧
      walkO c (headOf c) (fun o t => decide (headOf c t ∈ o)) m at_ f = some o, ⟨60, 0, [headOf c 0], _, _, _, _, _, rfl, ha, he, rfl, rfl, Nat.le_refl _, by show 1 ≤ 1 + 64 * (60 - 60); omega, Nat.zero_le _, ?_, ho.ord⟩, ?_⟩
    · intro k hk
      rw [List.mem_singleton.mp hk]; exact head_lt h0
    rintro m δ ⟨at_, f, a, b, e, g, r, rfl, ha, he, hgg, hr, hm, hl, hat, hf, hw⟩
    have lf : (f.map fun (n : Nat) => D.int (n : Int)).length = f.length := List.length_map _
    refine ⟨_, rfl, _, rfl, .int (f.map fun (n : Nat) => D.int (n : Int)).length, rfl, .bl (decide ((at_ : Int) < (f.map fun (n : Nat) => D.int (n : Int)).length)), rfl, _, rfl, fun hne => ?_, fun hne => ?_⟩
    · have hlt : at_ < f.length := by
        have := of_decide_eq_true hne
        rw [lf] at this
        omega
      have hgf : f[at_]? = some f[at_] := List.getElem?_eq_getElem hlt
      have hgd : f.getD at_ 0 = f[at_] := by simp [List.getD, hgf]
      have hkm : f[at_] ∈ f := List.getElem_mem hlt
      cases m with
      | zero => cases hw
      | succ m =>
        have hw : (if at_ < f.length then walkO c (headOf c) (fun o t => decide (headOf c t ∈ o)) m (at_ + 1) (addAll (c.getD (f.getD at_ 0) default) (headOf c) (fun o t => decide (headOf c t ∈ o)) (c.getD (f.getD at_ 0) default).keys f) else some f) = some o := hw
        rw [if_pos hlt, hgd] at hw
        generalize hk : f[at_] = k at *
        have hkc := hf k hkm
        have la := hg.tl hkc
        have ka := hg.kasc hkc
        have ks := hg.kshort hkc
        have ht := (hg.st _ (getD_mem hkc)).lt
        have fa := fIx_ctl hkc
        generalize hsa : c.getD k default = sa at *
        refine ⟨_, rfl, ⟨_, rfl⟩, _, rfl, _, _, .int (k : Nat), rfl, rfl, by omega, ?_, _, fa, _, st_rule, ?_⟩
        · show (f.map fun (n : Nat) => D.int (n : Int))[at_]? = _
          rw [List.getElem?_map, hgf]; rfl
        simp only [dSeq]
        refine forD (ds := sa.keys.map D.int) (δ1 := [.im (ctlD c), .im (.lst (rngD c.length)), .im (headsD c), a, .no, b, .ml (f.map fun (n : Nat) => .int (n : Int)), .im (.int at_), .im (.dic (sa.keys.map Sum.inl) (sa.tos.map fun (n : Nat) => .int (n : Int))), g, .no, e]) (fun j δ => ∃ (f' : List Nat) (g : Sl), δ = [.im (ctlD c), .im (.lst (rngD c.length)), .im (headsD c), a, .no, b, .ml (f'.map fun (n : Nat) => .int (n : Int)), .im (.int at_), .im (.dic (sa.keys.map Sum.inl) (sa.tos.map fun (n : Nat) => .int (n : Int))), g, .no, e] ∧ isM (some g) = false ∧
          f'.length ≤ f.length + j ∧ at_ + 1 ≤ f'.length ∧ (∀ k ∈ f', k < c.length) ∧ addAll sa (headOf c) (fun o t => decide (headOf c t ∈ o)) (sa.keys.drop j) f' = addAll sa (headOf c) (fun o t => decide (headOf c t ∈ o)) sa.keys f) (fun RR hRR => ?_) ?_ ?_ ?_
        · refine ⟨_, rfl, _, list_keys la, ?_⟩
          exact sorted_keys (R := fun d => ∃ ds, d = D.lst ds ∧ RR ds _) ka ks ⟨_, rfl, hRR⟩
        · exact ⟨f, g, rfl, hgg, Nat.le_refl _, hlt, hf, rfl⟩
        · rintro j dj δ2 hdj ⟨f', g', rfl, hg', hq1, hq2, hq3, hadd⟩
          rw [List.getElem?_map] at hdj
          cases hkk : sa.keys[j]? with
          | none => rw [hkk] at hdj; cases hdj
          | some x =>
            rw [hkk] at hdj
            cases hdj
            have hk1 := (List.getElem?_eq_some_iff.mp hkk).1
            have hxm : x ∈ sa.keys := List.mem_of_getElem? hkk
            have ed : sa.keys.drop j = x :: sa.keys.drop (j + 1) := by
              rw [List.drop_eq_getElem_cons hk1]
              rw [List.getElem?_eq_getElem hk1] at hkk
              cases hkk; rfl
            obtain ⟨t, e1, e2⟩ := tgt_some la hxm
            have htc := ht t e2
            have tg1 : fIx (.dic (sa.keys.map Sum.inl) (sa.tos.map fun (n : Nat) => .int (n : Int))) (.int x) = some (.int (t : Nat)) := by rw [fIx_rule, e1]; rfl
            rw [ed] at hadd
            have hadd : (if decide (headOf c ((tgt sa x).getD 0) ∈ f') = true then addAll sa (headOf c) (fun o t => decide (headOf c t ∈ o)) (sa.keys.drop (j + 1)) f' else addAll sa (headOf c) (fun o t => decide (headOf c t ∈ o)) (sa.keys.drop (j + 1)) (f' ++ [headOf c ((tgt sa x).getD 0)])) = _ := hadd
            rw [e1] at hadd
            simp only [Option.getD_some] at hadd
            refine ⟨_, rfl, ?_⟩
            simp only [dSeq, dIfS, dNext, dRet, dDrop, dSet, dUnp, dParD, dPar, dSetR, dAug, dOr, dAnd, dNot, dTst, dAndV, dOrV, dNotV, dIfE, dVar, dC, d1, d2, dL, dP, gf, dTup, drLst, drNd, drE, deR, draNil, draCons, daNil, daCons, daStar, itemsD, dChain, dIsi, dIsiC, isiT, dCall, dCallM, st0, stM, setAll, setR, setRs, Tg.set, dApp, dPop, dIxM, dStL, dStD, dBor, dBorT, frzS, diLst, diTup, diRng, diStr, diEnum, dItems, dValues, dListZip, dListRg, dIdx, dGet2, dHouse, dDisp, dPairs, dFrz, isM, tstD]
            refine ⟨_, rfl, _, rfl, _, rfl, _, tg1, _, fIx_heads htc, .lst (f'.map fun (n : Nat) => .int (n : Int)), rfl, .bl (!decide (headOf c t ∈ f')), ?_, _, rfl, fun hn => ?_, fun hn => ?_⟩
            · unfold fNotIn
              rw [fIn_nats]
            · have hn : decide (headOf c t ∈ f') = false := by simpa using hn
              rw [if_neg (by rw [hn]; exact Bool.false_ne_true)] at hadd
              refine ⟨⟨_, rfl⟩, _, rfl, _, rfl, _, rfl, _, tg1, _, fIx_heads htc, _, rfl, by rw [List.length_map]; omega, f' ++ [headOf c t], .im (.int x), ?_, rfl, ?_, ?_, ?_, hadd⟩
              · rw [List.map_append]; rfl
              · rw [List.length_append]; simp; omega
              · rw [List.length_append]; simp; omega
              · intro y hy
                rcases List.mem_append.mp hy with z | z
                · exact hq3 y z
                · rw [List.mem_singleton.mp z]; exact head_lt h0
            · have hn : decide (headOf c t ∈ f') = true := by simpa using hn
              rw [if_pos hn] at hadd
              exact ⟨f', .im (.int x), rfl, rfl, by omega, hq2, hq3, hadd⟩
        · rintro δ2 ⟨f', g', rfl, hg', hq1, hq2, hq3, hadd⟩
          rw [List.length_map, List.drop_length] at hadd
          have hadd : f' = _ := hadd
          rw [List.length_map] at hq1
          rw [← hadd] at hw
          exact ⟨_, rfl, _, rfl, m, Nat.lt_succ_self m, at_ + 1, f', _, _, _, _, _, rfl, ha, he, hg', rfl, by omega, by omega, hq2, hq3, hw⟩
    · have hge : at_ = f.length := by
        have := of_decide_eq_false hne
        rw [lf] at this
        omega
      subst hge
      cases m with
      | zero => cases hw
      | succ m =>
        have hw : (if f.length < f.length then _ else some f) = some o := hw
        rw [if_neg (Nat.lt_irrefl _)] at hw
        cases hw
        simp only [dSeq, dIfS, dNext, dRet, dDrop, dSet, dUnp, dParD, dPar, dSetR, dAug, dOr, dAnd, dNot, dTst, dAndV, dOrV, dNotV, dIfE, dVar, dC, d1, d2, dL, dP, gf, dTup, drLst, drNd, drE, deR, draNil, draCons, daNil, daCons, daStar, itemsD, dChain, dIsi, dIsiC, isiT, dCall, dCallM, st0, stM, setAll, setR, setRs, Tg.set, dApp, dPop, dIxM, dStL, dStD, dBor, dBorT, frzS, diLst, diTup, diRng, diStr, diEnum, dItems, dValues, dListZip, dListRg, dIdx, dGet2, dHouse, dDisp, dPairs, dFrz, isM, tstD]
        have lo : (o.map fun (n : Nat) => D.int (n : Int)).length = o.length := lf
        have oc : (o.map fun (n : Nat) => D.int (n : Int)) = (o.map fun (n : Nat) => (n : Int)).map D.int := by rw [List.map_map]; rfl
        let newS : Nat → Stt := fun k => ⟨(c.getD k default).name, (c.getD k default).keys, (c.getD k default).tos.map fun t => o.idxOf (headOf c t)⟩
        have hre : leastBy c o = o.map newS := rfl
        refine ⟨rfl, Nat.zero_le _, ?_⟩
        refine forD (ds := o.map fun (n : Nat) => D.int (n : Int)) (δ1 := [.im (ctlD c), .im (.lst (rngD c.length)), .im (headsD c), a, .ml [], b, .im (natsD o), .im (.int o.length), r, g, .no, e]) (fun k δ => ∃ a g r n, δ = [.im (ctlD c), .im (.lst (rngD c.length)), .im (headsD c), a, .ml ((o.take k).map fun k => stD (newS k)), b, .im (natsD o), .im (.int o.length), r, g, n, e] ∧ isM (some a) = false ∧ isM (some g) = false ∧ isM (some r) = false ∧ isM (some n) = false) (fun RR hRR => ⟨_, rfl, _, rfl, hRR⟩) ⟨_, _, _, _, rfl, ha, hgg, hr, rfl⟩ ?_ ?_
        · rintro k d δ2 hd ⟨a, g, r, n, rfl, ha, hgg, hr, hnn⟩
          rw [List.getElem?_map] at hd
          cases hk : o[k]? with
          | none => rw [hk] at hd; cases hd
          | some st =>
            rw [hk] at hd
            cases hd
            have hko := (List.getElem?_eq_some_iff.mp hk).1
            have hmo := List.mem_of_getElem? hk
            have hst := hf st hmo
            have et : o.take (k + 1) = o.take k ++ [st] := by rw [List.take_add_one, hk]; rfl
            have la := hg.tl hst
            have ka := hg.kasc hst
            have ks := hg.kshort hst
            have hlt := (hg.st _ (getD_mem hst)).lt
            have hclo := ho.clo st hmo
            refine ⟨_, rfl, _, rfl, _, rfl, _, fIx_ctl hst, _, rfl, ⟨_, rfl⟩, _, rfl, ?_⟩
            refine dcMap (ds := (c.getD st default).keys.map D.int) (δ1 := [.im (ctlD c), .im (.lst (rngD c.length)), .im (headsD c), .im (.int st), .ml ((o.take k).map fun k => stD (newS k)), b, .im (natsD o), .im (.int o.length), .im (.dic ((c.getD st default).keys.map Sum.inl) ((c.getD st default).tos.map fun (n : Nat) => .int (n : Int))), g, .im (.str (c.getD st default).name), e])
              (fun d => match d with | .int x => .inl x | _ => .inl 0) (fun d => match d with | .int x => .int (o.idxOf (headOf c ((tgt (c.getD st default) x).getD 0)) : Nat) | _ => .non) (fun RR hRR => ?_) ?_ (by rw [List.length_map]; omega) ?_ (fun d Q hd hQ => ?_) ?_
            · refine ⟨_, rfl, _, list_keys la, ?_⟩
              refine sorted_keys (R := fun d => ∃ ds, d = D.lst ds ∧ RR ds _) ka ks ⟨_, rfl, hRR⟩
            · show (!isM (some g) && true) = true
              rw [hgg]; rfl
            · rw [List.map_map]
              exact List.pairwise_map.mpr (List.Pairwise.imp (fun h z => by injection z with z; omega) ka)
            · obtain ⟨x, hx, rfl⟩ := List.mem_map.mp hd
              obtain ⟨t, e1, e2⟩ := tgt_some la hx
              refine ⟨_, rfl, _, rfl, _, rfl, o.map fun (n : Nat) => (n : Int), by rw [← oc]; rfl, _, rfl, _, rfl, _, rfl, _, (by rw [fIx_rule, e1]; rfl), _, fIx_heads (hlt t e2), _, rfl, List.mem_map.mpr ⟨_, hclo t e2, rfl⟩, _, rfl, ?_⟩
              simp only [e1] at hQ
              rw [idxOf_cast]
              exact hQ _ rfl
            · refine ⟨(by simp), _, rfl, by rw [List.length_map, List.length_take]; omega, .im (.int st), g, .im (.dic ((c.getD st default).keys.map Sum.inl) ((c.getD st default).tos.map fun (n : Nat) => .int (n : Int))), .im (.str (c.getD st default).name), ?_, rfl, hgg, rfl, rfl⟩
              have e3 : ((c.getD st default).keys.map D.int).map (fun d => match d with | .int x => (Sum.inl x : Key) | _ => .inl 0) = (c.getD st default).keys.map Sum.inl := by rw [List.map_map]; rfl
              have e4 : ((c.getD st default).keys.map D.int).map (fun d => match d with | .int x => D.int (o.idxOf (headOf c ((tgt (c.getD st default) x).getD 0)) : Nat) | _ => .non) = ((c.getD st default).tos.map fun t => o.idxOf (headOf c t)).map fun (n : Nat) => D.int (n : Int) := by
                rw [List.map_map, List.map_map, ← map_tgt la (List.Pairwise.imp (fun h => Int.ne_of_lt h) ka), List.map_map]
                rfl
              rw [et, List.map_append, e3, e4]
              rfl
        · rintro δ2 ⟨a, g, r, n, rfl, _⟩
          rw [lo, List.take_length]
          refine ⟨rfl, _, rfl, _, rfl, ?_⟩
          rw [hre] at h
          unfold ctlD at h
          rw [List.map_map] at h
          exact h

theorem ok_least_controller {m : Option Addr} (E : En K mg C) (F : Fd K mg "least_controller" Sleast_controller f fd)
    (G_require_controller : OkD P w K mg base C "require_controller" 5 2 none ["house", "controller"] pre_require_controller)
    (G_least_in : OkD P w K mg base C "least_in" 3 1 none ["controller"] pre_least_in) : OkD P w K mg base C "least_controller" 6 2 none ["house", "controller"] pre_least_controller := by
  have nd : (["house", "controller"] : List Str).Nodup := by decide +kernel
  refine F.ok (N := ["house", "controller"]) ⟨rfl, rfl, rfl, nd, rfl, by decide +kernel, by decide +kernel⟩ rfl (F.fun_.bindsN fun _ _ _ _ _ _ us hl => match us, hl with | [_, _], _ => rfl) (fun cdv A outer s H X hr =>
    (dss_cons (ds_expr (de_callD G_require_controller (hr.mono (by decide)) rfl (da_cons (de_var 0) (da_cons (de_var 1) da_nil))))
    (dss_one (ds_ret (de_callD G_least_in (hr.mono (by decide)) rfl (da_cons (de_var 1) da_nil)))))) ?_
  rintro ds R _ ⟨hh, x, y, c, o, rfl, hg, hi, ho, h⟩
  simp only [dSeq, dIfS, dNext, dRet, dDrop, dSet, dUnp, dParD, dPar, dSetR, dAug, dOr, dAnd, dNot, dTst, dAndV, dOrV, dNotV, dIfE, dVar, dC, d1, d2, dL, dP, gf, dTup, drLst, drNd, drE, deR, draNil, draCons, daNil, daCons, daStar, itemsD, dChain, dIsi, dIsiC, isiT, dCall, dCallM, st0, stM, setAll, setR, setRs, Tg.set, dApp, dPop, dIxM, dStL, dStD, dBor, dBorT, frzS, diLst, diTup, diRng, diStr, diEnum, dItems, dValues, dListZip, dListRg, dIdx, dGet2, dHouse, dDisp, dPairs, dFrz, isM, tstD]
  exact ⟨_, rfl, _, rfl, rfl, hh, x, y, c, rfl, hg, hi, _, rfl, rfl, _, c, o, rfl, hi.good, hi.four, ho, h⟩

theorem allI_nats (ts : List Nat) : (ts.map fun (n : Nat) => D.int (n : Int)).all isI = true := by
  rw [List.all_map]
  exact List.all_eq_true.mpr fun _ _ => rfl
theorem cmp_st {s t : Stt} (hs : s.tos.length = s.keys.length) (ns : s.keys.Nodup) (ht : t.tos.length = t.keys.length) : cmpN 3 (stD s) (stD t) = true := by
  show (cmpN 2 (.str s.name) (.str t.name) && (cmpN 2 (.dic _ _) (.dic _ _) && true)) = true
  have e1 : cmpN 2 (.str s.name) (.str t.name) = true := rfl
  have e2 : cmpN 2 (.dic (s.keys.map Sum.inl) (s.tos.map fun (n : Nat) => .int (n : Int))) (.dic (t.keys.map Sum.inl) (t.tos.map fun (n : Nat) => .int (n : Int))) = true := by
    show (decide (List.Nodup (s.keys.map Sum.inl)) && decide (List.length _ = List.length _) && List.all _ isI && decide (List.length _ = List.length _) && List.all _ isI) = true
    rw [allI_nats, allI_nats, decide_eq_true (show (s.keys.map (Sum.inl : Int → Key)).Nodup from List.pairwise_map.mpr (List.Pairwise.imp (fun {a b} (h : a ≠ b) (z : (Sum.inl a : Key) = Sum.inl b) => h (Sum.inl.inj z)) ns)), decide_eq_true (by rw [List.length_map, List.length_map, hs]), decide_eq_true (by rw [List.length_map, List.length_map, ht])]
    rfl
  rw [e1, e2]; rfl
theorem eq_ctl {a b : Ctl} (ha : ∀ s ∈ a, s.tos.length = s.keys.length ∧ s.keys.Nodup) (hb : ∀ s ∈ b, s.tos.length = s.keys.length) : fEq (ctlD a) (ctlD b) = some (.bl (eqD (ctlD a) (ctlD b))) := by
  have e : cmpE (ctlD a) (ctlD b) = true := by
    show ((a.map stD).zip (b.map stD)).all (fun p => cmpN 3 p.1 p.2) = true
    rw [List.all_eq_true]
    rintro ⟨x, y⟩ hp
    obtain ⟨h1, h2⟩ := List.of_mem_zip hp
    obtain ⟨s, hs, rfl⟩ := List.mem_map.mp h1
    obtain ⟨t, ht, rfl⟩ := List.mem_map.mp h2
    exact cmp_st (ha s hs).1 (ha s hs).2 (hb t ht)
  unfold fEq
  rw [if_pos e]
theorem least_st {Γ : Str → List Int} {c : Ctl} {o : List Nat} (hg : GoodC Γ c) (hlt : ∀ k ∈ o, k < c.length) : ∀ s ∈ leastBy c o, s.tos.length = s.keys.length ∧ s.keys.Nodup := by
  intro s hs
  obtain ⟨k, hk, rfl⟩ := List.mem_map.mp hs
  refine ⟨by show (List.map _ _).length = _; rw [List.length_map]; exact hg.tl (hlt k hk), List.Pairwise.imp (fun h => Int.ne_of_lt h) (hg.kasc (hlt k hk))⟩
theorem ok_is_least {m : Option Addr} (E : En K mg C) (F : Fd K mg "is_least" Sis_least f fd)
    (G_require_controller : OkD P w K mg base C "require_controller" 5 2 none ["house", "controller"] pre_require_controller)
    (G_least_in : OkD P w K mg base C "least_in" 3 1 none ["controller"] pre_least_in) : OkD P w K mg base C "is_least" 6 2 none ["house", "controller"] pre_is_least := by
  have nd : (["house", "controller"] : List Str).Nodup := by decide +kernel
  refine F.ok (N := ["house", "controller"]) ⟨rfl, rfl, rfl, nd, rfl, by decide +kernel, by decide +kernel⟩ rfl (F.fun_.bindsN fun _ _ _ _ _ _ us hl => match us, hl with | [_, _], _ => rfl) (fun cdv A outer s H X hr =>
    (dss_cons (ds_expr (de_callD G_require_controller (hr.mono (by decide)) rfl (da_cons (de_var 0) (da_cons (de_var 1) da_nil))))
    (dss_one (ds_ret (de_cmpD (od_eq rfl (un8 hr)) (de_callD G_least_in (hr.mono (by decide)) rfl (da_cons (de_var 1) da_nil)) (de_var 1)))))) ?_
  rintro ds R _ ⟨hh, x, y, c, o, rfl, hg, hi, ho, h⟩
  simp only [dSeq, dIfS, dNext, dRet, dDrop, dSet, dUnp, dParD, dPar, dSetR, dAug, dOr, dAnd, dNot, dTst, dAndV, dOrV, dNotV, dIfE, dVar, dC, d1, d2, dL, dP, gf, dTup, drLst, drNd, drE, deR, draNil, draCons, daNil, daCons, daStar, itemsD, dChain, dIsi, dIsiC, isiT, dCall, dCallM, st0, stM, setAll, setR, setRs, Tg.set, dApp, dPop, dIxM, dStL, dStD, dBor, dBorT, frzS, diLst, diTup, diRng, diStr, diEnum, dItems, dValues, dListZip, dListRg, dIdx, dGet2, dHouse, dDisp, dPairs, dFrz, isM, tstD]
  refine ⟨_, rfl, _, rfl, rfl, hh, x, y, c, rfl, hg, hi, _, rfl, rfl, _, c, o, rfl, hi.good, hi.four, ho, _, rfl, .bl (eqD (ctlD (leastBy c o)) (ctlD c)), eq_ctl (least_st hi.good ho.lt) (fun s hs => (hi.good.st s hs).len), h⟩

end
end K46

set_option Elab.async false
set_option linter.all false
set_option maxRecDepth 100000
set_option maxHeartbeats 2000000
namespace K46
open PySem PySem.Spec PyProof.Rows L2
section
variable {P : Program} {w : World} {K : PySem.W.Frag} {mg : Str → Option Value} {base : Heap} {C f : Addr} {fd : FuncData}
theorem fMod_ok {i j : Int} (h : 0 < j) : fMod (.int i) (.int j) = some (.int (i % j)) := by
  show (if decide (0 < j) = true then some (D.int (i % j)) else none) = _
  rw [if_pos (decide_eq_true h)]
theorem fDiv_ok {i j : Int} (h : 0 < j) (h2 : j < 1073741824) : fDiv (.int i) (.int j) = some (.int (i / j)) := by
  show (if (decide (0 < j) && decide (j < 1073741824)) = true then some (D.int (i / j)) else none) = _
  rw [if_pos (by rw [decide_eq_true h, decide_eq_true h2]; rfl)]
theorem fMul_l {i j : Int} (h : -(2 ^ 64) < i) (h2 : i < 2 ^ 64) : fMul (.int i) (.int j) = some (.int (i * j)) := by
  show (if mulOk i j = true then some (D.int (i * j)) else none) = _
  rw [if_pos (by unfold mulOk; rw [decide_eq_true h, decide_eq_true h2]; rfl)]
theorem ok__law_roll {m : Option Addr} (E : En K mg C) (F : Fd K mg "_law_roll" S_law_roll f fd) : OkM P w K mg base C "_law_roll" 1 1 none ["_law_dice_here", "_law_total"] pre__law_roll := by
  have nd : (["_law_dice_here", "_law_total", "_law_one", "_law_two", "_law_found"] : List Str).Nodup := by decide +kernel
  refine F.okM (N := ["_law_dice_here", "_law_total", "_law_one", "_law_two", "_law_found"]) ⟨rfl, rfl, rfl, nd, rfl, by decide +kernel, by decide +kernel⟩ rfl (by decide) (F.fun_.bindsN fun _ _ _ _ _ _ us hl => match us, hl with | [_, _], _ => rfl) (fun pr cdv A outer s H X hr =>
    (dss_cons (ds_if (dt_cmpD od_gt (de_ixM 0 de_int (by intro _ _; rfl)) de_int) (dss_cons (ds_set (i := 4) nd (de_bin od_mod (de_ct call_int1 cp_int rfl E.m_int rfl (da_cons (de_ixM 0 de_int (by intro _ _; rfl)) da_nil)) (de_var 1)))
    (dss_cons (ds_stL 0 (de_bin od_div (de_ixM 0 de_int (by intro _ _; rfl)) (de_var 1)) de_int)
    (dss_one (ds_ret (de_var 4))))) dss_nil)
    (dss_cons (ds_stL 0 (de_bin od_add (de_ixM 0 de_int (by intro _ _; rfl)) de_int) de_int)
    (dss_cons (ds_set (i := 2) nd (de_bin od_mod (de_ct call_int1 cp_int rfl E.m_int rfl (da_cons (de_bin od_add (de_ixM 0 de_int (by intro _ _; rfl)) (de_bin od_mul de_int (de_ixM 0 de_int (by intro _ _; rfl)))) da_nil)) de_int))
    (dss_cons (ds_set (i := 3) nd (de_bin od_add (de_bin od_mul (de_bin od_mod (de_ct call_int1 cp_int rfl E.m_int rfl (da_cons (de_bin od_mul (de_var 2) (de_var 2)) da_nil)) de_int) (de_var 2)) (de_bin od_mul de_int (de_ixM 0 de_int (by intro _ _; rfl)))))
    (dss_cons (ds_set (i := 3) nd (de_bin od_mod (de_ct call_int1 cp_int rfl E.m_int rfl (da_cons (de_var 3) da_nil)) de_int))
    (dss_one (ds_ret (de_bin od_mod (de_ct call_int1 cp_int rfl E.m_int rfl (da_cons (de_bin od_div (de_var 3) de_int) da_nil)) (de_var 1)))))))))) ?_
  intro dc ds R hl h
  obtain ⟨n, rfl, ⟨a, b, c, rfl, ha, hb, hc⟩, h0, h1, hR⟩ := h
  simp only [dSeq, dIfS, dNext, dRet, dDrop, dSet, dUnp, dParD, dPar, dSetR, dAug, dOr, dAnd, dNot, dTst, dAndV, dOrV, dNotV, dIfE, dVar, dC, d1, d2, dL, dP, gf, dTup, drLst, drNd, drE, deR, draNil, draCons, daNil, daCons, daStar, itemsD, dChain, dIsi, dIsiC, isiT, dCall, dCallM, st0, stM, setAll, setR, setRs, Tg.set, dApp, dPop, dIxM, dStL, dStD, dBor, dBorT, frzS, diLst, diTup, diRng, diStr, diEnum, dItems, dValues, dListZip, dListRg, dIdx, dGet2, dHouse, dDisp, dPairs, dFrz, isM, tstD]
  have hn : (0 : Int) < n := by omega
  have key : ∀ x : Int, ∃ k : Nat, k < n ∧ x % (n : Int) = (k : Int) := fun x => ⟨(x % (n : Int)).toNat, by have := Int.emod_nonneg x (show (n : Int) ≠ 0 by omega); have := Int.emod_lt_of_pos x hn; omega, by have := Int.emod_nonneg x (show (n : Int) ≠ 0 by omega); omega⟩
  refine ⟨⟨_, rfl⟩, _, _, .int a, rfl, rfl, Int.le_refl _, rfl, .bl (decide (0 < a)), rfl, _, rfl, fun hp => ?_, fun hp => ?_⟩
  · obtain ⟨k, hk, ek⟩ := key a
    refine ⟨⟨_, rfl⟩, _, _, .int a, rfl, rfl, Int.le_refl _, rfl, .int a, rfl, _, rfl, _, fMod_ok hn, ⟨_, rfl⟩, _, _, .int a, rfl, rfl, Int.le_refl _, rfl, _, rfl, _, fDiv_ok hn (by omega), ⟨_, rfl⟩, _, _, rfl, rfl, Int.le_refl _, by (show 0 < 3; omega), _, rfl, _, rfl, ?_⟩
    rw [ek]
    refine hR k _ hk ⟨a / n, b, c, rfl, Int.ediv_nonneg ha (by omega), hb, hc⟩
  · have x1 := Int.emod_nonneg (b + 998244289 * (c + 1)) (show (2305843009213693951 : Int) ≠ 0 by decide)
    have x2 := Int.emod_lt_of_pos (b + 998244289 * (c + 1)) (show (0 : Int) < 2305843009213693951 by decide)
    have y1 := fun z : Int => Int.emod_nonneg z (show (2305843009213693883 : Int) ≠ 0 by decide)
    have y2 := fun z : Int => Int.emod_lt_of_pos z (show (0 : Int) < 2305843009213693883 by decide)
    refine ⟨⟨_, rfl⟩, _, _, .int c, rfl, rfl, by omega, rfl, .int (c + 1), rfl, ⟨_, rfl⟩, _, _, rfl, rfl, by omega, by (show 2 < 3; omega), ⟨_, rfl⟩, _, _, .int b, rfl, rfl, by omega, rfl,
      ⟨_, rfl⟩, _, _, .int (c + 1), rfl, rfl, by omega, rfl, _, fMul_l (by decide) (by decide), .int (b + 998244289 * (c + 1)), rfl, .int (b + 998244289 * (c + 1)), rfl, _, fMod_ok (by decide), ?_⟩
    generalize (b + 998244289 * (c + 1)) % 2305843009213693951 = x at *
    refine ⟨.int x, rfl, .int x, rfl, _, fMul_l (by omega) (by omega), .int (x * x), rfl, _, fMod_ok (by decide), .int x, rfl, _, fMul_l (by have := y1 (x * x); omega) (by have := y2 (x * x); omega), ⟨_, rfl⟩, _, _, .int (c + 1), rfl, rfl, by omega, rfl, _, fMul_l (by decide) (by decide), _, rfl, ?_⟩
    generalize x * x % 2305843009213693883 * x + 9433 * (c + 1) = y
    refine ⟨.int y, rfl, .int y, rfl, _, fMod_ok (by decide), ?_⟩
    generalize y % 2305843009213693613 = z
    refine ⟨.int z, rfl, _, fDiv_ok (by decide) (by decide), .int (z / 8192), rfl, .int n, rfl, _, fMod_ok hn, _, rfl, ?_⟩
    obtain ⟨k, hk, ek⟩ := key (z / 8192)
    rw [ek]
    exact hR k _ hk ⟨a, b, c + 1, rfl, ha, hb, by omega⟩

theorem ok__law_pick {m : Option Addr} (E : En K mg C) (F : Fd K mg "_law_pick" S_law_pick f fd)
    (G__law_roll : OkM P w K mg base C "_law_roll" 1 1 none ["_law_dice_here", "_law_total"] pre__law_roll) : OkM P w K mg base C "_law_pick" 2 1 none ["_law_dice_here", "_law_items"] pre__law_pick := by
  have nd : (["_law_dice_here", "_law_items"] : List Str).Nodup := by decide +kernel
  refine F.okM (N := ["_law_dice_here", "_law_items"]) ⟨rfl, rfl, rfl, nd, rfl, by decide +kernel, by decide +kernel⟩ rfl (by decide) (F.fun_.bindsN fun _ _ _ _ _ _ us hl => match us, hl with | [_, _], _ => rfl) (fun pr cdv A outer s H X hr =>
    (dss_one (ds_ret (de_ixD (un1 hr) (de_var 1) (de_callMD 0 G__law_roll (hr.mono (by decide)) rfl (da_cons (de_cb call_lenAll cp_len rfl E.m_len rfl (da_cons (de_var 1) da_nil)) da_nil)))))) ?_
  intro dc ds R hl h
  obtain ⟨xs, rfl, hd, h0, h1, hR⟩ := h
  simp only [dSeq, dIfS, dNext, dRet, dDrop, dSet, dUnp, dParD, dPar, dSetR, dAug, dOr, dAnd, dNot, dTst, dAndV, dOrV, dNotV, dIfE, dVar, dC, d1, d2, dL, dP, gf, dTup, drLst, drNd, drE, deR, draNil, draCons, daNil, daCons, daStar, itemsD, dChain, dIsi, dIsiC, isiT, dCall, dCallM, st0, stM, setAll, setR, setRs, Tg.set, dApp, dPop, dIxM, dStL, dStD, dBor, dBorT, frzS, diLst, diTup, diRng, diStr, diEnum, dItems, dValues, dListZip, dListRg, dIdx, dGet2, dHouse, dDisp, dPairs, dFrz, isM, tstD]
  refine ⟨_, rfl, ⟨_, rfl⟩, _, rfl, .int xs.length, rfl, rfl, _, rfl, xs.length, rfl, hd, h0, h1, fun i dc' hi hd' => ?_⟩
  have e : xs[i]? = some xs[i] := List.getElem?_eq_getElem hi
  refine ⟨xs[i], ?_, _, rfl, hR _ _ (List.getElem_mem hi) hd'⟩
  show atD xs (i : Int) = _
  unfold atD
  rw [ixN_ok hi]
  exact e

theorem erase_perm {α : Type} {l : List α} {i : Nat} {x : α} (h : l[i]? = some x) : (x :: l.eraseIdx i).Perm l := by
  induction l generalizing i with
  | nil => cases h
  | cons a l ih =>
    cases i with
    | zero => cases h; exact .refl _
    | succ i =>
      have h : l[i]? = some x := h
      show (x :: a :: l.eraseIdx i).Perm (a :: l)
      exact (List.Perm.swap a x _).trans ((ih h).cons a)
theorem ok__law_some {m : Option Addr} (E : En K mg C) (F : Fd K mg "_law_some" S_law_some f fd)
    (G__law_roll : OkM P w K mg base C "_law_roll" 1 1 none ["_law_dice_here", "_law_total"] pre__law_roll) : OkM P w K mg base C "_law_some" 2 2 none ["_law_dice_here", "_law_items", "_law_size"] pre__law_some := by
  have nd : (["_law_dice_here", "_law_items", "_law_size", "_law_left", "_law_turn"] : List Str).Nodup := by decide +kernel
  refine F.okM (N := ["_law_dice_here", "_law_items", "_law_size", "_law_left", "_law_turn"]) ⟨rfl, rfl, rfl, nd, rfl, by decide +kernel, by decide +kernel⟩ rfl (by decide) (F.fun_.bindsN fun _ _ _ _ _ _ us hl => match us, hl with | [_, _, _], _ => rfl) (fun pr cdv A outer s H X hr =>
    (dss_cons (ds_setR (i := 3) nd (dr_listOf rfl E.m_list (de_var 1)) (by decide))
    (dss_one (ds_ret (de_ofR (dr_lc (own := [("_law_turn", 4)]) (tg := (.nm 4)) rfl nd (di_rng rfl E.m_range (de_cb (call_min2 rfl) cp_min rfl E.m_min rfl (da_cons (de_var 2) (da_cons (de_bor rfl (de_cb call_lenAll cp_len rfl E.m_len rfl (da_cons (de_var 3) da_nil))) da_nil)))) (blkOk_by (N := ["_law_dice_here", "_law_items", "_law_size", "_law_left", "_law_turn"]) (sc := (defScope S_law_some)) (by decide +kernel)) (by decide) (fun _ _ _ _ _ => (pg_name (i := 4) nd rfl (by first | exact Or.inl rfl | exact Or.inr rfl))) (tt := none) (fun _ _ _ _ _ => dts_nil) (fun _ _ _ _ _ => (de_pop 3 (de_callMD 0 G__law_roll (hr.mono (by decide)) rfl (da_cons (de_bor rfl (de_cb call_lenAll cp_len rfl E.m_len rfl (da_cons (de_var 3) da_nil))) da_nil)))))))))) ?_
  intro dc ds R hl h
  obtain ⟨xs, k, rfl, hd, h0, h1, hR⟩ := h
  simp only [dSeq, dIfS, dNext, dRet, dDrop, dSet, dUnp, dParD, dPar, dSetR, dAug, dOr, dAnd, dNot, dTst, dAndV, dOrV, dNotV, dIfE, dVar, dC, d1, d2, dL, dP, gf, dTup, drLst, drNd, drE, deR, draNil, draCons, daNil, daCons, daStar, itemsD, dChain, dIsi, dIsiC, isiT, dCall, dCallM, st0, stM, setAll, setR, setRs, Tg.set, dApp, dPop, dIxM, dStL, dStD, dBor, dBorT, frzS, diLst, diTup, diRng, diStr, diEnum, dItems, dValues, dListZip, dListRg, dIdx, dGet2, dHouse, dDisp, dPairs, dFrz, isM, tstD]
  unfold drListOf
  refine ⟨_, rfl, xs, rfl, ?_⟩
  have em : (if (xs.length : Int) < (k : Int) then (xs.length : Int) else (k : Int)) = (min k xs.length : Nat) := by
    split <;> omega
  refine ⟨_, rfl, _, rfl, .int xs.length, rfl, rfl, .int (min k xs.length : Nat), ?_, _, rfl, by omega, by omega, ?_⟩
  · show some (D.int _) = _
    rw [em]
  rw [Int.toNat_natCast]
  refine ⟨fun i acc δ => ∃ dc left e, δ = [.ml dc, .im (.lst xs), .im (.int k), .ml left, e] ∧ isM (some e) = false ∧ GoodD dc ∧ acc.length = i ∧ (acc ++ left).Perm xs, rfl, by rw [rngD_len]; omega, ⟨dc, xs, _, rfl, rfl, hd, rfl, .refl _⟩, ?_, ?_⟩
  · rintro i d acc δ2 hd2 hacc ⟨dc, left, e, rfl, he, hdc, hai, hp⟩
    have hi : i < min k xs.length := by
      have := (List.getElem?_eq_some_iff.mp hd2).1
      rwa [rngD_len] at this
    have hll : left.length + i = xs.length := by
      have := hp.length_eq
      rw [List.length_append] at this
      omega
    refine ⟨_, rfl, ?_⟩
    refine ⟨fun _ => ?_, fun z => nomatch z⟩
    simp only [dSeq, dIfS, dNext, dRet, dDrop, dSet, dUnp, dParD, dPar, dSetR, dAug, dOr, dAnd, dNot, dTst, dAndV, dOrV, dNotV, dIfE, dVar, dC, d1, d2, dL, dP, gf, dTup, drLst, drNd, drE, deR, draNil, draCons, daNil, daCons, daStar, itemsD, dChain, dIsi, dIsiC, isiT, dCall, dCallM, st0, stM, setAll, setR, setRs, Tg.set, dApp, dPop, dIxM, dStL, dStD, dBor, dBorT, frzS, diLst, diTup, diRng, diStr, diEnum, dItems, dValues, dListZip, dListRg, dIdx, dGet2, dHouse, dDisp, dPairs, dFrz, isM, tstD]
    refine ⟨⟨_, rfl⟩, ⟨_, rfl⟩, _, rfl, .int left.length, rfl, rfl, rfl, _, rfl, left.length, rfl, hdc, by omega, by omega, fun j dc' hj hd' => ?_⟩
    have e : left[j]? = some left[j] := List.getElem?_eq_getElem hj
    refine ⟨left, _, left[j], rfl, rfl, by omega, by omega, e, dc', left.eraseIdx j, _, rfl, rfl, hd', by rw [List.length_append, hai]; rfl, ?_⟩
    rw [List.append_assoc]
    exact (List.Perm.append_left acc (erase_perm e)).trans hp
  · rintro acc δ2 hacc ⟨dc, left, e, rfl, he, hdc, hai, hp⟩
    rw [rngD_len] at hai
    exact ⟨_, rfl, hR acc _ ⟨hai, left, hp⟩ hdc⟩

theorem ok__law_chances {m : Option Addr} (E : En K mg C) (F : Fd K mg "_law_chances" S_law_chances f fd)
    (G__law_pick : OkM P w K mg base C "_law_pick" 2 1 none ["_law_dice_here", "_law_items"] pre__law_pick) : OkM P w K mg base C "_law_chances" 3 1 none ["_law_dice_here", "_law_many"] pre__law_chances := by
  have nd : (["_law_dice_here", "_law_many", "_law_rows"] : List Str).Nodup := by decide +kernel
  refine F.okM (N := ["_law_dice_here", "_law_many", "_law_rows"]) ⟨rfl, rfl, rfl, nd, rfl, by decide +kernel, by decide +kernel⟩ rfl (by decide) (F.fun_.bindsN fun _ _ _ _ _ _ us hl => match us, hl with | [_, _], _ => rfl) (fun pr cdv A outer s H X hr =>
    (dss_cons (ds_set (i := 2) nd (de_ofR (dr_lst (da_cons (de_ofR (dr_lst (da_cons (de_tup (da_cons de_int (da_cons de_int da_nil))) da_nil))) (da_cons (de_ofR (dr_lst (da_cons (de_tup (da_cons de_int (da_cons de_int da_nil))) (da_cons (de_tup (da_cons de_int (da_cons de_int da_nil))) da_nil)))) (da_cons (de_ofR (dr_lst (da_cons (de_tup (da_cons de_int (da_cons de_int da_nil))) (da_cons (de_tup (da_cons de_int (da_cons de_int da_nil))) (da_cons (de_tup (da_cons de_int (da_cons de_int da_nil))) da_nil))))) (da_cons (de_ofR (dr_lst (da_cons (de_tup (da_cons de_int (da_cons de_int da_nil))) (da_cons (de_tup (da_cons de_int (da_cons de_int da_nil))) (da_cons (de_tup (da_cons de_int (da_cons de_int da_nil))) (da_cons (de_tup (da_cons de_int (da_cons de_int da_nil))) da_nil)))))) da_nil)))))))
    (dss_cons (ds_if (dt_cmpD (od_eq rfl (un8 hr)) (de_var 1) de_int) (dss_cons (ds_set (i := 2) nd (de_bin od_add (de_var 2) (de_ofR (dr_lst (da_cons (de_ofR (dr_lst (da_cons (de_tup (da_cons de_int (da_cons de_int da_nil))) (da_cons (de_tup (da_cons de_int (da_cons de_int da_nil))) da_nil)))) (da_cons (de_ofR (dr_lst (da_cons (de_tup (da_cons de_int (da_cons de_int da_nil))) (da_cons (de_tup (da_cons de_int (da_cons de_int da_nil))) da_nil)))) (da_cons (de_ofR (dr_lst (da_cons (de_tup (da_cons de_int (da_cons de_int da_nil))) (da_cons (de_tup (da_cons de_int (da_cons de_int da_nil))) da_nil)))) da_nil)))))))
    (dss_one (ds_ret (de_callMD 0 G__law_pick (hr.mono (by decide)) rfl (da_cons (de_bin od_add (de_ofR (dr_lst (da_cons (de_ixD (un1 hr) (de_var 2) de_int) da_nil))) (de_slLo (de_var 2))) da_nil))))) dss_nil)
    (dss_cons (ds_if (dt_cmpD (od_eq rfl (un8 hr)) (de_var 1) de_int) (dss_cons (ds_set (i := 2) nd (de_bin od_add (de_var 2) (de_ofR (dr_lst (da_cons (de_ofR (dr_lst (da_cons (de_tup (da_cons de_int (da_cons de_int da_nil))) (da_cons (de_tup (da_cons de_int (da_cons de_int da_nil))) (da_cons (de_tup (da_cons de_int (da_cons de_int da_nil))) da_nil))))) (da_cons (de_ofR (dr_lst (da_cons (de_tup (da_cons de_int (da_cons de_int da_nil))) (da_cons (de_tup (da_cons de_int (da_cons de_int da_nil))) (da_cons (de_tup (da_cons de_int (da_cons de_int da_nil))) da_nil))))) (da_cons (de_ofR (dr_lst (da_cons (de_tup (da_cons de_int (da_cons de_int da_nil))) (da_cons (de_tup (da_cons de_int (da_cons de_int da_nil))) (da_cons (de_tup (da_cons de_int (da_cons de_int da_nil))) da_nil))))) da_nil)))))))
    (dss_one (ds_ret (de_callMD 0 G__law_pick (hr.mono (by decide)) rfl (da_cons (de_bin od_add (de_ofR (dr_lst (da_cons (de_ixD (un1 hr) (de_var 2) de_int) da_nil))) (de_slLo (de_var 2))) da_nil))))) dss_nil)
    (dss_one (ds_ret (de_ixD (un1 hr) (de_var 2) (de_bin od_sub (de_var 1) de_int)))))))) ?_
  intro dc ds R hl h
  obtain ⟨n, rfl, hd, h0, h1, hR⟩ := h
  simp only [dSeq, dIfS, dNext, dRet, dDrop, dSet, dUnp, dParD, dPar, dSetR, dAug, dOr, dAnd, dNot, dTst, dAndV, dOrV, dNotV, dIfE, dVar, dC, d1, d2, dL, dP, gf, dTup, drLst, drNd, drE, deR, draNil, draCons, daNil, daCons, daStar, itemsD, dChain, dIsi, dIsiC, isiT, dCall, dCallM, st0, stM, setAll, setR, setRs, Tg.set, dApp, dPop, dIxM, dStL, dStD, dBor, dBorT, frzS, diLst, diTup, diRng, diStr, diEnum, dItems, dValues, dListZip, dListRg, dIdx, dGet2, dHouse, dDisp, dPairs, dFrz, isM, tstD]
  have L : ∀ {l : List D}, Nat.ble l.length 100000 = true → l.length ≤ 100000 := fun h => Nat.le_of_ble_eq_true h
  refine ⟨L rfl, L rfl, L rfl, L rfl, L rfl, L rfl, L rfl, L rfl, L rfl, L rfl, L rfl, L rfl, L rfl, L rfl, L rfl, ?_⟩
  have hn : n = 1 ∨ n = 2 ∨ n = 3 := by omega
  rcases hn with rfl | rfl | rfl
  · refine ⟨_, rfl, _, rfl, _, rfl, (fun z => nomatch z), fun _ => ?_⟩
    refine ⟨_, rfl, _, rfl, _, rfl, (fun z => nomatch z), fun _ => ?_⟩
    exact ⟨_, rfl, _, rfl, .int 0, rfl, .lst ([((1 : Int), (1 : Int))].map pD), rfl, _, rfl, hR _ _ (List.mem_singleton.mpr rfl) hd⟩
  · refine ⟨_, rfl, _, rfl, _, rfl, fun _ => ?_, (fun z => nomatch z)⟩
    refine ⟨_, rfl, L rfl, L rfl, L rfl, L rfl, L rfl, L rfl, L rfl, L rfl, L rfl, L rfl, _, rfl, ⟨_, rfl⟩, _, rfl, _, rfl, L rfl, _, rfl, _, rfl, _, rfl, rfl, _, rfl, (chancesL 2).map (fun ps => D.lst (ps.map pD)), rfl, hd, by show 0 < 4; omega, by show 4 ≤ 100; omega, fun x dc' hx hd' => ⟨_, rfl, ?_⟩⟩
    obtain ⟨ps, hp, rfl⟩ := List.mem_map.mp hx
    exact hR ps _ hp hd'
  · refine ⟨_, rfl, _, rfl, _, rfl, (fun z => nomatch z), fun _ => ?_⟩
    refine ⟨_, rfl, _, rfl, _, rfl, fun _ => ?_, (fun z => nomatch z)⟩
    refine ⟨_, rfl, L rfl, L rfl, L rfl, L rfl, L rfl, L rfl, L rfl, L rfl, L rfl, L rfl, L rfl, L rfl, L rfl, _, rfl, ⟨_, rfl⟩, _, rfl, _, rfl, L rfl, _, rfl, _, rfl, _, rfl, rfl, _, rfl, (chancesL 3).map (fun ps => D.lst (ps.map pD)), rfl, hd, by show 0 < 4; omega, by show 4 ≤ 100; omega, fun x dc' hx hd' => ⟨_, rfl, ?_⟩⟩
    obtain ⟨ps, hp, rfl⟩ := List.mem_map.mp hx
    exact hR ps _ hp hd'

theorem ch1 : ∀ ps ∈ chancesL 1, ps.length = 1 ∧ (∀ p ∈ ps, 0 < p.1 ∧ p.1 ≤ p.2 ∧ p.2 ≤ 1000 ∧ Int.gcd p.1 p.2 = 1) ∧ ∀ x ∈ ps, sumP (0, 1) [x] = some (1, 1) := by decide +kernel
theorem ch2 : ∀ ps ∈ chancesL 2, ps.length = 2 ∧ (∀ p ∈ ps, 0 < p.1 ∧ p.1 ≤ p.2 ∧ p.2 ≤ 1000 ∧ Int.gcd p.1 p.2 = 1) ∧ ∀ x ∈ ps, ∀ y ∈ ps, [x, y].Perm ps → sumP (0, 1) [x, y] = some (1, 1) := by decide +kernel
theorem ch3 : ∀ ps ∈ chancesL 3, ps.length = 3 ∧ (∀ p ∈ ps, 0 < p.1 ∧ p.1 ≤ p.2 ∧ p.2 ≤ 1000 ∧ Int.gcd p.1 p.2 = 1) ∧ ∀ x ∈ ps, ∀ y ∈ ps, ∀ z ∈ ps, [x, y, z].Perm ps → sumP (0, 1) [x, y, z] = some (1, 1) := by decide +kernel
theorem ch_ok {k : Nat} {ps : List (Int × Int)} (h : ps ∈ chancesL k) (h1 : 1 ≤ k) (h3 : k ≤ 3) : ps.length = k ∧ (∀ p ∈ ps, isCh p) ∧ ∀ qs : List (Int × Int), qs.Perm ps → sumP (0, 1) qs = some (1, 1) := by
  have hk : k = 1 ∨ k = 2 ∨ k = 3 := by omega
  rcases hk with rfl | rfl | rfl
  · obtain ⟨a, b, c⟩ := ch1 ps h
    refine ⟨a, b, fun qs hq => ?_⟩
    have hl := hq.length_eq
    rw [a] at hl
    obtain ⟨x, rfl⟩ := List.length_eq_one_iff.mp hl
    exact c x (hq.mem_iff.mp (by simp))
  · obtain ⟨a, b, c⟩ := ch2 ps h
    refine ⟨a, b, fun qs hq => ?_⟩
    have hl := hq.length_eq
    rw [a] at hl
    match qs, hl with
    | [x, y], _ => exact c x (hq.mem_iff.mp (by simp)) y (hq.mem_iff.mp (by simp)) hq
  · obtain ⟨a, b, c⟩ := ch3 ps h
    refine ⟨a, b, fun qs hq => ?_⟩
    have hl := hq.length_eq
    rw [a] at hl
    match qs, hl with
    | [x, y, z], _ => exact c x (hq.mem_iff.mp (by simp)) y (hq.mem_iff.mp (by simp)) z (hq.mem_iff.mp (by simp)) hq
theorem pD_inj {p q : Int × Int} (h : pD p = pD q) : p = q := by
  unfold pD at h
  injection h with h
  injection h with h1 h2
  injection h2 with h2 _
  injection h1 with h1
  injection h2 with h2
  exact Prod.ext h1 h2
theorem drawn_ps {kps : List (Int × Int)} {k : Nat} {ys : List D} (hn : kps.Nodup) (hk : k ≤ kps.length) (h : Drawn (kps.map pD) k ys) : ∃ qs : List (Int × Int), ys = qs.map pD ∧ qs.length = k ∧ qs.Nodup ∧ ∀ q ∈ qs, q ∈ kps := by
  obtain ⟨h1, rest, hp⟩ := h
  have hA : ∀ y ∈ ys, ∃ q, y = pD q ∧ q ∈ kps := fun y hy => by
    have := hp.mem_iff.mp (List.mem_append_left rest hy)
    obtain ⟨q, hq, rfl⟩ := List.mem_map.mp this
    exact ⟨q, rfl, hq⟩
  obtain ⟨qs, rfl, hqs⟩ := all_map hA
  rw [List.length_map, List.length_map] at h1
  have hnd : (kps.map pD).Nodup := List.pairwise_map.mpr (List.Pairwise.imp (fun h z => h (pD_inj z)) hn)
  have h2 : (qs.map pD ++ rest).Nodup := hp.symm.nodup hnd
  have h3 : (qs.map pD).Nodup := (List.nodup_append.mp h2).1
  exact ⟨qs, rfl, by omega, List.Pairwise.imp (fun h z => h (by rw [z])) (List.pairwise_map.mp h3), hqs⟩
def rowsOf (qs ps : List (Int × Int)) : List Row := (qs.zip ps).map fun x => ⟨x.1.1, x.1.2, x.2.1, x.2.2⟩
theorem rowsOf_good {n k : Nat} {qs ps : List (Int × Int)} (h1 : 1 ≤ k) (h3 : k ≤ 3) (hq : qs.length = k) (hn : qs.Nodup) (hm : ∀ q ∈ qs, 0 ≤ q.1 ∧ q.1 < n ∧ -2 ≤ q.2 ∧ q.2 ≤ 2) (hp : ps ∈ chancesL k) :
    (rowsOf qs ps).length = k ∧ (rowsOf qs ps).Pairwise (fun x y => ¬ (x.t = y.t ∧ x.g = y.g)) ∧ ∀ rows' : List Row, rows'.Perm (rowsOf qs ps) → rows'.Pairwise pLt → GoodMs n rows' := by
  obtain ⟨a, b, c⟩ := ch_ok hp h1 h3
  have hl : (rowsOf qs ps).length = k := by simp [rowsOf]; omega
  have e1 : (rowsOf qs ps).map (fun r => (r.t, r.g)) = qs := by
    unfold rowsOf
    rw [List.map_map]
    show (qs.zip ps).map (fun x => x.1) = qs
    exact List.map_fst_zip (by omega)
  have e2 : (rowsOf qs ps).map (fun r => (r.a, r.b)) = ps := by
    unfold rowsOf
    rw [List.map_map]
    show (qs.zip ps).map (fun x => x.2) = ps
    exact List.map_snd_zip (by omega)
  refine ⟨hl, ?_, fun rows' hp' hs => ?_⟩
  · have := hn
    rw [← e1] at this
    exact List.Pairwise.imp (fun h z => h (Prod.ext z.1 z.2)) (List.pairwise_map.mp this)
  · have hl2 := hp'.length_eq
    refine ⟨by omega, by omega, fun r hr => ?_, hs, c _ (by rw [← e2]; exact hp'.map _)⟩
    have hr2 := hp'.mem_iff.mp hr
    have m1 : (r.t, r.g) ∈ qs := by rw [← e1]; exact List.mem_map.mpr ⟨r, hr2, rfl⟩
    have m2 : (r.a, r.b) ∈ ps := by rw [← e2]; exact List.mem_map.mpr ⟨r, hr2, rfl⟩
    obtain ⟨x1, x2, x3, x4⟩ := hm _ m1
    exact ⟨x1, x2, by simp only at x3; omega, by simp only at x4; omega, b _ m2⟩
def keysL (n r s : Nat) : List (Int × Int) := ((((List.range n).map fun (i : Nat) => ((i : Int), (0 : Int))) ++ (List.range n).map fun (i : Nat) => ((i : Int), (1 : Int))) ++ (List.range n).map fun (i : Nat) => ((i : Int), (-1 : Int))) ++ [((r : Int), (2 : Int)), ((s : Int), (-2 : Int))]
theorem keysL_mem {n r s : Nat} (hr : r < n) (hs : s < n) : ∀ q ∈ keysL n r s, 0 ≤ q.1 ∧ q.1 < n ∧ -2 ≤ q.2 ∧ q.2 ≤ 2 := by
  intro q hq
  unfold keysL at hq
  simp only [List.mem_append, List.mem_map, List.mem_range, List.mem_cons, List.not_mem_nil, or_false] at hq
  rcases hq with ((⟨i, hi, rfl⟩ | ⟨i, hi, rfl⟩) | ⟨i, hi, rfl⟩) | (rfl | rfl) <;> simp <;> omega
theorem keysL_nodup {n r s : Nat} (h1 : 1 ≤ n) (h3 : n ≤ 3) (hr : r < n) (hs : s < n) : (keysL n r s).Nodup := by
  have : ∀ n < 4, ∀ r < 3, ∀ s < 3, (keysL n r s).Nodup := by decide +kernel
  exact this n (by omega) r (by omega) s (by omega)
theorem keysL_pD (n r s : Nat) : ((((List.range n).map fun (i : Nat) => D.tup [.int i, .int 0]) ++ (List.range n).map fun (i : Nat) => D.tup [.int i, .int 1]) ++ (List.range n).map fun (i : Nat) => D.tup [.int i, .int (-1)]) ++ [D.tup [.int (r : Int), .int 2], .tup [.int (s : Int), .int (-2)]] = (keysL n r s).map pD := by
  unfold keysL
  rw [List.map_append, List.map_append, List.map_append, List.map_map, List.map_map, List.map_map]
  rfl
theorem ok__law_moves {m : Option Addr} (E : En K mg C) (F : Fd K mg "_law_moves" S_law_moves f fd)
    (G__law_some : OkM P w K mg base C "_law_some" 2 2 none ["_law_dice_here", "_law_items", "_law_size"] pre__law_some)
    (G__law_chances : OkM P w K mg base C "_law_chances" 3 1 none ["_law_dice_here", "_law_many"] pre__law_chances)
    (G__law_pick : OkM P w K mg base C "_law_pick" 2 1 none ["_law_dice_here", "_law_items"] pre__law_pick)
    (G__law_roll : OkM P w K mg base C "_law_roll" 1 1 none ["_law_dice_here", "_law_total"] pre__law_roll) : OkM P w K mg base C "_law_moves" 4 1 none ["_law_dice_here", "_law_size"] pre__law_moves := by
  have nd : (["_law_dice_here", "_law_size", "_law_keys", "_law_some_here", "_law_chances_here", "_law_to", "_law_at"] : List Str).Nodup := by decide +kernel
  refine F.okM (N := ["_law_dice_here", "_law_size", "_law_keys", "_law_some_here", "_law_chances_here", "_law_to", "_law_at"]) ⟨rfl, rfl, rfl, nd, rfl, by decide +kernel, by decide +kernel⟩ rfl (by decide) (F.fun_.bindsN fun _ _ _ _ _ _ us hl => match us, hl with | [_, _], _ => rfl) (fun pr cdv A outer s H X hr =>
    (dss_cons (ds_set (i := 2) nd (de_bin od_add (de_ofR (dr_lc (own := [("_law_to", 5)]) (tg := (.nm 5)) rfl nd (di_rng rfl E.m_range (de_var 1)) (blkOk_by (N := ["_law_dice_here", "_law_size", "_law_keys", "_law_some_here", "_law_chances_here", "_law_to", "_law_at"]) (sc := (defScope S_law_moves)) (by decide +kernel)) (by decide) (fun _ _ _ _ _ => (pg_name (i := 5) nd rfl (by first | exact Or.inl rfl | exact Or.inr rfl))) (tt := none) (fun _ _ _ _ _ => dts_nil) (fun _ _ _ _ _ => (de_tup (da_cons (de_var 5) (da_cons de_int da_nil)))))) (de_ofR (dr_lc (own := [("_law_to", 5)]) (tg := (.nm 5)) rfl nd (di_rng rfl E.m_range (de_var 1)) (blkOk_by (N := ["_law_dice_here", "_law_size", "_law_keys", "_law_some_here", "_law_chances_here", "_law_to", "_law_at"]) (sc := (defScope S_law_moves)) (by decide +kernel)) (by decide) (fun _ _ _ _ _ => (pg_name (i := 5) nd rfl (by first | exact Or.inl rfl | exact Or.inr rfl))) (tt := none) (fun _ _ _ _ _ => dts_nil) (fun _ _ _ _ _ => (de_tup (da_cons (de_var 5) (da_cons de_int da_nil))))))))
    (dss_cons (ds_set (i := 2) nd (de_bin od_add (de_bin od_add (de_var 2) (de_ofR (dr_lc (own := [("_law_to", 5)]) (tg := (.nm 5)) rfl nd (di_rng rfl E.m_range (de_var 1)) (blkOk_by (N := ["_law_dice_here", "_law_size", "_law_keys", "_law_some_here", "_law_chances_here", "_law_to", "_law_at"]) (sc := (defScope S_law_moves)) (by decide +kernel)) (by decide) (fun _ _ _ _ _ => (pg_name (i := 5) nd rfl (by first | exact Or.inl rfl | exact Or.inr rfl))) (tt := none) (fun _ _ _ _ _ => dts_nil) (fun _ _ _ _ _ => (de_tup (da_cons (de_var 5) (da_cons (de_neg de_int) da_nil))))))) (de_ofR (dr_lst (da_cons (de_tup (da_cons (de_callMD 0 G__law_roll (hr.mono (by decide)) rfl (da_cons (de_var 1) da_nil)) (da_cons de_int da_nil))) (da_cons (de_tup (da_cons (de_callMD 0 G__law_roll (hr.mono (by decide)) rfl (da_cons (de_var 1) da_nil)) (da_cons (de_neg de_int) da_nil))) da_nil))))))
    (dss_cons (ds_set (i := 3) nd (de_callMD 0 G__law_some (hr.mono (by decide)) rfl (da_cons (de_var 2) (da_cons (de_callMD 0 G__law_pick (hr.mono (by decide)) rfl (da_cons (de_ofR (dr_lst (da_cons de_int (da_cons de_int (da_cons de_int (da_cons de_int (da_cons de_int da_nil))))))) da_nil)) da_nil))))
    (dss_cons (ds_set (i := 4) nd (de_callMD 0 G__law_chances (hr.mono (by decide)) rfl (da_cons (de_cb call_lenAll cp_len rfl E.m_len rfl (da_cons (de_var 3) da_nil)) da_nil)))
    (dss_one (ds_ret (de_ct call_tuple_of cp_tuple rfl E.m_tuple rfl (da_cons (de_cb (cr_sortR (un8 hr)) cp_sortR rfl E.m_sorted rfl (da_cons (de_ofR (dr_lc (own := [("_law_at", 6)]) (tg := (.nm 6)) rfl nd (di_rng rfl E.m_range (de_cb call_lenAll cp_len rfl E.m_len rfl (da_cons (de_var 3) da_nil))) (blkOk_by (N := ["_law_dice_here", "_law_size", "_law_keys", "_law_some_here", "_law_chances_here", "_law_to", "_law_at"]) (sc := (defScope S_law_moves)) (by decide +kernel)) (by decide) (fun _ _ _ _ _ => (pg_name (i := 6) nd rfl (by first | exact Or.inl rfl | exact Or.inr rfl))) (tt := none) (fun _ _ _ _ _ => dts_nil) (fun _ _ _ _ _ => (de_bin od_add (de_ixD (un1 hr) (de_var 3) (de_var 6)) (de_tup (da_cons (de_ixD (un1 hr) (de_var 4) (de_var 6)) da_nil)))))) da_nil)) da_nil))))))))) ?_
  intro dc ds R hl h
  obtain ⟨n, rfl, hd, h0, h1, hR⟩ := h
  simp only [dSeq, dIfS, dNext, dRet, dDrop, dSet, dUnp, dParD, dPar, dSetR, dAug, dOr, dAnd, dNot, dTst, dAndV, dOrV, dNotV, dIfE, dVar, dC, d1, d2, dL, dP, gf, dTup, drLst, drNd, drE, deR, draNil, draCons, daNil, daCons, daStar, itemsD, dChain, dIsi, dIsiC, isiT, dCall, dCallM, st0, stM, setAll, setR, setRs, Tg.set, dApp, dPop, dIxM, dStL, dStD, dBor, dBorT, frzS, diLst, diTup, diRng, diStr, diEnum, dItems, dValues, dListZip, dListRg, dIdx, dGet2, dHouse, dDisp, dPairs, dFrz, isM, tstD]
  have lcK : ∀ (g : Int) (te : DTE) (δ1 : List Sl) (R : Rv → List Sl → Prop), (∀ i : Nat, ∀ δ5 : List Sl, ∀ Q : D → List Sl → Prop, δ5 = (wpD δ1 [5]).set 5 (.im (.int i)) → (∀ δ6, wpD δ6 [5] = wpD δ1 [5] → Q (.tup [.int i, .int g]) δ6) → te δ5 Q) → wOk δ1 [5] = true → δ1[1]? = some (.im (.int n)) → R (.nl ((List.range n).map fun (i : Nat) => .tup [.int i, .int g])) δ1 → drLc (diRng (dVar 1)) (.nm 5) none te [5] δ1 R := by
    intro g te δ1 R ht hw h1 hR
    refine lcMap (ds := rngD n) (δ1 := δ1) (fun d => .tup [d, .int g]) (fun RR h => ⟨_, h1, _, rfl, by omega, by omega, by rw [Int.toNat_natCast]; exact h⟩) hw (by rw [rngD_len]; omega) (fun d Q hd hQ => ?_) ?_
    · obtain ⟨i, _, rfl⟩ := List.mem_map.mp hd
      exact ⟨_, rfl, ht i _ Q rfl hQ⟩
    · unfold rngD
      rw [List.map_map]
      exact hR
  refine lcK 0 _ _ _ (fun i δ5 Q e hQ => ?_) rfl rfl ?_
  · subst e
    exact ⟨_, rfl, by show 2 ≤ 100000; omega, hQ _ rfl⟩
  refine lcK 1 _ _ _ (fun i δ5 Q e hQ => ?_) rfl rfl ?_
  · subst e
    exact ⟨_, rfl, by show 2 ≤ 100000; omega, hQ _ rfl⟩
  have addL : ∀ {a b : List D}, a.length + b.length ≤ 100000 → fAdd (.lst a) (.lst b) = some (.lst (a ++ b)) := fun h => if_pos h
  refine ⟨_, addL (by simp; omega), _, rfl, ?_⟩
  refine lcK (-1) _ _ _ (fun i δ5 Q e hQ => ?_) rfl rfl ?_
  · subst e
    exact ⟨_, rfl, _, rfl, by show 2 ≤ 100000; omega, hQ _ rfl⟩
  refine ⟨_, addL (by simp; omega), ⟨_, rfl⟩, _, rfl, rfl, _, rfl, n, rfl, hd, h0, by omega, fun r dc1 hr hd1 => ?_⟩
  refine ⟨by show 2 ≤ 100000; omega, ⟨_, rfl⟩, _, rfl, rfl, _, rfl, n, rfl, hd1, h0, by omega, fun s dc2 hs hd2 => ?_⟩
  refine ⟨_, rfl, by show 2 ≤ 100000; omega, by show 2 ≤ 100000; omega, _, addL (by simp; omega), ⟨_, rfl⟩, _, rfl, ⟨_, rfl⟩, by show 5 ≤ 100000; omega, rfl, _, rfl, [.int 1, .int 2, .int 2, .int 2, .int 3], rfl, hd2, by show 0 < 5; omega, by show 5 ≤ 100; omega, fun x dc3 hx hd3 => ?_⟩
  have hx2 : ∃ k : Nat, x = .int k ∧ 1 ≤ k ∧ k ≤ 3 := by
    simp only [List.mem_cons, List.not_mem_nil, or_false] at hx
    rcases hx with rfl | rfl | rfl | rfl | rfl
    · exact ⟨1, rfl, by omega, by omega⟩
    · exact ⟨2, rfl, by omega, by omega⟩
    · exact ⟨2, rfl, by omega, by omega⟩
    · exact ⟨2, rfl, by omega, by omega⟩
    · exact ⟨3, rfl, by omega, by omega⟩
  obtain ⟨k, rfl, hk1, hk3⟩ := hx2
  have hkl : (keysL n r s).length = 3 * n + 2 := by simp [keysL]; omega
  have hkp := keysL_pD n r s
  have hknd := keysL_nodup h0 h1 hr hs
  have hkm := keysL_mem hr hs
  generalize keysL n r s = kps at *
  refine ⟨rfl, _, rfl, kps.map pD, k, ?_, hd3, by rw [List.length_map]; omega, by omega, fun ys dc4 hdr hd4 => ?_⟩
  · rw [← hkp]
  obtain ⟨qs, rfl, hql, hqn, hqm⟩ := drawn_ps hknd (by omega) hdr
  have hyl : (qs.map pD).length = k := by rw [List.length_map, hql]
  refine ⟨⟨_, rfl⟩, _, rfl, .int (qs.map pD).length, rfl, rfl, _, rfl, (qs.map pD).length, rfl, hd4, by rw [hyl]; exact hk1, by rw [hyl]; exact hk3, fun ps dc5 hps hd5 => ?_⟩
  rw [hyl] at hps
  have hpl := (ch_ok hps hk1 hk3).1
  obtain ⟨r1, r2, r3⟩ := rowsOf_good hk1 hk3 hql hqn (fun q hq => hkm q (hqm q hq)) hps
  have hx : ∀ i : Nat, i < k → ∃ q p, qs[i]? = some q ∧ ps[i]? = some p ∧ (rowsOf qs ps)[i]? = some ⟨q.1, q.2, p.1, p.2⟩ := fun i hi => by
    have hi1 : i < qs.length := by omega
    have hi2 : i < ps.length := by omega
    refine ⟨qs[i], ps[i], List.getElem?_eq_getElem hi1, List.getElem?_eq_getElem hi2, ?_⟩
    unfold rowsOf
    rw [List.getElem?_map, List.getElem?_eq_getElem (by rw [List.length_zip]; omega), List.getElem_zip]
    rfl
  refine lcMap (ds := rngD k) (δ1 := [.ml dc5, .im (.int n), .im (.lst (kps.map pD)), .im (.lst (qs.map pD)), .im (.lst (ps.map pD)), .no, .no]) (fun d => match d with | .int i => rowD ((rowsOf qs ps).getD i.toNat ⟨0, 0, 0, 0⟩) | _ => .non) (fun RR h => ⟨_, rfl, .int (qs.map pD).length, rfl, _, rfl, by rw [hyl]; omega, by rw [hyl]; omega, ?_⟩) rfl (by rw [rngD_len]; omega) (fun d Q hd hQ => ?_) ?_
  · rw [hyl, Int.toNat_natCast, hkp]; exact h
  · obtain ⟨i, hi, rfl⟩ := List.mem_map.mp hd
    obtain ⟨q, p, e1, e2, e3⟩ := hx i (List.mem_range.mp hi)
    have e4 : (rowsOf qs ps).getD i ⟨0, 0, 0, 0⟩ = ⟨q.1, q.2, p.1, p.2⟩ := by simp [List.getD, e3]
    refine ⟨_, rfl, _, rfl, _, rfl, pD q, atD_nat e1, _, rfl, _, rfl, pD p, atD_nat e2, by show 1 ≤ 100000; omega, _, rfl, ?_⟩
    simp only [Int.toNat_natCast, e4] at hQ
    exact hQ _ rfl
  · have e5 : ((rngD k).map fun d => match d with | .int i => rowD ((rowsOf qs ps).getD i.toNat ⟨0, 0, 0, 0⟩) | _ => .non) = (rowsOf qs ps).map rowD := by
      refine List.ext_getElem (by rw [List.length_map, rngD_len, List.length_map, r1]) fun i h1 h2 => ?_
      have hi : i < (rowsOf qs ps).length := by rw [List.length_map] at h2; exact h2
      simp [rngD, List.getD, List.getElem?_eq_getElem hi]
    rw [e5]
    exact ⟨rowsOf qs ps, rfl, by omega, r2, fun rows' hp hs => ⟨_, rfl, _, rfl, hR rows' _ (r3 rows' hp hs) hd5⟩⟩

theorem ok__law_game {m : Option Addr} (E : En K mg C) (F : Fd K mg "_law_game" S_law_game f fd)
    (G__law_moves : OkM P w K mg base C "_law_moves" 4 1 none ["_law_dice_here", "_law_size"] pre__law_moves) : OkM P w K mg base C "_law_game" 5 1 none ["_law_dice_here", "_law_size"] pre__law_game := by
  have nd : (["_law_dice_here", "_law_size", "_law_standing"] : List Str).Nodup := by decide +kernel
  refine F.okM (N := ["_law_dice_here", "_law_size", "_law_standing"]) ⟨rfl, rfl, rfl, nd, rfl, by decide +kernel, by decide +kernel⟩ rfl (by decide) (F.fun_.bindsN fun _ _ _ _ _ _ us hl => match us, hl with | [_, _], _ => rfl) (fun pr cdv A outer s H X hr =>
    (dss_one (ds_ret (de_ct call_tuple_of cp_tuple rfl E.m_tuple rfl (da_cons (de_ofR (dr_lc (own := [("_law_standing", 2)]) (tg := (.nm 2)) rfl nd (di_rng rfl E.m_range (de_var 1)) (blkOk_by (N := ["_law_dice_here", "_law_size", "_law_standing"]) (sc := (defScope S_law_game)) (by decide +kernel)) (by decide) (fun _ _ _ _ _ => (pg_name (i := 2) nd rfl (by first | exact Or.inl rfl | exact Or.inr rfl))) (tt := none) (fun _ _ _ _ _ => dts_nil) (fun _ _ _ _ _ => (de_callMD 0 G__law_moves (hr.mono (by decide)) rfl (da_cons (de_var 1) da_nil))))) da_nil))))) ?_
  intro dc ds R hl h
  obtain ⟨n, rfl, hd, h0, h1, hR⟩ := h
  simp only [dSeq, dIfS, dNext, dRet, dDrop, dSet, dUnp, dParD, dPar, dSetR, dAug, dOr, dAnd, dNot, dTst, dAndV, dOrV, dNotV, dIfE, dVar, dC, d1, d2, dL, dP, gf, dTup, drLst, drNd, drE, deR, draNil, draCons, daNil, daCons, daStar, itemsD, dChain, dIsi, dIsiC, isiT, dCall, dCallM, st0, stM, setAll, setR, setRs, Tg.set, dApp, dPop, dIxM, dStL, dStD, dBor, dBorT, frzS, diLst, diTup, diRng, diStr, diEnum, dItems, dValues, dListZip, dListRg, dIdx, dGet2, dHouse, dDisp, dPairs, dFrz, isM, tstD]
  refine lcDice (ds := rngD n) (fun dc => [.ml dc, .im (.int n), .no]) (fun _ y => ∃ rs, y = rowsD rs ∧ GoodMs n rs) hd (fun RR h => ⟨_, rfl, _, rfl, by omega, by omega, by rw [Int.toNat_natCast]; exact h⟩) rfl (by rw [rngD_len]; omega) (fun _ => rfl) (fun d dc Q hdm hd hQ => ?_) (fun ys dc' hd' hy hP => ?_)
  · refine ⟨_, rfl, ?_⟩
    simp only [dSeq, dIfS, dNext, dRet, dDrop, dSet, dUnp, dParD, dPar, dSetR, dAug, dOr, dAnd, dNot, dTst, dAndV, dOrV, dNotV, dIfE, dVar, dC, d1, d2, dL, dP, gf, dTup, drLst, drNd, drE, deR, draNil, draCons, daNil, daCons, daStar, itemsD, dChain, dIsi, dIsiC, isiT, dCall, dCallM, st0, stM, setAll, setR, setRs, Tg.set, dApp, dPop, dIxM, dStL, dStD, dBor, dBorT, frzS, diLst, diTup, diRng, diStr, diEnum, dItems, dValues, dListZip, dListRg, dIdx, dGet2, dHouse, dDisp, dPairs, dFrz, isM, tstD]
    exact ⟨⟨_, rfl⟩, _, rfl, rfl, _, rfl, n, rfl, hd, h0, h1, fun rs dc' hrs hd' => hQ _ dc' _ ⟨rs, rfl, hrs⟩ hd' rfl⟩
  · rw [rngD_len] at hy
    have hA : ∀ y ∈ ys, ∃ rs, y = rowsD rs ∧ GoodMs n rs := fun y hm => by
      obtain ⟨j, hj, e⟩ := List.getElem_of_mem hm
      have hj2 : j < (rngD n).length := by rw [rngD_len]; omega
      exact hP j _ y (List.getElem?_eq_getElem hj2) (by rw [← e]; exact List.getElem?_eq_getElem hj)
    obtain ⟨g, e, hg⟩ := all_map hA
    subst e
    rw [List.length_map] at hy
    refine ⟨_, rfl, _, rfl, hR g _ ⟨by omega, by omega, fun rs hr => by rw [hy]; exact hg rs hr⟩ hy hd'⟩

end
end K46

set_option Elab.async false
set_option linter.all false
set_option maxRecDepth 100000
set_option maxHeartbeats 2000000
namespace K46
open PySem PySem.Spec PyProof.Rows L2
section
variable {P : Program} {w : World} {K : PySem.W.Frag} {mg : Str → Option Value} {base : Heap} {C f : Addr} {fd : FuncData}
theorem drawn_str {ss : List Str} {k : Nat} {ys : List D} (hn : ss.Nodup) (hk : k ≤ ss.length) (h : Drawn (ss.map D.str) k ys) : ∃ qs : List Str, ys = qs.map D.str ∧ qs.length = k ∧ qs.Nodup ∧ ∀ q ∈ qs, q ∈ ss := by
  obtain ⟨h1, rest, hp⟩ := h
  have hA : ∀ y ∈ ys, ∃ q, y = D.str q ∧ q ∈ ss := fun y hy => by
    have := hp.mem_iff.mp (List.mem_append_left rest hy)
    obtain ⟨q, hq, rfl⟩ := List.mem_map.mp this
    exact ⟨q, rfl, hq⟩
  obtain ⟨qs, rfl, hqs⟩ := all_map hA
  rw [List.length_map, List.length_map] at h1
  have hnd : (ss.map D.str).Nodup := List.pairwise_map.mpr (List.Pairwise.imp (fun h z => h (by injection z)) hn)
  have h2 : (qs.map D.str ++ rest).Nodup := hp.symm.nodup hnd
  have h3 : (qs.map D.str).Nodup := (List.nodup_append.mp h2).1
  exact ⟨qs, rfl, by omega, List.Pairwise.imp (fun h z => h (by rw [z])) (List.pairwise_map.mp h3), hqs⟩
def ngD (p : Str × Game) : D := .tup [.str p.1, gameD p.2]
theorem zip_hou {n : Nat} : ∀ {zs : List Str} {ys : List D}, ys.length = zs.length → (∀ (j : Nat) d y, (zs.map D.str)[j]? = some d → ys[j]? = some y → ∃ x g, d = .str x ∧ y = ngD (x, g) ∧ GoodG g ∧ g.length = n) → ∃ h : Hou, ys = h.map ngD ∧ h.map (·.1) = zs ∧ ∀ p ∈ h, GoodG p.2 ∧ p.2.length = n
  | [], [], _, _ => ⟨[], rfl, rfl, fun _ h => nomatch h⟩
  | [], _ :: _, h, _ => nomatch h
  | _ :: _, [], h, _ => nomatch h
  | z :: zs, y :: ys, hl, hP => by
    obtain ⟨x, g, e1, e2, e3, e4⟩ := hP 0 _ _ rfl rfl
    obtain ⟨h, e5, e6, e7⟩ := zip_hou (zs := zs) (ys := ys) (by simpa using hl) fun j d y h1 h2 => hP (j + 1) d y h1 h2
    injection e1 with e1
    refine ⟨(x, g) :: h, by rw [e2, e5]; rfl, by rw [List.map_cons, e6, e1], fun p hp => ?_⟩
    rcases List.mem_cons.mp hp with rfl | hp
    · exact ⟨e3, e4⟩
    · exact e7 p hp
theorem pairsD_hou : ∀ h : Hou, pairsD (h.map ngD) = some (h.map (fun p => .inr p.1), h.map fun p => gameD p.2)
  | [] => rfl
  | p :: h => by
    show (keyD (.str p.1)).bind (fun k => (pairsD (h.map ngD)).map fun q => (k :: q.1, gameD p.2 :: q.2)) = _
    rw [pairsD_hou h]
    rfl
theorem nodup_inr : ∀ {l : List Str}, l.Nodup → (l.map (Sum.inr : Str → Key)).Nodup
  | [], _ => List.nodup_nil
  | a :: l, h => by
    have h' := List.nodup_cons.mp h
    refine List.nodup_cons.mpr ⟨fun z => ?_, nodup_inr h'.2⟩
    obtain ⟨b, hb, e⟩ := List.mem_map.mp z
    cases e
    exact h'.1 hb
theorem fDict_hou {h : Hou} (hn : (h.map (·.1)).Nodup) (hl : h.length ≤ 100000) : fDict [.lst (h.map ngD)] = some (houD h) := by
  show (pairsD (h.map ngD)).bind _ = _
  rw [pairsD_hou]
  show (if (h.map fun p => (Sum.inr p.1 : Key)).Nodup ∧ (h.map fun p => (Sum.inr p.1 : Key)).length ≤ 100000 then some (D.dic _ _) else none) = _
  have e : (h.map fun p => (Sum.inr p.1 : Key)) = (h.map (·.1)).map Sum.inr := by rw [List.map_map]; rfl
  have hp : (h.map fun p => (Sum.inr p.1 : Key)).Nodup := by
    rw [e]
    exact nodup_inr hn
  exact if_pos ⟨hp, by rw [List.length_map]; exact hl⟩
def drawNames : List Str := [Str.ofString "a", Str.ofString "b", Str.ofString "c", Str.ofString "e", Str.ofString "f", Str.ofString "k", Str.ofString "coin"]
theorem drawNames_word : ∀ z ∈ drawNames, isWord z := by
  unfold isWord
  decide +kernel
theorem drawNames_nodup : drawNames.Nodup := by decide +kernel
theorem ok__law_house {m : Option Addr} (E : En K mg C) (F : Fd K mg "_law_house" S_law_house f fd)
    (G__law_roll : OkM P w K mg base C "_law_roll" 1 1 none ["_law_dice_here", "_law_total"] pre__law_roll)
    (G__law_pick : OkM P w K mg base C "_law_pick" 2 1 none ["_law_dice_here", "_law_items"] pre__law_pick)
    (G__law_known_house : OkM P w K mg base C "_law_known_house" 3 0 none ["_law_dice_here"] pre__law_known_house)
    (G__law_some : OkM P w K mg base C "_law_some" 2 2 none ["_law_dice_here", "_law_items", "_law_size"] pre__law_some)
    (G__law_game : OkM P w K mg base C "_law_game" 5 1 none ["_law_dice_here", "_law_size"] pre__law_game) : OkM P w K mg base C "_law_house" 6 0 none ["_law_dice_here"] pre__law_house := by
  have nd : (["_law_dice_here", "_law_way", "_law_size", "_law_names", "_law_name"] : List Str).Nodup := by decide +kernel
  refine F.okM (N := ["_law_dice_here", "_law_way", "_law_size", "_law_names", "_law_name"]) ⟨rfl, rfl, rfl, nd, rfl, by decide +kernel, by decide +kernel⟩ rfl (by decide) (F.fun_.bindsN fun _ _ _ _ _ _ us hl => match us, hl with | [_], _ => rfl) (fun pr cdv A outer s H X hr =>
    (dss_cons (ds_set (i := 1) nd (de_callMD 0 G__law_roll (hr.mono (by decide)) rfl (da_cons de_int da_nil)))
    (dss_cons (ds_if (dt_cmpD (od_eq rfl (un8 hr)) (de_var 1) de_int) (dss_one (ds_ret (de_callMD 0 G__law_known_house (hr.mono (by decide)) rfl da_nil))) dss_nil)
    (dss_cons (ds_set (i := 2) nd (de_callMD 0 G__law_pick (hr.mono (by decide)) rfl (da_cons (de_ofR (dr_lst (da_cons de_int (da_cons de_int (da_cons de_int (da_cons de_int (da_cons de_int (da_cons de_int da_nil)))))))) da_nil)))
    (dss_cons (ds_set (i := 3) nd (de_cb (call_sortedAll rfl) (cp_sorted rfl) rfl E.m_sorted rfl (da_cons (de_callMD 0 G__law_some (hr.mono (by decide)) rfl (da_cons (de_ofR (dr_lst (da_cons de_str (da_cons de_str (da_cons de_str (da_cons de_str (da_cons de_str (da_cons de_str (da_cons de_str da_nil))))))))) (da_cons (de_callMD 0 G__law_pick (hr.mono (by decide)) rfl (da_cons (de_ofR (dr_lst (da_cons de_int (da_cons de_int (da_cons de_int (da_cons de_int da_nil)))))) da_nil)) da_nil))) da_nil)))
    (dss_one (ds_ret (de_ct (call_dictP rfl) cp_dict rfl E.m_dict rfl (da_cons (de_ofR (dr_lc (own := [("_law_name", 4)]) (tg := (.nm 4)) rfl nd (di_lst (de_var 3)) (blkOk_by (N := ["_law_dice_here", "_law_way", "_law_size", "_law_names", "_law_name"]) (sc := (defScope S_law_house)) (by decide +kernel)) (by decide) (fun _ _ _ _ _ => (pg_name (i := 4) nd rfl (by first | exact Or.inl rfl | exact Or.inr rfl))) (tt := none) (fun _ _ _ _ _ => dts_nil) (fun _ _ _ _ _ => (de_tup (da_cons (de_var 4) (da_cons (de_callMD 0 G__law_game (hr.mono (by decide)) rfl (da_cons (de_var 2) da_nil)) da_nil)))))) da_nil))))))))) ?_
  intro dc ds R hl h
  obtain ⟨rfl, hd, hR⟩ := h
  simp only [dSeq, dIfS, dNext, dRet, dDrop, dSet, dUnp, dParD, dPar, dSetR, dAug, dOr, dAnd, dNot, dTst, dAndV, dOrV, dNotV, dIfE, dVar, dC, d1, d2, dL, dP, gf, dTup, drLst, drNd, drE, deR, draNil, draCons, daNil, daCons, daStar, itemsD, dChain, dIsi, dIsiC, isiT, dCall, dCallM, st0, stM, setAll, setR, setRs, Tg.set, dApp, dPop, dIxM, dStL, dStD, dBor, dBorT, frzS, diLst, diTup, diRng, diStr, diEnum, dItems, dValues, dListZip, dListRg, dIdx, dGet2, dHouse, dDisp, dPairs, dFrz, isM, tstD]
  refine ⟨⟨_, rfl⟩, rfl, _, rfl, 7, rfl, hd, by omega, by omega, fun way dc1 hw hd1 => ?_⟩
  refine ⟨_, rfl, .bl (eqD (.int way) (.int 0)), rfl, _, rfl, fun _ => ?_, fun _ => ?_⟩
  · exact ⟨⟨_, rfl⟩, rfl, _, rfl, rfl, hd1, fun h dc' hg hd' => ⟨_, rfl, hR h _ hg hd'⟩⟩
  refine ⟨⟨_, rfl⟩, by show 6 ≤ 100000; omega, rfl, _, rfl, [.int 1, .int 2, .int 2, .int 2, .int 3, .int 3], rfl, hd1, by show 0 < 6; omega, by show 6 ≤ 100; omega, fun x dc2 hx hd2 => ?_⟩
  have hx2 : ∃ n : Nat, x = .int n ∧ 1 ≤ n ∧ n ≤ 3 := by
    simp only [List.mem_cons, List.not_mem_nil, or_false] at hx
    rcases hx with rfl | rfl | rfl | rfl | rfl | rfl
    · exact ⟨1, rfl, by omega, by omega⟩
    · exact ⟨2, rfl, by omega, by omega⟩
    · exact ⟨2, rfl, by omega, by omega⟩
    · exact ⟨2, rfl, by omega, by omega⟩
    · exact ⟨3, rfl, by omega, by omega⟩
    · exact ⟨3, rfl, by omega, by omega⟩
  obtain ⟨n, rfl, hn1, hn3⟩ := hx2
  refine ⟨⟨_, rfl⟩, by show 7 ≤ 100000; omega, ⟨_, rfl⟩, by show 4 ≤ 100000; omega, rfl, _, rfl, [.int 1, .int 2, .int 2, .int 3], rfl, hd2, by show 0 < 4; omega, by show 4 ≤ 100; omega, fun x dc3 hx hd3 => ?_⟩
  have hx2 : ∃ k : Nat, x = .int k ∧ 1 ≤ k ∧ k ≤ 3 := by
    simp only [List.mem_cons, List.not_mem_nil, or_false] at hx
    rcases hx with rfl | rfl | rfl | rfl
    · exact ⟨1, rfl, by omega, by omega⟩
    · exact ⟨2, rfl, by omega, by omega⟩
    · exact ⟨2, rfl, by omega, by omega⟩
    · exact ⟨3, rfl, by omega, by omega⟩
  obtain ⟨k, rfl, hk1, hk3⟩ := hx2
  refine ⟨rfl, _, rfl, drawNames.map D.str, k, rfl, hd3, by show 7 ≤ 100; omega, by omega, fun ys dc4 hdr hd4 => ?_⟩
  obtain ⟨qs, rfl, hql, hqn, hqm⟩ := drawn_str drawNames_nodup (by show k ≤ 7; omega) hdr
  refine .inr ⟨qs, rfl, by omega, fun zs hz => ?_⟩
  have hzl := hz.length_eq
  have hzn : zs.Nodup := hz.symm.nodup hqn
  refine lcDice (ds := zs.map D.str) (fun dc => [.ml dc, .im (.int way), .im (.int n), .im (.lst (zs.map D.str)), .no]) (fun d y => ∃ x g, d = .str x ∧ y = ngD (x, g) ∧ GoodG g ∧ g.length = n) hd4 (fun RR h => ⟨_, rfl, _, rfl, h⟩) rfl (by rw [List.length_map]; omega) (fun _ => rfl) (fun d dc Q hdm hd hQ => ?_) (fun ys dc' hd' hy hP => ?_)
  · obtain ⟨z, _, rfl⟩ := List.mem_map.mp hdm
    refine ⟨_, rfl, ?_⟩
    simp only [dSeq, dIfS, dNext, dRet, dDrop, dSet, dUnp, dParD, dPar, dSetR, dAug, dOr, dAnd, dNot, dTst, dAndV, dOrV, dNotV, dIfE, dVar, dC, d1, d2, dL, dP, gf, dTup, drLst, drNd, drE, deR, draNil, draCons, daNil, daCons, daStar, itemsD, dChain, dIsi, dIsiC, isiT, dCall, dCallM, st0, stM, setAll, setR, setRs, Tg.set, dApp, dPop, dIxM, dStL, dStD, dBor, dBorT, frzS, diLst, diTup, diRng, diStr, diEnum, dItems, dValues, dListZip, dListRg, dIdx, dGet2, dHouse, dDisp, dPairs, dFrz, isM, tstD]
    exact ⟨_, rfl, ⟨_, rfl⟩, _, rfl, rfl, _, rfl, n, rfl, hd, hn1, hn3, fun g dc' hg hgl hd' => ⟨by show 2 ≤ 100000; omega, hQ _ dc' _ ⟨z, g, rfl, rfl, hg, hgl⟩ hd' rfl⟩⟩
  · rw [List.length_map] at hy
    obtain ⟨h, rfl, e2, e3⟩ := zip_hou hy hP
    have hhl : h.length = zs.length := by rw [← e2, List.length_map]
    have hnd : (h.map (·.1)).Nodup := by rw [e2]; exact hzn
    refine ⟨_, fDict_hou hnd (by omega), _, rfl, hR h _ ⟨by omega, by omega, hnd, fun p hp => drawNames_word _ (hqm _ (hz.mem_iff.mp ?_)), fun p hp => (e3 p hp).1, n, fun p hp => (e3 p hp).2⟩ hd'⟩
    rw [← e2]
    exact List.mem_map.mpr ⟨p, hp, rfl⟩

instance : DecidableRel pLt := fun x y => by unfold pLt; infer_instance
instance (p : Int × Int) : Decidable (isCh p) := by unfold isCh; infer_instance
instance (n : Nat) (r : Row) : Decidable (isMv n r) := by unfold isMv; infer_instance
instance (z : Str) : Decidable (isWord z) := by unfold isWord; infer_instance
def GoodMsB (n : Nat) (rs : List Row) : Prop := 1 ≤ rs.length ∧ rs.length ≤ 6 ∧ (∀ r ∈ rs, isMv n r) ∧ rs.Pairwise pLt ∧ sumP (0, 1) (rs.map fun r => (r.a, r.b)) = some (1, 1)
def GoodHB (h : Hou) : Prop := 1 ≤ h.length ∧ h.length ≤ 4 ∧ (h.map (·.1)).Nodup ∧ (∀ p ∈ h, isWord p.1) ∧ (∀ p ∈ h, 1 ≤ p.2.length ∧ p.2.length ≤ 6 ∧ ∀ rs ∈ p.2, GoodMsB p.2.length rs) ∧ ∀ p ∈ h, p.2.length = (h.map fun p => p.2.length).headD 0
instance (n : Nat) (rs : List Row) : Decidable (GoodMsB n rs) := by unfold GoodMsB; infer_instance
instance (h : Hou) : Decidable (GoodHB h) := by unfold GoodHB; infer_instance
theorem GoodHB.good {h : Hou} (g : GoodHB h) : GoodH h := by
  obtain ⟨a, b, c, d, e, f⟩ := g
  exact ⟨a, b, c, d, fun p hp => ⟨(e p hp).1, (e p hp).2.1, fun rs hr => let ⟨a, b, c, d, e⟩ := (e p hp).2.2 rs hr; ⟨a, b, c, d, e⟩⟩, _, f⟩
def khUp : List Row := [⟨0, 1, 1, 2⟩, ⟨1, 1, 1, 2⟩]
def khDown : List Row := [⟨0, -1, 1, 2⟩, ⟨1, -1, 1, 2⟩]
def knownH : List Hou := [
  [(Str.ofString "c", [[⟨1, 1, 1, 1⟩], [⟨0, -1, 1, 1⟩]]), (Str.ofString "d", [[⟨0, 0, 1, 1⟩], [⟨0, 0, 1, 1⟩]])],
  [(Str.ofString "c", [[⟨1, 0, 1, 1⟩], [⟨0, 0, 1, 1⟩]]), (Str.ofString "k", [[⟨0, 1, 1, 1⟩], [⟨1, -1, 1, 1⟩]])],
  [(Str.ofString "e", [khUp, khDown]), (Str.ofString "f", [khDown, khUp])],
  [(Str.ofString "a", [[⟨0, -1, 1, 2⟩, ⟨0, 1, 1, 2⟩]]), (Str.ofString "b", [[⟨0, -1, 2, 3⟩, ⟨0, 1, 1, 3⟩]])],
  [(Str.ofString "a", [[⟨1, 1, 1, 2⟩, ⟨2, -1, 1, 2⟩], [⟨0, -1, 1, 2⟩, ⟨2, 1, 1, 2⟩], [⟨0, 1, 1, 2⟩, ⟨1, -1, 1, 2⟩]]), (Str.ofString "b", [[⟨1, 1, 1, 4⟩, ⟨2, -1, 3, 4⟩], [⟨0, -1, 1, 4⟩, ⟨2, 1, 3, 4⟩], [⟨0, 1, 3, 4⟩, ⟨1, -1, 1, 4⟩]])]]
theorem knownH_good : ∀ h ∈ knownH, GoodH h := fun h hh => GoodHB.good ((by decide +kernel : ∀ h ∈ knownH, GoodHB h) h hh)
theorem items_hou : ∀ h : Hou, itemsL (h.map fun p => .inr p.1) (h.map fun p => gameD p.2) = h.map ngD
  | [] => rfl
  | p :: h => by
    have ih := items_hou h
    unfold itemsL at ih ⊢
    rw [List.map_cons, List.map_cons, List.zip_cons_cons, List.map_cons, ih]
    rfl
theorem ok__law_known_house {m : Option Addr} (E : En K mg C) (F : Fd K mg "_law_known_house" S_law_known_house f fd)
    (G__law_pick : OkM P w K mg base C "_law_pick" 2 1 none ["_law_dice_here", "_law_items"] pre__law_pick) : OkM P w K mg base C "_law_known_house" 3 0 none ["_law_dice_here"] pre__law_known_house := by
  have nd : (["_law_dice_here", "_law_swap", "_law_stay", "_law_see", "_law_rise", "_law_rests", "_law_fair", "_law_found", "_law_one", "_law_half", "_law_up", "_law_down", "_law_low", "_law_high"] : List Str).Nodup := by decide +kernel
  refine F.okM (N := ["_law_dice_here", "_law_swap", "_law_stay", "_law_see", "_law_rise", "_law_rests", "_law_fair", "_law_found", "_law_one", "_law_half", "_law_up", "_law_down", "_law_low", "_law_high"]) ⟨rfl, rfl, rfl, nd, rfl, by decide +kernel, by decide +kernel⟩ rfl (by decide) (F.fun_.bindsN fun _ _ _ _ _ _ us hl => match us, hl with | [_], _ => rfl) (fun pr cdv A outer s H X hr =>
    (dss_cons (ds_parT2 (i := 8) (j := 9) rfl nd (by decide) (pg_tup rfl (pgs_cons (pg_name (i := 8) nd rfl (by first | exact Or.inl rfl | exact Or.inr rfl)) (pgs_cons (pg_name (i := 9) nd rfl (by first | exact Or.inl rfl | exact Or.inr rfl)) pgs_nil))) (dra_cons (dr_ofE (de_tup (da_cons de_int (da_cons de_int da_nil)))) (dra_cons (dr_ofE (de_tup (da_cons de_int (da_cons de_int da_nil)))) dra_nil)))
    (dss_cons (ds_set (i := 1) nd (de_disp (trs := [(_, _), (_, _)]) (pps_cons de_str (de_tup (da_cons (de_tup (da_cons (de_tup (da_cons de_int (da_cons de_int (da_cons (de_var 8) da_nil)))) da_nil)) (da_cons (de_tup (da_cons (de_tup (da_cons de_int (da_cons (de_neg de_int) (da_cons (de_var 8) da_nil)))) da_nil)) da_nil))) (pps_cons de_str (de_tup (da_cons (de_tup (da_cons (de_tup (da_cons de_int (da_cons de_int (da_cons (de_var 8) da_nil)))) da_nil)) (da_cons (de_tup (da_cons (de_tup (da_cons de_int (da_cons de_int (da_cons (de_var 8) da_nil)))) da_nil)) da_nil))) pps_nil)) rfl rfl (by simp) (by decide)))
    (dss_cons (ds_set (i := 2) nd (de_disp (trs := [(_, _), (_, _)]) (pps_cons de_str (de_tup (da_cons (de_tup (da_cons (de_tup (da_cons de_int (da_cons de_int (da_cons (de_var 8) da_nil)))) da_nil)) (da_cons (de_tup (da_cons (de_tup (da_cons de_int (da_cons de_int (da_cons (de_var 8) da_nil)))) da_nil)) da_nil))) (pps_cons de_str (de_tup (da_cons (de_tup (da_cons (de_tup (da_cons de_int (da_cons de_int (da_cons (de_var 8) da_nil)))) da_nil)) (da_cons (de_tup (da_cons (de_tup (da_cons de_int (da_cons (de_neg de_int) (da_cons (de_var 8) da_nil)))) da_nil)) da_nil))) pps_nil)) rfl rfl (by simp) (by decide)))
    (dss_cons (ds_par2 (i := 10) (j := 11) rfl nd rfl rfl (by decide) (by decide) rfl rfl (dra_cons (dr_ofE (de_tup (da_cons (de_tup (da_cons de_int (da_cons de_int (da_cons (de_var 9) da_nil)))) (da_cons (de_tup (da_cons de_int (da_cons de_int (da_cons (de_var 9) da_nil)))) da_nil)))) (dra_cons (dr_ofE (de_tup (da_cons (de_tup (da_cons de_int (da_cons (de_neg de_int) (da_cons (de_var 9) da_nil)))) (da_cons (de_tup (da_cons de_int (da_cons (de_neg de_int) (da_cons (de_var 9) da_nil)))) da_nil)))) dra_nil)) (by rfl))
    (dss_cons (ds_set (i := 3) nd (de_disp (trs := [(_, _), (_, _)]) (pps_cons de_str (de_tup (da_cons (de_var 10) (da_cons (de_var 11) da_nil))) (pps_cons de_str (de_tup (da_cons (de_var 11) (da_cons (de_var 10) da_nil))) pps_nil)) rfl rfl (by simp) (by decide)))
    (dss_cons (ds_set (i := 4) nd (de_disp (trs := [(_, _), (_, _)]) (pps_cons de_str (de_tup (da_cons (de_tup (da_cons (de_tup (da_cons de_int (da_cons (de_neg de_int) (da_cons (de_var 9) da_nil)))) (da_cons (de_tup (da_cons de_int (da_cons de_int (da_cons (de_var 9) da_nil)))) da_nil))) da_nil)) (pps_cons de_str (de_tup (da_cons (de_tup (da_cons (de_tup (da_cons de_int (da_cons (de_neg de_int) (da_cons (de_tup (da_cons de_int (da_cons de_int da_nil))) da_nil)))) (da_cons (de_tup (da_cons de_int (da_cons de_int (da_cons (de_tup (da_cons de_int (da_cons de_int da_nil))) da_nil)))) da_nil))) da_nil)) pps_nil)) rfl rfl (by simp) (by decide)))
    (dss_cons (ds_parT2 (i := 12) (j := 13) rfl nd (by decide) (pg_tup rfl (pgs_cons (pg_name (i := 12) nd rfl (by first | exact Or.inl rfl | exact Or.inr rfl)) (pgs_cons (pg_name (i := 13) nd rfl (by first | exact Or.inl rfl | exact Or.inr rfl)) pgs_nil))) (dra_cons (dr_ofE (de_tup (da_cons de_int (da_cons de_int da_nil)))) (dra_cons (dr_ofE (de_tup (da_cons de_int (da_cons de_int da_nil)))) dra_nil)))
    (dss_cons (ds_set (i := 5) nd (de_tup (da_cons (de_tup (da_cons (de_tup (da_cons de_int (da_cons de_int (da_cons (de_var 12) da_nil)))) (da_cons (de_tup (da_cons de_int (da_cons (de_neg de_int) (da_cons (de_var 13) da_nil)))) da_nil))) (da_cons (de_tup (da_cons (de_tup (da_cons de_int (da_cons (de_neg de_int) (da_cons (de_var 12) da_nil)))) (da_cons (de_tup (da_cons de_int (da_cons de_int (da_cons (de_var 13) da_nil)))) da_nil))) (da_cons (de_tup (da_cons (de_tup (da_cons de_int (da_cons de_int (da_cons (de_var 13) da_nil)))) (da_cons (de_tup (da_cons de_int (da_cons (de_neg de_int) (da_cons (de_var 12) da_nil)))) da_nil))) da_nil)))))
    (dss_cons (ds_set (i := 6) nd (de_tup (da_cons (de_tup (da_cons (de_tup (da_cons de_int (da_cons de_int (da_cons (de_var 9) da_nil)))) (da_cons (de_tup (da_cons de_int (da_cons (de_neg de_int) (da_cons (de_var 9) da_nil)))) da_nil))) (da_cons (de_tup (da_cons (de_tup (da_cons de_int (da_cons (de_neg de_int) (da_cons (de_var 9) da_nil)))) (da_cons (de_tup (da_cons de_int (da_cons de_int (da_cons (de_var 9) da_nil)))) da_nil))) (da_cons (de_tup (da_cons (de_tup (da_cons de_int (da_cons de_int (da_cons (de_var 9) da_nil)))) (da_cons (de_tup (da_cons de_int (da_cons (de_neg de_int) (da_cons (de_var 9) da_nil)))) da_nil))) da_nil)))))
    (dss_cons (ds_set (i := 7) nd (de_callMD 0 G__law_pick (hr.mono (by decide)) rfl (da_cons (de_ofR (dr_lst (da_cons (de_var 1) (da_cons (de_var 2) (da_cons (de_var 3) (da_cons (de_var 4) (da_cons (de_disp (trs := [(_, _), (_, _)]) (pps_cons de_str (de_var 6) (pps_cons de_str (de_var 5) pps_nil)) rfl rfl (by simp) (by decide)) da_nil))))))) da_nil)))
    (dss_one (ds_ret (de_ct (call_dictP rfl) cp_dict rfl E.m_dict rfl (da_cons (de_items rfl rfl (de_var 7) rfl E.m_list) da_nil))))))))))))))) ?_
  intro dc ds R hl h
  obtain ⟨rfl, hd, hR⟩ := h
  simp only [dSeq, dIfS, dNext, dRet, dDrop, dSet, dUnp, dParD, dPar, dSetR, dAug, dOr, dAnd, dNot, dTst, dAndV, dOrV, dNotV, dIfE, dVar, dC, d1, d2, dL, dP, gf, dTup, drLst, drNd, drE, deR, draNil, draCons, daNil, daCons, daStar, itemsD, dChain, dIsi, dIsiC, isiT, dCall, dCallM, st0, stM, setAll, setR, setRs, Tg.set, dApp, dPop, dIxM, dStL, dStD, dBor, dBorT, frzS, diLst, diTup, diRng, diStr, diEnum, dItems, dValues, dListZip, dListRg, dIdx, dGet2, dHouse, dDisp, dPairs, dFrz, isM, tstD]
  have L : ∀ {a b : Nat}, Nat.ble a b = true → a ≤ b := fun h => Nat.le_of_ble_eq_true h
  repeat first
    | refine ⟨L rfl, ?_⟩
    | refine ⟨_, rfl, ?_⟩
    | refine ⟨rfl, ?_⟩
    | refine ⟨by decide, ?_⟩
  refine ⟨⟨_, rfl⟩, ?_⟩
  repeat first
    | refine ⟨L rfl, ?_⟩
    | refine ⟨_, rfl, ?_⟩
    | refine ⟨rfl, ?_⟩
    | refine ⟨by decide, ?_⟩
  refine ⟨hd, L (a := 1) rfl, L rfl, fun x dc' hx hd' => ?_⟩
  have hx : x ∈ knownH.map houD := hx
  obtain ⟨h, hh, rfl⟩ := List.mem_map.mp hx
  have hg := knownH_good h hh
  have h4 := hg.few
  refine ⟨_, rfl, _, _, rfl, houD h, ?_, _, rfl, hR h _ hg hd'⟩
  rw [items_hou]
  exact fDict_hou hg.nd (by omega)

def gpD (p : Int × Nat) : D := .tup [.int p.1, .int (p.2 : Int)]
theorem zip_st {z : Nat} : ∀ {ks : List Int} {ys : List D}, ys.length = ks.length → (∀ (j : Nat) d y, (ks.map D.int)[j]? = some d → ys[j]? = some y → ∃ (x : Int) (k : Nat), d = .int x ∧ k < z ∧ y = gpD (x, k)) → ∃ ts : List Nat, ys = (ks.zip ts).map gpD ∧ ts.length = ks.length ∧ ∀ t ∈ ts, t < z
  | [], [], _, _ => ⟨[], rfl, rfl, fun _ h => nomatch h⟩
  | [], _ :: _, h, _ => nomatch h
  | _ :: _, [], h, _ => nomatch h
  | q :: ks, y :: ys, hl, hP => by
    obtain ⟨x, k, e1, e2, e3⟩ := hP 0 _ _ rfl rfl
    obtain ⟨ts, e5, e6, e7⟩ := zip_st (ks := ks) (ys := ys) (by simpa using hl) fun j d y h1 h2 => hP (j + 1) d y h1 h2
    injection e1 with e1
    refine ⟨k :: ts, by rw [e3, e5, e1]; rfl, by simp [e6], fun t ht => ?_⟩
    rcases List.mem_cons.mp ht with rfl | ht
    · exact e2
    · exact e7 t ht
theorem pairsD_st : ∀ {ks : List Int} {ts : List Nat}, ts.length = ks.length → pairsD ((ks.zip ts).map gpD) = some (ks.map Sum.inl, ts.map fun (n : Nat) => .int (n : Int))
  | [], [], _ => rfl
  | [], _ :: _, h => nomatch h
  | _ :: _, [], h => nomatch h
  | k :: ks, t :: ts, h => by
    show (keyD (.int k)).bind (fun k => (pairsD ((ks.zip ts).map gpD)).map fun q => (k :: q.1, D.int (t : Int) :: q.2)) = _
    rw [pairsD_st (by simpa using h)]
    rfl
theorem nodup_inl : ∀ {l : List Int}, l.Nodup → (l.map (Sum.inl : Int → Key)).Nodup
  | [], _ => List.nodup_nil
  | a :: l, h => by
    have h' := List.nodup_cons.mp h
    refine List.nodup_cons.mpr ⟨fun z => ?_, nodup_inl h'.2⟩
    obtain ⟨b, hb, e⟩ := List.mem_map.mp z
    cases e
    exact h'.1 hb
theorem fDict_st {ks : List Int} {ts : List Nat} (h : ts.length = ks.length) (hn : ks.Nodup) (hl : ks.length ≤ 100000) : fDict [.lst ((ks.zip ts).map gpD)] = some (.dic (ks.map Sum.inl) (ts.map fun (n : Nat) => .int (n : Int))) := by
  show (pairsD ((ks.zip ts).map gpD)).bind _ = _
  rw [pairsD_st h]
  show (if (ks.map (Sum.inl : Int → Key)).Nodup ∧ (ks.map (Sum.inl : Int → Key)).length ≤ 100000 then some (D.dic _ _) else none) = _
  exact if_pos ⟨nodup_inl hn, by rw [List.length_map]; exact hl⟩
theorem hΓ_short {h : Hou} (hg : GoodH h) (x : Str) : (hΓ h x).length < 64 := by
  unfold hΓ gm
  cases e : h.lookup x with
  | none => exact (by decide : (gainsU []).length < 64)
  | some g =>
    have hm : ∃ p ∈ h, p.2 = g := by
      clear hg
      induction h with
      | nil => cases e
      | cons p h ih =>
        simp only [List.lookup] at e
        split at e
        · cases e; exact ⟨p, List.mem_cons_self, rfl⟩
        · obtain ⟨q, hq, e2⟩ := ih e
          exact ⟨q, List.mem_cons_of_mem _ hq, e2⟩
    obtain ⟨p, hp, rfl⟩ := hm
    show (sortU _).length < 64
    exact Nat.lt_of_le_of_lt (sortU_len _) (sum_small (hg.game p hp))
theorem ok__law_controller {m : Option Addr} (E : En K mg C) (F : Fd K mg "_law_controller" S_law_controller f fd)
    (G__law_pick : OkM P w K mg base C "_law_pick" 2 1 none ["_law_dice_here", "_law_items"] pre__law_pick)
    (G__law_roll : OkM P w K mg base C "_law_roll" 1 1 none ["_law_dice_here", "_law_total"] pre__law_roll)
    (G__law_gains : OkD P w K mg base C "_law_gains" 1 1 none ["_law_game_here"] pre__law_gains) : OkM P w K mg base C "_law_controller" 3 2 none ["_law_dice_here", "_law_plain", "_law_most"] pre__law_controller := by
  have nd : (["_law_dice_here", "_law_plain", "_law_most", "_law_state_here", "_law_size", "_law_found", "_law_name", "_law_gain"] : List Str).Nodup := by decide +kernel
  refine F.okM (N := ["_law_dice_here", "_law_plain", "_law_most", "_law_state_here", "_law_size", "_law_found", "_law_name", "_law_gain"]) ⟨rfl, rfl, rfl, nd, rfl, by decide +kernel, by decide +kernel⟩ rfl (by decide) (F.fun_.bindsN fun _ _ _ _ _ _ us hl => match us, hl with | [_, _, _], _ => rfl) (fun pr cdv A outer s H X hr =>
    (dss_cons (ds_parT2 (i := 4) (j := 5) rfl nd (by decide) (pg_tup rfl (pgs_cons (pg_name (i := 4) nd rfl (by first | exact Or.inl rfl | exact Or.inr rfl)) (pgs_cons (pg_name (i := 5) nd rfl (by first | exact Or.inl rfl | exact Or.inr rfl)) pgs_nil))) (dra_cons (dr_ofE (de_bin od_add de_int (de_callMD 0 G__law_roll (hr.mono (by decide)) rfl (da_cons (de_var 2) da_nil)))) (dra_cons (dr_lst da_nil) dra_nil)))
    (dss_cons (ds_for (tg := (.nm 3)) PassesOwn.never rfl (di_rng rfl E.m_range (de_var 4)) (pg_name (i := 3) nd rfl (by first | exact Or.inl rfl | exact Or.inr rfl)) (dss_cons (ds_set (i := 6) nd (de_callMD 0 G__law_pick (hr.mono (by decide)) rfl (da_cons (de_cb (call_sortedAll rfl) (cp_sorted rfl) rfl E.m_sorted rfl (da_cons (de_var 1) da_nil)) da_nil)))
    (dss_one (ds_app 5 (de_tup (da_cons (de_var 6) (da_cons (de_ct (call_dictP rfl) cp_dict rfl E.m_dict rfl (da_cons (de_ofR (dr_lc (own := [("_law_gain", 7)]) (tg := (.nm 7)) rfl nd (di_lst (de_callD G__law_gains (hr.mono (by decide)) rfl (da_cons (de_ixD (un1 hr) (de_var 1) (de_var 6)) da_nil))) (blkOk_by (N := ["_law_dice_here", "_law_plain", "_law_most", "_law_state_here", "_law_size", "_law_found", "_law_name", "_law_gain"]) (sc := (defScope S_law_controller)) (by decide +kernel)) (by decide) (fun _ _ _ _ _ => (pg_name (i := 7) nd rfl (by first | exact Or.inl rfl | exact Or.inr rfl))) (tt := none) (fun _ _ _ _ _ => dts_nil) (fun _ _ _ _ _ => (de_tup (da_cons (de_var 7) (da_cons (de_callMD 0 G__law_roll (hr.mono (by decide)) rfl (da_cons (de_var 4) da_nil)) da_nil)))))) da_nil)) da_nil)))))))
    (dss_frz 5 (dss_one (ds_ret (de_ct call_tuple_of cp_tuple rfl E.m_tuple rfl (da_cons (de_var 5) da_nil)))))))) ?_
  intro dc ds R hl h
  obtain ⟨hh, n, rfl, hd, hg, h0, h1, hR⟩ := h
  simp only [dSeq, dIfS, dNext, dRet, dDrop, dSet, dUnp, dParD, dPar, dSetR, dAug, dOr, dAnd, dNot, dTst, dAndV, dOrV, dNotV, dIfE, dVar, dC, d1, d2, dL, dP, gf, dTup, drLst, drNd, drE, deR, draNil, draCons, daNil, daCons, daStar, itemsD, dChain, dIsi, dIsiC, isiT, dCall, dCallM, st0, stM, setAll, setR, setRs, Tg.set, dApp, dPop, dIxM, dStL, dStD, dBor, dBorT, frzS, diLst, diTup, diRng, diStr, diEnum, dItems, dValues, dListZip, dListRg, dIdx, dGet2, dHouse, dDisp, dPairs, dFrz, isM, tstD]
  refine ⟨⟨_, rfl⟩, _, rfl, rfl, _, rfl, n, rfl, hd, h0, by omega, fun r dc1 hr hd1 => ?_⟩
  refine ⟨.int ((r + 1 : Nat) : Int), ?_, Nat.zero_le _, rfl, ?_⟩
  · show some (D.int (1 + (r : Int))) = _
    congr 2
    omega
  generalize hz : r + 1 = z
  refine forD (ds := rngD z) (δ1 := [.ml dc1, .im (houD hh), .im (.int n), .no, .im (.int z), .ml [], .no, .no]) (fun i δ => ∃ dc c a b e, δ = [.ml dc, .im (houD hh), .im (.int n), a, .im (.int z), .ml (c.map stD), b, e] ∧ isM (some a) = false ∧ isM (some b) = false ∧ isM (some e) = false ∧ GoodD dc ∧ c.length = i ∧ ∀ s ∈ c, (hh.lookup s.name).isSome = true ∧ GoodSt (hΓ hh) z s) (fun RR h => ⟨_, rfl, _, rfl, by omega, by omega, by rw [Int.toNat_natCast]; exact h⟩) ⟨dc1, [], _, _, _, rfl, rfl, rfl, rfl, hd1, rfl, fun s hs => nomatch hs⟩ ?_ ?_
  · rintro i d δ2 hdi ⟨dc, c, a, b, e, rfl, ha, hb, he, hdc, hcl, hc⟩
    have hi : i < z := by
      have := (List.getElem?_eq_some_iff.mp hdi).1
      rwa [rngD_len] at this
    refine ⟨_, rfl, ?_⟩
    simp only [dSeq, dIfS, dNext, dRet, dDrop, dSet, dUnp, dParD, dPar, dSetR, dAug, dOr, dAnd, dNot, dTst, dAndV, dOrV, dNotV, dIfE, dVar, dC, d1, d2, dL, dP, gf, dTup, drLst, drNd, drE, deR, draNil, draCons, daNil, daCons, daStar, itemsD, dChain, dIsi, dIsiC, isiT, dCall, dCallM, st0, stM, setAll, setR, setRs, Tg.set, dApp, dPop, dIxM, dStL, dStD, dBor, dBorT, frzS, diLst, diTup, diRng, diStr, diEnum, dItems, dValues, dListZip, dListRg, dIdx, dGet2, dHouse, dDisp, dPairs, dFrz, isM, tstD]
    refine ⟨⟨_, rfl⟩, _, rfl, .inr ⟨hh.map (·.1), ?_, ?_, ?_, fun ys hys => ?_⟩⟩
    · rw [List.map_map]; rfl
    · rw [List.length_map, List.length_map]
    · rw [List.length_map]; have := hg.few; omega
    refine ⟨rfl, _, rfl, ys.map D.str, rfl, hdc, ?_, ?_, fun x dc2 hx hd2 => ?_⟩
    · rw [List.length_map, hys.length_eq, List.length_map]; exact hg.one
    · rw [List.length_map, hys.length_eq, List.length_map]; have := hg.few; omega
    obtain ⟨y, hy, rfl⟩ := List.mem_map.mp hx
    have hy2 := hys.mem_iff.mp hy
    obtain ⟨pp, hpp, hpy⟩ := List.mem_map.mp hy2
    have hlk : hh.lookup y = some pp.2 := by rw [← hpy]; exact lookup_mem hg.nd hpp
    have hix : fIx (houD hh) (.str y) = some (gameD pp.2) := by
      show luD _ _ (.inr y) = _
      rw [luD_hou, hlk]; rfl
    have hΓy : hΓ hh y = gainsU pp.2 := by unfold hΓ gm; rw [hlk]; rfl
    have hsm := sum_small (hg.game pp hpp)
    have hgl : (gainsU pp.2).length < 64 := Nat.lt_of_le_of_lt (sortU_len _) hsm
    refine ⟨⟨_, rfl⟩, _, rfl, ?_⟩
    refine lcDice (ds := (gainsU pp.2).map D.int) (fun dc => [.ml dc, .im (houD hh), .im (.int n), .im d, .im (.int z), .ml (c.map stD), .im (.str y), e]) (fun d yv => ∃ (x : Int) (k : Nat), d = .int x ∧ k < z ∧ yv = gpD (x, k)) hd2 (fun RR h => ⟨_, rfl, _, rfl, _, hix, rfl, pp.2, rfl, hsm, _, rfl, h⟩) ?_ (by rw [List.length_map]; omega) (fun _ => rfl) (fun d' dc Q hdm hd hQ => ?_) (fun ys dc' hd' hy' hP => ?_)
    · show (!isM (some e) && true) = true
      rw [he]; rfl
    · obtain ⟨x, _, rfl⟩ := List.mem_map.mp hdm
      refine ⟨_, rfl, ?_⟩
      simp only [dSeq, dIfS, dNext, dRet, dDrop, dSet, dUnp, dParD, dPar, dSetR, dAug, dOr, dAnd, dNot, dTst, dAndV, dOrV, dNotV, dIfE, dVar, dC, d1, d2, dL, dP, gf, dTup, drLst, drNd, drE, deR, draNil, draCons, daNil, daCons, daStar, itemsD, dChain, dIsi, dIsiC, isiT, dCall, dCallM, st0, stM, setAll, setR, setRs, Tg.set, dApp, dPop, dIxM, dStL, dStD, dBor, dBorT, frzS, diLst, diTup, diRng, diStr, diEnum, dItems, dValues, dListZip, dListRg, dIdx, dGet2, dHouse, dDisp, dPairs, dFrz, isM, tstD]
      exact ⟨_, rfl, ⟨_, rfl⟩, _, rfl, rfl, _, rfl, z, rfl, hd, by omega, by omega, fun k dc' hk hd' => ⟨by show 2 ≤ 100000; omega, hQ _ dc' _ ⟨x, k, rfl, hk, rfl⟩ hd' rfl⟩⟩
    · rw [List.length_map] at hy'
      obtain ⟨ts, rfl, hts, htz⟩ := zip_st hy' hP
      have hnd : (gainsU pp.2).Nodup := List.Pairwise.imp (fun h => Int.ne_of_lt h) (sortU_asc _)
      refine ⟨_, fDict_st hts hnd (by omega), by show 2 ≤ 100000; omega, _, rfl, by rw [List.length_map]; omega, dc', c ++ [⟨y, gainsU pp.2, ts⟩], .im d, .im (.str y), e, ?_, rfl, rfl, he, hd', by rw [List.length_append, hcl]; rfl, fun s hs => ?_⟩
      · rw [List.map_append]; rfl
      · rcases List.mem_append.mp hs with h | h
        · exact hc s h
        · rw [List.mem_singleton.mp h]
          exact ⟨by show (hh.lookup y).isSome = true; rw [hlk]; rfl, hΓy.symm, hts, htz⟩
  · rintro δ2 ⟨dc, c, a, b, e, rfl, ha, hb, he, hdc, hcl, hc⟩
    rw [rngD_len] at hcl
    have hgc : InH hh c := ⟨fun s hs => (hc s hs).1, ⟨by omega, by omega, fun s hs => by rw [hcl]; exact (hc s hs).2, fun x => sortU_asc _, hΓ_short hg⟩, by omega⟩
    exact ⟨rfl, _, rfl, _, rfl, _, rfl, hR c dc hgc (by omega) hdc⟩

theorem ok__law_made {m : Option Addr} (E : En K mg C) (F : Fd K mg "_law_made" S_law_made f fd)
    (G_House : OkH P w K mg base C 8 pre_init) : OkD P w K mg base C "_law_made" 10 1 none ["_law_plain"] pre__law_made := by
  have nd : (["_law_plain"] : List Str).Nodup := by decide +kernel
  refine F.ok (N := ["_law_plain"]) ⟨rfl, rfl, rfl, nd, rfl, by decide +kernel, by decide +kernel⟩ rfl (F.fun_.bindsN fun _ _ _ _ _ _ us hl => match us, hl with | [_], _ => rfl) (fun cdv A outer s H X hr =>
    (dss_one (ds_ret (de_house G_House rfl rfl (hr.mono (by decide)) rfl (da_cons (de_ct (call_dictP rfl) cp_dict rfl E.m_dict rfl (da_cons (de_items rfl rfl (de_var 0) rfl E.m_list) da_nil)) da_nil))))) ?_
  rintro ds R _ ⟨h, rfl, hg, hR⟩
  simp only [dSeq, dIfS, dNext, dRet, dDrop, dSet, dUnp, dParD, dPar, dSetR, dAug, dOr, dAnd, dNot, dTst, dAndV, dOrV, dNotV, dIfE, dVar, dC, d1, d2, dL, dP, gf, dTup, drLst, drNd, drE, deR, draNil, draCons, daNil, daCons, daStar, itemsD, dChain, dIsi, dIsiC, isiT, dCall, dCallM, st0, stM, setAll, setR, setRs, Tg.set, dApp, dPop, dIxM, dStL, dStD, dBor, dBorT, frzS, diLst, diTup, diRng, diStr, diEnum, dItems, dValues, dListZip, dListRg, dIdx, dGet2, dHouse, dDisp, dPairs, dFrz, isM, tstD]
  refine ⟨_, rfl, _, _, rfl, houD h, ?_, houD h, rfl, h, rfl, hg, fun h' x y hp => hR h' x y hp⟩
  rw [items_hou]
  exact fDict_hou hg.nd (by have := hg.few; omega)

end
end K46

set_option Elab.async false
set_option linter.all false
set_option maxRecDepth 100000
set_option maxHeartbeats 2000000
namespace K46
open PySem PySem.Spec PyProof.Rows L2
section
variable {P : Program} {w : World} {K : PySem.W.Frag} {mg : Str → Option Value} {base : Heap} {C f : Addr} {fd : FuncData}
def nmF (c : Ctl) : D → D
  | .int k => .str (c.getD k.toNat default).name
  | _ => .non
def hdF : D → D
  | .tup [n, _] => n
  | _ => .non
theorem ne_of_eq {a b : D} {r : Bool} (h : fEq a b = some (.bl r)) (hx : cmpX a b = cmpE a b) : fNe a b = some (.bl (!r)) := by
  unfold fEq at h
  unfold fNe
  rw [hx]
  split at h
  · rename_i e
    rw [if_pos e]
    cases h
    rfl
  · cases h
theorem eqL_self : ∀ {l : List D}, (∀ d ∈ l, eqD d d = true) → eqL l l = true
  | [], _ => rfl
  | d :: l, h => by
    show (eqD d d && eqL l l) = true
    rw [h d List.mem_cons_self, eqL_self fun x hx => h x (List.mem_cons_of_mem _ hx)]; rfl
theorem ne_names (s : Ctl) : fNe (.lst (s.map fun t => D.str t.name)) (.lst (s.map fun t => D.str t.name)) = some (.bl false) := by
  have e1 : cmpX (.lst (s.map fun t => D.str t.name)) (.lst (s.map fun t => D.str t.name)) = true := by
    show (_ != _ || List.all _ fun (p : D × D) => cmpN 3 p.1 p.2) = true
    rw [Bool.or_eq_true]
    refine .inr (List.all_eq_true.mpr ?_)
    rintro ⟨a, b⟩ hp
    obtain ⟨h1, h2⟩ := List.of_mem_zip hp
    obtain ⟨t, _, rfl⟩ := List.mem_map.mp h1
    obtain ⟨u, _, rfl⟩ := List.mem_map.mp h2
    rfl
  have e2 : eqD (.lst (s.map fun t => D.str t.name)) (.lst (s.map fun t => D.str t.name)) = true := by
    show eqL _ _ = true
    refine eqL_self fun d hd => ?_
    obtain ⟨t, _, rfl⟩ := List.mem_map.mp hd
    simp [eqD]
  unfold fNe
  rw [if_pos e1, e2]; rfl
theorem eq_ctl_self {s : Ctl} (h : ∀ t ∈ s, t.tos.length = t.keys.length ∧ t.keys.Nodup) : eqD (ctlD s) (ctlD s) = true := by
  show eqL _ _ = true
  refine eqL_self fun d hd => ?_
  obtain ⟨t, ht, rfl⟩ := List.mem_map.mp hd
  have e1 : eqD (.str t.name) (.str t.name) = true := by simp [eqD]
  have e2 : eqD (.dic (t.keys.map Sum.inl) (t.tos.map fun (n : Nat) => .int (n : Int))) (.dic (t.keys.map Sum.inl) (t.tos.map fun (n : Nat) => .int (n : Int))) = true := by
    show (_ == _ && List.all _ _) = true
    rw [beq_self_eq_true, Bool.true_and, List.all_eq_true]
    intro k hk
    obtain ⟨g, hg, rfl⟩ := List.mem_map.mp hk
    obtain ⟨n, en, _⟩ := tgt_some (h t ht).1 hg
    have : luD (t.keys.map Sum.inl) (t.tos.map fun (n : Nat) => D.int (n : Int)) (.inl g) = some (.int n) := by
      rw [luD_rule]
      have en : (t.keys.zip t.tos).lookup g = some n := en
      rw [en]; rfl
    rw [this]
    simp [intEq]
  show (eqD (.str t.name) (.str t.name) && (eqD (.dic _ _) (.dic _ _) && true)) = true
  rw [e1, e2]; rfl
theorem eq_nats (l : List Nat) : fEq (natsD l) (natsD l) = some (.bl true) := by
  have e1 : cmpE (natsD l) (natsD l) = true := by
    show (_ != _ || List.all _ fun (p : D × D) => cmpN 3 p.1 p.2) = true
    rw [Bool.or_eq_true]
    refine .inr (List.all_eq_true.mpr ?_)
    rintro ⟨a, b⟩ hp
    obtain ⟨h1, h2⟩ := List.of_mem_zip hp
    obtain ⟨t, _, rfl⟩ := List.mem_map.mp h1
    obtain ⟨u, _, rfl⟩ := List.mem_map.mp h2
    rfl
  have e2 : eqD (natsD l) (natsD l) = true := by
    show eqL _ _ = true
    refine eqL_self fun d hd => ?_
    obtain ⟨t, _, rfl⟩ := List.mem_map.mp hd
    simp [eqD]
  unfold fEq
  rw [if_pos e1, e2]
theorem eq_bl (b : Bool) : fEq (.bl b) (.bl b) = some (.bl true) := by cases b <;> rfl
theorem ok__law_least_right {m : Option Addr} (E : En K mg C) (F : Fd K mg "_law_least_right" S_law_least_right f fd)
    (G_least_controller : OkD P w K mg base C "least_controller" 6 2 none ["house", "controller"] pre_least_controller)
    (G__law_sorts : OkD P w K mg base C "_law_sorts" 2 1 none ["_law_controller_here"] pre__law_sorts)
    (G__law_parting : OkD P w K mg base C "_law_parting" 1 2 none ["_law_one", "_law_other"] pre__law_parting)
    (G_is_least : OkD P w K mg base C "is_least" 6 2 none ["house", "controller"] pre_is_least) : OkD P w K mg base C "_law_least_right" 7 2 none ["_law_made_here", "_law_controller_here"] pre__law_least_right := by
  have nd : (["_law_made_here", "_law_controller_here", "_law_names", "_law_small", "_law_sorts_here", "_law_at", "_law_state_here"] : List Str).Nodup := by decide +kernel
  refine F.ok (N := ["_law_made_here", "_law_controller_here", "_law_names", "_law_small", "_law_sorts_here", "_law_at", "_law_state_here"]) ⟨rfl, rfl, rfl, nd, rfl, by decide +kernel, by decide +kernel⟩ rfl (F.fun_.bindsN fun _ _ _ _ _ _ us hl => match us, hl with | [_, _], _ => rfl) (fun cdv A outer s H X hr =>
    (dss_cons (ds_par2 (i := 3) (j := 4) rfl nd rfl rfl (by decide) (by decide) rfl rfl (dra_cons (dr_ofE (de_callD G_least_controller (hr.mono (by decide)) rfl (da_cons (de_var 0) (da_cons (de_var 1) da_nil)))) (dra_cons (dr_ofE (de_callD G__law_sorts (hr.mono (by decide)) rfl (da_cons (de_var 1) da_nil))) dra_nil)) (by rfl))
    (dss_cons (ds_setLc (i := 2) (own := [("_law_at", 5)]) (tg := (.nm 5)) rfl nd (by decide) rfl rfl (sw_true rfl rfl rfl (by decide +kernel)) (di_lst (de_var 4)) (blkOk_by (N := ["_law_made_here", "_law_controller_here", "_law_names", "_law_small", "_law_sorts_here", "_law_at", "_law_state_here"]) (sc := (defScope S_law_least_right)) (by decide +kernel)) (by decide) (fun _ _ _ _ _ => (pg_name (i := 5) nd rfl (by first | exact Or.inl rfl | exact Or.inr rfl))) (tt := none) (fun _ _ _ _ _ => dts_nil) (fun _ _ _ _ _ => (de_ixD (un1 hr) (de_ixD (un1 hr) (de_var 1) (de_var 5)) de_int)))
    (dss_frz 2 (dss_cons (ds_if (dt_w (dw_or (dt_cmpD od_isNot (de_callD G__law_parting (hr.mono (by decide)) rfl (da_cons (de_var 3) (da_cons (de_var 1) da_nil))) de_non) (dw_or1 (dt_cmpD (od_ne rfl (un8 hr)) (de_ofR (dr_lc (own := [("_law_state_here", 6)]) (tg := (.nm 6)) rfl nd (di_tup (de_var 3)) (blkOk_by (N := ["_law_made_here", "_law_controller_here", "_law_names", "_law_small", "_law_sorts_here", "_law_at", "_law_state_here"]) (sc := (defScope S_law_least_right)) (by decide +kernel)) (by decide) (fun _ _ _ _ _ => (pg_name (i := 6) nd rfl (by first | exact Or.inl rfl | exact Or.inr rfl))) (tt := none) (fun _ _ _ _ _ => dts_nil) (fun _ _ _ _ _ => (de_ixD (un1 hr) (de_var 6) de_int)))) (de_var 2))))) (dss_one (ds_ret de_bl)) dss_nil)
    (dss_cons (ds_if (dt_w (dw_or (dt_not (dt_val (de_callD G_is_least (hr.mono (by decide)) rfl (da_cons (de_var 0) (da_cons (de_var 3) da_nil))))) (dw_or1 (dt_cmpD (od_ne rfl (un8 hr)) (de_callD G_least_controller (hr.mono (by decide)) rfl (da_cons (de_var 0) (da_cons (de_var 3) da_nil))) (de_var 3))))) (dss_one (ds_ret de_bl)) dss_nil)
    (dss_one (ds_ret (de_and (de_cmpD (od_eq rfl (un8 hr)) (de_callD G_is_least (hr.mono (by decide)) rfl (da_cons (de_var 0) (da_cons (de_var 1) da_nil))) (de_cmpD (od_eq rfl (un8 hr)) (de_var 3) (de_var 1))) (de_one (de_cmpD (od_eq rfl (un8 hr)) (de_callD G__law_sorts (hr.mono (by decide)) rfl (da_cons (de_var 3) da_nil)) (de_listRg rfl rfl E.m_list rfl E.m_range (de_cb call_lenAll cp_len rfl E.m_len rfl (da_cons (de_var 3) da_nil)))))))))))))) ?_
  rintro ds R _ ⟨h, x, y, c, s, o, o', rfl, hg, hi, hL, hR⟩
  have hs := hL.eq.symm
  have hsl : s.length = o.length := by rw [hL.eq]; exact List.length_map _
  have hol := hL.few
  have hol2 := hL.ok.few
  simp only [dSeq, dIfS, dNext, dRet, dDrop, dSet, dUnp, dParD, dPar, dSetR, dAug, dOr, dAnd, dNot, dTst, dAndV, dOrV, dNotV, dIfE, dVar, dC, d1, d2, dL, dP, gf, dTup, drLst, drNd, drE, deR, draNil, draCons, daNil, daCons, daStar, itemsD, dChain, dIsi, dIsiC, isiT, dCall, dCallM, st0, stM, setAll, setR, setRs, Tg.set, dApp, dPop, dIxM, dStL, dStD, dBor, dBorT, frzS, diLst, diTup, diRng, diStr, diEnum, dItems, dValues, dListZip, dListRg, dIdx, dGet2, dHouse, dDisp, dPairs, dFrz, isM, tstD]
  refine ⟨_, rfl, _, rfl, rfl, h, x, y, c, o, rfl, hg, hi, hL.ok, _, rfl, rfl, _, c, o', rfl, hi.good, hi.four, hL.sorts, rfl, ?_⟩
  rw [hs]
  refine lcMap (ds := o'.map fun (n : Nat) => .int (n : Int)) (δ1 := [.im (hsD h x y), .im (ctlD c), .no, .im (ctlD s), .im (natsD o'), .no, .no]) (nmF c) (fun RR h => ⟨_, rfl, _, rfl, h⟩) rfl (by rw [List.length_map]; omega) (fun d Q hd hQ => ?_) ?_
  · obtain ⟨k, hk, rfl⟩ := List.mem_map.mp hd
    exact ⟨_, rfl, _, rfl, _, rfl, _, fIx_ctl (hL.lt k hk), _, rfl, hQ _ rfl⟩
  have en : (o'.map fun (n : Nat) => D.int (n : Int)).map (nmF c) = s.map fun t => D.str t.name := by
    have : s.map (fun t => D.str t.name) = (s.map (·.name)).map D.str := by rw [List.map_map]; rfl
    rw [this, hL.names, List.map_map, List.map_map]
    rfl
  rw [en]
  refine ⟨rfl, _, rfl, _, rfl, rfl, _, s, c, none, rfl, hL.inH.good, hi.good, hL.alike, .bl false, rfl, _, rfl, (fun z => nomatch z), fun _ => ?_⟩
  refine lcMap (ds := s.map stD) (δ1 := [.im (hsD h x y), .im (ctlD c), .im (.lst (s.map fun (t : Stt) => D.str t.name)), .im (ctlD s), .im (natsD o'), .no, .no]) hdF (fun RR h => ⟨_, rfl, _, rfl, h⟩) rfl (by rw [List.length_map]; omega) (fun d Q hd hQ => ?_) ?_
  · obtain ⟨t, ht, rfl⟩ := List.mem_map.mp hd
    exact ⟨_, rfl, _, rfl, _, rfl, hQ _ rfl⟩
  have en2 : (s.map stD).map hdF = s.map fun t => D.str t.name := by rw [List.map_map]; rfl
  rw [en2]
  have hst := least_st hi.good hL.ok.lt
  rw [hs] at hst
  obtain ⟨o2, ok2, ho2⟩ := hL.ok2
  have e1 : fNe (.lst (s.map fun t => D.str t.name)) (.lst (s.map fun t => D.str t.name)) = some (.bl false) := ne_names s
  have e2 : eqD (ctlD s) (ctlD s) = true := eq_ctl_self hst
  have e3 := eq_ctl hst (fun t ht => (hst t ht).1)
  have e4 := eq_ctl hst (fun t ht => (hi.good.st t ht).len)
  refine ⟨_, rfl, _, e1, _, rfl, (fun z => nomatch z), fun _ => ?_⟩
  refine ⟨_, rfl, _, rfl, rfl, h, x, y, s, o2, rfl, hg, hL.inH, ok2, _, rfl, fun hz => ?_, fun hz => ?_⟩
  · rw [ho2, e2] at hz; cases hz
  refine ⟨_, rfl, _, rfl, rfl, h, x, y, s, o2, rfl, hg, hL.inH, ok2, ?_⟩
  rw [ho2]
  refine ⟨_, rfl, .bl (!eqD (ctlD s) (ctlD s)), ne_of_eq e3 rfl, _, rfl, fun hz => ?_, fun hz => ?_⟩
  · rw [e2] at hz; cases hz
  refine ⟨_, rfl, _, rfl, rfl, h, x, y, c, o, rfl, hg, hi, hL.ok, ?_⟩
  rw [hs]
  have lsd : (s.map stD).length = s.length := List.length_map _
  refine ⟨_, rfl, _, rfl, _, e4, .bl true, eq_bl _, _, rfl, fun _ => ?_, (fun z => nomatch z)⟩
  refine ⟨_, rfl, rfl, _, s, List.range s.length, rfl, hL.inH.good, hL.inH.four, hL.sorts2, _, rfl, .int (s.map stD).length, rfl, _, rfl, by omega, by omega, .bl true, ?_, hR⟩
  rw [Int.toNat_natCast, lsd]
  exact eq_nats _

theorem lookup_some {x : Str} {g : Game} : ∀ {h : Hou}, h.lookup x = some g → (x, g) ∈ h
  | p :: h, e => by
    simp only [List.lookup] at e
    split at e
    · rename_i z
      cases e
      have : x = p.1 := by simpa using z
      rw [this]; exact List.mem_cons_self
    · exact List.mem_cons_of_mem _ (lookup_some e)
theorem lookup_perm {h h' : Hou} (hn : (h.map (·.1)).Nodup) (hp : h'.Perm h) (x : Str) : h'.lookup x = h.lookup x := by
  have hn' : (h'.map (·.1)).Nodup := (hp.map _).symm.nodup hn
  cases e : h.lookup x with
  | some g => exact lookup_mem hn' (hp.mem_iff.mpr (lookup_some e))
  | none =>
    cases e' : h'.lookup x with
    | none => rfl
    | some g =>
      have := lookup_mem hn (hp.mem_iff.mp (lookup_some e'))
      rw [e] at this; cases this
theorem GoodH.perm {h h' : Hou} (g : GoodH h) (hp : h'.Perm h) : GoodH h' := by
  obtain ⟨n, hs⟩ := g.same
  exact ⟨by rw [hp.length_eq]; exact g.one, by rw [hp.length_eq]; exact g.few, (hp.map _).symm.nodup g.nd, fun p hm => g.word p (hp.mem_iff.mp hm), fun p hm => g.game p (hp.mem_iff.mp hm), n, fun p hm => hs p (hp.mem_iff.mp hm)⟩
theorem InH.perm {h h' : Hou} {c : Ctl} (g : GoodH h) (i : InH h c) (hp : h'.Perm h) : InH h' c := by
  have e : hΓ h' = hΓ h := by
    funext x
    unfold hΓ gm
    rw [lookup_perm g.nd hp]
  exact ⟨fun s hs => by rw [lookup_perm g.nd hp]; exact i.mem s hs, by rw [e]; exact i.good, i.four⟩
theorem ne_res (r : Option (List Int)) : fNe (resD r) (resD r) = some (.bl false) := by
  cases r with
  | none => rfl
  | some s =>
    have e1 : cmpX (resD (some s)) (resD (some s)) = true := by
      show (List.all _ fun (p : D × D) => cmpN 3 p.1 p.2) = true
      refine List.all_eq_true.mpr ?_
      rintro ⟨a, b⟩ hp
      obtain ⟨h1, h2⟩ := List.of_mem_zip hp
      obtain ⟨t, _, rfl⟩ := List.mem_map.mp h1
      obtain ⟨u, _, rfl⟩ := List.mem_map.mp h2
      rfl
    have e2 : eqD (resD (some s)) (resD (some s)) = true := by
      show eqL _ _ = true
      refine eqL_self fun d hd => ?_
      obtain ⟨t, _, rfl⟩ := List.mem_map.mp hd
      simp [eqD]
    unfold fNe
    rw [if_pos e1, e2]; rfl
theorem keys_bound {h : Hou} {c : Ctl} {n : Nat} {g : Int} (hg : GoodH h) (hc : InH h c) (hn : n < c.length) (hm : g ∈ (c.getD n default).keys) : -99 ≤ g ∧ g ≤ 99 := by
  have hs := getD_mem hn
  have h1 := hc.mem _ hs
  have h2 := (hc.good.st _ hs).keys
  cases e : h.lookup (c.getD n default).name with
  | none => rw [e] at h1; cases h1
  | some gg =>
    rw [h2] at hm
    unfold hΓ gm at hm
    rw [e] at hm
    exact gains_bound (hg.game _ (lookup_some e)) hm
theorem fIx_last (sg : List Int) (g : Int) : fIx (sightD (sg ++ [g])) (.int (-1)) = some (.int g) := by
  show atD ((sg ++ [g]).map D.int) (-1) = _
  have e : ixN ((sg ++ [g]).map D.int).length (-1) = some sg.length := by
    unfold ixN
    simp
    try omega
  unfold atD
  rw [e]
  show ((sg ++ [g]).map D.int)[sg.length]? = _
  simp
theorem ok__law_right {m : Option Addr} (E : En K mg C) (F : Fd K mg "_law_right" S_law_right f fd)
    (G__law_house : OkM P w K mg base C "_law_house" 6 0 none ["_law_dice_here"] pre__law_house)
    (G__law_made : OkD P w K mg base C "_law_made" 10 1 none ["_law_plain"] pre__law_made)
    (G__law_controller : OkM P w K mg base C "_law_controller" 3 2 none ["_law_dice_here", "_law_plain", "_law_most"] pre__law_controller)
    (G__law_parting : OkD P w K mg base C "_law_parting" 1 2 none ["_law_one", "_law_other"] pre__law_parting)
    (G_parting_sight : OkD P w K mg base C "parting_sight" 7 3 none ["house", "one", "other"] pre_parting_sight)
    (G__law_state : OkD P w K mg base C "_law_state" 1 2 none ["_law_controller_here", "_law_sight"] pre__law_state)
    (G__law_least_right : OkD P w K mg base C "_law_least_right" 7 2 none ["_law_made_here", "_law_controller_here"] pre__law_least_right)
    (G_are_alike : OkD P w K mg base C "are_alike" 7 3 none ["house", "one", "other"] pre_are_alike)
    (G_game_behind : OkD P w K mg base C "game_behind" 6 3 none ["house", "controller", "sight"] pre_game_behind)
    (G__law_roll : OkM P w K mg base C "_law_roll" 1 1 none ["_law_dice_here", "_law_total"] pre__law_roll)
    (G__law_told_behind : OkD P w K mg base C "_law_told_behind" 7 3 none ["_law_made_here", "_law_controller_here", "_law_sight"] pre__law_told_behind)
    (G__law_pick : OkM P w K mg base C "_law_pick" 2 1 none ["_law_dice_here", "_law_items"] pre__law_pick) : OkM P w K mg base C "_law_right" 11 0 none ["_law_dice_here"] pre__law_right := by
  have nd : (["_law_dice_here", "_law_plain", "_law_turn", "_law_made_here", "_law_one", "_law_other", "_law_due", "_law_told", "_law_step", "_law_place", "_law_state_here", "_law_sight", "_law_some_here"] : List Str).Nodup := by decide +kernel
  refine F.okM (N := ["_law_dice_here", "_law_plain", "_law_turn", "_law_made_here", "_law_one", "_law_other", "_law_due", "_law_told", "_law_step", "_law_place", "_law_state_here", "_law_sight", "_law_some_here"]) ⟨rfl, rfl, rfl, nd, rfl, by decide +kernel, by decide +kernel⟩ rfl (by decide) (F.fun_.bindsN fun _ _ _ _ _ _ us hl => match us, hl with | [_], _ => rfl) (fun pr cdv A outer s H X hr =>
    (dss_cons (ds_set (i := 1) nd (de_callMD 0 G__law_house (hr.mono (by decide)) rfl da_nil))
    (dss_cons (ds_par3 (i := 3) (j := 4) (l := 5) rfl nd rfl rfl rfl (by decide) (by decide) (by decide) (by decide) rfl rfl rfl (dra_cons (dr_ofE (de_callD G__law_made (hr.mono (by decide)) rfl (da_cons (de_var 1) da_nil))) (dra_cons (dr_ofE (de_callMD 0 G__law_controller (hr.mono (by decide)) rfl (da_cons (de_var 1) (da_cons de_int da_nil)))) (dra_cons (dr_ofE (de_callMD 0 G__law_controller (hr.mono (by decide)) rfl (da_cons (de_var 1) (da_cons de_int da_nil)))) dra_nil))) (by rfl))
    (dss_cons (ds_par2 (i := 6) (j := 7) rfl nd rfl rfl (by decide) (by decide) rfl rfl (dra_cons (dr_ofE (de_callD G__law_parting (hr.mono (by decide)) rfl (da_cons (de_var 4) (da_cons (de_var 5) da_nil)))) (dra_cons (dr_ofE (de_callD G_parting_sight (hr.mono (by decide)) rfl (da_cons (de_var 3) (da_cons (de_var 4) (da_cons (de_var 5) da_nil))))) dra_nil)) (by rfl))
    (dss_cons (ds_if (dt_w (dw_or (dt_cmpD (od_ne rfl (un8 hr)) (de_var 7) (de_var 6)) (dw_or (dt_cmpD (od_ne rfl (un8 hr)) (de_callD G_are_alike (hr.mono (by decide)) rfl (da_cons (de_var 3) (da_cons (de_var 4) (da_cons (de_var 5) da_nil)))) (de_cmpD od_is (de_var 6) de_non)) (dw_or1 (dt_not (dt_val (de_callD G_are_alike (hr.mono (by decide)) rfl (da_cons (de_var 3) (da_cons (de_var 4) (da_cons (de_var 4) da_nil)))))))))) (dss_one (ds_ret de_bl)) dss_nil)
    (dss_cons (ds_if (dt_w (dw_and (dt_cmpD od_isNot (de_var 6) de_non) (dw_and1 (dt_cmpD (od_eq rfl (un8 hr)) (de_callD G_game_behind (hr.mono (by decide)) rfl (da_cons (de_var 3) (da_cons (de_var 4) (da_cons (de_var 6) da_nil)))) (de_callD G_game_behind (hr.mono (by decide)) rfl (da_cons (de_var 3) (da_cons (de_var 5) (da_cons (de_var 6) da_nil)))))))) (dss_one (ds_ret de_bl)) dss_nil)
    (dss_cons (ds_for (tg := (.nm 2)) PassesOwn.never rfl (di_rng rfl E.m_range de_int) (pg_name (i := 2) nd rfl (by first | exact Or.inl rfl | exact Or.inr rfl)) (dss_cons (ds_parT2 (i := 10) (j := 11) rfl nd (by decide) (pg_tup rfl (pgs_cons (pg_name (i := 10) nd rfl (by first | exact Or.inl rfl | exact Or.inr rfl)) (pgs_cons (pg_name (i := 11) nd rfl (by first | exact Or.inl rfl | exact Or.inr rfl)) pgs_nil))) (dra_cons (dr_ofE de_int) (dra_cons (dr_ofE (de_tup da_nil)) dra_nil)))
    (dss_cons (ds_for (tg := (.nm 8)) PassesOwn.never rfl (di_rng rfl E.m_range (de_callMD 0 G__law_roll (hr.mono (by decide)) rfl (da_cons de_int da_nil))) (pg_name (i := 8) nd rfl (by first | exact Or.inl rfl | exact Or.inr rfl)) (dss_cons (ds_set (i := 12) nd (de_bin od_add (de_cb (call_sortedAll rfl) (cp_sorted rfl) rfl E.m_sorted rfl (da_cons (de_ixD (un1 hr) (de_ixD (un1 hr) (de_var 4) (de_var 10)) de_int) da_nil)) (de_ofR (dr_lst (da_cons (de_callMD 0 G__law_roll (hr.mono (by decide)) rfl (da_cons de_int da_nil)) da_nil)))))
    (dss_cons (ds_set (i := 11) nd (de_bin od_add (de_var 11) (de_tup (da_cons (de_callMD 0 G__law_pick (hr.mono (by decide)) rfl (da_cons (de_var 12) da_nil)) da_nil))))
    (dss_one (ds_set (i := 10) nd (de_get2 (un1 hr) (de_ixD (un1 hr) (de_ixD (un1 hr) (de_var 4) (de_var 10)) de_int) (de_ixD (un1 hr) (de_var 11) (de_neg de_int)) (de_var 10) ⟨rfl, rfl, rfl, rfl⟩))))))
    (dss_cons (ds_set (i := 9) nd (de_callD G__law_state (hr.mono (by decide)) rfl (da_cons (de_var 4) (da_cons (de_var 11) da_nil))))
    (dss_one (ds_if (dt_cmpD (od_ne rfl (un8 hr)) (de_callD G__law_told_behind (hr.mono (by decide)) rfl (da_cons (de_var 3) (da_cons (de_var 4) (da_cons (de_var 11) da_nil)))) (de_ifE (dt_cmpD od_is (de_var 9) de_non) de_non (de_ixD (un1 hr) (de_ixD (un1 hr) (de_var 4) (de_var 9)) de_int))) (dss_one (ds_ret de_bl)) dss_nil))))))
    (dss_one (ds_ret (de_and (de_callD G__law_least_right (hr.mono (by decide)) rfl (da_cons (de_var 3) (da_cons (de_var 4) da_nil))) (de_one (de_callD G__law_least_right (hr.mono (by decide)) rfl (da_cons (de_var 3) (da_cons (de_var 5) da_nil)))))))))))))) ?_
  rintro dc ds R hl ⟨M, rfl, hd, hR⟩
  simp only [dSeq, dIfS, dNext, dRet, dDrop, dSet, dUnp, dParD, dPar, dSetR, dAug, dOr, dAnd, dNot, dTst, dAndV, dOrV, dNotV, dIfE, dVar, dC, d1, d2, dL, dP, gf, dTup, drLst, drNd, drE, deR, draNil, draCons, daNil, daCons, daStar, itemsD, dChain, dIsi, dIsiC, isiT, dCall, dCallM, st0, stM, setAll, setR, setRs, Tg.set, dApp, dPop, dIxM, dStL, dStD, dBor, dBorT, frzS, diLst, diTup, diRng, diStr, diEnum, dItems, dValues, dListZip, dListRg, dIdx, dGet2, dHouse, dDisp, dPairs, dFrz, isM, tstD]
  refine ⟨⟨_, rfl⟩, rfl, _, rfl, rfl, hd, fun h0 dc1 hg0 hd1 => ?_⟩
  refine ⟨_, rfl, rfl, h0, rfl, hg0, fun h x y hp => ?_⟩
  have hg := hg0.perm hp
  refine ⟨⟨_, rfl⟩, _, rfl, rfl, _, rfl, h0, 4, rfl, hd1, hg0, by omega, by omega, fun c dc2 hc0 _ hd2 => ?_⟩
  refine ⟨⟨_, rfl⟩, _, rfl, rfl, _, rfl, h0, 4, rfl, hd2, hg0, by omega, by omega, fun d dc3 hd0 _ hd3 => ?_⟩
  have hc := hc0.perm hg0 hp
  have hdd := hd0.perm hg0 hp
  obtain ⟨⟨r, er, hr⟩, es⟩ := M.1 h c d hg hc hdd
  refine ⟨rfl, _, rfl, _, rfl, rfl, _, c, d, r, rfl, hc.good, hdd.good, er, ?_⟩
  refine ⟨_, rfl, _, rfl, _, rfl, rfl, h, x, y, c, d, r, rfl, hg, hc, hdd, er, ?_⟩
  refine ⟨rfl, _, rfl, _, rfl, ?_⟩
  have key : dFor (diRng (dC (D.int 4))) (Tg.nm 2) (dSeq (dPar [10, 11] (draCons (drE (dC (D.int 0))) (draCons (drE (dTup daNil)) draNil))) (dSeq (dFor (diRng (dCallM 0 1 pre__law_roll (daCons (dC (D.int 6)) daNil))) (Tg.nm 8) (dSeq (dSet 12 (d2 fAdd (dP gSorted (daCons (d2 fIx (d2 fIx (dVar 4) (dVar 10)) (dC (D.int 1))) daNil)) (deR (drLst (daCons (dCallM 0 1 pre__law_roll (daCons (dC (D.int 3)) daNil)) daNil))))) (dSeq (dSet 11 (d2 fAdd (dVar 11) (dTup (daCons (dCallM 0 1 pre__law_pick (daCons (dVar 12) daNil)) daNil)))) (dSet 10 (dGet2 (d2 fIx (d2 fIx (dVar 4) (dVar 10)) (dC (D.int 1))) (d2 fIx (dVar 11) (d1 fNeg (dC (D.int 1)))) (dVar 10)))))) (dSeq (dSet 9 (dCall 2 pre__law_state (daCons (dVar 4) (daCons (dVar 11) daNil)))) (dIfS (dTst (d2 fNe (dCall 3 pre__law_told_behind (daCons (dVar 3) (daCons (dVar 4) (daCons (dVar 11) daNil)))) (dIfE (dTst (d2 fIs (dVar 9) (dC D.non))) (dC D.non) (d2 fIx (d2 fIx (dVar 4) (dVar 9)) (dC (D.int 0)))))) (dRet (dC (D.bl false))) dNext)))) { nx := dRet (dAndV (dCall 2 pre__law_least_right (daCons (dVar 3) (daCons (dVar 4) daNil))) (dCall 2 pre__law_least_right (daCons (dVar 3) (daCons (dVar 5) daNil)))) { nx := fun δ => ∃ dc', δ[0]? = some (Sl.ml dc') ∧ R D.non dc', rt := fun d δ => ∃ dc', δ[0]? = some (Sl.ml dc') ∧ R d dc' }, rt := fun d δ => ∃ dc', δ[0]? = some (Sl.ml dc') ∧ R d dc' } [.ml dc3, .im (houD h0), .no, .im (hsD h x y), .im (ctlD c), .im (ctlD d), .im (resD r), .im (resD r), .no, .no, .no, .no, .no] := by
    refine forD (ds := rngD 4) (δ1 := [.ml dc3, .im (houD h0), .no, .im (hsD h x y), .im (ctlD c), .im (ctlD d), .im (resD r), .im (resD r), .no, .no, .no, .no, .no]) (fun _ δ => ∃ dc a b p st sg so, δ = [.ml dc, .im (houD h0), a, .im (hsD h x y), .im (ctlD c), .im (ctlD d), .im (resD r), .im (resD r), b, p, st, sg, so] ∧ isM (some a) = false ∧ isM (some b) = false ∧ isM (some p) = false ∧ isM (some st) = false ∧ isM (some sg) = false ∧ isM (some so) = false ∧ GoodD dc) (fun RR h => ⟨4, rfl, by omega, by omega, h⟩) ⟨dc3, _, _, _, _, _, _, rfl, rfl, rfl, rfl, rfl, rfl, rfl, hd3⟩ ?_ ?_
    · rintro i dt δ2 hdi ⟨dc, a, b, p, st, sg, so, rfl, ha, hb, hpp, hst, hsg, hso, hdc⟩
      refine ⟨_, rfl, ?_⟩
      simp only [dSeq, dIfS, dNext, dRet, dDrop, dSet, dUnp, dParD, dPar, dSetR, dAug, dOr, dAnd, dNot, dTst, dAndV, dOrV, dNotV, dIfE, dVar, dC, d1, d2, dL, dP, gf, dTup, drLst, drNd, drE, deR, draNil, draCons, daNil, daCons, daStar, itemsD, dChain, dIsi, dIsiC, isiT, dCall, dCallM, st0, stM, setAll, setR, setRs, Tg.set, dApp, dPop, dIxM, dStL, dStD, dBor, dBorT, frzS, diLst, diTup, diRng, diStr, diEnum, dItems, dValues, dListZip, dListRg, dIdx, dGet2, dHouse, dDisp, dPairs, dFrz, isM, tstD]
      refine ⟨by show 0 ≤ 100000; omega, rfl, ?_⟩
      refine ⟨⟨_, rfl⟩, rfl, _, rfl, 6, rfl, hdc, by omega, by omega, fun k dc4 hk hd4 => ⟨k, rfl, by omega, by omega, ?_⟩⟩
      rw [Int.toNat_natCast]
      refine ⟨fun j δ => ∃ (dc : List D) (n : Nat) (sg : List Int) (b so : Sl), δ = [.ml dc, .im (houD h0), .im dt, .im (hsD h x y), .im (ctlD c), .im (ctlD d), .im (resD r), .im (resD r), b, p, .im (.int n), .im (sightD sg), so] ∧ isM (some b) = false ∧ isM (some so) = false ∧ GoodD dc ∧ n < c.length ∧ (∀ g ∈ sg, -99 ≤ g ∧ g ≤ 99) ∧ sg.length = j, ⟨dc4, 0, [], _, _, rfl, hb, hso, hd4, hc.good.one, (fun g hg => nomatch hg), rfl⟩, ?_, ?_⟩
      · rintro j dj δ3 hdj ⟨dc, n, sg, b, so, rfl, hb, hso, hdc, hn, hsg2, hsl⟩
        have hj : j < 6 := by
          have := (List.getElem?_eq_some_iff.mp hdj).1
          rw [rngD_len] at this; omega
        have la := hc.good.tl hn
        have ka := hc.good.kasc hn
        have ks := hc.good.kshort hn
        refine ⟨_, rfl, ?_⟩
        simp only [dSeq, dIfS, dNext, dRet, dDrop, dSet, dUnp, dParD, dPar, dSetR, dAug, dOr, dAnd, dNot, dTst, dAndV, dOrV, dNotV, dIfE, dVar, dC, d1, d2, dL, dP, gf, dTup, drLst, drNd, drE, deR, draNil, draCons, daNil, daCons, daStar, itemsD, dChain, dIsi, dIsiC, isiT, dCall, dCallM, st0, stM, setAll, setR, setRs, Tg.set, dApp, dPop, dIxM, dStL, dStD, dBor, dBorT, frzS, diLst, diTup, diRng, diStr, diEnum, dItems, dValues, dListZip, dListRg, dIdx, dGet2, dHouse, dDisp, dPairs, dFrz, isM, tstD]
        refine ⟨_, rfl, _, rfl, _, fIx_ctl hn, _, st_rule, ?_⟩
        refine sorted_dict la ka ks ?_
        refine ⟨⟨_, rfl⟩, rfl, _, rfl, 3, rfl, hdc, by omega, by omega, fun q dc5 hq hd5 => ⟨by show 1 ≤ 100000; omega, .lst ((c.getD n default).keys.map D.int ++ [.int q]), ?_, ?_⟩⟩
        · show (if _ then some _ else none) = _
          rw [if_pos (by rw [List.length_map]; show _ + 1 ≤ _; omega)]
        refine ⟨_, rfl, ⟨_, rfl⟩, _, rfl, rfl, _, rfl, _, rfl, hd5, by simp, ?_, fun xd dc6 hx hd6 => ?_⟩
        · have := (c.getD n default).keys.length
          rw [List.length_append, List.length_map]
          show _ + 1 ≤ 100
          omega
        have hxi : ∃ g : Int, xd = .int g ∧ -99 ≤ g ∧ g ≤ 99 := by
          rcases List.mem_append.mp hx with z | z
          · obtain ⟨g, hgm, rfl⟩ := List.mem_map.mp z
            exact ⟨g, rfl, keys_bound hg hc hn hgm⟩
          · rw [List.mem_singleton.mp z]; exact ⟨q, rfl, by omega, by omega⟩
        obtain ⟨g, rfl, hgb⟩ := hxi
        have hst2 : ∃ n' : Nat, n' < c.length ∧ (luD ((c.getD n default).keys.map Sum.inl) ((c.getD n default).tos.map fun (n : Nat) => D.int (n : Int)) (.inl g)).getD (.int (n : Nat)) = .int (n' : Nat) := by
          rw [luD_rule]
          cases e : ((c.getD n default).keys.zip (c.getD n default).tos).lookup g with
          | none => exact ⟨n, hn, rfl⟩
          | some t => exact ⟨t, hc.good.tlt hn e, rfl⟩
        obtain ⟨n', hn', en'⟩ := hst2
        refine ⟨by show 1 ≤ 100000; omega, sightD (sg ++ [g]), ?_, _, rfl, _, rfl, _, fIx_ctl hn, _, st_rule, _, _, rfl, _, rfl, _, rfl, .int g, ?_, _, rfl, _, rfl, dc6, n', sg ++ [g], .im dj, .im (.lst ((c.getD n default).keys.map D.int ++ [.int q])), ?_, rfl, rfl, hd6, hn', ?_, by rw [List.length_append, hsl]; rfl⟩
        · show (if _ then some (D.tup _) else none) = _
          rw [if_pos (by rw [List.length_map]; show _ + 1 ≤ _; omega)]
          unfold sightD
          rw [List.map_append]
          rfl
        · exact fIx_last sg g
        · rw [en']
          rfl
        · intro g' hg'
          rcases List.mem_append.mp hg' with z | z
          · exact hsg2 g' z
          · rw [List.mem_singleton.mp z]; exact hgb
      · rintro δ3 ⟨dc, n, sg, b, so, rfl, hb, hso, hdc, hn, hsg2, hsl⟩
        rw [rngD_len] at hsl
        simp only [dSeq, dIfS, dNext, dRet, dDrop, dSet, dUnp, dParD, dPar, dSetR, dAug, dOr, dAnd, dNot, dTst, dAndV, dOrV, dNotV, dIfE, dVar, dC, d1, d2, dL, dP, gf, dTup, drLst, drNd, drE, deR, draNil, draCons, daNil, daCons, daStar, itemsD, dChain, dIsi, dIsiC, isiT, dCall, dCallM, st0, stM, setAll, setR, setRs, Tg.set, dApp, dPop, dIxM, dStL, dStD, dBor, dBorT, frzS, diLst, diTup, diRng, diStr, diEnum, dItems, dValues, dListZip, dListRg, dIdx, dGet2, dHouse, dDisp, dPairs, dFrz, isM, tstD]
        refine ⟨_, rfl, _, rfl, rfl, _, c, sg, rfl, hc.good, _, rfl, _, rfl, _, rfl, rfl, h, x, y, c, sg, rfl, hg, hc, hsg2, by omega, _, rfl, ?_⟩
        cases er2 : run c 0 sg with
        | none =>
          refine ⟨.bl true, rfl, _, rfl, fun _ => ?_, fun z => nomatch z⟩
          refine ⟨.bl false, rfl, _, rfl, (fun z => nomatch z), fun _ => ?_⟩
          exact ⟨dc, _, _, .im .non, _, _, _, rfl, rfl, hb, rfl, rfl, rfl, hso, hdc⟩
        | some k =>
          have hk := run_lt hc.good sg 0 k hc.good.one er2
          refine ⟨.bl false, rfl, _, rfl, (fun z => nomatch z), fun _ => ?_⟩
          refine ⟨_, rfl, _, rfl, _, fIx_ctl hk, _, st_name, .bl false, ?_, _, rfl, (fun z => nomatch z), fun _ => ?_⟩
          · show fNe (.str _) (.str _) = _
            rw [ne_str]; simp
          · exact ⟨dc, _, _, .im (.int k), _, _, _, rfl, rfl, hb, rfl, rfl, rfl, hso, hdc⟩
    · rintro δ2 ⟨dc, a, b, p, st, sg, so, rfl, ha, hb, hpp, hst, hsg, hso, hdc⟩
      obtain ⟨s1, o1, p1, L1⟩ := M.2 h c hg hc
      obtain ⟨s2, o2, p2, L2⟩ := M.2 h d hg hdd
      simp only [dSeq, dIfS, dNext, dRet, dDrop, dSet, dUnp, dParD, dPar, dSetR, dAug, dOr, dAnd, dNot, dTst, dAndV, dOrV, dNotV, dIfE, dVar, dC, d1, d2, dL, dP, gf, dTup, drLst, drNd, drE, deR, draNil, draCons, daNil, daCons, daStar, itemsD, dChain, dIsi, dIsiC, isiT, dCall, dCallM, st0, stM, setAll, setR, setRs, Tg.set, dApp, dPop, dIxM, dStL, dStD, dBor, dBorT, frzS, diLst, diTup, diRng, diStr, diEnum, dItems, dValues, dListZip, dListRg, dIdx, dGet2, dHouse, dDisp, dPairs, dFrz, isM, tstD]
      refine ⟨_, rfl, _, rfl, rfl, h, x, y, c, s1, o1, p1, rfl, hg, hc, L1, ?_⟩
      exact ⟨true, rfl, fun _ => ⟨_, rfl, _, rfl, rfl, h, x, y, d, s2, o2, p2, rfl, hg, hdd, L2, _, rfl, hR _ hdc⟩, fun z => nomatch z⟩
  simp only [dSeq, dIfS, dNext, dRet, dDrop, dSet, dUnp, dParD, dPar, dSetR, dAug, dOr, dAnd, dNot, dTst, dAndV, dOrV, dNotV, dIfE, dVar, dC, d1, d2, dL, dP, gf, dTup, drLst, drNd, drE, deR, draNil, draCons, daNil, daCons, daStar, itemsD, dChain, dIsi, dIsiC, isiT, dCall, dCallM, st0, stM, setAll, setR, setRs, Tg.set, dApp, dPop, dIxM, dStL, dStD, dBor, dBorT, frzS, diLst, diTup, diRng, diStr, diEnum, dItems, dValues, dListZip, dListRg, dIdx, dGet2, dHouse, dDisp, dPairs, dFrz, isM, tstD] at key
  refine ⟨_, ne_res r, _, rfl, (fun z => nomatch z), fun _ => ?_⟩
  refine ⟨_, rfl, _, rfl, _, rfl, rfl, h, x, y, c, d, r, rfl, hg, hc, hdd, er, _, rfl, .bl r.isNone, ?_, .bl false, ?_, _, rfl, (fun z => nomatch z), fun _ => ?_⟩
  · show some (D.bl (isNon (resD r))) = _
    rw [isNon_res]
  · cases r <;> rfl
  refine ⟨_, rfl, _, rfl, _, rfl, rfl, h, x, y, c, c, none, rfl, hg, hc, hc, es, ?_⟩
  refine ⟨true, rfl, (fun z => nomatch z), fun _ => ?_⟩
  cases r with
  | none => exact ⟨_, rfl, .bl false, rfl, _, rfl, (fun z => nomatch z), fun _ => ⟨(fun z => nomatch z), fun _ => key⟩⟩
  | some s =>
    obtain ⟨hb, hlen, i, j, ri, rj, hne⟩ := hr s rfl
    refine ⟨_, rfl, .bl true, rfl, _, rfl, fun _ => ?_, fun z => nomatch z⟩
    refine ⟨_, rfl, _, rfl, _, rfl, rfl, h, x, y, c, s, i, rfl, hg, hc, hb, hlen, ri, _, rfl, _, rfl, _, rfl, rfl, h, x, y, d, s, j, rfl, hg, hdd, hb, hlen, rj, .bl false, ?_, _, rfl, (fun z => nomatch z), fun _ => key⟩
    have : ((c.getD i default).name == (d.getD j default).name) = false := by simpa using hne
    show some (D.bl _) = _
    simp only [eqD, this]

end
end K46

set_option Elab.async false
set_option linter.all false
set_option maxRecDepth 100000
set_option maxHeartbeats 2000000
/-! game_behind that raises, _law_told_behind -/
namespace K46
open PySem PySem.Spec PyProof.Rows L2
/-- what is asked of the exception's class at Ce -/
structure ExC (K : PySem.W.Frag) (mg : Str → Option Value) (Ce : Addr) : Prop where
  g : mg "InvalidOperation" = some (.ref Ce)
  x : PySem.W.excIn K Ce He.veBase "ValueError.__new__" = true
  k : PySem.W.keepIn K (.ref Ce) = true
  b : PySem.W.subIn K (.ref Ce) (.type "BaseException") = some true
  t : PySem.W.typeIn K (.ref Ce) = some (.type "type")
  e : PySem.W.exmOne K (.ref Ce) (.ref Ce) = some true
def NoSight (ds : List D) : Prop := ∃ h x y c s, ds = [hsD h x y, ctlD c, sightD s] ∧ GoodH h ∧ InH h c ∧ (∀ g ∈ s, -99 ≤ g ∧ g ≤ 99) ∧ s.length ≤ 1000 ∧ run c 0 s = none
def spGX (w : World) (C Ce : Addr) : Sp := fun vs H Q E => ∃ F ds, Fit none F H ∧ HasL w C F ds vs ∧ NoSight ds ∧ ∀ F' H', Stp0 F H F' H' → Fit none F' H' → E (.ref Ce) none H'
section
variable {P : Program} {w : World} {K : PySem.W.Frag} {mg : Str → Option Value} {base : Heap} {C Ce f : Addr} {fd : FuncData}
theorem im3 {F : Hp} {d0 d1 d2 : D} {v0 v1 v2 : V} {s3 : Sl} {o3 : Option V} (h0 : Has w C F d0 v0) (h1 : Has w C F d1 v1) (h2 : Has w C F d2 v2) (h3 : ∀ d, s3 = .im d → ∃ v, o3 = some v ∧ Has w C F d v) :
    ∀ (i : Nat) (d : D), ([.im d0, .im d1, .im d2, s3] : List Sl)[i]? = some (.im d) → ∃ v, ([some v0, some v1, some v2, o3] : L2.St)[i]? = some (some v) ∧ Has w C F d v
  | 0, d, e => by cases e; exact ⟨_, rfl, h0⟩
  | 1, d, e => by cases e; exact ⟨_, rfl, h1⟩
  | 2, d, e => by cases e; exact ⟨_, rfl, h2⟩
  | 3, d, e => by
    obtain ⟨v, rfl, h⟩ := h3 d (Option.some.inj e)
    exact ⟨v, rfl, h⟩
  | _ + 4, d, e => by cases e
theorem noM3 {d0 d1 d2 : D} {s3 : Sl} (h : isM (some s3) = false) : ∀ i : Nat, isM ([.im d0, .im d1, .im d2, s3] : List Sl)[i]? = false
  | 0 => rfl
  | 1 => rfl
  | 2 => rfl
  | 3 => h
  | _ + 4 => rfl
theorem ok_game_behindX (E : En K mg C) (Ex : ExC K mg Ce) (F : Fd K mg "game_behind" Sgame_behind f fd)
    (G_require_controller : OkD P w K mg base C "require_controller" 5 2 none ["house", "controller"] pre_require_controller)
    (G_state_behind : OkD P w K mg base C "state_behind" 3 2 none ["controller", "sight"] pre_state_behind) : FnOk P w K mg base (L2.CX P w) 6 f fd ["house", "controller", "sight"] (spGX w C Ce) := by
  have nd : (["house", "controller", "sight", "state"] : List Str).Nodup := by decide +kernel
  refine F.fun_.ok (N := ["house", "controller", "sight", "state"]) ⟨rfl, rfl, rfl, nd, rfl, by decide +kernel, by decide +kernel⟩ (fun vs H Q E h => ?_) (fun cdv A outer s H vs Q E' hr h => ⟨_,
    (pss_cons (ps_expr (de_callD (q := ⟨w, C, none, none⟩) G_require_controller (hr.mono (by decide)) rfl (da_cons (de_var 0) (da_cons (de_var 1) da_nil))) rfl)
    (pss_cons (ps_asg (de_callD (q := ⟨w, C, none, none⟩) G_state_behind (hr.mono (by decide)) rfl (da_cons (de_var 1) (da_cons (de_var 2) da_nil))) (pg_name (i := 3) nd rfl (Or.inl rfl)))
    (pss_cons (ps_if (tc := lT ⟨w, C, none, none⟩ _) (dt_cmpD od_is (de_var 3) de_non) (pss_one (ps_raise rfl (takes_of (E := E') rfl rfl rfl rfl) (pmk_own PySem.F.excBase_ValueError Ex.x Ex.g Ex.k (raises_own Ex.b Ex.t) rfl))) pss_nil)
    (pss_one (ds_ret (q := ⟨w, C, none, none⟩) (de_ixD (un1 hr) (de_ixD (un1 hr) (de_var 1) (de_var 3)) de_int)))))), ?_⟩)
  · obtain ⟨F, ds, _, hv, ⟨hh, x, y, c, s, rfl, _⟩, _⟩ := h
    rw [hv.length]
    rfl
  obtain ⟨F0, ds, hf, hv, ⟨hh, x, y, c, s, rfl, hg, hi, hb, hs, hr0⟩, k⟩ := h
  obtain ⟨v0, r0, rfl, a0, b0⟩ := hasL_cons.mp hv
  obtain ⟨v1, r1, rfl, a1, b1⟩ := hasL_cons.mp b0
  obtain ⟨v2, rfl, a2⟩ := has1 (q := ⟨w, C, none, none⟩) b1
  have hst : start ["house", "controller", "sight", "state"] [v0, v1, v2] = [some v0, some v1, some v2, none] := rfl
  rw [hst]
  refine ⟨F0, fun _ => 0, fun _ => False, [.im (hsD hh x y), .im (ctlD c), .im (sightD s), .no], fun _ _ => True, cf_im hf rfl (noM3 rfl) (im3 a0 a1 a2 fun d z => nomatch z), ?_, ?_⟩
  · exact ⟨_, rfl, _, rfl, rfl, hh, x, y, c, rfl, hg, hi, trivial⟩
  rintro u1 e1 δ1 F1 H1 s1 c1 _ _
  have u1' := s1.up
  refine ⟨F1, fun _ => 0, fun _ => False, [.im (hsD hh x y), .im (ctlD c), .im (sightD s), .no], fun d _ => d = .non, cf_im c1.fit rfl (noM3 rfl) (im3 (a0.mono u1') (a1.mono u1') (a2.mono u1') fun d z => nomatch z), ?_, ?_⟩
  · exact ⟨_, rfl, _, rfl, rfl, _, c, s, rfl, hi.good, hb, hs, by rw [hr0]; rfl⟩
  rintro u2 e2 δ2 F2 H2 s2 c2 hu rfl
  have hu2 := has_non.mp hu
  subst hu2
  have u2' := u1'.trans s2.up
  refine ⟨F2, fun _ => 0, fun _ => False, [.im (hsD hh x y), .im (ctlD c), .im (sightD s), .im .non], fun b _ => b = true, cf_im c2.fit rfl (noM3 rfl) (im3 (a0.mono u2') (a1.mono u2') (a2.mono u2') fun d z => by cases z; exact ⟨_, rfl, has_non.mpr rfl⟩), ?_, ?_⟩
  · exact ⟨_, rfl, .bl true, rfl, true, rfl, rfl⟩
  rintro b δ3 F3 H3 s3 c3 rfl
  refine yes_ite ?_
  exact k F3 H3 ((s1.trans0 s2).trans0 s3) c3.fit
/-- the name behind, or None -/
theorem ok__law_told_behind (E : En K mg C) (Ex : ExC K mg Ce) (F : Fd K mg "_law_told_behind" S_law_told_behind f fd)
    (G_game_behind : OkD P w K mg base C "game_behind" 6 3 none ["house", "controller", "sight"] pre_game_behind) {fg : Addr} {fdg : FuncData} (Fg : Fd K mg "game_behind" Sgame_behind fg fdg)
    (GX : FnOk P w K mg base (L2.CX P w) 6 fg fdg ["house", "controller", "sight"] (spGX w C Ce)) : OkD P w K mg base C "_law_told_behind" 7 3 none ["_law_made_here", "_law_controller_here", "_law_sight"] pre__law_told_behind := by
  have nd : (["_law_made_here", "_law_controller_here", "_law_sight"] : List Str).Nodup := by decide +kernel
  have bg : Binds K fdg ["house", "controller", "sight"] [] := Fg.fun_.bindsN fun _ _ _ _ _ _ us hl => match us, hl with | [_, _, _], _ => rfl
  -- it has a game
  have A1 : FnOk P w K mg base CX0 7 f fd ["_law_made_here", "_law_controller_here", "_law_sight"] (spD w C none 3 fun ds R => ∃ h x y c s k, ds = [hsD h x y, ctlD c, sightD s] ∧ GoodH h ∧ InH h c ∧ (∀ g ∈ s, -99 ≤ g ∧ g ≤ 99) ∧ s.length ≤ 1000 ∧ run c 0 s = some k ∧ R (.str (c.getD k default).name)) := by
    refine ok_def (N := ["_law_made_here", "_law_controller_here", "_law_sight"]) F.fun_ ⟨rfl, rfl, rfl, nd, rfl, by decide +kernel, by decide +kernel⟩ rfl (fun cdv A outer s H X hr =>
      dss_one (ps_try_thru0 (dss_one (ds_ret (de_callD G_game_behind (hr.mono (by decide)) rfl (da_cons (de_var 0) (da_cons (de_var 1) (da_cons (de_var 2) da_nil)))))))) ?_
    rintro ds R _ ⟨h, x, y, c, s, k, rfl, hg, hi, hb, hs, hr, hR⟩
    exact ⟨_, rfl, _, rfl, _, rfl, rfl, h, x, y, c, s, k, rfl, hg, hi, hb, hs, hr, hR⟩
  -- it is refused
  have A2 : FnOk P w K mg base CX0 7 f fd ["_law_made_here", "_law_controller_here", "_law_sight"] (spD w C none 3 fun ds R => NoSight ds ∧ R .non) := by
    refine F.fun_.ok (N := ["_law_made_here", "_law_controller_here", "_law_sight"]) ⟨rfl, rfl, rfl, nd, rfl, by decide +kernel, by decide +kernel⟩ (fun vs H Q E h => ?_) (fun cdv A outer s H vs Q E' hr h => ⟨_, PSs.nox (pss_one (ps_try_only rfl rfl ⟨rfl, by decide, .inl Ex.g⟩ takes0
      (fun W pn xe tk _ => pss_one (ps_ret (pe_callS GX (hr.mono (by decide)) rfl Fg.mg_ Fg.fun_.kp bg (fun σ => passAt tk σ) (da_cons (q := ⟨w, C, none, none⟩) (de_var 0) (da_cons (de_var 1) (da_cons (de_var 2) da_nil))))))
      (fun a oe cls d pn _ _ => pss_one (ps_ret pe_non)))), ?_⟩)
    · obtain ⟨F, ds, R, _, hv, hl, _⟩ := h
      rw [hv.length, hl]
      rfl
    obtain ⟨F0, ds, R, hf, hv, hl, ⟨hN, hR⟩, k⟩ := h
    obtain ⟨d0, d1, d2, rfl⟩ : ∃ d0 d1 d2, ds = [d0, d1, d2] := by
      match ds, hl with
      | [a, b, c], _ => exact ⟨a, b, c, rfl⟩
    obtain ⟨v0, r0, rfl, a0, b0⟩ := hasL_cons.mp hv
    obtain ⟨v1, r1, rfl, a1, b1⟩ := hasL_cons.mp b0
    obtain ⟨v2, rfl, a2⟩ := has1 (q := ⟨w, C, none, none⟩) b1
    have hst : start ["_law_made_here", "_law_controller_here", "_law_sight"] [v0, v1, v2] = [some v0, some v1, some v2] := rfl
    rw [hst]
    refine ⟨F0, fun _ => 0, fun _ => False, [.im d0, .im d1, .im d2], fun xs _ => xs = [d0, d1, d2], cf_im hf rfl ?_ ?_, ?_, ?_⟩
    · intro i
      match i with
      | 0 => rfl
      | 1 => rfl
      | 2 => rfl
      | _ + 3 => rfl
    · intro i d e
      match i, e with
      | 0, e => cases e; exact ⟨_, rfl, a0⟩
      | 1, e => cases e; exact ⟨_, rfl, a1⟩
      | 2, e => cases e; exact ⟨_, rfl, a2⟩
    · exact ⟨_, rfl, _, rfl, _, rfl, rfl⟩
    rintro vs ds δ1 F1 H1 s1 c1 hvs rfl
    refine ⟨F1, [d0, d1, d2], c1.fit, hvs, hN, fun F2 H2 s2 f2 => ?_⟩
    refine ⟨true, Ex.e, fun _ a ha => ?_, fun z => nomatch z⟩
    exact k .non .non F2 H2 (s1.trans0 s2) f2 (has_non.mpr rfl) hR
  have A3 : FnOk P w K mg base CX0 7 f fd ["_law_made_here", "_law_controller_here", "_law_sight"] (spD w C none 3 pre__law_told_behind) := by
    refine (K46.FnOk.or2 A1 A2).imp fun vs H Q E h => ?_
    obtain ⟨F, ds, R, hf, hv, hl, ⟨hh, x, y, c, s, rfl, hg, hi, hb, hs, hR⟩, k⟩ := h
    cases er : run c 0 s with
    | some j =>
      rw [er] at hR
      exact .inl ⟨F, _, R, hf, hv, hl, ⟨hh, x, y, c, s, j, rfl, hg, hi, hb, hs, er, hR⟩, k⟩
    | none =>
      rw [er] at hR
      exact .inr ⟨F, _, R, hf, hv, hl, ⟨⟨hh, x, y, c, s, rfl, hg, hi, hb, hs, er⟩, hR⟩, k⟩
  exact ⟨f, fd, A3, F.mg_, F.fun_.kp, F.fun_.bindsN fun _ _ _ _ _ _ us hl => match us, hl with | [_, _, _], _ => rfl⟩
end
end K46

set_option Elab.async false
set_option linter.all false
set_option maxRecDepth 100000
set_option maxHeartbeats 2000000
/-! _law_dice, law -/
namespace K46
open PySem PySem.Spec PyProof.Rows L2
theorem ite_t {c : Bool} {A B : Prop} (hc : c = true) (h : A) : if c = true then A else B := by rw [if_pos hc]; exact h
theorem ite_f {c : Bool} {A B : Prop} (hc : c = false) (h : B) : if c = true then A else B := by rw [hc, if_neg (by decide)]; exact h
def bigM : Int := (10 ^ (60 : Int).toNat) ^ (10 : Int).toNat
theorem bigM_pos : 0 < bigM := by decide +kernel
def diceP : Int := 2305843009213693613
/-- what _law_dice promises: a new list, of three numbers from 0 on -/
def spDice (K : PySem.W.Frag) : Sp := fun vs H Q _ => ∃ (a : Addr) (ns : List Int) (i : Nat), vs = [.ref a, .int i] ∧ SqL K H a (ns.map V.int) ∧ ∀ (p : Addr) (x y : Int), H p = none → 0 ≤ x → 0 ≤ y → Q (.ref p) (upd H p (.lst [.int x, .int y, .int 0]))
section
variable {P : Program} {w : World} {K : PySem.W.Frag} {mg : Str → Option Value} {base : Heap} {C f : Addr} {fd : FuncData}
theorem ok__law_dice (E : En K mg C) (F : Fd K mg "_law_dice" S_law_dice f fd) : FnOk P w K mg base CX0 1 f fd ["_law_script", "_law_spot"] (spDice K) := by
  have nd : (["_law_script", "_law_spot", "_law_cell", "_law_great", "_law_blend"] : List Str).Nodup := by decide +kernel
  refine F.fun_.ok (N := ["_law_script", "_law_spot", "_law_cell", "_law_great", "_law_blend"]) ⟨rfl, rfl, rfl, nd, rfl, by decide +kernel, by decide +kernel⟩ (fun vs H Q E h => ?_) (fun cdv A outer s H vs Q E' hr h => ⟨_, PSs.nox
    (pss_cons (ps_asg (pe_op op_add (pe_op op_mul pe_int (pv 1)) pe_int) (pg_name (i := 2) nd rfl (Or.inl rfl)))
    (pss_cons (ps_if (pt_cmpR op_lt (pv 1) (pe_callB call_len_seq rfl E.m_len rfl (pa_cons (pv 0) pa_nil)) (nomark _)) (pss_one (ps_asg (pe_ix ix_list (pv 0) (pv 1) (by intro _ _; rfl)) (pg_name (i := 2) nd rfl (Or.inl rfl)))) pss_nil)
    (pss_cons (ps_asg (pe_op op_mod (pe_callTy call_int1 rfl E.m_int rfl (pa_cons (pe_callB call_abs rfl E.m_abs rfl (pa_cons (pv 2) pa_nil)) pa_nil)) (pe_op op_powB (pe_op op_powB pe_int pe_int) pe_int)) (pg_name (i := 3) nd rfl (Or.inl rfl)))
    (pss_cons (ps_asg (pe_op op_add (pe_op op_add (pe_op op_add (pe_op op_mul (pe_op op_mod (pe_callTy call_int1 rfl E.m_int rfl (pa_cons (pv 3) pa_nil)) pe_int) pe_int) (pe_op op_mul pe_int (pv 1))) (pe_op op_mul pe_int (pe_callTy call_int1 rfl E.m_int rfl (pa_cons (pe_cmpR op_lt (pv 2) pe_int (nomark _)) pa_nil)))) pe_int) (pg_name (i := 4) nd rfl (Or.inl rfl)))
    (pss_one (ps_ret (pe_lst (pa_cons (pe_callB (call_max2 rfl) rfl E.m_max rfl (pa_cons pe_int (pa_cons (pe_op op_sub (pv 3) (pe_op op_powB pe_int pe_int)) pa_nil))) (pa_cons (pe_op op_mod (pe_callTy call_int1 rfl E.m_int rfl (pa_cons (pv 4) pa_nil)) pe_int) (pa_cons pe_int pa_nil)))))))))), ?_⟩)
  · obtain ⟨a, ns, i, rfl, _⟩ := h
    rfl
  obtain ⟨a, ns, i, rfl, hS, k⟩ := h
  have hst : start ["_law_script", "_law_spot", "_law_cell", "_law_great", "_law_blend"] [V.ref a, V.int i] = [some (.ref a), some (.int i), none, none, none] := rfl
  rw [hst]
  have hP : (0 : Int) < 2305843009213693613 := by decide
  refine ⟨_, rfl, _, _, rfl, rfl, .inl ⟨by decide, by decide⟩, _, _, rfl, rfl, ?_⟩
  refine ⟨_, rfl, _, rfl, a, ns.map V.int, rfl, .inl hS, _, _, rfl, rfl, _, rfl, ?_⟩
  by_cases hlt : (i : Int) < ((ns.map V.int).length : Int)
  case' pos =>
    refine ite_t (decide_eq_true hlt) ?_
    obtain ⟨n, hn⟩ : ∃ n, ns[i]? = some n := by
      rw [List.length_map] at hlt
      exact ⟨_, List.getElem?_eq_getElem (by omega)⟩
    refine ⟨_, rfl, _, rfl, a, ns.map V.int, i, .int n, rfl, rfl, hS, atI_nat (by rw [List.getElem?_map, hn]; rfl), ?_⟩
    show tSeq _ _ _ [some (.ref a), some (.int i), some (.int n), none, none] _
    generalize n = c
  case' neg =>
    refine ite_f (decide_eq_false hlt) ?_
    show tSeq _ _ _ [some (.ref a), some (.int i), some (.int (71 * (i : Int) + 29)), none, none] _
    generalize 71 * (i : Int) + 29 = c
  all_goals
    refine ⟨_, rfl, c, rfl, .inl ⟨_, rfl, _, _, rfl, rfl, ⟨by decide, by decide +kernel⟩, _, _, rfl, rfl, ⟨by decide, by decide +kernel⟩, _, _, rfl, rfl, bigM_pos, ?_⟩⟩
    show tSeq _ _ _ [some (.ref a), some (.int i), some (.int c), some (.int ((if c < 0 then -c else c) % bigM)), none] _
    have g0 : 0 ≤ (if c < 0 then -c else c) % bigM := Int.emod_nonneg _ (Int.ne_of_gt bigM_pos)
    generalize (if c < 0 then -c else c) % bigM = g at g0 ⊢
    refine ⟨_, rfl, .inl ⟨_, rfl, _, _, rfl, rfl, hP, _, _, rfl, rfl, .inr ⟨by decide, by decide⟩, _, rfl, _, _, rfl, rfl, .inl ⟨by decide, by decide⟩, _, _, rfl, rfl, _, rfl, _, _, rfl, rfl, .inr ⟨_, rfl, _, _, rfl, rfl, .inl ⟨by decide, by decide⟩, _, _, rfl, rfl, _, _, rfl, rfl, ?_⟩⟩⟩
    refine ⟨_, rfl, _, _, rfl, rfl, ⟨by decide, by decide +kernel⟩, _, _, rfl, rfl, _, _, rfl, _, rfl, .inl ⟨_, rfl, _, _, rfl, rfl, hP, ?_, fun p hp => ?_⟩⟩
    · show 3 ≤ sizeLine
      decide
    · refine k p _ _ hp ?_ (Int.emod_nonneg _ (Int.ne_of_gt hP))
      split
      · rename_i h; exact Int.le_of_lt h
      · exact Int.le_refl _
/-- the script, as it stays while p is changed -/
def SqK (K : PySem.W.Frag) (H : Hp) (a : Addr) (xs : List V) (p : Addr) : Prop :=
  (Rd H a (.lst xs) ∧ a ≠ p) ∨ ∃ (o : Obj) (its : Array Value) (n : Nat), K.lookup a = some o ∧ o.cls = .type "list" ∧ o.dict = none ∧ o.data = .seq its n ∧ its.size ≤ sizeLine ∧ Vals xs its.toList
theorem SqK.sq {H : Hp} {a p : Addr} {xs : List V} (h : SqK K H a xs p) : SqL K H a xs := h.elim (fun z => .inl z.1) .inr
theorem SqK.alloc {H : Hp} {a p : Addr} {xs : List V} {o : HO} (h : SqL K H a xs) (hp : H p = none) : SqK K (upd H p o) a xs p := by
  rcases h with z | z
  · left
    rcases z with z | ⟨ob, z⟩
    · have ne := ne_of_none z hp
      exact ⟨.inl (by rw [upd_ne ne]; exact z), ne⟩
    · have ne := ne_of_none z hp
      exact ⟨.inr ⟨ob, by rw [upd_ne ne]; exact z⟩, ne⟩
  · exact .inr z
theorem SqK.step {H F' H' : Hp} {a p : Addr} {xs : List V} (h : SqK K H a xs p) (s : Stp (fun b => b = p) (fun _ => none) H F' H') : SqK K H' a xs p := by
  rcases h with ⟨z, ne⟩ | z
  · left
    refine ⟨?_, ne⟩
    rcases z with z | ⟨ob, z⟩
    · exact .inl (s.keep a _ z rfl ne)
    · exact .inr ⟨ob, s.keep a _ z rfl ne⟩
  · exact .inr z
def spLaw (K : PySem.W.Frag) : Sp := fun vs H Q _ => ∃ (a : Addr) (ns : List Int), vs = [.ref a] ∧ SqL K H a (ns.map V.int) ∧ ∀ H', Q (.bl true) H'
theorem ok_law (E : En K mg C) (F : Fd K mg "law" Slaw f fd) {fD : Addr} {fdD : FuncData} (FD : Fd K mg "_law_dice" S_law_dice fD fdD) (hM : Maths)
    (G_law_right : OkM P w K mg base C "_law_right" 11 0 none ["_law_dice_here"] pre__law_right) : FnOk P w K mg base CX0 12 f fd ["_law_script"] (spLaw K) := by
  have nd : (["_law_script", "_law_spot", "_law_dice_here", "_law_turn"] : List Str).Nodup := by decide +kernel
  have GD : FnOk P w K mg base CX0 1 fD fdD ["_law_script", "_law_spot"] (spDice K) := ok__law_dice E FD
  have bD : Binds K fdD ["_law_script", "_law_spot"] [] := FD.fun_.bindsN fun _ _ _ _ _ _ us hl => match us, hl with | [_, _], _ => rfl
  obtain ⟨fR, fdR, GR, gR, kR, bR⟩ := G_law_right
  refine F.fun_.ok (N := ["_law_script", "_law_spot", "_law_dice_here", "_law_turn"]) ⟨rfl, rfl, rfl, nd, rfl, by decide +kernel, by decide +kernel⟩ (fun vs H Q E h => ?_) (fun cdv A outer s H vs Q E' hr h => ⟨_, PSs.nox
    (pss_cons (ps_for PassesOwn.never rfl (pi_range1 rfl E.m_range (pa_cons (pe_callB (call_max2 rfl) rfl E.m_max rfl (pa_cons pe_int (pa_cons (pe_callB (call_min2 rfl) rfl E.m_min rfl (pa_cons pe_int (pa_cons (pe_callB call_len_seq rfl E.m_len rfl (pa_cons (pv 0) pa_nil)) pa_nil))) pa_nil))) pa_nil)) (pg_name (i := 1) nd rfl (Or.inl rfl))
      (pss_cons (ps_asg (pe_call GD (hr.mono (by decide)) rfl FD.mg_ FD.fun_.kp bD .nil pass0 (pa_cons (pv 0) (pa_cons (pv 1) pa_nil))) (pg_name (i := 2) nd rfl (Or.inl rfl)))
      (pss_one (ps_for PassesOwn.never rfl (pi_range1 rfl E.m_range (pa_cons pe_int pa_nil)) (pg_name (i := 3) nd rfl (Or.inl rfl))
        (pss_one (ps_if (pt_not (pt_val (pe_call GR (hr.mono (by decide)) rfl gR kR bR .nil pass0 (pa_cons (pv 2) pa_nil)) (by intro _; rfl))) (pss_one (ps_ret pe_bl)) pss_nil))))))
    (pss_one (ps_ret pe_bl))), ?_⟩)
  · obtain ⟨a, ns, rfl, _⟩ := h
    rfl
  obtain ⟨a, ns, rfl, hS, k⟩ := h
  have hst : start ["_law_script", "_law_spot", "_law_dice_here", "_law_turn"] [V.ref a] = [some (.ref a), none, none, none] := rfl
  rw [hst]
  refine ⟨_, rfl, a, ns.map V.int, rfl, .inl hS, _, _, rfl, _, _, rfl, _, rfl, ?_, ?_, ?_⟩
  · split <;> split <;> omega
  · split <;> split <;> omega
  refine for_range (fun _ σ H => ∃ s1 s2 s3, σ = [some (.ref a), s1, s2, s3] ∧ SqL K H a (ns.map V.int)) ⟨none, none, none, rfl, hS⟩ ?_ ?_
  · rintro i σ1 H1 hi ⟨s1, s2, s3, rfl, hS1⟩
    refine ⟨_, rfl, _, rfl, a, ns, i, by rw [Int.zero_add]; rfl, hS1, fun p x y hp hx hy => ?_⟩
    refine ⟨2, rfl, by decide, by decide, ?_⟩
    refine for_range (n := 2) (fun _ σ H => ∃ s1 s3 x y z, σ = [some (.ref a), s1, some (.ref p), s3] ∧ SqK K H a (ns.map V.int) p ∧ H p = some (.lst [.int x, .int y, .int z]) ∧ 0 ≤ x ∧ 0 ≤ y ∧ 0 ≤ z) ⟨_, _, x, y, 0, rfl, .alloc hS1 hp, upd_same, hx, hy, Int.le_refl _⟩ ?_ ?_
    · rintro j σ2 H2 hj ⟨t1, t3, x, y, z, rfl, hK, hp2, hx, hy, hz⟩
      refine ⟨_, rfl, ?_⟩
      refine ⟨fun _ => none, p, [.int x, .int y, .int z], diceD x y z, [], [], fun d dc => d = .bl true ∧ GoodD dc, rfl, (fun _ _ e => nomatch e), rfl, hp2, (HasL.ints (ns := [x, y, z])).mpr rfl, .nil, rfl, ⟨hM, rfl, ⟨x, y, z, rfl, hx, hy, hz⟩, fun dc' h => ⟨rfl, h⟩⟩, ?_⟩
      rintro v d dv' dc' F' H' st ft hF hH hdc hv ⟨rfl, x', y', z', rfl, hx', hy', hz'⟩
      refine ⟨true, has_bl.mp hv, ?_⟩
      refine ite_f rfl ?_
      have ed : dv' = [V.int x', V.int y', V.int z'] := (HasL.ints (ns := [x', y', z'])).mp hdc
      rw [ed] at hH
      exact ⟨_, _, x', y', z', rfl, hK.step st, hH, hx', hy', hz'⟩
    · rintro σ2 H2 ⟨t1, t3, x, y, z, rfl, hK, _⟩
      exact ⟨_, _, _, rfl, hK.sq⟩
  · rintro σ1 H1 _
    exact k H1
end
end K46

set_option Elab.async false
set_option linter.all false
set_option maxRecDepth 100000
set_option maxHeartbeats 4000000
namespace K46
open PySem PySem.Spec PyProof.Rows L2
theorem insC_ok {K : PySem.W.Frag} (cl : Cls K (He.ga K "House")) (h : hex K = true) : C8.InsC K (He.ga K "House") := by
  obtain ⟨h1, h⟩ := He.ba h
  obtain ⟨h2, h⟩ := He.ba h
  obtain ⟨h3, h⟩ := He.ba h
  obtain ⟨h4, h5⟩ := He.ba h
  exact ⟨cl, He.eqO_ok h1, He.eqO_ok h2, of_decide_eq_true h3, of_decide_eq_true h4, of_decide_eq_true h5⟩
section
variable {P : Program} {w : World} {K : PySem.W.Frag} {h : Heap} {mg : Str → Option Value}
theorem en_ok (X : K.In h) (G : h.Ns mainGlobals mg) (c : SaysO K) : En K mg (He.ga K "House") := by
  have D := c.d
  have cl := He.cls_ok (D.fact 52 (f := .cls "House") rfl)
  exact {
    m_isinstance := He.free_ok X G (D.fact 68 (f := .free "isinstance") rfl)
    m_int := He.free_ok X G (D.fact 69 (f := .free "int") rfl)
    m_bool := He.free_ok X G (D.fact 70 (f := .free "bool") rfl)
    m_tuple := He.free_ok X G (D.fact 71 (f := .free "tuple") rfl)
    m_str := He.free_ok X G (D.fact 72 (f := .free "str") rfl)
    m_dict := He.free_ok X G (D.fact 73 (f := .free "dict") rfl)
    m_len := He.free_ok X G (D.fact 74 (f := .free "len") rfl)
    m_all := He.free_ok X G (D.fact 75 (f := .free "all") rfl)
    m_abs := He.free_ok X G (D.fact 76 (f := .free "abs") rfl)
    m_list := He.free_ok X G (D.fact 77 (f := .free "list") rfl)
    m_zip := He.free_ok X G (D.fact 78 (f := .free "zip") rfl)
    m_set := He.free_ok X G (D.fact 79 (f := .free "set") rfl)
    m_sorted := He.free_ok X G (D.fact 80 (f := .free "sorted") rfl)
    m_range := He.free_ok X G (D.fact 81 (f := .free "range") rfl)
    m_enumerate := He.free_ok X G (D.fact 82 (f := .free "enumerate") rfl)
    m_max := He.free_ok X G (D.fact 83 (f := .free "max") rfl)
    m_min := He.free_ok X G (D.fact 84 (f := .free "min") rfl)
    i_MAX_LETTERS := He.int_ok X G (D.fact 59 (f := .int "MAX_LETTERS" 8) rfl)
    i_MAX_DIGITS := He.int_ok X G (D.fact 60 (f := .int "MAX_DIGITS" 300) rfl)
    i_LONGEST := He.int_ok X G (D.fact 61 (f := .int "LONGEST" (10 ^ 300)) rfl)
    i_MAX_GAMES := He.int_ok X G (D.fact 62 (f := .int "MAX_GAMES" 4) rfl)
    i_MAX_STANDINGS := He.int_ok X G (D.fact 63 (f := .int "MAX_STANDINGS" 8) rfl)
    i_MAX_MOVES := He.int_ok X G (D.fact 64 (f := .int "MAX_MOVES" 12) rfl)
    i_MAX_GAIN := He.int_ok X G (D.fact 65 (f := .int "MAX_GAIN" 99) rfl)
    i_MAX_STATES := He.int_ok X G (D.fact 66 (f := .int "MAX_STATES" 4) rfl)
    s_LETTERS := He.str_ok X G (D.fact 67 (f := .str "LETTERS" "abcdefghijklmnopqrstuvwxyz") rfl)
    cls := cl
    na_games := He.noat_ok (D.fact 54 (f := .noat "House" "own_games") rfl)
    na_names := He.noat_ok (D.fact 55 (f := .noat "House" "own_names") rfl)
    na_size := He.noat_ok (D.fact 56 (f := .noat "House" "own_size") rfl)
    isC := insC_ok cl c.more
    m_House := He.glo_ok X G (D.fact 50 (f := .glo "House") rfl) }
theorem ex_ok (X : K.In h) (G : h.Ns mainGlobals mg) (c : SaysO K) : ExC K mg (He.ga K "InvalidOperation") := by
  have D := c.d
  obtain ⟨e1, e2, e3, e4⟩ := He.exc_ok (D.fact 57 (f := .exc "InvalidOperation") rfl)
  exact ⟨He.glo_ok X G (D.fact 51 (f := .glo "InvalidOperation") rfl), e1, e2, e3, e4, He.exm_ok (D.fact 58 (f := .exm "InvalidOperation" "InvalidOperation" true) rfl)⟩
theorem fd_ok (X : K.In h) (G : h.Ns mainGlobals mg) (c : SaysO K) {x : Str} {st : Stmt} (i j : Nat) (hi : hfn[i]? = some ⟨(x, none), x, x, defArgs st, defBody st, defScope st, [], []⟩) (hj : hfa[j]? = some (.glo x)) : ∃ fd, Fd K mg x st (He.ga K x) fd := by
  have D := c.d
  obtain ⟨fd, F⟩ := D.def_ i hi
  exact ⟨fd, F, He.glo_ok X G (D.fact j hj)⟩
theorem all_ok (X : K.In h) (G : h.Ns mainGlobals mg) (hfl : ∀ f, mg "law" = some (.ref f) → f = He.ga K "law") (c : SaysO K) : ∃ fd : FuncData, (∀ (s : Shared) (v : Value), BindsTo s fd ⟨[v], []⟩ [("_law_script", v)]) ∧ ∀ base : Heap, FnOk P w K mg base CX0 12 (He.ga K "law") fd ["_law_script"] (spLaw K) := by
  have D := c.d
  have E := en_ok X G c
  have Ex := ex_ok X G c
  obtain ⟨fd__law_dice, F__law_dice⟩ := fd_ok X G c (x := "_law_dice") (st := S_law_dice) 30 30 rfl rfl
  obtain ⟨fd__law_roll, F__law_roll⟩ := fd_ok X G c (x := "_law_roll") (st := S_law_roll) 31 31 rfl rfl
  obtain ⟨fd__law_pick, F__law_pick⟩ := fd_ok X G c (x := "_law_pick") (st := S_law_pick) 32 32 rfl rfl
  obtain ⟨fd__law_known_house, F__law_known_house⟩ := fd_ok X G c (x := "_law_known_house") (st := S_law_known_house) 38 38 rfl rfl
  obtain ⟨fd__law_some, F__law_some⟩ := fd_ok X G c (x := "_law_some") (st := S_law_some) 33 33 rfl rfl
  obtain ⟨fd__law_chances, F__law_chances⟩ := fd_ok X G c (x := "_law_chances") (st := S_law_chances) 34 34 rfl rfl
  obtain ⟨fd__law_moves, F__law_moves⟩ := fd_ok X G c (x := "_law_moves") (st := S_law_moves) 35 35 rfl rfl
  obtain ⟨fd__law_game, F__law_game⟩ := fd_ok X G c (x := "_law_game") (st := S_law_game) 36 36 rfl rfl
  obtain ⟨fd__law_house, F__law_house⟩ := fd_ok X G c (x := "_law_house") (st := S_law_house) 37 37 rfl rfl
  obtain ⟨fd_divisor_of, F_divisor_of⟩ := fd_ok X G c (x := "divisor_of") (st := Sdivisor_of) 3 3 rfl rfl
  obtain ⟨fd_is_integer, F_is_integer⟩ := fd_ok X G c (x := "is_integer") (st := Sis_integer) 0 0 rfl rfl
  obtain ⟨fd_fraction_of, F_fraction_of⟩ := fd_ok X G c (x := "fraction_of") (st := Sfraction_of) 6 6 rfl rfl
  obtain ⟨fd_plus, F_plus⟩ := fd_ok X G c (x := "plus") (st := Splus) 7 7 rfl rfl
  obtain ⟨fd_sum_of, F_sum_of⟩ := fd_ok X G c (x := "sum_of") (st := Ssum_of) 8 8 rfl rfl
  obtain ⟨fd_is_within, F_is_within⟩ := fd_ok X G c (x := "is_within") (st := Sis_within) 1 1 rfl rfl
  obtain ⟨fd_is_fraction, F_is_fraction⟩ := fd_ok X G c (x := "is_fraction") (st := Sis_fraction) 4 4 rfl rfl
  obtain ⟨fd_is_chance, F_is_chance⟩ := fd_ok X G c (x := "is_chance") (st := Sis_chance) 5 5 rfl rfl
  obtain ⟨fd_is_move, F_is_move⟩ := fd_ok X G c (x := "is_move") (st := Sis_move) 10 10 rfl rfl
  obtain ⟨fd_are_moves, F_are_moves⟩ := fd_ok X G c (x := "are_moves") (st := Sare_moves) 11 11 rfl rfl
  obtain ⟨fd_is_game, F_is_game⟩ := fd_ok X G c (x := "is_game") (st := Sis_game) 12 12 rfl rfl
  obtain ⟨fd_is_word, F_is_word⟩ := fd_ok X G c (x := "is_word") (st := Sis_word) 2 2 rfl rfl
  obtain ⟨fd_are_games, F_are_games⟩ := fd_ok X G c (x := "are_games") (st := Sare_games) 13 13 rfl rfl
  obtain ⟨fd_ascending_rows, F_ascending_rows⟩ := fd_ok X G c (x := "ascending_rows") (st := Sascending_rows) 9 9 rfl rfl
  obtain ⟨fd_House, F_House⟩ := D.def_ 50 (d := D_House_init) rfl
  have M_House : Mk K (He.ga K "House") (He.ma K (He.ga K "House") "__init__") := He.mkr_ok (D.fact 53 (f := .mkr "House") rfl)
  obtain ⟨fd__law_made, F__law_made⟩ := fd_ok X G c (x := "_law_made") (st := S_law_made) 39 39 rfl rfl
  obtain ⟨fd__law_gains, F__law_gains⟩ := fd_ok X G c (x := "_law_gains") (st := S_law_gains) 40 40 rfl rfl
  obtain ⟨fd__law_controller, F__law_controller⟩ := fd_ok X G c (x := "_law_controller") (st := S_law_controller) 41 41 rfl rfl
  obtain ⟨fd__law_parting, F__law_parting⟩ := fd_ok X G c (x := "_law_parting") (st := S_law_parting) 43 43 rfl rfl
  obtain ⟨fd_require_house, F_require_house⟩ := fd_ok X G c (x := "require_house") (st := Srequire_house) 14 14 rfl rfl
  obtain ⟨fd_gains_in, F_gains_in⟩ := fd_ok X G c (x := "gains_in") (st := Sgains_in) 15 15 rfl rfl
  obtain ⟨fd_is_state_in, F_is_state_in⟩ := fd_ok X G c (x := "is_state_in") (st := Sis_state_in) 16 16 rfl rfl
  obtain ⟨fd_is_controller_in, F_is_controller_in⟩ := fd_ok X G c (x := "is_controller_in") (st := Sis_controller_in) 17 17 rfl rfl
  obtain ⟨fd_require_controller, F_require_controller⟩ := fd_ok X G c (x := "require_controller") (st := Srequire_controller) 18 18 rfl rfl
  obtain ⟨fd_require_both, F_require_both⟩ := fd_ok X G c (x := "require_both") (st := Srequire_both) 22 22 rfl rfl
  obtain ⟨fd_parting_in, F_parting_in⟩ := fd_ok X G c (x := "parting_in") (st := Sparting_in) 21 21 rfl rfl
  obtain ⟨fd_parting_sight, F_parting_sight⟩ := fd_ok X G c (x := "parting_sight") (st := Sparting_sight) 23 23 rfl rfl
  obtain ⟨fd__law_state, F__law_state⟩ := fd_ok X G c (x := "_law_state") (st := S_law_state) 42 42 rfl rfl
  obtain ⟨fd_reordered_states, F_reordered_states⟩ := fd_ok X G c (x := "reordered_states") (st := Sreordered_states) 26 26 rfl rfl
  obtain ⟨fd_begun_at, F_begun_at⟩ := fd_ok X G c (x := "begun_at") (st := Sbegun_at) 25 25 rfl rfl
  obtain ⟨fd_least_in, F_least_in⟩ := fd_ok X G c (x := "least_in") (st := Sleast_in) 27 27 rfl rfl
  obtain ⟨fd_least_controller, F_least_controller⟩ := fd_ok X G c (x := "least_controller") (st := Sleast_controller) 28 28 rfl rfl
  obtain ⟨fd__law_from, F__law_from⟩ := fd_ok X G c (x := "_law_from") (st := S_law_from) 44 44 rfl rfl
  obtain ⟨fd__law_sorts, F__law_sorts⟩ := fd_ok X G c (x := "_law_sorts") (st := S_law_sorts) 45 45 rfl rfl
  obtain ⟨fd_is_least, F_is_least⟩ := fd_ok X G c (x := "is_least") (st := Sis_least) 29 29 rfl rfl
  obtain ⟨fd__law_least_right, F__law_least_right⟩ := fd_ok X G c (x := "_law_least_right") (st := S_law_least_right) 47 47 rfl rfl
  obtain ⟨fd_are_alike, F_are_alike⟩ := fd_ok X G c (x := "are_alike") (st := Sare_alike) 24 24 rfl rfl
  obtain ⟨fd_state_behind, F_state_behind⟩ := fd_ok X G c (x := "state_behind") (st := Sstate_behind) 19 19 rfl rfl
  obtain ⟨fd_game_behind, F_game_behind⟩ := fd_ok X G c (x := "game_behind") (st := Sgame_behind) 20 20 rfl rfl
  obtain ⟨fd__law_told_behind, F__law_told_behind⟩ := fd_ok X G c (x := "_law_told_behind") (st := S_law_told_behind) 46 46 rfl rfl
  obtain ⟨fd__law_right, F__law_right⟩ := fd_ok X G c (x := "_law_right") (st := S_law_right) 48 48 rfl rfl
  obtain ⟨fd_law, F_law⟩ := fd_ok X G c (x := "law") (st := Slaw) 49 49 rfl rfl
  refine ⟨fd_law, fun s v => F_law.fun_.bindsA (ps := ["_law_script"]) (fun _ _ _ _ _ _ us hl => match us, hl with | [_], _ => rfl) s [v] rfl, fun base => ?_⟩
  have G__law_roll : OkM P w K mg base (He.ga K "House") "_law_roll" 1 1 none ["_law_dice_here", "_law_total"] pre__law_roll := ok__law_roll (m := none) E F__law_roll
  have G__law_pick : OkM P w K mg base (He.ga K "House") "_law_pick" 2 1 none ["_law_dice_here", "_law_items"] pre__law_pick := ok__law_pick (m := none) E F__law_pick G__law_roll
  have G__law_known_house : OkM P w K mg base (He.ga K "House") "_law_known_house" 3 0 none ["_law_dice_here"] pre__law_known_house := ok__law_known_house (m := none) E F__law_known_house G__law_pick
  have G__law_some : OkM P w K mg base (He.ga K "House") "_law_some" 2 2 none ["_law_dice_here", "_law_items", "_law_size"] pre__law_some := ok__law_some (m := none) E F__law_some G__law_roll
  have G__law_chances : OkM P w K mg base (He.ga K "House") "_law_chances" 3 1 none ["_law_dice_here", "_law_many"] pre__law_chances := ok__law_chances (m := none) E F__law_chances G__law_pick
  have G__law_moves : OkM P w K mg base (He.ga K "House") "_law_moves" 4 1 none ["_law_dice_here", "_law_size"] pre__law_moves := ok__law_moves (m := none) E F__law_moves G__law_some G__law_chances G__law_pick G__law_roll
  have G__law_game : OkM P w K mg base (He.ga K "House") "_law_game" 5 1 none ["_law_dice_here", "_law_size"] pre__law_game := ok__law_game (m := none) E F__law_game G__law_moves
  have G__law_house : OkM P w K mg base (He.ga K "House") "_law_house" 6 0 none ["_law_dice_here"] pre__law_house := ok__law_house (m := none) E F__law_house G__law_roll G__law_pick G__law_known_house G__law_some G__law_game
  have G_divisor_of : OkD P w K mg base (He.ga K "House") "divisor_of" 1 2 none ["one", "other"] pre_divisor_of := ok_divisor_of (m := none) E F_divisor_of
  have G_is_integer : ∀ m, OkD P w K mg base (He.ga K "House") "is_integer" 1 1 m ["value"] pre_is_integer := fun m => ok_is_integer E F_is_integer
  have G_fraction_of : OkD P w K mg base (He.ga K "House") "fraction_of" 2 2 none ["top", "bottom"] pre_fraction_of := ok_fraction_of (m := none) E F_fraction_of G_divisor_of G_is_integer
  have G_plus : OkD P w K mg base (He.ga K "House") "plus" 3 2 none ["one", "other"] pre_plus := ok_plus (m := none) E F_plus G_fraction_of
  have G_sum_of : OkD P w K mg base (He.ga K "House") "sum_of" 4 1 none ["pairs"] pre_sum_of := ok_sum_of (m := none) E F_sum_of G_plus
  have G_is_within : ∀ m, OkD P w K mg base (He.ga K "House") "is_within" 2 3 m ["value", "least", "most"] pre_is_within := fun m => ok_is_within E F_is_within G_is_integer
  have G_is_fraction : OkD P w K mg base (He.ga K "House") "is_fraction" 2 1 none ["value"] pre_is_fraction := ok_is_fraction (m := none) E F_is_fraction G_is_integer G_divisor_of
  have G_is_chance : OkD P w K mg base (He.ga K "House") "is_chance" 3 1 none ["value"] pre_is_chance := ok_is_chance (m := none) E F_is_chance G_is_fraction
  have G_is_move : OkD P w K mg base (He.ga K "House") "is_move" 4 2 none ["value", "size"] pre_is_move := ok_is_move (m := none) E F_is_move G_is_within G_is_chance
  have G_are_moves : OkD P w K mg base (He.ga K "House") "are_moves" 5 2 none ["value", "size"] pre_are_moves := ok_are_moves (m := none) E F_are_moves G_sum_of G_is_move
  have G_is_game : OkD P w K mg base (He.ga K "House") "is_game" 6 1 none ["value"] pre_is_game := ok_is_game (m := none) E F_is_game G_are_moves
  have G_is_word : ∀ m, OkD P w K mg base (He.ga K "House") "is_word" 1 1 m ["value"] pre_is_word := fun m => ok_is_word E F_is_word
  have G_are_games : OkD P w K mg base (He.ga K "House") "are_games" 7 1 none ["value"] pre_are_games := ok_are_games (m := none) E F_are_games G_is_game G_is_word
  have G_ascending_rows : OkD P w K mg base (He.ga K "House") "ascending_rows" 1 1 none ["rows"] pre_ascending_rows := ok_ascending_rows (m := none) E F_ascending_rows
  have G_House : OkH P w K mg base (He.ga K "House") 8 pre_init := ok_House_init E M_House F_House G_are_games G_ascending_rows
  have G__law_made : OkD P w K mg base (He.ga K "House") "_law_made" 10 1 none ["_law_plain"] pre__law_made := ok__law_made (m := none) E F__law_made G_House
  have G__law_gains : OkD P w K mg base (He.ga K "House") "_law_gains" 1 1 none ["_law_game_here"] pre__law_gains := ok__law_gains (m := none) E F__law_gains
  have G__law_controller : OkM P w K mg base (He.ga K "House") "_law_controller" 3 2 none ["_law_dice_here", "_law_plain", "_law_most"] pre__law_controller := ok__law_controller (m := none) E F__law_controller G__law_pick G__law_roll G__law_gains
  have G__law_parting : OkD P w K mg base (He.ga K "House") "_law_parting" 1 2 none ["_law_one", "_law_other"] pre__law_parting := ok__law_parting (m := none) E F__law_parting
  have G_require_house : OkD P w K mg base (He.ga K "House") "require_house" 1 1 none ["value"] pre_require_house := ok_require_house (m := none) E F_require_house
  have G_gains_in : OkD P w K mg base (He.ga K "House") "gains_in" 1 1 none ["game"] pre_gains_in := ok_gains_in (m := none) E F_gains_in
  have G_is_state_in : OkD P w K mg base (He.ga K "House") "is_state_in" 3 3 none ["house", "value", "size"] pre_is_state_in := ok_is_state_in (m := none) E F_is_state_in G_gains_in G_is_word G_is_within
  have G_is_controller_in : OkD P w K mg base (He.ga K "House") "is_controller_in" 4 2 none ["house", "value"] pre_is_controller_in := ok_is_controller_in (m := none) E F_is_controller_in G_is_state_in
  have G_require_controller : OkD P w K mg base (He.ga K "House") "require_controller" 5 2 none ["house", "controller"] pre_require_controller := ok_require_controller (m := none) E F_require_controller G_require_house G_is_controller_in
  have G_require_both : OkD P w K mg base (He.ga K "House") "require_both" 6 3 none ["house", "one", "other"] pre_require_both := ok_require_both (m := none) E F_require_both G_require_controller
  have G_parting_in : OkD P w K mg base (He.ga K "House") "parting_in" 1 2 none ["one", "other"] pre_parting_in := ok_parting_in (m := none) E F_parting_in
  have G_parting_sight : OkD P w K mg base (He.ga K "House") "parting_sight" 7 3 none ["house", "one", "other"] pre_parting_sight := ok_parting_sight (m := none) E F_parting_sight G_require_both G_parting_in
  have G__law_state : OkD P w K mg base (He.ga K "House") "_law_state" 1 2 none ["_law_controller_here", "_law_sight"] pre__law_state := ok__law_state (m := none) E F__law_state
  have G_reordered_states : OkD P w K mg base (He.ga K "House") "reordered_states" 1 2 none ["controller", "order"] pre_reordered_states := ok_reordered_states (m := none) E F_reordered_states
  have G_begun_at : OkD P w K mg base (He.ga K "House") "begun_at" 2 2 none ["controller", "state"] pre_begun_at := ok_begun_at (m := none) E F_begun_at G_reordered_states
  have G_least_in : OkD P w K mg base (He.ga K "House") "least_in" 3 1 none ["controller"] pre_least_in := ok_least_in (m := none) E F_least_in G_parting_in G_begun_at
  have G_least_controller : OkD P w K mg base (He.ga K "House") "least_controller" 6 2 none ["house", "controller"] pre_least_controller := ok_least_controller (m := none) E F_least_controller G_require_controller G_least_in
  have G__law_from : OkD P w K mg base (He.ga K "House") "_law_from" 1 2 none ["_law_controller_here", "_law_state_here"] pre__law_from := ok__law_from (m := none) E F__law_from
  have G__law_sorts : OkD P w K mg base (He.ga K "House") "_law_sorts" 2 1 none ["_law_controller_here"] pre__law_sorts := ok__law_sorts (m := none) E F__law_sorts G__law_parting G__law_from
  have G_is_least : OkD P w K mg base (He.ga K "House") "is_least" 6 2 none ["house", "controller"] pre_is_least := ok_is_least (m := none) E F_is_least G_require_controller G_least_in
  have G__law_least_right : OkD P w K mg base (He.ga K "House") "_law_least_right" 7 2 none ["_law_made_here", "_law_controller_here"] pre__law_least_right := ok__law_least_right (m := none) E F__law_least_right G_least_controller G__law_sorts G__law_parting G_is_least
  have G_are_alike : OkD P w K mg base (He.ga K "House") "are_alike" 7 3 none ["house", "one", "other"] pre_are_alike := ok_are_alike (m := none) E F_are_alike G_require_both G_parting_in
  have G_state_behind : OkD P w K mg base (He.ga K "House") "state_behind" 3 2 none ["controller", "sight"] pre_state_behind := ok_state_behind (m := none) E F_state_behind G_is_within
  have G_game_behind : OkD P w K mg base (He.ga K "House") "game_behind" 6 3 none ["house", "controller", "sight"] pre_game_behind := ok_game_behind (m := none) E F_game_behind G_require_controller G_state_behind
  have GX : FnOk P w K mg base (L2.CX P w) 6 (He.ga K "game_behind") fd_game_behind ["house", "controller", "sight"] (spGX w (He.ga K "House") (He.ga K "InvalidOperation")) := ok_game_behindX E Ex F_game_behind G_require_controller G_state_behind
  have G__law_told_behind : OkD P w K mg base (He.ga K "House") "_law_told_behind" 7 3 none ["_law_made_here", "_law_controller_here", "_law_sight"] pre__law_told_behind := ok__law_told_behind E Ex F__law_told_behind G_game_behind F_game_behind GX
  have G__law_right : OkM P w K mg base (He.ga K "House") "_law_right" 11 0 none ["_law_dice_here"] pre__law_right := ok__law_right (m := none) E F__law_right G__law_house G__law_made G__law_controller G__law_parting G_parting_sight G__law_state G__law_least_right G_are_alike G_game_behind G__law_roll G__law_told_behind G__law_pick
  exact ok_law E F_law F__law_dice M.maths G__law_right
end
end K46
open PySem PySem.W PySem.Calls PyProof.Rows
set_option maxRecDepth 100000 in
set_option maxHeartbeats 8000000 in
theorem PySem.Challenge.cw_wonbyturns_k46_whole_alike_and_least_con_holds : PySem.Challenge.rw_wonbyturns_k46_whole_alike_and_least_con.Holds := by
  w_on; o_law
  refine HandSHeadRun.head_any (r := OpenLaw.row PySem.Challenge.rw_wonbyturns_k46_whole_alike_and_least_con) (q := view (OpenLaw.row PySem.Challenge.rw_wonbyturns_k46_whole_alike_and_least_con).prog [86]) (H := K46.hhk) (ob := K46.hob) (M := 40000) (loose := K46.hloose) (d := HandSHeadRun.topDef (OpenLaw.row PySem.Challenge.rw_wonbyturns_k46_whole_alike_and_least_con).prog 86) (kwd := []) K46.hob_eq
    (by kernel_rfl) (fun s => by kernel_rfl) K46.hrun (by kernel_rfl) (by kernel_rfl) (by kernel_rfl) (by rfl) (by first | assumption | decide +kernel) (by decide +kernel) ⟨rfl, rfl, rfl, rfl, rfl, by decide +kernel⟩ ?hw ?hc
  case hw => w_witness2
  case hc =>
    refine L2.walk_ofE (l := PySem.Challenge.rw_wonbyturns_k46_whole_alike_and_least_con) (n := 63) (k := 12) (x := "_law_script") (CX := L2.CX0) rfl (by decide) (by kernel_rfl) ⟨rfl, by decide, by decide⟩ ?F (fun _ _ _ _ z => z)
    intro w mg fa h Y G hmg0
    obtain ⟨K, KX, c⟩ := Y
    have hmg : mg ("law" : PySem.Str) = some (.ref fa) := by
      have e : (HandSHeadRun.topDef (OpenLaw.row PySem.Challenge.rw_wonbyturns_k46_whole_alike_and_least_con).prog 86).name = ("law" : PySem.Str) := by kernel_rfl
      rw [← e]
      exact hmg0
    have e := hmg.symm.trans (He.glo_ok KX G (c.d.fact 49 (f := .glo "law") rfl))
    cases e
    obtain ⟨fd, hb, hF⟩ := K46.all_ok (P := (PySem.Challenge.rw_wonbyturns_k46_whole_alike_and_least_con).prog) KX G (fun f e => by rw [hmg] at e; cases e; rfl) c
    exact ⟨K, fd, K46.spLaw K, KX, hb, fun H a ns hl _ hS => ⟨a, ns, rfl, hS, fun _ => rfl⟩, fun base _ _ => hF base⟩
#print axioms PySem.Challenge.cw_wonbyturns_k46_whole_alike_and_least_con_holds
