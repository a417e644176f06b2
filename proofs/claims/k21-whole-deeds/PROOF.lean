import PyProof.Rows.All
import PySem.Challenge.RW_newsdoors_k21_whole_deeds_as_one_turn
import Wide.All
import OpenK.AllK
import Wide.FinOn
import KE.KStateDown
import Lean
import HandS.ForMost
import HandS.Codes
import HandS.Defaults
import HandS.MakeKwOnly
import HandS.MakeKw
import HandS.Lambda
import HandS.Nested
import HandS.EndTab
import HandS.Head0
import HandS.Head1
import HandS.Head2
import HandS.HeadHook4
import HandS.HeadWalk
import KE.SortData
import KE.SortKeyHeap
import HandS.List
import HandS.SortKw
import HandS.Keys
import HandS.SetBool
import HandS.TupSets
import HandS.Strs
import HandS.Set
import HandS.OwnEq
import HandS.More
import PyProof.ReprRoads
import OpenK.KOps
import HandS.Iter
import HandS.IsInst
import HandS.FStr
import HandS.TupAny
import HandS.DictComp
import HandS.Wide
section
set_option Elab.async false
set_option linter.all false
set_option maxRecDepth 100000
set_option maxHeartbeats 0
namespace KD
open PySem L2
/-! the text by places -/
def topS (i : Nat) : Stmt := PySem.Challenge.pw_newsdoors_k21_whole_deeds_as_one_turn.main.body.getD i (.Pass ⟨0, 0, 0, 0⟩)
abbrev s_is_whole : Stmt := topS 9
abbrev s_is_moment : Stmt := topS 10
abbrev s_is_name : Stmt := topS 11
abbrev s_are_unlike_names : Stmt := topS 12
abbrev s_want_of : Stmt := topS 14
abbrev s_mingled : Stmt := topS 15
abbrev s_both : Stmt := topS 16
abbrev s_others : Stmt := topS 17
abbrev s_are_pairs : Stmt := topS 19
abbrev s_till_of : Stmt := topS 21
abbrev s_changed_on : Stmt := topS 22
abbrev s_raised : Stmt := topS 23
abbrev s_lowered : Stmt := topS 24
abbrev s_mixed : Stmt := topS 25
abbrev s_higher : Stmt := topS 26
abbrev s_lower : Stmt := topS 27
abbrev s_wanted_at : Stmt := topS 28
abbrev s_lapse : Stmt := topS 29
abbrev s_is_bounds : Stmt := topS 32
abbrev s_turn_of : Stmt := topS 34
abbrev s_on_want : Stmt := topS 35
abbrev s_raising : Stmt := topS 36
abbrev s_lowering : Stmt := topS 37
abbrev s_led_moment : Stmt := topS 38
abbrev s_bounds_behind : Stmt := topS 39
abbrev s_behind : Stmt := topS 40
abbrev s_all_behind : Stmt := topS 41
abbrev s_led : Stmt := topS 42
abbrev s_law_store : Stmt := topS 44
abbrev s_law_draw : Stmt := topS 45
abbrev s_law_names : Stmt := topS 46
abbrev s_law_some : Stmt := topS 47
abbrev s_law_want : Stmt := topS 48
abbrev s_law_moment : Stmt := topS 49
abbrev s_law_own : Stmt := topS 50
abbrev s_law_till : Stmt := topS 51
abbrev s_law_normal : Stmt := topS 52
abbrev s_law_is_till : Stmt := topS 53
abbrev s_law_deeds : Stmt := topS 54
abbrev s_law_many_deeds : Stmt := topS 55
abbrev s_law_strange : Stmt := topS 56
abbrev s_law_stepped : Stmt := topS 57
abbrev s_law_done : Stmt := topS 58
abbrev s_law_pairs_right : Stmt := topS 59
abbrev s_law : Stmt := topS 60
abbrev s_Want_init : Stmt := inClass (topS 13) 0
abbrev s_Want_set_names : Stmt := inClass (topS 13) 1
abbrev s_Want_has : Stmt := inClass (topS 13) 2
abbrev s_Want_eq : Stmt := inClass (topS 13) 3
abbrev s_Till_init : Stmt := inClass (topS 20) 0
abbrev s_Till_set_till : Stmt := inClass (topS 20) 1
abbrev s_Till_moment_of : Stmt := inClass (topS 20) 2
abbrev s_Till_eq : Stmt := inClass (topS 20) 3
abbrev s_Till_len : Stmt := inClass (topS 20) 4
abbrev s_Till_repr : Stmt := inClass (topS 20) 5
abbrev s_Turn_init : Stmt := inClass (topS 33) 0
abbrev s_Turn_set_turn : Stmt := inClass (topS 33) 1
abbrev s_Turn_bounds_of : Stmt := inClass (topS 33) 2
/-- a keyword-only default that is an object -/
def kwdAt (f : Str × Option Str) (x : Str) (K : PySem.W.Frag) : Addr := match K.lookup (He.fAd K f) with
  | some ⟨_, _, .func fd, _⟩ => (match fd.kwdefaults with
    | .ref d => (match PySem.W.nsIn K d x with
      | some (some (.ref b)) => b
      | _ => 0)
    | _ => 0)
  | _ => 0
abbrev at_WI (K : PySem.W.Frag) : Addr := He.dflAt ("Want", some "__init__") 0 K
abbrev at_TI (K : PySem.W.Frag) : Addr := kwdAt ("Till", some "__init__") "own" K
abbrev at_UI (K : PySem.W.Frag) : Addr := kwdAt ("Turn", some "__init__") "own" K
def d_is_whole : He.DefD := ⟨("is_whole", none), "is_whole", "is_whole", defArgs s_is_whole, defBody s_is_whole, defScope s_is_whole, [], []⟩
def d_is_moment : He.DefD := ⟨("is_moment", none), "is_moment", "is_moment", defArgs s_is_moment, defBody s_is_moment, defScope s_is_moment, [], []⟩
def d_is_name : He.DefD := ⟨("is_name", none), "is_name", "is_name", defArgs s_is_name, defBody s_is_name, defScope s_is_name, [], []⟩
def d_are_unlike_names : He.DefD := ⟨("are_unlike_names", none), "are_unlike_names", "are_unlike_names", defArgs s_are_unlike_names, defBody s_are_unlike_names, defScope s_are_unlike_names, [], []⟩
def d_want_of : He.DefD := ⟨("want_of", none), "want_of", "want_of", defArgs s_want_of, defBody s_want_of, defScope s_want_of, [], []⟩
def d_mingled : He.DefD := ⟨("mingled", none), "mingled", "mingled", defArgs s_mingled, defBody s_mingled, defScope s_mingled, [], []⟩
def d_both : He.DefD := ⟨("both", none), "both", "both", defArgs s_both, defBody s_both, defScope s_both, [], []⟩
def d_others : He.DefD := ⟨("others", none), "others", "others", defArgs s_others, defBody s_others, defScope s_others, [], []⟩
def d_are_pairs : He.DefD := ⟨("are_pairs", none), "are_pairs", "are_pairs", defArgs s_are_pairs, defBody s_are_pairs, defScope s_are_pairs, [], []⟩
def d_till_of : He.DefD := ⟨("till_of", none), "till_of", "till_of", defArgs s_till_of, defBody s_till_of, defScope s_till_of, [], []⟩
def d_changed_on : He.DefD := ⟨("changed_on", none), "changed_on", "changed_on", defArgs s_changed_on, defBody s_changed_on, defScope s_changed_on, [], []⟩
def d_raised : He.DefD := ⟨("raised", none), "raised", "raised", defArgs s_raised, defBody s_raised, defScope s_raised, [], []⟩
def d_lowered : He.DefD := ⟨("lowered", none), "lowered", "lowered", defArgs s_lowered, defBody s_lowered, defScope s_lowered, [], []⟩
def d_mixed : He.DefD := ⟨("mixed", none), "mixed", "mixed", defArgs s_mixed, defBody s_mixed, defScope s_mixed, [], []⟩
def d_higher : He.DefD := ⟨("higher", none), "higher", "higher", defArgs s_higher, defBody s_higher, defScope s_higher, [], []⟩
def d_lower : He.DefD := ⟨("lower", none), "lower", "lower", defArgs s_lower, defBody s_lower, defScope s_lower, [], []⟩
def d_wanted_at : He.DefD := ⟨("wanted_at", none), "wanted_at", "wanted_at", defArgs s_wanted_at, defBody s_wanted_at, defScope s_wanted_at, [], []⟩
def d_lapse : He.DefD := ⟨("lapse", none), "lapse", "lapse", defArgs s_lapse, defBody s_lapse, defScope s_lapse, [], [("begin", .int 0)]⟩
def d_is_bounds : He.DefD := ⟨("is_bounds", none), "is_bounds", "is_bounds", defArgs s_is_bounds, defBody s_is_bounds, defScope s_is_bounds, [], []⟩
def d_turn_of : He.DefD := ⟨("turn_of", none), "turn_of", "turn_of", defArgs s_turn_of, defBody s_turn_of, defScope s_turn_of, [], []⟩
def d_on_want : He.DefD := ⟨("on_want", none), "on_want", "on_want", defArgs s_on_want, defBody s_on_want, defScope s_on_want, [], []⟩
def d_raising : He.DefD := ⟨("raising", none), "raising", "raising", defArgs s_raising, defBody s_raising, defScope s_raising, [], []⟩
def d_lowering : He.DefD := ⟨("lowering", none), "lowering", "lowering", defArgs s_lowering, defBody s_lowering, defScope s_lowering, [], []⟩
def d_led_moment : He.DefD := ⟨("led_moment", none), "led_moment", "led_moment", defArgs s_led_moment, defBody s_led_moment, defScope s_led_moment, [], []⟩
def d_bounds_behind : He.DefD := ⟨("bounds_behind", none), "bounds_behind", "bounds_behind", defArgs s_bounds_behind, defBody s_bounds_behind, defScope s_bounds_behind, [], []⟩
def d_behind : He.DefD := ⟨("behind", none), "behind", "behind", defArgs s_behind, defBody s_behind, defScope s_behind, [], []⟩
def d_all_behind : He.DefD := ⟨("all_behind", none), "all_behind", "all_behind", defArgs s_all_behind, defBody s_all_behind, defScope s_all_behind, [], []⟩
def d_led : He.DefD := ⟨("led", none), "led", "led", defArgs s_led, defBody s_led, defScope s_led, [], []⟩
def d_law_store : He.DefD := ⟨("_law_store", none), "_law_store", "_law_store", defArgs s_law_store, defBody s_law_store, defScope s_law_store, [], []⟩
def d_law_draw : He.DefD := ⟨("_law_draw", none), "_law_draw", "_law_draw", defArgs s_law_draw, defBody s_law_draw, defScope s_law_draw, [], []⟩
def d_law_names : He.DefD := ⟨("_law_names", none), "_law_names", "_law_names", defArgs s_law_names, defBody s_law_names, defScope s_law_names, [], []⟩
def d_law_some : He.DefD := ⟨("_law_some", none), "_law_some", "_law_some", defArgs s_law_some, defBody s_law_some, defScope s_law_some, [], []⟩
def d_law_want : He.DefD := ⟨("_law_want", none), "_law_want", "_law_want", defArgs s_law_want, defBody s_law_want, defScope s_law_want, [], []⟩
def d_law_moment : He.DefD := ⟨("_law_moment", none), "_law_moment", "_law_moment", defArgs s_law_moment, defBody s_law_moment, defScope s_law_moment, [], []⟩
def d_law_own : He.DefD := ⟨("_law_own", none), "_law_own", "_law_own", defArgs s_law_own, defBody s_law_own, defScope s_law_own, [], []⟩
def d_law_till : He.DefD := ⟨("_law_till", none), "_law_till", "_law_till", defArgs s_law_till, defBody s_law_till, defScope s_law_till, [], []⟩
def d_law_normal : He.DefD := ⟨("_law_normal", none), "_law_normal", "_law_normal", defArgs s_law_normal, defBody s_law_normal, defScope s_law_normal, [], []⟩
def d_law_is_till : He.DefD := ⟨("_law_is_till", none), "_law_is_till", "_law_is_till", defArgs s_law_is_till, defBody s_law_is_till, defScope s_law_is_till, [], []⟩
def d_law_deeds : He.DefD := ⟨("_law_deeds", none), "_law_deeds", "_law_deeds", defArgs s_law_deeds, defBody s_law_deeds, defScope s_law_deeds, [], []⟩
def d_law_many_deeds : He.DefD := ⟨("_law_many_deeds", none), "_law_many_deeds", "_law_many_deeds", defArgs s_law_many_deeds, defBody s_law_many_deeds, defScope s_law_many_deeds, [], []⟩
def d_law_strange : He.DefD := ⟨("_law_strange", none), "_law_strange", "_law_strange", defArgs s_law_strange, defBody s_law_strange, defScope s_law_strange, [], []⟩
def d_law_stepped : He.DefD := ⟨("_law_stepped", none), "_law_stepped", "_law_stepped", defArgs s_law_stepped, defBody s_law_stepped, defScope s_law_stepped, [], []⟩
def d_law_done : He.DefD := ⟨("_law_done", none), "_law_done", "_law_done", defArgs s_law_done, defBody s_law_done, defScope s_law_done, [], []⟩
def d_law_pairs_right : He.DefD := ⟨("_law_pairs_right", none), "_law_pairs_right", "_law_pairs_right", defArgs s_law_pairs_right, defBody s_law_pairs_right, defScope s_law_pairs_right, [], []⟩
def d_law : He.DefD := ⟨("law", none), "law", "law", defArgs s_law, defBody s_law, defScope s_law, [], []⟩
def d_Want_init : He.DefD := ⟨("Want", some "__init__"), "__init__", "Want.__init__", defArgs s_Want_init, defBody s_Want_init, defScope s_Want_init, [.adr at_WI], [("all_but", .bl false)]⟩
def d_Want_set_names : He.DefD := ⟨("Want", some "set_names"), "set_names", "Want.set_names", defArgs s_Want_set_names, defBody s_Want_set_names, defScope s_Want_set_names, [], []⟩
def d_Want_has : He.DefD := ⟨("Want", some "has"), "has", "Want.has", defArgs s_Want_has, defBody s_Want_has, defScope s_Want_has, [], []⟩
def d_Want_eq : He.DefD := ⟨("Want", some "__eq__"), "__eq__", "Want.__eq__", defArgs s_Want_eq, defBody s_Want_eq, defScope s_Want_eq, [], []⟩
def d_Till_init : He.DefD := ⟨("Till", some "__init__"), "__init__", "Till.__init__", defArgs s_Till_init, defBody s_Till_init, defScope s_Till_init, [.int 0], [("own", .adr at_TI)]⟩
def d_Till_set_till : He.DefD := ⟨("Till", some "set_till"), "set_till", "Till.set_till", defArgs s_Till_set_till, defBody s_Till_set_till, defScope s_Till_set_till, [], []⟩
def d_Till_moment_of : He.DefD := ⟨("Till", some "moment_of"), "moment_of", "Till.moment_of", defArgs s_Till_moment_of, defBody s_Till_moment_of, defScope s_Till_moment_of, [], []⟩
def d_Till_eq : He.DefD := ⟨("Till", some "__eq__"), "__eq__", "Till.__eq__", defArgs s_Till_eq, defBody s_Till_eq, defScope s_Till_eq, [], []⟩
def d_Till_len : He.DefD := ⟨("Till", some "__len__"), "__len__", "Till.__len__", defArgs s_Till_len, defBody s_Till_len, defScope s_Till_len, [], []⟩
def d_Till_repr : He.DefD := ⟨("Till", some "__repr__"), "__repr__", "Till.__repr__", defArgs s_Till_repr, defBody s_Till_repr, defScope s_Till_repr, [], []⟩
def d_Turn_init : He.DefD := ⟨("Turn", some "__init__"), "__init__", "Turn.__init__", defArgs s_Turn_init, defBody s_Turn_init, defScope s_Turn_init, [.glo "FREE"], [("own", .adr at_UI)]⟩
def d_Turn_set_turn : He.DefD := ⟨("Turn", some "set_turn"), "set_turn", "Turn.set_turn", defArgs s_Turn_set_turn, defBody s_Turn_set_turn, defScope s_Turn_set_turn, [], []⟩
def d_Turn_bounds_of : He.DefD := ⟨("Turn", some "bounds_of"), "bounds_of", "Turn.bounds_of", defArgs s_Turn_bounds_of, defBody s_Turn_bounds_of, defScope s_Turn_bounds_of, [], []⟩
def fn_0 : List He.DefD := [d_is_whole, d_is_moment, d_is_name, d_are_unlike_names, d_want_of, d_mingled, d_both, d_others, d_are_pairs, d_till_of, d_changed_on, d_raised, d_lowered, d_mixed, d_higher, d_lower, d_wanted_at, d_lapse, d_is_bounds, d_turn_of]
def fn_1 : List He.DefD := [d_on_want, d_raising, d_lowering, d_led_moment, d_bounds_behind, d_behind, d_all_behind, d_led, d_law_store, d_law_draw, d_law_names, d_law_some, d_law_want, d_law_moment, d_law_own, d_law_till, d_law_normal, d_law_is_till, d_law_deeds, d_law_many_deeds]
def fn_2 : List He.DefD := [d_law_strange, d_law_stepped, d_law_done, d_law_pairs_right, d_law, d_Want_init, d_Want_set_names, d_Want_has, d_Want_eq, d_Till_init, d_Till_set_till, d_Till_moment_of, d_Till_eq, d_Till_len, d_Till_repr, d_Turn_init, d_Turn_set_turn, d_Turn_bounds_of]
def fn : List He.DefD := fn_0 ++ fn_1 ++ fn_2
def fa_0 : List He.Fa := [.glo "is_whole", .glo "is_moment", .glo "is_name", .glo "are_unlike_names", .glo "want_of", .glo "mingled", .glo "both", .glo "others", .glo "are_pairs", .glo "till_of", .glo "changed_on", .glo "raised", .glo "lowered", .glo "mixed", .glo "higher", .glo "lower", .glo "wanted_at", .glo "lapse", .glo "is_bounds", .glo "turn_of"]
def fa_1 : List He.Fa := [.glo "on_want", .glo "raising", .glo "lowering", .glo "led_moment", .glo "bounds_behind", .glo "behind", .glo "all_behind", .glo "led", .glo "_law_store", .glo "_law_draw", .glo "_law_names", .glo "_law_some", .glo "_law_want", .glo "_law_moment", .glo "_law_own", .glo "_law_till", .glo "_law_normal", .glo "_law_is_till", .glo "_law_deeds", .glo "_law_many_deeds"]
def fa_2 : List He.Fa := [.glo "_law_strange", .glo "_law_stepped", .glo "_law_done", .glo "_law_pairs_right", .glo "law", .glo "Want", .glo "Till", .glo "Turn", .glo "FREE", .free "isinstance", .free "int", .free "bool", .free "str", .free "len", .free "all", .free "tuple", .free "list", .free "sorted", .free "set", .free "max"]
def fa_3 : List He.Fa := [.free "min", .free "range", .free "repr", .free "dict", .free "enumerate", .free "abs", .int "MOST_LETTERS" 8, .int "MOST_NAMES" 60, .str "LETTERS" "abcdefghijklmnopqrstuvwxyz", .cls "Want", .cls "Till", .cls "Turn", .mkr "Want", .mkr "Till", .mkr "Turn", .noat "Want" "names", .noat "Want" "all_but", .noat "Till" "rest", .noat "Till" "own", .noat "Till" "known"]
def fa_4 : List He.Fa := [.noat "Turn" "rest", .noat "Turn" "own", .noat "Turn" "known", .meth "Want" "set_names", .meth "Want" "has", .meth "Want" "__eq__", .meth "Till" "set_till", .meth "Till" "moment_of", .meth "Till" "__eq__", .meth "Till" "__len__", .meth "Till" "__repr__", .meth "Turn" "set_turn", .meth "Turn" "bounds_of"]
def fa : List He.Fa := fa_0 ++ fa_1 ++ fa_2 ++ fa_3 ++ fa_4
/-- an object by its address: a tuple of these -/
def tupAt (K : PySem.W.Frag) (a : Addr) (vs : List V) : Bool := match K.lookup a with
  | some ⟨.type c, _, .seq its _, _⟩ => decide (c = "tuple") && (decide (its.size ≤ sizeLine) && He.relAll vs its.toList)
  | _ => false
/-- what an own class must have for isinstance -/
def isiB (K : PySem.W.Frag) (x : Str) : Bool := He.eqO (PySem.W.findIn K (.ref (He.ga K x)) "__class__") (some (some (.builtin "object.__class__"))) &&
  (He.eqO (PySem.W.specialIn K (.builtin "object.__class__") "__get__") (some (some (.builtin "getset_descriptor.__get__"))) && (decide (PySem.W.takesIn K (.builtin "object.__class__") = some true) &&
  (decide (PySem.W.mroIn K (He.ga K x) (.type "object") = some true) && decide (PySem.W.kitOne K (.ref (He.ga K x)) (.ref (He.ga K x)) = some true))))
def neB (K : PySem.W.Frag) (x : Str) : Bool := He.eqO (PySem.W.findIn K (.ref (He.ga K x)) "__ne__") (some (some (.builtin "object.__ne__")))
def tf : List He.Defn := [("both", none), ("raised", none), ("lowered", none), ("higher", none), ("lower", none), ("Turn", some "set_turn")]
def ex (K : PySem.W.Frag) : Bool := tupAt K (at_WI K) [] && (tupAt K (at_TI K) [] && (tupAt K (at_UI K) [] && (tupAt K (He.ga K "FREE") [.int 0, .non] &&
  (isiB K "Want" && (isiB K "Till" && (neB K "Want" && (neB K "Till" && decide ((tf.map fun p => (He.cT K p).2).Nodup))))))))
end KD
end

section
set_option Elab.async false
set_option linter.all false
set_option maxRecDepth 100000
set_option maxHeartbeats 0
namespace KD
open PySem PySem.Spec PyProof.Rows L2
abbrev R : PySem.W.OpenRow := PySem.W.OpenLaw.row PySem.Challenge.rw_newsdoors_k21_whole_deeds_as_one_turn
abbrev hk : PySem.W.Hook := He.hookX 6 fa fn [] tf ex
def ob (s : PySem.W.SharedT) : He.AlX := He.obsX 6 fa fn [] tf ex (HandSHeadRun.getT s)
theorem ob_eq (s : PySem.W.SharedT) : ob s = hk.obs s.abs := He.obsX_eq (HandSHeadRun.getT_eq s)
def looseA : List Str := ["NewsError", "NoWant", "NoTill", "NoTurn", "LETTERS", "MOST_LETTERS", "MOST_NAMES", "is_whole", "is_moment", "is_name", "are_unlike_names", "Want", "want_of", "mingled", "both", "others", "are_pairs", "Till", "till_of", "changed_on", "raised", "lowered", "mixed", "higher", "lower", "wanted_at", "lapse"]
def looseB : List Str := ["FREE", "is_bounds", "Turn", "turn_of", "on_want", "raising", "lowering", "led_moment", "bounds_behind", "behind", "all_behind", "led", "_law_store", "_law_draw", "_law_names", "_law_some", "_law_want", "_law_moment", "_law_own", "_law_till", "_law_normal", "_law_is_till", "_law_deeds", "_law_many_deeds", "_law_strange", "_law_stepped", "_law_done", "_law_pairs_right"]
def loose : List Str := looseA ++ looseB
theorem run (w : World) : HandSHeadRun.RunEq R (PySem.W.view R.prog [60]) hk ob 4000 loose w := by
  intro os
  kernel_rfl
end KD
end

section
set_option Elab.async false
set_option linter.all false
set_option maxRecDepth 100000
set_option maxHeartbeats 4000000
/-! lambdas with parameters, made in one def, called in another -/
namespace KD
open PySem PySem.Spec PyProof.Rows C8 LamX NdefX
open L2 hiding CX0 E0 pass0 Fun
/-- the lambda at f: F's words (its block is not used), e what it gives -/
def LamO (f : Addr) (F : NF) (e : Expr) : HO := .ext fun h => ∃ pm ctv : Value, h.get? f = some (PySem.W.kla_obj "<lambda>" F.qual F.params e F.scope F.cl pm F.c ctv)
theorem lamO_at {P : Program} {w : World} {H : Hp} {h : Heap} {f : Addr} {F : NF} {e : Expr} (hok : HOk P w H h) (q : H f = some (LamO f F e)) :
    ∃ pm ctv : Value, h.get? f = some (PySem.W.kla_obj "<lambda>" F.qual F.params e F.scope F.cl pm F.c ctv) := (hok f _ q).1
section
variable {X : Cx} {pins : List (Addr × Obj)} {σ : L2.St} {H : Hp} {s : Shared}
theorem inv_lam {F : NF} {e : Expr} {t' : Nat} {pm ctv : Value} {o : Obj} (I : Inv X pins σ H s) (ho : o = PySem.W.kla_obj "<lambda>" F.qual F.params e F.scope F.cl pm F.c ctv) :
    Inv X pins σ (upd H s.heap.objs.size (LamO s.heap.objs.size F e)) { s with heap := s.heap.push o, toks := t' } := by
  subst ho
  refine I.laid (a := s.heap.objs.size) (fun b u q => Heap.get?_push_of_some _ q) (Nat.le_refl _) ?_
  have q : (s.heap.push (PySem.W.kla_obj "<lambda>" F.qual F.params e F.scope F.cl pm F.c ctv)).get? s.heap.objs.size = some (PySem.W.kla_obj "<lambda>" F.qual F.params e F.scope F.cl pm F.c ctv) := Heap.get?_push_size _ rfl
  exact ⟨⟨pm, ctv, q⟩, ⟨_, q⟩, fun h1 h2 ⟨p, t, z⟩ st => ⟨p, t, st _ z⟩⟩
/-- the lambda's words, made by the frame that runs -/
abbrev lamF (X : Cx) (params : Arguments) (scope : Scope) (c' : Addr) : NF := ⟨"<lambda>", X.env.qual ++ "<lambda>", params, [], scope, cloFrom X.env.cells scope.names [], c'⟩
theorem lam_tracked {T : List (Addr × Str)} {c P : Addr} {params : Arguments} {body : Expr} {scope : Scope} {pos : Pos} {E : Value → Shared → Prop} {Q : Value → Shared → Prop} (I : Inv X pins σ H s) (TB : TabB X.base X.mg c P) (hcode : X.env.code = .ref c)
    (hm : (P, X.env.qual ++ "<lambda>") ∈ T) (hu : ∀ p ∈ T, p.1 = P → p.2 = X.env.qual ++ "<lambda>") (hT : Tabs T H) (hdef : defaultsOf params X.env = ([], [])) (hfree : ∀ y ∈ scope.names, y.2 = .free → ∃ c, X.env.cells.lookup y.1 = some c)
    (h : ∀ (f c' : Addr) (H1 : Hp) (s' : Shared), Inv X pins σ H1 s' → ExtN H H1 → Tabs T H1 → H1 f = some (LamO f (lamF X params scope c') body) → H1 c' = some (CodeO c' (X.env.qual ++ "<lambda>")) → Q (.ref f) s') :
    wpAny (model X.prog X.w) X.A (eval (.Lambda params body scope pos) X.env) Q E s := by
  obtain ⟨ps, hP, ht, ha⟩ := hT _ hm
  refine PySem.W.kla_eval hdef ?_
  have bP : s.heap.BuiltinsAt X.mg P := TB.bm.keeps I.bk
  have hP' : s.heap.get? P = some { cls := .none, data := .fields ps } := I.hok P _ hP
  cases hc : codeAmong pos ps.toList with
  | none =>
    refine PySem.W.kla_makeFunction (mg := X.mg) (c := c) (P := P) (ps := ps) (closure_ok hfree) I.ok.glob (I.mod.glob.keeps I.bk) hcode (TB.code.keeps I.bk) hP' ht hc TB.gP bP fun c' ctv h' tk hx hge hlt hrec htb => ?_
    obtain ⟨c2, oc, vs, t, e2, hoc, hd, hv⟩ := hrec
    cases e2
    have nC : H c' = none := I.hok.fresh hge
    have I1 := inv_table (t' := tk) (more := #[rawInt pos.line, rawInt pos.col, .ref c']) (h' := h') I hP (fun b o hb q => hx b o hb q) htb hge ⟨oc, vs, t, hoc, hd, hv⟩
    generalize hH1 : upd (upd H P (.tbl (ps ++ #[rawInt pos.line, rawInt pos.col, .ref c']))) c' (CodeO c' (X.env.qual ++ "<lambda>")) = H1 at I1
    have at1 : ∀ b o, H b = some o → b ≠ P → H1 b = some o := fun b o q n => by
      rw [← hH1, upd_ne (ne_of_none q nC), upd_ne n]; exact q
    have nF := I1.hok.fresh (Nat.le_refl _)
    have I2 := inv_lam (F := lamF X params scope c') (e := body) (t' := tk) (pm := (X.mg "__name__").getD .none) (ctv := ctv) I1 rfl
    have eL : (ps ++ #[rawInt pos.line, rawInt pos.col, .ref c']).toList = ps.toList ++ [rawInt pos.line, rawInt pos.col, .ref c'] := by simp
    have hE : ExtN H H1 := fun b o q n => at1 b o q fun z => n ps (Option.some.inj (q.symm.trans (by rw [z]; exact hP)))
    have T1 : Tabs T H1 := fun p hp => by
      by_cases hb : p.1 = P
      · rw [hu p hp hb, hb]
        refine ⟨_, by rw [← hH1, upd_ne (ne_of_none hP nC), upd_same], by rw [eL]; exact PySem.TriplesOk_snoc _ _ _ _ ht, fun p' cv hcv => ?_⟩
        rw [eL] at hcv
        rcases among_app _ ht hcv with z | z
        · obtain ⟨c0, e1, e2⟩ := ha p' cv z
          exact ⟨c0, e1, hE _ _ e2 codeO_ne⟩
        · exact ⟨c', z, by rw [← hH1]; exact upd_same⟩
      · obtain ⟨ps', a1, a2, a3⟩ := hT p hp
        refine ⟨ps', at1 _ _ a1 hb, a2, fun p' cv hcv => ?_⟩
        obtain ⟨c0, e1, e2⟩ := a3 p' cv hcv
        exact ⟨c0, e1, hE _ _ e2 codeO_ne⟩
    refine h h'.objs.size c' _ _ I2 (fun b o q n => ?_) (T1.ext fun b o q => ?_) upd_same ?_
    · have q1 := hE b o q n
      exact (upd_ne (ne_of_none q1 nF)).trans q1
    · exact (upd_ne (ne_of_none q nF)).trans q
    · have q1 : H1 c' = some (CodeO c' (X.env.qual ++ "<lambda>")) := by rw [← hH1]; exact upd_same
      exact (upd_ne (ne_of_none q1 nF)).trans q1
  | some cv =>
    obtain ⟨c', e, hco⟩ := ha pos cv hc
    subst e
    refine PySem.W.kla_makeFunctionHit (mg := X.mg) (c := c) (P := P) (ps := ps) (closure_ok hfree) I.ok.glob (I.mod.glob.keeps I.bk) hcode (TB.code.keeps I.bk) hP' ht hc bP fun ctv h' tk hx hsz => ?_
    have I1 : Inv X pins σ H { s with heap := h', toks := tk } := I.kept hx
    have nF : H h'.objs.size = none := I1.hok.fresh (Nat.le_refl _)
    have I2 := inv_lam (F := lamF X params scope c') (e := body) (t' := tk) (pm := (X.mg "__name__").getD .none) (ctv := ctv) I1 rfl
    refine h h'.objs.size c' _ _ I2 (fun b o q n => ?_) (hT.ext fun b o q => ?_) upd_same ?_
    · exact (upd_ne (ne_of_none q nF)).trans q
    · exact (upd_ne (ne_of_none q nF)).trans q
    · exact (upd_ne (ne_of_none hco nF)).trans hco
end
/-- a lambda as a value: the tables of T may grow, all else stays -/
def tLamMk (T : List (Addr × Str)) (mk : Addr → NF) (e : Expr) : TE := fun σ H Q => Tabs T H ∧ ∀ (f c' : Addr) (H1 : Hp), ExtN H H1 → Tabs T H1 → H1 f = some (LamO f (mk c') e) → H1 c' = some (CodeO c' (mk c').qual) → Q (.ref f) H1
theorem pe_lambda {X : Cx} {T : List (Addr × Str)} {c P : Addr} {params : Arguments} {body : Expr} {scope : Scope} {pos : Pos} (TB : TabB X.base X.mg c P) (hcode : X.env.code = .ref c)
    (hm : (P, X.env.qual ++ "<lambda>") ∈ T) (hu : ∀ p ∈ T, p.1 = P → p.2 = X.env.qual ++ "<lambda>") (hdef : defaultsOf params X.env = ([], []))
    (hfree : ∀ y ∈ scope.names, y.2 = .free → X.env.scope.names.lookup y.1 = some .cell ∨ X.env.scope.names.lookup y.1 = some .free) :
    PE X (.Lambda params body scope pos) (tLamMk T (lamF X params scope) body) := by
  refine ⟨fun pins s σ H Q I h => ?_⟩
  obtain ⟨hT, q⟩ := h
  exact lam_tracked I TB hcode hm hu hT hdef (fun y hy e => (hfree y hy e).elim (fun z => I.ok.has _ (.inl z)) fun z => I.ok.has _ (.inr z)) fun f c' H1 s' I1 e1 t1 hf hc => ⟨.ref f, H1, I1, rfl, q f c' H1 e1 t1 hf hc⟩
/-! ### its promise -/
structure LOk (P : Program) (w : World) (K : PySem.W.Frag) (mg : Str → Option Value) (base : Heap) (k : Nat) (f : Addr) (F : NF) (e : Expr) (ps fr : List Str) (sp : List (Option V) → Sp) : Prop where
  len : ∀ ws vs H Q E, sp ws vs H Q E → vs.length = ps.length
  run : ∀ (A : Around) (outer : List Env) (s : Shared) (H : Hp) (us : List Value) (vs : List V) (ws : List (Option V)) (Q : VK), Room k A → Env0 P w K mg base A outer s H →
    (∃ pm ctv : Value, s.heap.get? f = some (PySem.W.kla_obj "<lambda>" F.qual F.params e F.scope F.cl pm F.c ctv)) → s.heap.CodeRec (.ref F.c) F.qual →
    CellsAt F.cl fr ws s.heap H → Vals vs us → sp ws vs H Q E0 → codeAny (model P w) A (.call (.ref f) ⟨us, []⟩) (CR CX0 outer P w H s Q E0) s
theorem lok_of {P : Program} {w : World} {K : PySem.W.Frag} {mg : Str → Option Value} {base : Heap} {N ps fr : List Str} {F : NF} {e : Expr} {f : Addr} {k : Nat} {sp : List (Option V) → Sp} (S : NScope N ps fr F.scope)
    (hb : ∀ (pm ctv : Value) (us : List Value), us.length = ps.length → bindArgs (PySem.W.kla_fn "<lambda>" F.qual F.params e F.scope F.cl pm (.ref F.c) ctv) ⟨us, []⟩ = pure (ps.zip us)) (len : ∀ ws vs H Q E, sp ws vs H Q E → vs.length = ps.length)
    (hbody : ∀ (A : Around) (outer : List Env) (s : Shared) (H : Hp) (vs : List V) (ws : List (Option V)) (Q : VK), Room k (A.deeper (envF F f s.heap.objs.size)) → ws.length = fr.length → sp ws vs H Q E0 →
      ∃ t, PE (ncx CX0 P w K mg base N F f A outer s H E0) e t ∧ t (startF N vs ws) H Q) :
    LOk P w K mg base (k + 1) f F e ps fr sp := by
  refine ⟨len, fun A outer s H us vs ws Q hr e0 hf hc C r hsp => ?_⟩
  have hl := len _ _ _ _ _ hsp
  have lim : s.heap.NoLimit := e0.mod.nolimit.keeps fun b o q => (e0.bs b o q).1
  obtain ⟨pm, ctv, ho⟩ := hf
  refine PySem.W.kla_callFunE hr.depth ho rfl S.co S.gen rfl hc ?_
  rw [hb pm ctv us (by rw [← r.length]; exact hl)]
  refine wpAny_pure (wpAny_newFunctionEnv S.nocell (fun ⟨n, _⟩ hy => S.par n (List.of_mem_zip hy).1) (fun h₁ hns hsb => ⟨lim.fresh _ hsb, ?_⟩) S.kind)
  show codeAny _ _ (.expr e (envF F f s.heap.objs.size)) _ _
  have kp : ∀ b o, s.heap.get? b = some o → h₁.get? b = some o := fun b o q => hsb.extBut b o (Nat.ne_of_lt (Heap.lt_size q)) (Heap.get?_push_of_some _ q)
  obtain ⟨t, ht, hq⟩ := hbody A outer s H vs ws Q (hr.deeper _) C.len hsp
  have I : Inv (ncx CX0 P w K mg base N F f A outer s H E0) [] (startF N vs ws) H { s with heap := h₁, toks := s.toks + (ps.zip us).length } := inv_startN S hr.hd e0 hl r C hns kp
  refine PySem.W.kla_codeExpr (wpAny_mono (ht.run [] _ (startF N vs ws) H _ I hq) (fun v s' hs => ?_) fun _ _ hs => hs)
  obtain ⟨v0, H', J, rv, q⟩ := hs
  exact ⟨v0, H', J.os, J.bare, J.base, J.hok, rv, q⟩
/-! ### a lambda that captures nothing, held by a name, called -/
/-- g: its value; D: of which arguments -/
def spL (D : List V → Prop) (g : List V → V) : List (Option V) → Sp := fun _ vs H Q _ => D vs ∧ Q (g vs) H
/-- the lambda at f, with this text, keeps the promise (its words by F, no captured name) -/
structure LFn (P : Program) (w : World) (K : PySem.W.Frag) (mg : Str → Option Value) (base : Heap) (k : Nat) (H : Hp) (f : Addr) (D : List V → Prop) (g : List V → V) : Prop where
  ex : ∃ (F : NF) (e : Expr) (ps : List Str), H f = some (LamO f F e) ∧ H F.c = some (CodeO F.c F.qual) ∧ F.cl = [] ∧ LOk P w K mg base k f F e ps [] (spL D g)
theorem LFn.ext {P : Program} {w : World} {K : PySem.W.Frag} {mg : Str → Option Value} {base : Heap} {k : Nat} {H H' : Hp} {f : Addr} {D : List V → Prop} {g : List V → V} (L : LFn P w K mg base k H f D g) (x : ExtN H H') : LFn P w K mg base k H' f D g := by
  obtain ⟨F, e, ps, h1, h2, h3, h4⟩ := L.ex
  exact ⟨F, e, ps, x _ _ h1 (fun ps z => by unfold LamO at z; cases z), x _ _ h2 codeO_ne, h3, h4⟩
theorem cells_none {h : Heap} {H : Hp} : CellsAt [] [] [] h H := ⟨rfl, fun y c q => by simp at q, fun x y c q => by simp at q, fun i y q => by simp at q⟩
section
variable {X : Cx} {i k : Nat} {x : Str} {p pos : Pos} {e : Expr} {es : List Expr} {t : TA} {D : List V → Prop} {g : List V → V}
/-- the i-th slot's lambda called -/
def tCallLam (P : Program) (w : World) (K : PySem.W.Frag) (mg : Str → Option Value) (base : Heap) (k i : Nat) (D : List V → Prop) (g : List V → V) (t : TA) : TE := fun σ H Q => ∃ f, σ[i]? = some (some (.ref f)) ∧ LFn P w K mg base k H f D g ∧
  t σ H fun vs H1 => LFn P w K mg base k H1 f D g ∧ D vs ∧ Q (g vs) H1
theorem lam_fnAt {pins : List (Addr × Obj)} {σ : L2.St} {H : Hp} {s : Shared} {f : Addr} {F : NF} {b : Expr} (I : Inv X pins σ H s) (h : H f = some (LamO f F b)) : PySem.W.FnAt f s.heap := by
  obtain ⟨pm, ctv, ho⟩ := lamO_at I.hok h
  exact ⟨_, _, _, _, ho⟩
theorem run_lam {pins : List (Addr × Obj)} {σ : L2.St} {H : Hp} {s : Shared} {Q : VK} {f : Addr} {us : List Value} {vs : List V} (I : Inv X pins σ H s) (hr : Room k X.A) (L : LFn X.prog X.w X.K X.mg X.base k H f D g) (r : Vals vs us) (hD : D vs) (q : Q (g vs) H) :
    wpAny (model X.prog X.w) X.A (call (.ref f) us) (EP X pins σ Q) X.xe s := by
  obtain ⟨F, b, ps, h1, h2, h3, h4⟩ := L.ex
  refine wpAny_call (codeAny_mono (h4.run X.A X.stack s H us vs [] Q hr I.env0 (lamO_at I.hok h1) (codeO_at I.hok h2) (by rw [h3]; exact cells_none) r ⟨hD, q⟩) fun r s' hq => ?_)
  cases r with
  | error e => exact (show False from hq).elim
  | ok fl =>
    cases fl with
    | ret u => exact I.after hq
    | next => exact False.elim hq
    | brk => exact False.elim hq
    | cont => exact False.elim hq
theorem pe_callLam (hr : Room k X.A) (hN : X.N[i]? = some x) (hv : Vis X.env.scope x) (ha : PA X (e :: es) t)
    (hd : (x == ("__debug__" : Str)) = false := by decide) (hcd : (x == ("__classdict__" : Str)) = false := by decide)
    (he : starEach (e :: es) X.env = (false, eval e X.env) :: starEach es X.env := by rfl) (hpl : (backTo pos (starEach es X.env)).any (·.1) = false := by rfl) :
    PE X (.Call (.Name x p) (e :: es) [] pos) (tCallLam X.prog X.w X.K X.mg X.base k i D g t) := by
  refine ⟨fun pins s σ H Q I h => ?_⟩
  obtain ⟨f, hs, hf, ht⟩ := h
  refine wpAny_Call_Name_kw (thn ((pe_var (pos := p) hN hv hd hcd).run pins s σ H (fun v H1 => v = .ref f ∧ H1 = H) I ⟨.ref f, hs, rfl, rfl⟩) fun u s1 ⟨v, H1, I1, r1, q1⟩ => ?_)
  obtain ⟨ev, eH⟩ := q1
  subst ev
  rw [eH] at I1
  obtain rfl : u = Value.ref f := r1
  obtain ⟨F, b, ps, hf1, _⟩ := hf.ex
  refine PySem.W.callWith_F (first := []) (lam_fnAt I1 hf1) (thn (ha.run pos pins s1 σ H _ I1 ht) fun us s2 ⟨vs, H2, I2, r, h1, h2, q⟩ => ⟨?_, ?_⟩) he hpl
  · obtain ⟨F2, b2, ps2, hf2, _⟩ := h1.ex
    exact lam_fnAt I2 hf2
  · show wpAny _ _ (call (.ref f) us) _ _ _
    exact run_lam I2 hr h1 r h2 q
end
/-- the same, where the context's parts are named from without (in a block) -/
theorem pe_callLamB {X : Cx} {i k : Nat} {x : Str} {p pos : Pos} {e : Expr} {es : List Expr} {t : TA} (P : Program) (w : World) (K : PySem.W.Frag) (mg : Str → Option Value) (base : Heap) (D : List V → Prop) (g : List V → V) (eX : X.prog = P ∧ X.w = w ∧ X.K = K ∧ X.mg = mg ∧ X.base = base) (hr : Room k X.A) (hN : X.N[i]? = some x) (hv : Vis X.env.scope x) (ha : PA X (e :: es) t)
    (hd : (x == ("__debug__" : Str)) = false := by decide) (hcd : (x == ("__classdict__" : Str)) = false := by decide)
    (he : starEach (e :: es) X.env = (false, eval e X.env) :: starEach es X.env := by rfl) (hpl : (backTo pos (starEach es X.env)).any (·.1) = false := by rfl) :
    PE X (.Call (.Name x p) (e :: es) [] pos) (tCallLam P w K mg base k i D g t) := by
  obtain ⟨rfl, rfl, rfl, rfl, rfl⟩ := eX
  exact pe_callLam hr hN hv ha hd hcd he hpl
/-! ### a lambda that captures one name of its maker's: the cell stands locked while the callee runs -/
/-- the cell at c holds v -/
def CellH (H : Hp) (c : Addr) (v : V) : Prop := ∃ (o : Obj) (u : Value), H c = some (.frz o (.own 0)) ∧ o.data = .cell (some u) ∧ RelV v u
def spC (m : V) (D : List V → Prop) (g : List V → V) : List (Option V) → Sp := fun ws vs H Q _ => ws = [some m] ∧ D vs ∧ Q (g vs) H
structure LFnC (P : Program) (w : World) (K : PySem.W.Frag) (mg : Str → Option Value) (base : Heap) (k : Nat) (H : Hp) (f : Addr) (D : List V → Prop) (g : List V → V) : Prop where
  ex : ∃ (F : NF) (e : Expr) (ps : List Str) (y : Str) (c0 : Addr) (m : V), H f = some (LamO f F e) ∧ H F.c = some (CodeO F.c F.qual) ∧ F.cl = [(y, c0)] ∧ CellH H c0 m ∧ LOk P w K mg base k f F e ps [y] (spC m D g)
theorem CellH.ext {H H' : Hp} {c : Addr} {v : V} (h : CellH H c v) (x : ExtN H H') : CellH H' c v := by
  obtain ⟨o, u, h1, h2, h3⟩ := h
  exact ⟨o, u, x _ _ h1 (fun ps z => by cases z), h2, h3⟩
theorem LFnC.ext {P : Program} {w : World} {K : PySem.W.Frag} {mg : Str → Option Value} {base : Heap} {k : Nat} {H H' : Hp} {f : Addr} {D : List V → Prop} {g : List V → V} (L : LFnC P w K mg base k H f D g) (x : ExtN H H') : LFnC P w K mg base k H' f D g := by
  obtain ⟨F, e, ps, y, c0, m, h1, h2, h3, h4, h5⟩ := L.ex
  exact ⟨F, e, ps, y, c0, m, x _ _ h1 (fun ps z => by unfold LamO at z; cases z), x _ _ h2 codeO_ne, h3, h4.ext x, h5⟩
/-- the heap without what is told at c -/
def cut (c : Addr) (H : Hp) : Hp := fun b => if b = c then none else H b
theorem cut_at (c : Addr) (H : Hp) : cut c H c = none := if_pos rfl
theorem cut_ne {c b : Addr} {H : Hp} (h : b ≠ c) : cut c H b = H b := if_neg h
theorem cut_some {c b : Addr} {H : Hp} {o : HO} (h : cut c H b = some o) : b ≠ c ∧ H b = some o := by
  unfold cut at h
  split at h
  · cases h
  · rename_i n; exact ⟨n, h⟩
section
variable {P : Program} {w : World} {H : Hp} {h : Heap} {c : Addr} {o : Obj}
/-- a locked thing left out, taken in -/
theorem hok_cut (ok : HOk P w H h) (hc : H c = some (.frz o (.own 0))) : HOk P w (cut c H) h := fun a u e => by
  obtain ⟨n, e'⟩ := cut_some e
  refine (ok a u e').stay (fun b z _ q => q) (fun b q => ?_) fun b xs q => ?_
  · rw [cut_ne (fun z => by rw [z, hc] at q; cases q)]; exact q
  · rw [cut_ne (fun z => by rw [z, hc] at q; cases q)]; exact q
theorem hok_lock (ok : HOk P w H h) (hc : H c = none) (ho : h.get? c = some o) : HOk P w (upd H c (.frz o (.own 0))) h := fun a u e => by
  by_cases n : a = c
  · rw [n, upd_same] at e
    cases e
    rw [n]
    exact ⟨ho, ⟨o, ho⟩⟩
  · rw [upd_ne n] at e
    refine (ok a u e).stay (fun b z _ q => q) (fun b q => ?_) fun b xs q => ?_
    · rw [upd_ne (ne_of_none q hc)]; exact q
    · rw [upd_ne (ne_of_none q hc)]; exact q
theorem hok_back (ok : HOk P w (cut c H) h) (hc : H c = some (.frz o (.own 0))) (ho : h.get? c = some o) : HOk P w H h := fun a u e => by
  by_cases n : a = c
  · rw [n, hc] at e
    cases e
    rw [n]
    exact ⟨ho, ⟨o, ho⟩⟩
  · refine (ok a u (by rw [cut_ne n]; exact e)).stay (fun b z _ q => q) (fun b q => (cut_some q).2) fun b xs q => (cut_some q).2
end
section
variable {X : Cx} {i k : Nat} {x : Str} {p pos : Pos} {e : Expr} {es : List Expr} {t : TA} {D : List V → Prop} {g : List V → V}
theorem run_lamC {pins : List (Addr × Obj)} {σ : L2.St} {H : Hp} {s : Shared} {Q : VK} {f : Addr} {us : List Value} {vs : List V} (I : Inv X pins σ H s) (hr : Room k X.A) (L : LFnC X.prog X.w X.K X.mg X.base k H f D g) (r : Vals vs us) (hD : D vs) (q : Q (g vs) H) :
    wpAny (model X.prog X.w) X.A (call (.ref f) us) (EP X pins σ Q) X.xe s := by
  obtain ⟨F, b, ps, y, c0, m, h1, h2, h3, ⟨oc, u, hc, hd, hr'⟩, h5⟩ := L.ex
  have e0 := I.env0
  have nfr : c0 ∉ frs X.stack := fun z => by
    have q := I.stkFree c0 z
    rw [hc] at q; cases q
  obtain ⟨ho, _⟩ : s.heap.get? c0 = some oc ∧ True := ⟨(I.hok c0 _ hc).1, trivial⟩
  have hcut : ∀ b, H b = none → cut c0 H b = none := fun b z => by
    unfold cut; split
    · rfl
    · exact z
  have e1 : Env0 X.prog X.w X.K X.mg X.base X.A X.stack s (cut c0 H) := ⟨e0.frames, e0.mod, fun b o z => ⟨(e0.bs b o z).1, hcut b (e0.bs b o z).2⟩, e0.bsz, e0.funs, fun b z => hcut b (e0.frf b z), hok_cut e0.hok hc, e0.bare⟩
  have C : CellsAt F.cl [y] [some m] s.heap (cut c0 H) := by
    rw [h3]
    refine ⟨rfl, fun z c e => ?_, fun a b c ea eb => ?_, fun j z e => ?_⟩
    · by_cases n : z = y
      · have e' : c = c0 := by
          rw [n] at e; simp at e; exact e.symm
        rw [e']
        exact ⟨cut_at _ _, _, oc, ho, hd⟩
      · rw [List.lookup_cons, show (z == y) = false from beq_false_of_ne n] at e
        simp at e
    · have one : ∀ z, ([(y, c0)] : List (Str × Addr)).lookup z = some c → z = y := fun z e => by
        rw [List.lookup_cons] at e
        split at e
        · rename_i q; exact eq_of_beq q
        · simp at e
      rw [one a ea, one b eb]
    · cases j with
      | zero =>
        have e' : z = y := (Option.some.inj e).symm
        rw [e']
        refine ⟨c0, by simp, fun v ev => ?_⟩
        have ev' : m = v := Option.some.inj (Option.some.inj ev)
        rw [← ev']
        exact ⟨u, hr', oc, ho, hd⟩
      | succ j => simp at e
  refine wpAny_call (codeAny_mono (h5.run X.A X.stack s (cut c0 H) us vs [some m] (fun v H' => H' = cut c0 H ∧ v = g vs) hr e1 (lamO_at I.hok h1) (codeO_at I.hok h2) C r ⟨rfl, hD, rfl, rfl⟩) fun r s' hq => ?_)
  cases r with
  | error e => exact (show False from hq).elim
  | ok fl =>
    cases fl with
    | next => exact False.elim hq
    | brk => exact False.elim hq
    | cont => exact False.elim hq
    | ret u' =>
      obtain ⟨v, H', os, bare, un, hok, rv, eH, ev⟩ := hq
      subst eH
      subst ev
      have ho' : s'.heap.get? c0 = some oc := un.keep c0 oc ho (cut_at _ _) nfr (by simp)
      refine I.after ⟨g vs, H, os, bare, ⟨fun b o a n f x => un.keep b o a (hcut b n) f x, fun b o a n f x => un.slot b o a (hcut b n) f x, fun b o a n x => n, fun b o a x => un.there b o a x, fun b xs z => z, fun b o u z => z, fun b ps z => ⟨#[], by simpa using z⟩⟩, hok_back hok hc ho', rv, q⟩
def tCallLamC (P : Program) (w : World) (K : PySem.W.Frag) (mg : Str → Option Value) (base : Heap) (k i : Nat) (D : List V → Prop) (g : List V → V) (t : TA) : TE := fun σ H Q => ∃ f, σ[i]? = some (some (.ref f)) ∧ LFnC P w K mg base k H f D g ∧
  t σ H fun vs H1 => LFnC P w K mg base k H1 f D g ∧ D vs ∧ Q (g vs) H1
theorem pe_callLamC (hr : Room k X.A) (hN : X.N[i]? = some x) (hv : Vis X.env.scope x) (ha : PA X (e :: es) t)
    (hd : (x == ("__debug__" : Str)) = false := by decide) (hcd : (x == ("__classdict__" : Str)) = false := by decide)
    (he : starEach (e :: es) X.env = (false, eval e X.env) :: starEach es X.env := by rfl) (hpl : (backTo pos (starEach es X.env)).any (·.1) = false := by rfl) :
    PE X (.Call (.Name x p) (e :: es) [] pos) (tCallLamC X.prog X.w X.K X.mg X.base k i D g t) := by
  refine ⟨fun pins s σ H Q I h => ?_⟩
  obtain ⟨f, hs, hf, ht⟩ := h
  refine wpAny_Call_Name_kw (thn ((pe_var (pos := p) hN hv hd hcd).run pins s σ H (fun v H1 => v = .ref f ∧ H1 = H) I ⟨.ref f, hs, rfl, rfl⟩) fun u s1 ⟨v, H1, I1, r1, q1⟩ => ?_)
  obtain ⟨ev, eH⟩ := q1
  subst ev
  rw [eH] at I1
  obtain rfl : u = Value.ref f := r1
  obtain ⟨F, b, ps, y, c0, m, hf1, _⟩ := hf.ex
  refine PySem.W.callWith_F (first := []) (lam_fnAt I1 hf1) (thn (ha.run pos pins s1 σ H _ I1 ht) fun us s2 ⟨vs, H2, I2, r, h1, h2, q⟩ => ⟨?_, ?_⟩) he hpl
  · obtain ⟨F2, b2, ps2, y2, c2, m2, hf2, _⟩ := h1.ex
    exact lam_fnAt I2 hf2
  · show wpAny _ _ (call (.ref f) us) _ _ _
    exact run_lamC I2 hr h1 r h2 q
theorem pe_callLamCB {X : Cx} {i k : Nat} {x : Str} {p pos : Pos} {e : Expr} {es : List Expr} {t : TA} (P : Program) (w : World) (K : PySem.W.Frag) (mg : Str → Option Value) (base : Heap) (D : List V → Prop) (g : List V → V) (eX : X.prog = P ∧ X.w = w ∧ X.K = K ∧ X.mg = mg ∧ X.base = base) (hr : Room k X.A) (hN : X.N[i]? = some x) (hv : Vis X.env.scope x) (ha : PA X (e :: es) t)
    (hd : (x == ("__debug__" : Str)) = false := by decide) (hcd : (x == ("__classdict__" : Str)) = false := by decide)
    (he : starEach (e :: es) X.env = (false, eval e X.env) :: starEach es X.env := by rfl) (hpl : (backTo pos (starEach es X.env)).any (·.1) = false := by rfl) :
    PE X (.Call (.Name x p) (e :: es) [] pos) (tCallLamC P w K mg base k i D g t) := by
  obtain ⟨rfl, rfl, rfl, rfl, rfl⟩ := eX
  exact pe_callLamC hr hN hv ha hd hcd he hpl
/-! ### a def called while a cell of the running frame stands locked -/
/-- j: the slot of the captured name y -/
def tCallCell (X : Cx) (y : Str) (j : Nat) (sp : Sp) (t : TA) : TE := fun σ H Q => t σ H fun vs H1 => ∃ m, σ[j]? = some (some m) ∧ ∀ (c0 : Addr) (o : Obj) (u : Value), X.env.cells.lookup y = some c0 → H1 c0 = none → o.data = .cell (some u) → RelV m u →
  sp vs (upd H1 c0 (.frz o (.own 0))) (fun v H2 => Q v (cut c0 H2)) E0
theorem pe_callCell {y : Str} {j k : Nat} {sp : Sp} (c : Cal X.prog X.w X.K X.mg X.base k x sp []) {jr : Nat} (hr : Room jr X.A) (hk : k ≤ jr) (hg : Gl X x) (ha : PA X (e :: es) t) (hfn : ∀ z, X.fn z = true) (hN : X.N[j]? = some y) (hy : X.env.scope.names.lookup y = some .cell)
    (hdb : (x == ("__debug__" : Str)) = false := by decide) (he : starEach (e :: es) X.env = (false, eval e X.env) :: starEach es X.env := by rfl) (hpl : (backTo pos (starEach es X.env)).any (·.1) = false := by rfl) :
    PE X (.Call (.Name x p) (e :: es) [] pos) (tCallCell X y j sp t) := by
  obtain ⟨f, fd, ps, ds, Fk, hm, hkp, hb, hd⟩ := c.ex
  refine ⟨fun pins s σ H Q I h => ?_⟩
  refine wpAny_Call_Name_kw (ld_glob I hg hm ?_ hdb)
  refine PySem.W.callWith_K (h₀ := X.base) I.ok.mod.kin hkp (thn (ha.run pos pins s σ H _ I h) fun us s1 ⟨vs, H1, I1, r, m, hσ, q⟩ => ⟨I1.kIn, ?_⟩) he hpl
  obtain ⟨mm, hn, hl⟩ := I1.loc
  obtain ⟨u, ru, lk⟩ := hl j y m hN hσ (.inr (.inl hy))
  obtain ⟨c0, hc0, oc, ho, hd'⟩ : ∃ c, X.env.cells.lookup y = some c ∧ s1.heap.IsCell c (some u) := by
    rcases lk with ⟨z, _⟩ | ⟨_, z⟩
    · have z' : X.env.scope.names.lookup y = some .local := z
      rw [hy] at z'; cases z'
    · exact z
  have n1 : H1 c0 = none := I1.freeC y c0 hc0
  have above : X.s_0.heap.objs.size ≤ c0 := I1.ok.cab y c0 (hfn y) hc0
  have nfs : c0 ∉ X.fs := fun z => by
    obtain ⟨_, ob, hob, _⟩ := I1.ok.funs.mem z
    exact absurd (Nat.lt_of_lt_of_le (Heap.lt_size hob) above) (Nat.lt_irrefl _)
  have nfr : c0 ∉ frs X.stack := fun z => by
    rcases List.mem_cons.mp (I1.stkSub c0 z) with w | w
    · exact I1.cne y c0 hc0 w
    · exact nfs w
  have nbase : ∀ o, X.base.get? c0 ≠ some o := fun o z => by
    have z' := (I1.ok.bs c0 o z).1
    exact absurd (Nat.lt_of_lt_of_le (Heap.lt_size z') above) (Nat.lt_irrefl _)
  have e0 := I1.env0
  have e1 : Env0 X.prog X.w X.K X.mg X.base X.A X.stack s1 (upd H1 c0 (.frz oc (.own 0))) := ⟨e0.frames, e0.mod, fun b o z => ⟨(e0.bs b o z).1, by rw [upd_ne (fun w => nbase o (by rw [← w]; exact z))]; exact (e0.bs b o z).2⟩, e0.bsz, e0.funs, fun b z => by rw [upd_ne (fun w => nfr (by rw [← w]; exact z))]; exact e0.frf b z, hok_lock e0.hok n1 ho, e0.bare⟩
  have nb : ∀ b, H1 b = none → b ≠ c0 → upd H1 c0 (.frz oc (.own 0)) b = none := fun b z n => by rw [upd_ne n]; exact z
  have hlen : (us ++ ds).length = ps.length := by
    have q1 := Fk.len _ _ _ _ (q c0 oc u hc0 n1 hd' ru)
    have q2 := hd.length
    rw [List.length_append, ← r.length, ← q2, q1]; rfl
  have rr : Vals vs (us ++ ds) := by
    cases hd
    rw [List.append_nil]
    exact r
  refine wpAny_call (codeAny_mono (Fk.run X.A X.stack s1 _ ⟨us, []⟩ (us ++ ds) vs _ E0 (hr.mono hk) e1 (hb s1 us I1.kIn hlen) rr (q c0 oc u hc0 n1 hd' ru)) fun r s' hq => ?_)
  cases r with
  | error e => exact (show False from hq).elim
  | ok fl =>
    cases fl with
    | next => exact False.elim hq
    | brk => exact False.elim hq
    | cont => exact False.elim hq
    | ret u' =>
      obtain ⟨v, H2, os, bare, un, hok, rv, qq⟩ := hq
      have hc2 : H2 c0 = some (.frz oc (.own 0)) := un.frzs c0 oc _ upd_same
      have ho2 : s'.heap.get? c0 = some oc := (hok c0 _ hc2).1
      refine I1.after ⟨v, cut c0 H2, os, bare, ⟨fun b o a n f x => ?_, fun b o a n f x => ?_, fun b o a n x => ?_, fun b o a x => un.there b o a x, fun b xs z => ?_, fun b o u z => ?_, fun b ps z => ?_⟩, hok_cut hok hc2, rv, qq⟩
      · by_cases hb : b = c0
        · rw [hb] at a ⊢
          rw [ho] at a
          cases a
          exact ho2
        · exact un.keep b o a (nb b n hb) f x
      · exact un.slot b o a (nb b n (fun w => nfr (by rw [← w]; exact f))) f x
      · unfold cut
        split
        · rfl
        · rename_i hb
          exact un.free b o a (nb b n hb) x
      · have hb : b ≠ c0 := ne_of_none z n1
        rw [cut_ne hb]
        exact un.tups b xs (by rw [upd_ne hb]; exact z)
      · have hb : b ≠ c0 := ne_of_none z n1
        rw [cut_ne hb]
        exact un.frzs b o u (by rw [upd_ne hb]; exact z)
      · have hb : b ≠ c0 := ne_of_none z n1
        rw [cut_ne hb]
        exact un.tbls b ps (by rw [upd_ne hb]; exact z)
end
end KD
end

section
set_option Elab.async false
set_option linter.all false
set_option maxRecDepth 100000
set_option maxHeartbeats 4000000
/-! pairs sorted by their texts -/
namespace KD
open PySem PySem.Spec PyProof.Rows C8 LamX NdefX
open L2 hiding CX0 E0 pass0 Fun
open PySem.W (EachIs AllAlike Sortable dataLe dataLt alike alikeAll sorted_data sorted_key_data)
/-- a text before another -/
abbrev SLt (x y : Str) : Prop := x.cps.toList < y.cps.toList
theorem SLt.trans {x y z : Str} (h : SLt x y) (g : SLt y z) : SLt x z := List.lt_trans h g
theorem SLt.irr (x : Str) : ¬ SLt x x := List.lt_irrefl _
theorem str_ext {x y : Str} (h : x.cps.toList = y.cps.toList) : x = y := by
  cases x; cases y
  congr 1
  exact Array.toList_inj.mp h
theorem SLt.of_not {x y : Str} (h : ¬ SLt y x) (n : x ≠ y) : SLt x y := by
  rcases List.le_iff_lt_or_eq.mp (List.not_lt.mp h) with z | z
  · exact z
  · exact absurd (str_ext z) n
theorem SLt.ne {x y : Str} (h : SLt x y) : x ≠ y := fun e => SLt.irr x (by rw [← e] at h; exact h)
theorem rising_lt : ∀ (p : Str) (l : List Str), risingS p l = true → (p :: l).Nodup → (p :: l).Pairwise SLt
  | p, [], _, _ => by simp
  | p, x :: r, h, d => by
    have h' : (!ltCps x.cps.toList p.cps.toList && risingS x r) = true := h
    rw [Bool.and_eq_true] at h'
    obtain ⟨d1, d2⟩ := List.nodup_cons.mp d
    have ih := rising_lt x r h'.2 d2
    have hpx : SLt p x := SLt.of_not (fun z => by
      have q := h'.1
      rw [ltCps_eq, decide_eq_true (show x.cps.toList < p.cps.toList from z)] at q
      cases q) (fun e => d1 (by rw [e]; exact List.mem_cons_self))
    refine List.pairwise_cons.mpr ⟨fun y hy => ?_, ih⟩
    rcases List.mem_cons.mp hy with e | e
    · rw [e]; exact hpx
    · exact hpx.trans ((List.pairwise_cons.mp ih).1 y e)
theorem sortedS_lt {l : List Str} (h : sortedS l = true) (d : l.Nodup) : l.Pairwise SLt := by
  cases l with
  | nil => exact .nil
  | cons x r => exact rising_lt x r h d
/-- one sorted list for the same members -/
theorem sorted_same : ∀ {l m : List Str}, l.Pairwise SLt → m.Pairwise SLt → (∀ x, x ∈ l ↔ x ∈ m) → l = m
  | [], [], _, _, _ => rfl
  | [], y :: m, _, _, h => absurd ((h y).2 List.mem_cons_self) (by simp)
  | x :: l, [], _, _, h => absurd ((h x).1 List.mem_cons_self) (by simp)
  | x :: l, y :: m, hl, hm, h => by
    obtain ⟨l1, l2⟩ := List.pairwise_cons.mp hl
    obtain ⟨m1, m2⟩ := List.pairwise_cons.mp hm
    have e : x = y := by
      rcases List.mem_cons.mp ((h x).1 List.mem_cons_self) with z | z
      · exact z
      · rcases List.mem_cons.mp ((h y).2 List.mem_cons_self) with z2 | z2
        · exact z2.symm
        · exact absurd ((l1 y z2).trans (m1 x z)) (SLt.irr x)
    rw [e]
    refine congrArg _ (sorted_same l2 m2 fun z => ⟨fun q => ?_, fun q => ?_⟩)
    · rcases List.mem_cons.mp ((h z).1 (List.mem_cons_of_mem _ q)) with w | w
      · exact absurd (l1 z q) (by rw [w, e]; exact SLt.irr y)
      · exact w
    · rcases List.mem_cons.mp ((h z).2 (List.mem_cons_of_mem _ q)) with w | w
      · exact absurd (m1 z q) (by rw [w, e]; exact SLt.irr y)
      · exact w
theorem slt_nodup {l : List Str} (h : l.Pairwise SLt) : l.Nodup := h.imp fun q => SLt.ne q
/-- the sorted list by data, where its texts are unlike -/
theorem merged_lt {β : Type} {enc : β → PyData} {nm : β → Str} {bs : List β} (d : (bs.map nm).Nodup) (hlt : ∀ a b, nm a ≠ nm b → dataLt (enc a) (enc b) = decide (SLt (nm a) (nm b))) :
    (bs.mergeSort (dataLe false enc)).Perm bs ∧ ((bs.mergeSort (dataLe false enc)).map nm).Pairwise SLt := by
  have pm := List.mergeSort_perm bs (dataLe false enc)
  have pw := PySem.W.sort_pairwise (PySem.W.sortLe_total (listOrd itemOrd) false fun b => PySem.W.keyToks (enc b)) bs
  refine ⟨pm, ?_⟩
  have d2 : ((bs.mergeSort (dataLe false enc)).map nm).Nodup := (pm.map nm).nodup_iff.mpr d
  rw [List.pairwise_map]
  have d3 : (bs.mergeSort (dataLe false enc)).Pairwise (fun a b => nm a ≠ nm b) := List.pairwise_map.mp d2
  have pw' : (bs.mergeSort (dataLe false enc)).Pairwise (fun a b => dataLe false enc a b = true) := pw
  refine List.Pairwise.imp₂ (fun a b h1 h2 => ?_) pw' d3
  have e : dataLe false enc a b = !dataLt (enc b) (enc a) := rfl
  rw [e, hlt b a (Ne.symm h2)] at h1
  exact SLt.of_not (fun z => by rw [decide_eq_true z] at h1; cases h1) h2
/-! ### sorted(pairs) -/
theorem str_eqv {x y : Str} (h : x ≠ y) : ¬ PyData.eqv (.str x) (.str y) = true := by
  simp only [PyData.eqv, beq_iff_eq]
  exact h
theorem pair_lt {x y : Str} {i j : Int} (h : x ≠ y) : dataLt (.tuple [.str x, .int i]) (.tuple [.str y, .int j]) = decide (SLt x y) := by
  rw [PySem.W.dataLt_pair (by simp [alike]) (by simp [alike]), if_neg (str_eqv h), PySem.W.dataLt_str]
section
variable {β : Type} {f : β → Addr}
theorem each_refs {g : Addr → V} : ∀ {xs : List V} {us : List Value} {bs : List β}, xs = bs.map (fun b => V.ref (f b)) → Vals xs us → EachIs (fun v b => v = Value.ref (f b)) us bs
  | _, _, [], e, r => by
    subst e
    cases r
    exact .nil
  | _, _, b :: bs, e, r => by
    subst e
    cases r with
    | cons r1 r2 => exact .cons r1 (each_refs (g := g) rfl r2)
theorem vals_each : ∀ {us : List Value} {bs : List β}, EachIs (fun v b => v = Value.ref (f b)) us bs → Vals (bs.map fun b => V.ref (f b)) us
  | _, _, .nil => .nil
  | _, _, .cons h t => .cons h (vals_each t)
theorem each_mono {R R' : Value → β → Prop} : ∀ {us : List Value} {bs : List β}, EachIs R us bs → (∀ v b, b ∈ bs → R v b → R' v b) → EachIs R' us bs
  | _, _, .nil, _ => .nil
  | _, _, .cons h t, k => .cons (k _ _ List.mem_cons_self h) (each_mono t fun v b hb => k v b (List.mem_cons_of_mem _ hb))
end
section
variable {X : Cx}
/-- sorted(a list of pairs (text, int)), the texts all unlike: β says of each item its address, text, number -/
def rSortP (K : PySem.W.Frag) : List V → Hp → VK → Prop := fun vs H Q => ∃ (a : Addr) (bs : List (Addr × Str × Int)), vs = [V.ref a] ∧ SqL K H a (bs.map fun b => V.ref b.1) ∧ (∀ b ∈ bs, SqT K H b.1 [.str b.2.1, .int b.2.2]) ∧ (bs.map fun b => b.2.1).Nodup ∧ bs.length < 64 ∧
  ∀ (cs : List (Addr × Str × Int)) (p : Addr), cs.Perm bs → (cs.map fun b => b.2.1).Pairwise SLt → H p = none → Q (.ref p) (upd H p (.lst (cs.map fun b => V.ref b.1)))
theorem cr_sortP (hu : X.A.units + 8 < cLine) : CallR X (.builtin "sorted") (rSortP X.K) := by
  intro pins s σ H vs us Q I r h
  obtain ⟨a, bs, rfl, hs, ht, nd, h64, q⟩ := h
  obtain ⟨its, rv, hl, hz⟩ := I.list hs
  rw [Vals.ref1 r]
  have e1 : EachIs (fun v b => v = Value.ref b.1) its bs := each_refs (f := fun b : Addr × Str × Int => b.1) (g := V.ref) rfl rv
  have e2 : EachIs (fun v b => ∃ as, Reads s.heap v (PyData.tuple [.str b.2.1, .int b.2.2]) as) its bs := each_mono e1 fun v b hb hv => by
    obtain ⟨its2, rv2, ⟨o, ho, hc, n, hd⟩, _⟩ := I.tuple (ht b hb)
    subst hv
    cases rv2 with
    | cons r1 r2 =>
      cases r2 with
      | cons r3 r4 =>
        cases r4
        obtain ⟨t1, rfl⟩ := r1
        obtain ⟨t2, rfl⟩ := r3
        exact ⟨_, Reads.tuple ho hc hd (ReadsAll.cons (Reads.str _ _) (ReadsAll.cons (Reads.int _ _) ReadsAll.nil))⟩
  refine sorted_data (enc := fun b : Addr × Str × Int => PyData.tuple [.str b.2.1, .int b.2.2]) hl.isList e1 e2 (AllAlike.of fun _ _ => by simp [alike, alikeAll]) (Sortable.tuples fun _ => ⟨_, _, rfl⟩) (small64 h64) (fun b _ => ?_) fun out ol oe => ?_
  · have e : (PyData.tuple [.str b.2.1, .int b.2.2]).depth ≤ 2 := by simp [PyData.depth, PyData.depthAll]
    omega
  · obtain ⟨ep, he'⟩ := PyProof.Rows.sortedAll_at s.heap its (List.toArray out)
    obtain ⟨m1, m2⟩ := merged_lt (enc := fun b : Addr × Str × Int => PyData.tuple [.str b.2.1, .int b.2.2]) (nm := fun b => b.2.1) (bs := bs) nd fun x y n => pair_lt n
    have hlen : ((bs.mergeSort (dataLe false fun b : Addr × Str × Int => PyData.tuple [.str b.2.1, .int b.2.2])).map fun b => V.ref b.1).length ≤ sizeLine := by rw [List.length_map, m1.length_eq]; exact small64 h64
    exact ⟨.ref _, upd H (s.heap.objs.size + 1) (.lst _), I.laid (t' := s.toks) (fun _ _ => PyProof.Rows.sortedAll_old) (Nat.le_succ _) ⟨hlen, out, ep, vals_each oe, he'⟩, rfl, q _ _ m1 m2 (I.hok.fresh (Nat.le_succ _))⟩
/-! ### sorted(pairs, key=lambda pair: pair[0]) -/
/-- the lambda's words: it takes one, and gives its first -/
structure FirstOf (F : NF) (e : Expr) (x : Str) : Prop where
  cl : F.cl = []
  sc : NScope [x] [x] [] F.scope
  bind : ∀ (pm ctv u : Value), bindArgs (PySem.W.kla_fn "<lambda>" F.qual F.params e F.scope F.cl pm (.ref F.c) ctv) ⟨[u], []⟩ = pure [(x, u)]
  text : ∃ p1 p2 p3 k, e = .Subscript (.Name x p1) (.Constant (.int 0) k p2) p3
  dbg : (x == ("__debug__" : Str)) = false
theorem first_call {P : Program} {w : World} {A : Around} {s : Shared} {F : NF} {e : Expr} {x : Str} {f t : Addr} {y : Str} {tk : Tok} {rest : List Value} {pm ctv : Value} (O : FirstOf F e x) (hd : A.depth < recursionLimit)
    (ho : s.heap.get? f = some (PySem.W.kla_obj "<lambda>" F.qual F.params e F.scope F.cl pm F.c ctv)) (hc : s.heap.CodeRec (.ref F.c) F.qual) (lim : s.heap.NoLimit) (ht : IsTup s.heap t (Value.str y tk :: rest).toArray) :
    wpAny (model P w) A (call (.ref f) [.ref t]) (PySem.W.KeyPure (.str y) s) (fun _ _ => False) s := by
  obtain ⟨p1, p2, p3, k, rfl⟩ := O.text
  refine wpAny_call (PySem.W.kla_callFunE hd ho rfl O.sc.co O.sc.gen rfl hc ?_)
  rw [O.bind pm ctv (.ref t)]
  refine wpAny_pure (wpAny_newFunctionEnv O.sc.nocell (fun z hz => ?_) (fun h1 hns hsb => ⟨lim.fresh _ hsb, ?_⟩) O.sc.kind)
  · rw [List.mem_singleton.mp hz]
    exact O.sc.par _ List.mem_cons_self
  · have kp : ∀ b o, s.heap.get? b = some o → h1.get? b = some o := fun b o q => hsb.extBut b o (Nat.ne_of_lt (Heap.lt_size q)) (Heap.get?_push_of_some _ q)
    show codeAny _ _ (.expr _ (envF F f s.heap.objs.size)) _ _
    refine PySem.W.kla_codeExpr ?_
    refine Subscript_ ?_
    refine wpAny_Name (wpAny_loadName_local (v := .ref t) (m := fun z => ([(x, Value.ref t)] : List (Str × Value)).reverse.lookup z) O.sc.kind (O.sc.par _ List.mem_cons_self) hns (by simp) ?_) O.dbg
    refine wpAny_Constant_int ?_
    obtain ⟨o2, ho2, hc2, n2, hd2⟩ := ht
    have ht2 : IsTup ({ s with heap := h1, toks := s.toks + [(x, Value.ref t)].length + 1 } : Shared).heap t (Value.str y tk :: rest).toArray := ⟨o2, kp _ _ ho2, hc2, n2, hd2⟩
    refine item_tupleT (j := 0) ht2 (by decide) (by decide) ?_ rfl ?_
    · exact PySem.StrLaws.seqIndex_nonneg (by decide) (by simp only [List.length_cons]; omega)
    · exact ⟨h1, _, rfl, kp, Reads.str _ _⟩
def rSortKey (K : PySem.W.Frag) : List V → List V → Hp → VK → Prop := fun vs zs H Q => ∃ (a f : Addr) (bs : List (Addr × Str)) (F : NF) (e : Expr) (x : Str), vs = [V.ref a] ∧ zs = [V.ref f] ∧ SqL K H a (bs.map fun b => V.ref b.1) ∧
  (∀ b ∈ bs, ∃ rest, SqT K H b.1 (.str b.2 :: rest)) ∧ (bs.map (·.2)).Nodup ∧ bs.length < 64 ∧ H f = some (LamO f F e) ∧ H F.c = some (CodeO F.c F.qual) ∧ FirstOf F e x ∧
  ∀ (cs : List (Addr × Str)) (p : Addr), cs.Perm bs → (cs.map (·.2)).Pairwise SLt → H p = none → Q (.ref p) (upd H p (.lst (cs.map fun b => V.ref b.1)))
theorem cr_sortKey (hu : X.A.units + 8 < cLine) (hd : X.A.depth < recursionLimit) : CallRK X (.builtin "sorted") [Str.ofString "key"] (rSortKey X.K) := by
  intro pins s σ H vs zs us ws Q I r rz h
  obtain ⟨a, f, bs, F, e, x, rfl, rfl, hs, ht, nd, h64, hf, hc, O, q⟩ := h
  obtain ⟨its, rv, hl, hz⟩ := I.list hs
  rw [Vals.ref1 r, Vals.ref1 rz]
  obtain ⟨pm, ctv, ho⟩ := lamO_at I.hok hf
  have hcr := codeO_at I.hok hc
  have e1 : EachIs (fun v b => v = Value.ref b.1) its bs := each_refs (f := fun b : Addr × Str => b.1) (g := V.ref) rfl rv
  show wpAny _ _ (call (.builtin "sorted") [.ref a] [(Str.ofString "key", .ref f)]) _ _ _
  refine sorted_key_data (b := false) (fun b : Addr × Str => PyData.str b.2) hl.isList e1 (AllAlike.of fun _ _ => by simp [alike]) (Sortable.others fun b => ⟨by simp, fun _ => by simp⟩) (small64 h64) (fun b _ => ?_) (PyProof.Rows.ksk_s1 _ _) (fun _ => PyProof.Rows.ksk_l1 _ _) (fun _ => PyProof.Rows.ksk_t1 _ _) (fun v b hv hb h tk keep => ?_) fun out c h' tk keep hn ho' ol oe => ?_
  · have e : (PyData.str b.2).depth = 0 := by simp [PyData.depth]
    omega
  · subst hv
    obtain ⟨rest, hr⟩ := ht b hb
    obtain ⟨its2, rv2, ⟨o, ho2, hc2, n, hd2⟩, _⟩ := I.tuple hr
    cases rv2 with
    | cons r1 r2 =>
      obtain ⟨t1, rfl⟩ := r1
      exact first_call (s := { s with heap := h, toks := tk }) O hd (keep _ _ ho) (hcr.keeps keep) (I.nolimit.keeps keep) ⟨o, keep _ _ ho2, hc2, n, hd2⟩
  · obtain ⟨m1, m2⟩ := merged_lt (enc := fun b : Addr × Str => PyData.str b.2) (nm := (·.2)) (bs := bs) nd fun x y n => by rw [PySem.W.dataLt_str]
    have hlen : ((bs.mergeSort (dataLe false fun b : Addr × Str => PyData.str b.2)).map fun b => V.ref b.1).length ≤ sizeLine := by rw [List.length_map, m1.length_eq]; exact small64 h64
    exact ⟨.ref _, upd H (s.heap.objs.size + 1) (.lst _), I.laid (t' := tk) keep (Nat.le_succ _) ⟨hlen, out, c, vals_each oe, ho'⟩, rfl, q _ _ m1 m2 (I.hok.fresh (Nat.le_succ _))⟩
end
end KD
end

section
set_option Elab.async false
set_option linter.all false
set_option maxRecDepth 100000
set_option maxHeartbeats 4000000
/-! wants, tills, turns in plain words -/
namespace KD
open PySem PySem.Spec PyProof.Rows
/-! ### rows by names -/
section
variable {β : Type}
theorem pairs_same : ∀ {l m : List (Str × β)}, (l.map (·.1)).Pairwise SLt → (m.map (·.1)).Pairwise SLt → (∀ p, p ∈ l ↔ p ∈ m) → l = m
  | [], [], _, _, _ => rfl
  | [], y :: m, _, _, h => absurd ((h y).2 List.mem_cons_self) (by simp)
  | x :: l, [], _, _, h => absurd ((h x).1 List.mem_cons_self) (by simp)
  | x :: l, y :: m, hl, hm, h => by
    rw [List.map_cons] at hl hm
    obtain ⟨l1, l2⟩ := List.pairwise_cons.mp hl
    obtain ⟨m1, m2⟩ := List.pairwise_cons.mp hm
    have e : x = y := by
      rcases List.mem_cons.mp ((h x).1 List.mem_cons_self) with z | z
      · exact z
      · rcases List.mem_cons.mp ((h y).2 List.mem_cons_self) with z2 | z2
        · exact z2.symm
        · exact absurd (SLt.trans (l1 y.1 (List.mem_map.mpr ⟨y, z2, rfl⟩)) (m1 x.1 (List.mem_map.mpr ⟨x, z, rfl⟩))) (SLt.irr x.1)
    rw [e]
    refine congrArg _ (pairs_same l2 m2 fun z => ⟨fun q => ?_, fun q => ?_⟩)
    · rcases List.mem_cons.mp ((h z).1 (List.mem_cons_of_mem _ q)) with w | w
      · exact absurd (l1 z.1 (List.mem_map.mpr ⟨z, q, rfl⟩)) (by rw [w, e]; exact SLt.irr y.1)
      · exact w
    · rcases List.mem_cons.mp ((h z).2 (List.mem_cons_of_mem _ q)) with w | w
      · exact absurd (m1 z.1 (List.mem_map.mpr ⟨z, q, rfl⟩)) (by rw [w, e]; exact SLt.irr y.1)
      · exact w
theorem lookup_mem {x : Str} {v : β} : ∀ {l : List (Str × β)}, (l.map (·.1)).Nodup → (l.lookup x = some v ↔ (x, v) ∈ l)
  | [], _ => by simp
  | (y, u) :: l, d => by
    rw [List.map_cons] at d
    obtain ⟨d1, d2⟩ := List.nodup_cons.mp d
    rw [List.lookup_cons, List.mem_cons]
    by_cases h : x = y
    · subst h
      simp only [beq_self_eq_true]
      constructor
      · intro e; exact .inl (by rw [Option.some.inj e])
      · rintro (e | e)
        · rw [(Prod.mk.inj e).2]
        · exact absurd (List.mem_map.mpr ⟨(x, v), e, rfl⟩) d1
    · rw [show (x == y) = false from beq_false_of_ne h]
      simp only
      rw [lookup_mem d2]
      exact ⟨.inr, fun z => z.elim (fun e => absurd (Prod.mk.inj e).1 h) id⟩
theorem lookup_none {x : Str} : ∀ {l : List (Str × β)}, l.lookup x = none ↔ x ∉ l.map (·.1)
  | [] => by simp
  | (y, u) :: l => by
    rw [List.lookup_cons, List.map_cons, List.mem_cons]
    by_cases h : x = y
    · subst h; simp
    · rw [show (x == y) = false from beq_false_of_ne h]
      simp only
      rw [lookup_none]
      exact ⟨fun z q => q.elim h z, fun z q => z (.inr q)⟩
end
/-- a rest, and a row by names of what differs from it -/
structure Tab (β : Type) where
  rest : β
  own : List (Str × β)
section
variable {β : Type} [DecidableEq β]
def Tab.at (T : Tab β) (x : Str) : β := (T.own.lookup x).getD T.rest
structure Tab.Ok (T : Tab β) : Prop where
  so : (T.own.map (·.1)).Pairwise SLt
  ne : ∀ p ∈ T.own, p.2 ≠ T.rest
theorem Tab.Ok.mem {T : Tab β} (h : T.Ok) (x : Str) (v : β) : (x, v) ∈ T.own ↔ T.at x = v ∧ v ≠ T.rest := by
  have nd := slt_nodup h.so
  rw [← lookup_mem nd]
  unfold Tab.at
  constructor
  · intro e
    exact ⟨by rw [e]; rfl, h.ne (x, v) ((lookup_mem nd).1 e)⟩
  · rintro ⟨e, n⟩
    cases q : T.own.lookup x with
    | none => rw [q] at e; exact absurd e.symm n
    | some u => rw [q] at e; exact congrArg some e
theorem tab_ext {T U : Tab β} (h : T.Ok) (g : U.Ok) (e : T.rest = U.rest) (a : ∀ x, T.at x = U.at x) : T = U := by
  have q : T.own = U.own := pairs_same h.so g.so fun p => by
    rw [show p = (p.1, p.2) from rfl, h.mem, g.mem, a, e]
  cases T; cases U
  simp only at e q
  rw [e, q]
/-- what set_till, set_turn make of a row -/
theorem tab_made {r : β} {L cs : List (Str × β)} (nd : (L.map (·.1)).Nodup) (pm : cs.Perm (L.filter fun p => decide (p.2 ≠ r))) (so : (cs.map (·.1)).Pairwise SLt) :
    (Tab.mk r cs).Ok ∧ ∀ x, (Tab.mk r cs).at x = (L.lookup x).getD r := by
  have ne : ∀ p ∈ cs, p.2 ≠ r := fun p hp => by
    have z := (List.mem_filter.mp (pm.mem_iff.mp hp)).2
    exact of_decide_eq_true z
  refine ⟨⟨so, ne⟩, fun x => ?_⟩
  have nd2 := slt_nodup so
  show (cs.lookup x).getD r = _
  cases q : L.lookup x with
  | none =>
    have n := lookup_none.1 q
    have z : cs.lookup x = none := lookup_none.2 fun m => by
      obtain ⟨p, hp, e⟩ := List.mem_map.mp m
      exact n (List.mem_map.mpr ⟨p, (List.mem_filter.mp (pm.mem_iff.mp hp)).1, e⟩)
    rw [z]
  | some v =>
    have hm := (lookup_mem nd).1 q
    by_cases hv : v = r
    · have z : cs.lookup x = none := lookup_none.2 fun m => by
        obtain ⟨p, hp, e⟩ := List.mem_map.mp m
        have hp2 := (List.mem_filter.mp (pm.mem_iff.mp hp)).1
        have e2 : (x, p.2) ∈ L := by rw [← e]; exact hp2
        have e3 := ((lookup_mem nd).2 e2).symm.trans q
        exact ne p hp (by rw [Option.some.inj e3, hv])
      rw [z, hv]
      rfl
    · have z : cs.lookup x = some v := (lookup_mem nd2).2 (pm.mem_iff.mpr (List.mem_filter.mpr ⟨hm, decide_eq_true hv⟩))
      rw [z]
theorem lookup_map (h : Str → β) {x : Str} : ∀ {ns : List Str}, (ns.map fun n => (n, h n)).lookup x = if x ∈ ns then some (h x) else none
  | [] => by simp
  | n :: ns => by
    rw [List.map_cons, List.lookup_cons]
    by_cases e : x = n
    · subst e; simp
    · rw [show (x == n) = false from beq_false_of_ne e]
      simp only
      rw [lookup_map h]
      simp [e]
/-- a row over names that cover where h is not the rest -/
theorem at_of_names {r : β} {h : Str → β} {ns : List Str} (cov : ∀ x, x ∉ ns → h x = r) (x : Str) : ((ns.map fun n => (n, h n)).lookup x).getD r = h x := by
  rw [lookup_map]
  by_cases e : x ∈ ns
  · rw [if_pos e]; rfl
  · rw [if_neg e, cov x e]; rfl
theorem Tab.at_rest {T : Tab β} {x : Str} (h : x ∉ T.own.map (·.1)) : T.at x = T.rest := by
  unfold Tab.at
  rw [lookup_none.2 h]
  rfl
end
/-! ### wants -/
structure WantD where
  names : List Str
  but : Bool
def WantD.Ok (W : WantD) : Prop := W.names.Pairwise SLt
def WantD.has (W : WantD) (x : Str) : Bool := xor (decide (x ∈ W.names)) W.but
theorem want_ext {W U : WantD} (h : W.Ok) (g : U.Ok) (e : W.but = U.but) (a : ∀ x, W.has x = U.has x) : W = U := by
  have q : W.names = U.names := sorted_same h g fun x => by
    have z := a x
    unfold WantD.has at z
    rw [e] at z
    by_cases h1 : x ∈ W.names <;> by_cases h2 : x ∈ U.names <;> simp [h1, h2] at z ⊢
  cases W; cases U
  simp only at e q
  rw [e, q]
theorem has_out {W : WantD} {x : Str} (h : x ∉ W.names) : W.has x = W.but := by
  unfold WantD.has
  rw [decide_eq_false h]
  cases W.but <;> rfl
/-- the names where g differs from the rest, over names that cover -/
theorem want_filter {ns cs : List Str} {r : Bool} {g : Str → Bool} (nd : ns.Nodup) (pm : cs.Perm (ns.filter fun x => xor (g x) r)) (so : cs.Pairwise SLt) (cov : ∀ x, x ∉ ns → g x = r) :
    (WantD.mk cs r).Ok ∧ ∀ x, (WantD.mk cs r).has x = g x := by
  refine ⟨so, fun x => ?_⟩
  unfold WantD.has
  have m : x ∈ cs ↔ x ∈ ns ∧ xor (g x) r = true := by rw [pm.mem_iff, List.mem_filter]
  by_cases h : x ∈ ns
  · cases hg : g x <;> cases r <;> simp_all
  · have z := cov x h
    have n : x ∉ cs := fun q => h (m.1 q).1
    simp only [decide_eq_false n, z]
    cases r <;> rfl
/-! ### bounds -/
abbrev Bd := Int × Option Int
def BdOk (b : Bd) : Prop := 0 ≤ b.1 ∧ ∀ h, b.2 = some h → b.1 ≤ h
def ledM (b : Bd) (m : Int) : Int := match b.2 with
  | none => if m > b.1 then m else b.1
  | some h => if (if m > b.1 then m else b.1) < h then (if m > b.1 then m else b.1) else h
def bdBehind (a b : Bd) : Bd := (ledM b a.1, match a.2 with
  | none => b.2
  | some h => some (ledM b h))
theorem bdBehind_ok {a b : Bd} (ha : BdOk a) (hb : BdOk b) : BdOk (bdBehind a b) := by
  obtain ⟨a1, a2⟩ := a
  obtain ⟨b1, b2⟩ := b
  obtain ⟨ha0, ha1⟩ := ha
  obtain ⟨hb0, hb1⟩ := hb
  unfold bdBehind ledM
  simp only at ha0 ha1 hb0 hb1
  refine ⟨?_, fun h e => ?_⟩
  · cases b2 with
    | none => simp only; split <;> omega
    | some c =>
      have := hb1 c rfl
      simp only
      repeat' split
      all_goals omega
  · cases a2 with
    | none =>
      cases b2 with
      | none => cases e
      | some c =>
        have := hb1 c rfl
        have e' : c = h := Option.some.inj e
        simp only
        repeat' split
        all_goals omega
    | some a2 =>
      have := ha1 a2 rfl
      cases b2 with
      | none =>
        have e' := Option.some.inj e
        simp only at e' ⊢
        repeat' split at e'
        all_goals (repeat' split)
        all_goals omega
      | some c =>
        have := hb1 c rfl
        have e' := Option.some.inj e
        simp only at e' ⊢
        repeat' split at e'
        all_goals (repeat' split)
        all_goals omega
theorem led_behind {a b : Bd} (ha : BdOk a) (hb : BdOk b) (m : Int) : ledM (bdBehind a b) m = ledM b (ledM a m) := by
  obtain ⟨a1, a2⟩ := a
  obtain ⟨b1, b2⟩ := b
  obtain ⟨ha0, ha1⟩ := ha
  obtain ⟨hb0, hb1⟩ := hb
  unfold bdBehind ledM
  simp only at ha0 ha1 hb0 hb1 ⊢
  cases a2 with
  | none =>
    cases b2 with
    | none => simp only; repeat' split
              all_goals omega
    | some c =>
      have := hb1 c rfl
      simp only
      repeat' split
      all_goals omega
  | some h =>
    have := ha1 h rfl
    cases b2 with
    | none => simp only; repeat' split
              all_goals omega
    | some c =>
      have := hb1 c rfl
      simp only
      repeat' split
      all_goals omega
end KD
end

section
set_option Elab.async false
set_option linter.all false
set_option maxRecDepth 100000
set_option maxHeartbeats 4000000
/-! sets of texts: by the list of their members -/
namespace KD
open PySem PySem.Spec PyProof.Rows L2
/-- the member list behind an add -/
def addTo (L : List Str) (k : Str) : List Str := if k ∈ L then L else k :: L
theorem addTo_mem {L : List Str} {k x : Str} : x ∈ addTo L k ↔ x = k ∨ x ∈ L := by
  unfold addTo
  by_cases h : k ∈ L
  · rw [if_pos h]
    exact ⟨.inr, fun z => z.elim (fun e => e ▸ h) id⟩
  · rw [if_neg h, List.mem_cons]
theorem addTo_nodup {L : List Str} {k : Str} (d : L.Nodup) : (addTo L k).Nodup := by
  unfold addTo
  by_cases h : k ∈ L
  · rw [if_pos h]; exact d
  · rw [if_neg h]; exact List.nodup_cons.mpr ⟨h, d⟩
theorem addTo_len {L : List Str} {k : Str} : (addTo L k).length ≤ L.length + 1 := by
  unfold addTo
  split
  · omega
  · simp
/-- an entry's text -/
def txt (e : Int × Value) : Str := match e.2 with
  | .str k _ => k
  | _ => Str.ofString ""
/-- an entry is a text under its own hash -/
def Entry (w : World) (e : Int × Value) : Prop := ∃ k tk, e.2 = Value.str k tk ∧ e.1 = hashStr w k
/-- what the heap holds at a -/
structure TxtSet (w : World) (o : Obj) (L : List Str) (es : Array (Int × Value)) (ep : Nat) (t : SetTable) : Prop where
  exact : o.ExactSet
  data : o.data = .set es ep t
  good : ∀ e ∈ es.toList, Entry w e
  perm : (es.toList.map txt).Perm L
  nd : L.Nodup
  bound : es.size < scanBound
  fits : t.fits es.size = true
  ris : Ris t.place.toList
  led : w.params.followText "set-order" = true ∨ t.led = true
def StrSet (w : World) (h : Heap) (a : Addr) (L : List Str) : Prop := ∃ o es ep t, h.get? a = some o ∧ TxtSet w o L es ep t
section
variable {P : Program} {w : World} {h h' : Heap} {a : Addr} {L : List Str} {o : Obj} {es : Array (Int × Value)} {ep : Nat} {t : SetTable}
theorem StrSet.at (R : StrSet w h a L) (k : ∀ o, h.get? a = some o → h'.get? a = some o) : StrSet w h' a L := by
  obtain ⟨o, es, ep, t, ho, r⟩ := R
  exact ⟨o, es, ep, t, k o ho, r⟩
theorem TxtSet.size (R : TxtSet w o L es ep t) : es.size = L.length := by
  have q := R.perm.length_eq
  rwa [List.length_map, Array.length_toList] at q
theorem TxtSet.elems (R : TxtSet w o L es ep t) : ElemsOf (strKind P w) es.toList := fun e he => by
  obtain ⟨k, tk, h1, h2⟩ := R.good e he
  exact ⟨⟨k, by rw [h1]; exact strKind_is P w k tk, h2⟩, by rw [h1] <;> rfl⟩
theorem entry_is {e : Int × Value} (g : Entry w e) (k : Str) : (strKind P w).is k e.2 = true ↔ txt e = k := by
  obtain ⟨k0, tk, h1, _⟩ := g
  unfold txt
  rw [h1]
  show Value.isStrOf k (Value.str k0 tk) = true ↔ k0 = k
  unfold Value.isStrOf
  simp
theorem TxtSet.mem (R : TxtSet w o L es ep t) (k : Str) : k ∈ L ↔ ∃ e ∈ es.toList, (strKind P w).is k e.2 = true := by
  rw [← R.perm.mem_iff, List.mem_map]
  exact ⟨fun ⟨e, he, q⟩ => ⟨e, he, (entry_is (R.good e he) k).2 q⟩, fun ⟨e, he, q⟩ => ⟨e, he, (entry_is (R.good e he) k).1 q⟩⟩
theorem TxtSet.setObjOf (R : TxtSet w o L es ep t) (ho : h.get? a = some o) : h.SetOf (strKind P w) a (fun k => decide (k ∈ L)) L.length :=
  ⟨o, es, ep, t, ho, R.exact, R.data, R.elems, fun k => by rw [decide_eq_true_eq]; exact R.mem k, R.bound, R.fits, R.size⟩
end
section
variable {P : Program} {w : World} {A : Around} {E : Value → Shared → Prop} {s : Shared} {a : Addr} {L : List Str} {o : Obj} {es : Array (Int × Value)} {ep : Nat} {t : SetTable}
/-- the end of an add: stored, and laid anew where it is too full -/
theorem txt_stored {g : Bool → Sem Unit} (hg : ∀ (b : Bool) (s1 : Shared) (Q1 : Unit → Shared → Prop), Q1 () s1 → wpAny (model P w) A (g b) Q1 E s1) (ho : s.heap.get? a = some o) (hd : o.data = .set es ep t)
    {es1 : Array (Int × Value)} {t1 : SetTable} {L1 : List Str} (R : TxtSet w { o with data := .set es1 (ep + 1) t1 } L1 es1 (ep + 1) t1) {wd : Bool} {B : Option Bool → Shared → Prop}
    (hB : ∀ h', Heap.SameBut a s.heap h' → StrSet w h' a L1 → B (some true) { s with heap := h' }) :
    wpAny (model P w) A (do
        storeSet a es1 t1
        if (!wd && t1.tooFull) = true then do
            g (relayAll t1 es1 (SetTable.grown es1.size)).2.2
            storeSet a (relayAll t1 es1 (SetTable.grown es1.size)).1 (relayAll t1 es1 (SetTable.grown es1.size)).2.1
            pure (some true)
          else pure (some true)) B E s := by
  refine wpAny_bind (wpAny_storeSet_of ho hd ?_ (fits_of_scanBound R.bound))
  have o1 := store_at (es' := es1) (t' := t1) ho hd
  have b1 := Heap.SameBut.update s.heap a (Obj.putSet es1 t1)
  split
  · have pm := relayAll_perm t1 es1 (SetTable.grown es1.size)
    have f3 := relayAll_fits t1 es1 (SetTable.grown es1.size)
    have r3 := relayAll_ris t1 es1 (SetTable.grown es1.size)
    have l3 := relayAll_led t1 es1 (SetTable.grown es1.size)
    generalize relayAll t1 es1 (SetTable.grown es1.size) = Z at pm f3 r3 l3 ⊢
    obtain ⟨es2, t3, gave⟩ := Z
    dsimp only at pm f3 r3 l3 ⊢
    have sz : es2.size = es1.size := by rw [← Array.length_toList, pm.length_eq, Array.length_toList]
    have b2 : es2.size < scanBound := by rw [sz]; exact R.bound
    refine wpAny_bind (hg _ _ _ ?_)
    refine wpAny_bind (wpAny_storeSet_of o1 rfl ?_ (fits_of_scanBound b2))
    have o2 := store_at (es' := es2) (t' := t3) o1 rfl
    exact wpAny_pure (hB _ (b1.trans (Heap.SameBut.update _ a _)) ⟨_, es2, _, t3, o2, R.exact, rfl, fun e he => R.good e (pm.mem_iff.mp he), (pm.map txt).trans R.perm, R.nd, b2, f3, r3, R.led.imp id fun z => l3.trans z⟩)
  · exact wpAny_pure (hB _ b1 ⟨_, es1, _, t1, o1, R⟩)
theorem txt_addHashed {k : Str} {tk : Tok} {Q : Bool → Shared → Prop} (R : StrSet w s.heap a L) (room : L.length + 1 < scanBound) (hQ : ∀ b h', Heap.SameBut a s.heap h' → StrSet w h' a (addTo L k) → Q b { s with heap := h' }) :
    wpAny (model P w) A (setAddHashed a (.str k tk) (hashStr w k)) Q E s := by
  obtain ⟨o, es, ep, t, ho, R⟩ := R
  have isk : (strKind P w).is k (.str k tk) = true := strKind_is P w k tk
  have hsc : (Value.str k tk).scannable = true := rfl
  have hel : ElemsOf (strKind P w) es.toList := R.elems
  unfold setAddHashed setAddHashedIn
  refine wpAny_holding (wpAny_bind (wpAny_setState_of ho R.data R.fits ?_))
  dsimp only
  rw [byScan_of hsc R.bound hel]
  simp only [↓reduceIte]
  unfold setAddByScan
  refine wpAny_bind (wpAny_bind (wpAny_rule (wpAny_bind (wpAny_setScan_of isk ho R.data R.fits hel ?_))))
  cases hfi : List.findIdx? (fun e => (strKind P w).is k e.2) es.toList with
  | some j =>
    dsimp only
    obtain ⟨hj, pj, _⟩ := List.findIdx?_eq_some_iff_getElem.mp hfi
    have hk : k ∈ L := (R.mem (P := P) k).2 ⟨es.toList[j], List.getElem_mem hj, pj⟩
    refine wpAny_pure (wpAny_pure ?_)
    exact hQ false s.heap (Heap.SameBut.refl a s.heap) ⟨o, es, ep, t, ho, by unfold addTo; rw [if_pos hk]; exact R⟩
  | none =>
    dsimp only
    have hk : k ∉ L := fun z => by
      obtain ⟨e, he, q⟩ := (R.mem (P := P) k).1 z
      have c := List.findIdx?_eq_none_iff.mp hfi e he
      rw [q] at c
      cases c
    have aL : addTo L k = k :: L := if_neg hk
    have hgw : ∀ (b : Bool) {s1 : Shared} {Q1 : Unit → Shared → Prop}, Q1 () s1 → wpAny (model P w) A (match b with | true => rule "set.scan.the-table-gave-way" | false => pure ()) Q1 E s1 :=
      fun b s1 Q1 q => by cases b <;> first | exact wpAny_pure q | exact wpAny_rule q
    have pm := layNew_perm t es ((strKind P w).hash k) (.str k tk)
    have f1 := layNew_fits t es ((strKind P w).hash k) (.str k tk)
    have r1 := layNew_ris t es ((strKind P w).hash k) (.str k tk) R.ris
    have l1 := layNew_led t es ((strKind P w).hash k) (.str k tk)
    rw [show hashStr w k = (strKind P w).hash k from rfl]
    generalize layNew t es ((strKind P w).hash k) (.str k tk) = Z at pm f1 r1 l1 ⊢
    obtain ⟨es1, t1, wd, gave⟩ := Z
    dsimp only at pm f1 r1 l1 ⊢
    rw [Array.toList_push] at pm
    have pc : es1.toList.Perm ((hashStr w k, Value.str k tk) :: es.toList) := pm.trans (List.perm_append_singleton _ _)
    have sz : es1.size = L.length + 1 := by rw [← Array.length_toList, pc.length_eq, List.length_cons, Array.length_toList, R.size]
    have mk : ∀ t2 : SetTable, t2.fits es1.size = true → Ris t2.place.toList → t2.led = t1.led → TxtSet w { o with data := .set es1 (ep + 1) t2 } (k :: L) es1 (ep + 1) t2 := fun t2 a1 a2 a3 =>
      ⟨R.exact, rfl, fun e he => by
        rcases List.mem_cons.mp (pc.mem_iff.mp he) with z | z
        · rw [z]; exact ⟨k, tk, rfl, rfl⟩
        · exact R.good e z, (pc.map txt).trans (R.perm.cons k), List.nodup_cons.mpr ⟨hk, R.nd⟩, by rw [sz]; exact room, a1, a2, R.led.imp id fun z => by rw [a3, l1]; exact z⟩
    have fin : ∀ h', Heap.SameBut a s.heap h' → StrSet w h' a (k :: L) → Q true { s with heap := h' } := fun h' sb r => hQ true h' sb (by rw [aL]; exact r)
    refine wpAny_bind (hgw _ ?_)
    split
    · refine wpAny_bind ?_
      rw [hashByValue_scannable 8 hsc]
      refine wpAny_pure ?_
      refine txt_stored ?_ ho R.data (mk _ ?_ ?_ ?_) ?_
      · intro b s1 Q1 q; cases b <;> first | exact wpAny_pure q | exact wpAny_rule q
      · first | (split <;> first | exact f1 | exact SetTable.fits_plain_off f1) | exact f1
      · first | (split <;> exact r1) | exact r1
      · first | (split <;> rfl) | rfl
      · intro h' sb r; dsimp only; exact wpAny_pure (fin h' sb r)
    · refine wpAny_bind (wpAny_pure ?_)
      simp only [↓reduceIte]
      refine txt_stored ?_ ho R.data (mk _ f1 r1 rfl) ?_
      · intro b s1 Q1 q; cases b <;> first | exact wpAny_pure q | exact wpAny_rule q
      · intro h' sb r; dsimp only; exact wpAny_pure (fin h' sb r)
/-- the set's own add -/
theorem txt_add {k : Str} {tk : Tok} {Q : Value → Shared → Prop} (R : StrSet w s.heap a L) (room : L.length + 1 < scanBound) (hQ : ∀ h', Heap.SameBut a s.heap h' → StrSet w h' a (addTo L k) → Q .none { s with heap := h', toks := s.toks + 1 }) :
    wpAny (model P w) A (call (.builtin "set.add") [.ref a, .str k tk]) Q E s := by
  obtain ⟨o, es, ep, t, ho, R0⟩ := id R
  have hS : s.heap.SetOf (strKind P w) a (fun k => decide (k ∈ L)) L.length := R0.setObjOf ho
  refine wpAny_call_entry F.slot_set_add hS.typeIs F.entry_set_add ?_ (F.args_set_add_2 _ _)
  unfold Builtin.«set.add» Builtin.Frozenset.oneOther
  simp only [List.isEmpty_nil, bind_assoc]
  unfold Builtin.Frozenset.addrOf setAdd
  refine wpAny_bind (wpAny_pure ?_)
  try dsimp only
  refine wpAny_bind (wpAny_pure ?_)
  try dsimp only
  refine wpAny_bind (wpAny_holding (wpAny_bind ((strKind P w).pyHash (strKind_is P w k tk) ?_)))
  refine txt_addHashed (s := { s with toks := s.toks + 1 }) R room fun b h' sb r => ?_
  show wpAny _ _ (ret Value.none) _ _ _
  exact wpAny_pure ⟨_, rfl, hQ h' sb r⟩
end
/-- a new one -/
theorem txt_fresh {h : Heap} (w : World) : StrSet w (h.push { cls := .type "set", dict := none, data := .set #[] 0 (.fresh 0 0 (!w.params.followText "set-order")) }) h.objs.size [] :=
  ⟨_, #[], 0, _, Heap.get?_push_size _ rfl, ⟨rfl, rfl, rfl⟩, rfl, (fun e he => by simp at he), .nil, .nil, (by decide), (by rfl), List.Pairwise.nil, by
    show _ ∨ (!w.params.followText "set-order") = true
    cases w.params.followText "set-order"
    · exact .inr rfl
    · exact .inl rfl⟩
/-! ### tracked -/
def SetSO (w : World) (a : Addr) (L : List Str) : HO := .ext fun h => StrSet w h a L
theorem setSO_of {w : World} {P : Program} {H : Hp} {h : Heap} {a : Addr} {L : List Str} (R : StrSet w h a L) : ObjOk P w H h a (SetSO w a L) := by
  have ⟨o, _, _, _, ho, _⟩ := R
  exact ⟨R, ⟨o, ho⟩, fun h1 h2 p k => StrSet.at p k⟩
section
variable {X : Cx} {pins : List (Addr × Obj)} {σ : L2.St} {H : Hp} {s : Shared}
theorem setSO_at {a : Addr} {L : List Str} (I : Inv X pins σ H s) (ha : H a = some (SetSO X.w a L)) : StrSet X.w s.heap a L := (I.hok a _ ha).1
theorem addS_ok {E : Value → Shared → Prop} {D : Addr} {L : List Str} {y : Str} {tk : Tok} {Q : Value → Shared → Prop} (I : Inv X pins σ H s) (hD : H D = some (SetSO X.w D L)) (room : L.length + 1 < scanBound)
    (h : ∀ s', Inv X pins σ (upd H D (SetSO X.w D (addTo L y))) s' → Q .none s') : wpAny (model X.prog X.w) X.A (call (.builtin "set.add") [.ref D, .str y tk]) Q E s := by
  refine txt_add (setSO_at I hD) room fun h' sb new => ?_
  have he : ∃ u, h'.get? D = some u := by
    have ⟨o, _, _, _, ho, _⟩ := new
    exact ⟨o, ho⟩
  exact h _ (I.write (e := D) (t' := s.toks + 1) (by rw [hD]; trivial) (.inl rfl) (fun b u hb hu => (sb.2 b hb).trans hu) he (setSO_of new))
end
/-! ### the comprehension -/
/-- {elt for target in iter}, elt a text -/
def tSs (w : World) (wi : TI) (g : TG) (te : TE) (vs : List Nat) : TE := fun σ H Q => wi σ H fun J H1 => ∀ D, H1 D = none → ∃ W : Nat → Nat → Hp → Prop, (∃ m, W 0 m (upd H1 D (SetSO w D []))) ∧ ∀ i m H, W i m H →
  (J.stop i H ∧ Q (.ref D) H) ∨ (J.go i H ∧ ∃ Nx : Hp → Prop, (∀ H', Nx H' → ∃ m', m' < m ∧ W (i + 1) m' H') ∧ ∀ x H', J.yld i H x H' → g x (wipe σ vs) H' fun σ2 H2 => wipe σ2 vs = wipe σ vs ∧
    te σ2 H2 fun y H4 => ∃ (c : Str) (L : List Str), y = .str c ∧ H4 D = some (SetSO w D L) ∧ L.length + 1 < scanBound ∧ Nx (upd H4 D (SetSO w D (addTo L c))))
section
variable {X : Cx}
theorem ss_core {pins : List (Addr × Obj)} {s : Shared} {σ : L2.St} {H : Hp} {Q : VK} {elt tg iter : Expr} {scope : Scope} {own : List (PySem.Str × Nat)} {pos pos' : Pos} {wi : TI} {g : TG} {te : TE} {use : Option (Value → Sem Unit)} {Qf : Value → Shared → Prop}
    (hc : X.calm = true) (hN : X.N.Nodup) (I : Inv X pins σ H s) (hi : PI X tg iter wi) (ok : BlkOk X.N X.env.scope scope own)
    (hg : ∀ (s : Shared) (H : Hp) (C : Addr) (cl : List (PySem.Str × Addr)) (fp : List Addr), PG (X.blk s H scope (compEnvC scope cl C X.env) fp) tg g)
    (he : ∀ (s : Shared) (H : Hp) (C : Addr) (cl : List (PySem.Str × Addr)) (fp : List Addr), PE (X.blk s H scope (compEnvC scope cl C X.env) fp) elt te) (hs : ∀ x, foldedSetIterable iter X.env x = pure x)
    (h : tSs X.w wi g te (own.map (·.2)) σ H Q)
    (hRR : ∀ D C s' m H', Inv X pins σ H' s' → Q (.ref D) H' → s'.heap.Ns C m → FpOk X pins H' C → compPost (model X.prog X.w) X.A X.xe use Qf (.ref D) C (.ok .next) s') :
    wpAny (model X.prog X.w) X.A (comprehension (.SetComp elt [⟨tg, iter, [], 0⟩] scope pos) scope X.env pos' (newSet (.type "set")) false (eval iter X.env) use) Qf X.xe s := by
  have hfree : ∀ y ∈ scope.names, y.2 = .free → ∃ c, X.env.cells.lookup y.1 = some c := fun y hy e =>
    (ok.free y hy e).elim (fun k => I.ok.has _ (.inl k)) fun k => I.ok.has _ (.inr k)
  refine wpAny_comprehension_free (use := use) rfl hs (closure_ok hfree) ok.kind (fun y hy e => by rw [ok.uniq y hy, e])
    (thn (hi.run pins s σ H _ I h) fun xv s1 hx => thn hx fun itv s2 h2 => ?_)
  obtain ⟨it, fp, tn, J, H2, e, I2, T, st2, f2, q⟩ := h2
  subst e
  refine PpSet.newSet_ok (newEnv_comp ?_)
  generalize hD : s2.heap.objs.size = D
  obtain ⟨W, ⟨m0, w0⟩, turn⟩ := q D (I2.hok.fresh (Nat.le_of_eq hD))
  have h3 : ∃ s3 : Shared, s3 = { s2 with heap := s2.heap.push { cls := .type "set", dict := none, data := .set #[] 0 (.fresh 0 0 (!X.w.params.followText "set-order")) } } := ⟨_, rfl⟩
  obtain ⟨s3, e3⟩ := h3
  rw [← e3]
  have p3 : s3.heap = s2.heap.push { cls := .type "set", dict := none, data := .set #[] 0 (.fresh 0 0 (!X.w.params.followText "set-order")) } := by rw [e3]
  have keep3 : ∀ b o, s2.heap.get? b = some o → s3.heap.get? b = some o := fun b o e => by rw [p3]; exact Heap.get?_push_of_some _ e
  obtain ⟨H3, eH3⟩ : ∃ H3, H3 = upd H2 D (SetSO X.w D []) := ⟨_, rfl⟩
  have I3 : Inv X pins σ H3 s3 := by
    rw [eH3, e3]
    refine I2.laid (t' := s2.toks) (fun b o e => Heap.get?_push_of_some _ e) (Nat.le_of_eq hD) ?_
    rw [← hD]
    exact setSO_of (txt_fresh X.w)
  rw [← eH3] at w0
  have sz : ∀ b ∈ fp, b < s2.heap.objs.size := fun b hb => by
    obtain ⟨o, e, _⟩ := T.obj _ _ st2 b hb
    exact Heap.lt_size e
  have f3 : ∀ b ∈ fp, FpOk X pins H3 b ∧ b < s3.heap.objs.size := fun b hb => by
    have hlt := sz b hb
    refine ⟨⟨?_, (f2 b hb).2⟩, by rw [p3, Heap.size_push]; exact Nat.lt_succ_of_lt hlt⟩
    rw [eH3, upd_ne (by rw [← hD]; exact Nat.ne_of_lt hlt)]
    exact (f2 b hb).1
  have st3 : tn 0 s3.heap := T.keep _ _ _ st2 fun b _ o e => keep3 b o e
  have I4 := block_start I3 ok hN f3
  have pg := hg s3 H3 s3.heap.objs.size (cellsFrom (s3.heap.objs.size + 1) scope.names (cloFrom X.env.cells scope.names [])) fp
  have pe := he s3 H3 s3.heap.objs.size (cellsFrom (s3.heap.objs.size + 1) scope.names (cloFrom X.env.cells scope.names [])) fp
  show codeAny _ _ (.compStart (.SetComp elt [⟨tg, iter, [], 0⟩] scope pos) 0 (.ref it) (.ref D) (compEnvC scope (cellsFrom (s3.heap.objs.size + 1) scope.names (cloFrom X.env.cells scope.names [])) s3.heap.objs.size X.env)) (compPost (model X.prog X.w) X.A X.xe use Qf (.ref D) s3.heap.objs.size) { s3 with heap := pushCells (s3.heap.push { cls := .type "dict", data := .dict #[] }) scope.names }
  have nfp : ∀ b ∈ fp, H3 b = none := fun b hb => (f3 b hb).1.1
  generalize hce : compEnvC scope (cellsFrom (s3.heap.objs.size + 1) scope.names (cloFrom X.env.cells scope.names [])) s3.heap.objs.size X.env = ce at I4 pg pe ⊢
  have cL : ce.locals = s3.heap.objs.size := by rw [← hce]; rfl
  obtain ⟨s4, e4⟩ : ∃ s4 : Shared, s4 = { s3 with heap := pushCells (s3.heap.push { cls := .type "dict", data := .dict #[] }) scope.names } := ⟨_, rfl⟩
  rw [← e4] at I4 ⊢
  have st4 : tn 0 s4.heap := T.keep _ _ _ st3 fun b _ o e => by rw [e4]; exact pushCells_keeps _ _ _ _ (Heap.get?_push_of_some _ e)
  have stat : ∀ {σ' : L2.St} {H' : Hp} {s' : Shared}, Inv (X.blk s3 H3 scope ce fp) [] σ' H' s' → (∀ b ∈ fp, H' b = none) → ∀ b ∈ fp, FpOk (X.blk s3 H3 scope ce fp) [] H' b := fun {σ' H' s'} I' hn b hb =>
    ⟨hn b hb, (I'.ok.exf b hb).1, I'.ok.exfs b hb, .inl hb, fun x c e => (I'.ok.exf b hb).2 x c e, fun p hp => absurd (show p ∈ ([] : List (Addr × Obj)) ++ [] from hp) (by simp)⟩
  have loop : codeAny (model X.prog X.w) X.A (.compLoop (.SetComp elt [⟨tg, iter, [], 0⟩] scope pos) 0 (.ref it) (.ref D) ce) (compPost (model X.prog X.w) X.A X.xe use Qf (.ref D) s3.heap.objs.size) s4 := by
    refine PpSet.compLoopS_any (fun n s' => ∃ i H', Inv (X.blk s3 H3 scope ce fp) [] (wipe σ (own.map (·.2))) H' s' ∧ tn i s'.heap ∧ (∀ b ∈ fp, H' b = none) ∧ W i n H') ?_ m0 ⟨0, H3, I4, st4, nfp, w0⟩
    rintro n s5 ⟨i, H5, I5, st5, n5, w5⟩
    rcases turn i n H5 w5 with ⟨stop, qq⟩ | ⟨go, Nx, hNx, step⟩
    · refine thnF (T.done (X.blk s3 H3 scope ce fp) rfl rfl rfl hc i [] s5 _ H5 (fun _ _ => False) I5 (stat I5 n5) st5 stop) fun r s6 ⟨hr, I6⟩ => ?_
      subst hr
      have I7 : Inv X pins σ H5 s6 := I3.call' (ch := fp) I6.os I6.base I6.hok I6.bare fun b hb => ⟨(f3 b hb).1.2.2.2.1, (f3 b hb).1.2.1, (f3 b hb).1.2.2.2.2.1, (f3 b hb).1.2.2.2.2.2⟩
      have nC : H5 s3.heap.objs.size = none := by
        have z : H5 ce.locals = none := I6.free
        rw [cL] at z
        exact z
      obtain ⟨m, hn, _⟩ := I6.loc
      have hn : s6.heap.Ns ce.locals m := hn
      rw [cL] at hn
      exact hRR D s3.heap.objs.size s6 m H5 I7 qq hn (I3.fpOk (Nat.le_refl _) nC)
    · refine thnF (T.item (X.blk s3 H3 scope ce fp) rfl rfl rfl hc i [] s5 _ H5 (fun _ _ => False) I5 (stat I5 n5) st5 go) fun r s6 ⟨u, hr, h6⟩ => ?_
      subst hr
      refine thnF h6 fun _ s7 ⟨x, H7, I7, r7, y7, st7, n7⟩ => ?_
      have I7' := I7.pinned (stat I7 n7) (T.obj _ _ st7)
      refine thnF (pg.run _ s7 _ H7 x u _ I7' r7 (step x H7 y7)) fun _ s8 ⟨σ8, H8, I8, hw8, q8⟩ => ?_
      refine wpAny_pure ?_
      simp only [if_true]
      refine thnF (pe.run _ s8 σ8 H8 _ I8 q8) fun z s10 ⟨yv, H10, I10, r10, cb, L0, ey, hD10, hz10, nx⟩ => ?_
      subst ey
      obtain ⟨tk, ez⟩ : ∃ tk, z = Value.str cb tk := r10
      rw [ez]
      refine addS_ok (X := X.blk s3 H3 scope ce fp) I10 hD10 hz10 fun s11 I11 => ?_
      obtain ⟨m', hm, w'⟩ := hNx _ nx
      have pin' : ∀ b ∈ fp, ∀ o, s7.heap.get? b = some o → s11.heap.get? b = some o ∧ (upd H10 D (SetSO X.w D (addTo L0 cb))) b = none := fun b hb o e =>
        let z := I11.pin (b, o) (List.mem_append_right _ (List.mem_append_right _ (mem_pinsAt hb e)))
        ⟨z.1, z.2.1⟩
      have hl : (wipe σ (own.map (·.2))).length = σ8.length := by rw [← hw8, wipe_length]
      refine ⟨m', hm, i + 1, _, (I11.unpinned (pins := [])).weak hl (fun j v e => ?_), T.keep _ _ _ st7 fun b hb o e => (pin' b hb o e).1, fun b hb => ?_, w'⟩
      · rw [← hw8] at e
        exact (wipe_some e).1
      · obtain ⟨o, e, _⟩ := T.obj _ _ st7 b hb
        exact (pin' b hb o e).2
  exact PpSet.codeAny_compStart_set loop (T.self X.A 0 _ _ _ st4 loop)
theorem pe_ss {elt tg iter : Expr} {scope : Scope} {own : List (PySem.Str × Nat)} {pos : Pos} {wi : TI} {g : TG} {te : TE} (hc : X.calm = true) (hN : X.N.Nodup) (hi : PI X tg iter wi) (ok : BlkOk X.N X.env.scope scope own)
    (hg : ∀ (s : Shared) (H : Hp) (C : Addr) (cl : List (PySem.Str × Addr)) (fp : List Addr), PG (X.blk s H scope (compEnvC scope cl C X.env) fp) tg g)
    (he : ∀ (s : Shared) (H : Hp) (C : Addr) (cl : List (PySem.Str × Addr)) (fp : List Addr), PE (X.blk s H scope (compEnvC scope cl C X.env) fp) elt te) (hs : ∀ x, foldedSetIterable iter X.env x = pure x := by intro _; rfl) :
    PE X (.SetComp elt [⟨tg, iter, [], 0⟩] scope pos) (tSs X.w wi g te (own.map (·.2))) := by
  refine ⟨fun pins s σ H Q I h => ?_⟩
  rw [PpSet.eval_SetComp]
  refine ss_core hc hN I hi ok hg he hs h fun D C s' m H' I' q hn f => ⟨m, hn, fun h'' sb => ?_⟩
  obtain ⟨f0, f1, f2, f3, f4, f5⟩ := f
  exact ⟨.ref D, H', I'.turned (t' := s'.toks) (fun b o hb e => (sb.2 b hb).trans e) f0 f1 f3 f4 f5, rfl, q⟩
end
end KD
end

section
set_option Elab.async false
set_option linter.all false
set_option maxRecDepth 100000
set_option maxHeartbeats 4000000
/-! a | b of sets of texts -/
namespace KD
open PySem PySem.Spec PyProof.Rows L2
/-! ### laying anew succeeds (masks 7, 15, 31, 63) -/
def M4 (m : Nat) : Prop := m = 7 ∨ m = 15 ∨ m = 31 ∨ m = 63
def lcgT (n : Nat) : Bool := ((List.range (n + 1)).all fun j => (List.range (n + 1)).any fun b => lcgN n b == j) && (lcgN n (n + 1) == 0)
theorem lcgT_ok {m : Nat} (hm : M4 m) : lcgT m = true := by
  rcases hm with e | e | e | e <;> subst e <;> decide +kernel
theorem lcg_hit {m : Nat} (hm : M4 m) {j : Nat} (hj : j ≤ m) : ∃ b, b ≤ m ∧ lcgN m b = j := by
  have h := lcgT_ok hm
  unfold lcgT at h
  rw [Bool.and_eq_true] at h
  obtain ⟨b, hb, e⟩ := List.any_eq_true.mp (List.all_eq_true.mp h.1 j (List.mem_range.mpr (Nat.lt_succ_of_le hj)))
  exact ⟨b, Nat.le_of_lt_succ (List.mem_range.mp hb), beq_iff_eq.mp e⟩
theorem lcg_back {m : Nat} (hm : M4 m) : ∀ k, lcgN m (m + 1 + k) = lcgN m k
  | 0 => by
    have h := lcgT_ok hm
    unfold lcgT at h
    rw [Bool.and_eq_true] at h
    exact beq_iff_eq.mp h.2
  | k + 1 => congrArg (fun x => (x * 5 + 1) % (m + 1)) (lcg_back hm k)
theorem run_hits {m : Nat} (hm : M4 m) (h : Int) {j : Nat} (hj : j ≤ m) : ∃ n, n ≤ m + 12 ∧ runI m (SetTable.bits h) n = j := by
  obtain ⟨a, ha, ea⟩ := lcg_hit hm (runI_le m (SetTable.bits h) 12)
  obtain ⟨b, hb, eb⟩ := lcg_hit hm hj
  rcases Nat.lt_or_ge b a with c | c
  · refine ⟨12 + (b + (m + 1) - a), by omega, ?_⟩
    rw [runI_tail (bits_lt h), ← ea, lcgN_add, show a + (b + (m + 1) - a) = m + 1 + b by omega, lcg_back hm, eb]
  · refine ⟨12 + (b - a), by omega, ?_⟩
    rw [runI_tail (bits_lt h), ← ea, lcgN_add, show a + (b - a) = b by omega, eb]
/-- a place is found where one of the runs begins at an empty one -/
theorem free_some {m : Nat} {owner : Array (Option Nat)} : ∀ (f n i b : Nat), n < f → oAt owner (itL m i b n).1 = none → ∃ j, SetTable.layClean.free m owner f i b = some j ∧ oAt owner j = none
  | 0, n, i, b, h, _ => absurd h (Nat.not_lt_zero _)
  | f + 1, n, i, b, h, e => by
    rw [free_succ]
    cases q : (List.range (SetTable.runEnd m i + 1 - i)).find? fun k => (oAt owner (i + k)).isNone with
    | some k =>
      refine ⟨i + k, rfl, ?_⟩
      have z := List.find?_some q
      exact Option.isNone_iff_eq_none.mp z
    | none =>
      cases n with
      | zero =>
        exfalso
        have e0 : oAt owner i = none := e
        have z := List.find?_eq_none.mp q 0 (List.mem_range.mpr (by have := runEnd_ge m i; omega))
        rw [Nat.add_zero, e0] at z
        exact z rfl
      | succ n => exact free_some f n _ _ (Nat.lt_of_succ_lt_succ h) e
theorem oAt_lt {owner : Array (Option Nat)} {j : Nat} (h : oAt owner j = none) : j < owner.size := by
  rcases Nat.lt_or_ge j owner.size with c | c
  · exact c
  · exfalso
    unfold oAt at h
    rw [Array.getD_eq_getD_getElem?, Array.getElem?_eq_none c] at h
    exact nomatch h
structure Sit (m n : Nat) (owner : Array (Option Nat)) : Prop where
  sz : owner.size = m + 1
  all : ∀ k, k < n → ∃ j, j ≤ m ∧ oAt owner j = some k
  few : ∃ ps : List Nat, ps.length = n ∧ ∀ j, j ≤ m → oAt owner j ≠ none → j ∈ ps
theorem Sit.step {m n : Nat} {owner : Array (Option Nat)} (hm : M4 m) (S : Sit m n owner) (hn : n ≤ m) (h : Int) :
    ∃ j, SetTable.layClean.free m owner (SetTable.turns m) (SetTable.bits h % (m + 1)) (SetTable.bits h) = some j ∧ Sit m (n + 1) (owner.setIfInBounds j (some n)) := by
  obtain ⟨ps, hl, hp⟩ := S.few
  obtain ⟨j0, l0, n0⟩ := st_missing ps (m + 1) (by omega)
  have e0 : oAt owner j0 = none := Classical.byContradiction fun z => n0 (hp j0 (Nat.le_of_lt_succ l0) z)
  obtain ⟨r, hr, er⟩ := run_hits hm h (Nat.le_of_lt_succ l0)
  obtain ⟨j, ej, hj⟩ := free_some (owner := owner) (SetTable.turns m) r (SetTable.bits h % (m + 1)) (SetTable.bits h) (by unfold SetTable.turns; omega) (by rw [itL_run, er]; exact e0)
  have hjs := oAt_lt hj
  have hself := oAt_set_self (some n) hjs
  refine ⟨j, ej, by rw [Array.size_setIfInBounds]; exact S.sz, fun k hk => ?_, j :: ps, by rw [List.length_cons, hl], fun i hi e => ?_⟩
  · by_cases c : k < n
    · obtain ⟨i, hi, e⟩ := S.all k c
      exact ⟨i, hi, by rw [oAt_set_ne _ (fun z => by rw [z, hj] at e; cases e)]; exact e⟩
    · rw [show k = n by omega]
      exact ⟨j, by have := S.sz; omega, hself⟩
  · by_cases c : i = j
    · rw [c]; exact List.mem_cons_self
    · rw [oAt_set_ne _ c] at e
      exact List.mem_cons_of_mem _ (hp i hi e)
theorem lay_fold {m : Nat} (hm : M4 m) : ∀ (rest : List Int) (n : Nat) (owner : Array (Option Nat)), Sit m n owner → n + rest.length ≤ m →
    ∃ owner', rest.foldl (stepF m) (some (owner, n)) = some (owner', n + rest.length) ∧ Sit m (n + rest.length) owner'
  | [], n, owner, S, _ => ⟨owner, rfl, S⟩
  | h :: rest, n, owner, S, hl => by
    rw [List.length_cons] at hl
    obtain ⟨j, e, S'⟩ := S.step hm (by omega) h
    obtain ⟨owner', f, S2⟩ := lay_fold hm rest (n + 1) _ S' (by omega)
    have ea : n + 1 + rest.length = n + (h :: rest).length := by rw [List.length_cons]; omega
    rw [ea] at f S2
    exact ⟨owner', by rw [List.foldl_cons, stepF_some e]; exact f, S2⟩
/-- laid anew: some order of all -/
theorem laid_some {m finger moves : Nat} {led plain : Bool} {hs : Array Int} (hm : M4 m) (hn : hs.size ≤ m) :
    ∃ t' order, SetTable.laid m finger moves led plain hs = some (t', order) ∧ order.toList.Perm (List.range hs.size) ∧ Ris t'.place.toList ∧ t'.place.size = hs.size ∧ t'.mask = m ∧ t'.dummies = #[] ∧ t'.led = led := by
  obtain ⟨owner, f, S⟩ := lay_fold hm hs.toList 0 (Array.replicate (m + 1) none) ⟨by simp, fun k hk => absurd hk (Nat.not_lt_zero _), [], rfl, fun j hj e => absurd (oAt_init hj) e⟩ (by rw [Array.length_toList]; omega)
  rw [Nat.zero_add, Array.length_toList] at f S
  have hc : SetTable.layClean m hs = some owner := by
    rw [layClean_eq, f] <;> rfl
  have ris := ris_live (fun j => owner.getD j none) (List.range (m + 1)) (by
    unfold Ris
    first | exact List.pairwise_lt_range | exact List.pairwise_lt_range _)
  have r1 : Ris ((liveOf m owner).map (·.1)) := ris.1
  have nd : ((liveOf m owner).map (·.1)).Nodup := List.Pairwise.imp (fun h => Nat.ne_of_lt h) r1
  have members : ∀ k, k < hs.size → k ∈ (liveOf m owner).map (·.2) := fun k hk => by
    obtain ⟨j, b1, b2⟩ := S.all k hk
    exact List.mem_map.mpr ⟨(j, k), (mem_live S.sz).2 ⟨b1, b2⟩, rfl⟩
  have hlen : (liveOf m owner).length = hs.size := by
    obtain ⟨ps, p1, p2⟩ := S.few
    have a := nat_nodup_len ((liveOf m owner).map (·.1)) ps nd fun x hx => by
      obtain ⟨⟨y, k⟩, hq, eq1⟩ := List.mem_map.mp hx
      have ey : y = x := eq1
      obtain ⟨b1, b2⟩ := (mem_live S.sz).1 hq
      rw [← ey]
      exact p2 y b1 (by rw [b2]; exact fun z => nomatch z)
    have b := nat_nodup_len (List.range hs.size) ((liveOf m owner).map (·.2)) List.nodup_range fun k hk => members k (List.mem_range.mp hk)
    rw [List.length_map, p1] at a
    rw [List.length_map, List.length_range] at b
    omega
  refine ⟨{ mask := m, place := ((liveOf m owner).map (·.1)).toArray, dummies := #[], finger, led, moves, plain }, ((liveOf m owner).map (·.2)).toArray, ?_, ?_, r1, ?_, rfl, rfl, rfl⟩
  · unfold SetTable.laid
    rw [hc] <;> rfl
  · exact perm_range hs.size _ (by rw [List.length_map]; exact hlen) members
  · rw [List.size_toArray, List.length_map]; exact hlen
/-- entries taken in an order of all -/
theorem taken_perm {es : Array (Int × Value)} {order : Array Nat} (hp : order.toList.Perm (List.range es.size)) : (order.filterMap (es[·]?)).toList.Perm es.toList := by
  rw [Array.toList_filterMap]
  refine (hp.filterMap _).trans ?_
  have e : (List.range es.size).filterMap (fun i => es[i]?) = es.toList := by
    have key : ∀ n, n ≤ es.size → (List.range n).filterMap (fun i => es[i]?) = es.toList.take n := by
      intro n
      induction n with
      | zero => intro _; rfl
      | succ n ih =>
        intro h
        rw [List.range_succ, List.filterMap_append, ih (by omega), List.filterMap_cons_some (Array.getElem?_eq_getElem (by omega)), List.filterMap_nil, List.take_add_one]
        rw [Array.getElem?_toList, Array.getElem?_eq_getElem (by omega)]
        rfl
    rw [key _ (Nat.le_refl _), List.take_of_length_le (by rw [Array.length_toList]; exact Nat.le_refl _)]
  rw [e]
theorem above_ok {n : Nat} (h : n ≤ 32) : M4 (SetTable.sizeAbove n - 1) ∧ n ≤ SetTable.sizeAbove n - 1 ∧ SetTable.sizeAbove n ≤ 64 := by
  have key : ∀ n ∈ List.range 33, M4 (SetTable.sizeAbove n - 1) ∧ n ≤ SetTable.sizeAbove n - 1 ∧ SetTable.sizeAbove n ≤ 64 := by
    unfold M4
    decide +kernel
  exact key n (List.mem_range.mpr (by omega))
/-! ### the set's state, its table's mask known -/
def StrSetM (w : World) (h : Heap) (a : Addr) (L : List Str) : Prop := ∃ o es ep t, h.get? a = some o ∧ TxtSet w o L es ep t ∧ M4 t.mask ∧ t.dummies = #[]
theorem StrSetM.weak {w : World} {h : Heap} {a : Addr} {L : List Str} (R : StrSetM w h a L) : StrSet w h a L := by
  obtain ⟨o, es, ep, t, ho, r, _, _⟩ := R
  exact ⟨o, es, ep, t, ho, r⟩
theorem fits_iff {t : SetTable} {n : Nat} : t.fits n = true ↔ t.place.size = n ∧ t.fill ≤ t.mask := by
  unfold SetTable.fits
  rw [Bool.and_eq_true, beq_iff_eq, decide_eq_true_eq]
theorem TxtSet.stored {w : World} {o : Obj} {L L' : List Str} {es es' : Array (Int × Value)} {ep : Nat} {t t' : SetTable} (R : TxtSet w o L es ep t) (ex : o.ExactSet) (pm : es'.toList.Perm es.toList) (hL : L' = L) (o' : Obj) (ho' : o'.ExactSet) (hd : o'.data = .set es' (ep + 1) t')
    (hf : t'.fits es'.size = true) (hr : Ris t'.place.toList) (hl : w.params.followText "set-order" = true ∨ t'.led = true) : TxtSet w o' L' es' (ep + 1) t' := by
  subst hL
  have sz : es'.size = es.size := by rw [← Array.length_toList, pm.length_eq, Array.length_toList]
  exact ⟨ho', hd, fun e he => R.good e (pm.mem_iff.mp he), (pm.map txt).trans R.perm, R.nd, by rw [sz]; exact R.bound, hf, hr, hl⟩
section
variable {P : Program} {w : World} {A : Around} {E : Value → Shared → Prop} {s : Shared}
theorem relayM {a : Addr} {L : List Str} {wanted : Nat} {Q : Unit → Shared → Prop} (R : StrSet w s.heap a L) (h1 : L.length ≤ wanted) (h2 : wanted ≤ 32)
    (hQ : ∀ h' o es ep t, Heap.SameBut a s.heap h' → h'.get? a = some o → TxtSet w o L es ep t → M4 t.mask → wanted ≤ t.mask → t.dummies = #[] → Q () { s with heap := h' }) : wpAny (model P w) A (setRelay a wanted) Q E s := by
  obtain ⟨o, es, ep, t, ho, R⟩ := R
  obtain ⟨m1, m2, m3⟩ := above_ok h2
  have sz : (es.map (·.1)).size = es.size := Array.size_map
  obtain ⟨t', order, e, hp, ris, ps, em, ed, el⟩ := laid_some (finger := t.finger) (moves := t.movedTo (SetTable.sizeAbove wanted - 1)) (led := t.led) (plain := t.plain) (hs := es.map (·.1)) m1 (by rw [sz, R.size]; omega)
  have er : t.relaid (es.map (·.1)) wanted = some (t', order) := e
  rw [sz] at hp ps
  have tp := taken_perm hp
  have tz : (order.filterMap (es[·]?)).size = es.size := by rw [← Array.length_toList, tp.length_eq, Array.length_toList]
  rw [setRelay_eq]
  refine wpAny_bind (wpAny_setState_of ho R.data R.fits ?_)
  dsimp only
  refine wp_if_neg (by rw [sizeLine_eq]; omega) ?_
  try refine wpAny_bind (wpAny_pure ?_)
  rw [er]
  dsimp only
  refine wpAny_bind ?_
  refine wp_if_neg (by rw [tz]; simp) ?_
  try refine wpAny_bind (wpAny_pure ?_)
  refine wpAny_pure ?_
  dsimp only
  refine wpAny_storeSet_of ho R.data ?_ (by rw [tz]; exact fits_of_scanBound R.bound)
  have hf : t'.fits (order.filterMap (es[·]?)).size = true := fits_iff.mpr ⟨by rw [tz, ps], by unfold SetTable.fill; rw [ed, em]; have := R.size; simp; omega⟩
  exact hQ _ _ _ _ t' (Heap.SameBut.update ..) (store_at ho R.data) (R.stored R.exact tp rfl _ R.exact rfl hf ris (R.led.imp id fun z => el.trans z)) (by rw [em]; exact m1) (by rw [em]; exact m2) ed
/-! ### the walk of what is merged -/
/-- all the sets hold texts -/
def AllTxt (w : World) (h : Heap) (l : List Addr) : Prop := ∀ a ∈ l, ∃ L, StrSet w h a L
theorem quiet_ok {l : List Addr} {Q : Bool → Shared → Prop} (hl : AllTxt w s.heap l) (h : Q true s) : wpAny (model P w) A (setsQuiet l) Q E s := by
  unfold setsQuiet
  refine wpAny_bind (wpAny_forIn_list _ (fun rest b s' => b = (none, ()) ∧ s' = s ∧ ∀ a ∈ rest, a ∈ l) _ (fun a rest b s1 hI => ?_) (fun b s1 hI => ?_) _ _ ⟨rfl, rfl, fun a ha => ha⟩)
  · obtain ⟨e1, e2, hm⟩ := hI
    subst e1
    subst e2
    obtain ⟨L, o, es, ep, t, ho, R⟩ := hl a (hm a List.mem_cons_self)
    refine wpAny_bind (wpAny_setEntries_of ho R.data R.fits ?_)
    refine wpAny_bind (MeetsSeq2.wpAny_forIn_array _ (fun r2 b s' => b = (none, ()) ∧ s' = s1 ∧ ∀ e ∈ r2, e ∈ es.toList) _ (fun e r2 b s2 hI => ?_) (fun b s2 hI => ?_) _ _ ⟨rfl, rfl, fun a ha => ha⟩)
    · obtain ⟨e1, e2, hm2⟩ := hI
      subst e1
      subst e2
      obtain ⟨k, tk, e1, _⟩ := R.good e (hm2 e List.mem_cons_self)
      obtain ⟨h0, v⟩ := e
      have ev : v = Value.str k tk := e1
      subst ev
      exact wpAny_pure ⟨rfl, rfl, fun x hx => hm2 x (List.mem_cons_of_mem _ hx)⟩
    · obtain ⟨e1, e2, _⟩ := hI
      subst e1
      subst e2
      exact wpAny_pure ⟨rfl, rfl, fun x hx => hm x (List.mem_cons_of_mem _ hx)⟩
  · obtain ⟨e1, e2, _⟩ := hI
    subst e1
    subst e2
    exact wpAny_pure h
variable {o : Obj} {es : Array (Int × Value)} {ep : Nat} {t : SetTable} {L : List Str}
theorem walk_ok {a : Addr} {Q : Array (Int × Value) → Shared → Prop} (ho : s.heap.get? a = some o) (R : TxtSet w o L es ep t) (hQ : ∀ (ys : Array (Int × Value)) d, ys.toList.Perm es.toList → Q ys { s with drawn := d }) :
    wpAny (model P w) A (setWalk a) Q E s := by
  unfold setWalk
  refine wpAny_bind (wpAny_setState_of ho R.data R.fits ?_)
  dsimp only
  refine wpAny_bind (wpAny_byText ?_)
  cases hb : w.params.followText "set-order" with
  | true =>
    refine wp_if_pos rfl ?_
    exact wpAny_bind (wpAny_askSetting (wpAny_pure (hQ _ s.drawn (pick_perm _ es))))
  | false =>
    refine wp_if_neg (by simp) ?_
    have hled : t.led = true := R.led.resolve_left (by rw [hb]; exact Bool.false_ne_true)
    show wpAny _ _ (if (!t.plain && decide (es.size > 1)) = true then _ else _) _ _ _
    split
    · exact wpAny_bind (drawOrder_at _ _ _ _ (Nat.le_of_eq Array.length_toList) fun ys d hp => wpAny_pure (hQ _ d hp))
    · refine wpAny_bind (wpAny_of_eq (a := ()) ?_ (wpAny_pure (hQ _ s.drawn (List.Perm.refl _))))
      show (if (!t.led && decide (es.size > 1)) = true then unsupported "set:maker-not-led" else pure ()) = pure ()
      rw [hled]
      rfl
theorem unseen_ok {a b : Addr} {Lb : List Str} {Q : Array (Int × Value) → Shared → Prop} (hne : a ≠ b) (ho : s.heap.get? a = some o) (R : TxtSet w o L es ep t) (Rb : StrSet w s.heap b Lb)
    (hQ : ∀ (ys : Array (Int × Value)) d h', ys.toList.Perm es.toList → Heap.SameBut b s.heap h' → StrSet w h' b Lb → Q ys { s with heap := h', drawn := d }) : wpAny (model P w) A (setWalkUnseen a [b] (some b)) Q E s := by
  have easy : wpAny (model P w) A (setWalk a) Q E s := walk_ok ho R fun ys d hp => hQ ys d s.heap hp (Heap.SameBut.refl _ _) Rb
  unfold setWalkUnseen
  refine wpAny_bind (wpAny_setState_of ho R.data R.fits ?_)
  dsimp only
  refine wpAny_bind (wpAny_byText ?_)
  split
  · exact easy
  · refine wpAny_bind (quiet_ok (fun x hx => ?_) ?_)
    · rcases List.mem_cons.mp hx with z | z
      · exact ⟨L, o, es, ep, t, by rw [z]; exact ho, R⟩
      · exact ⟨Lb, by rw [List.mem_singleton.mp z]; exact Rb⟩
    refine wp_if_neg (by simp) ?_
    refine wpAny_bind (wpAny_rule ?_)
    obtain ⟨ob, eb, pb, tb, hob, Rb'⟩ := id Rb
    refine wpAny_bind (wpAny_setState_of hob Rb'.data Rb'.fits ?_)
    dsimp only
    split
    · refine wpAny_bind (wpAny_storeSet_of hob Rb'.data ?_ (fits_of_scanBound Rb'.bound))
      refine wpAny_pure (hQ es s.drawn _ (List.Perm.refl _) (Heap.SameBut.update s.heap b (Obj.putSet eb _)) ⟨_, eb, _, _, store_at hob Rb'.data, Rb'.stored Rb'.exact (List.Perm.refl _) rfl _ Rb'.exact rfl ?_ Rb'.ris ?_⟩)
      · exact fits_iff.mpr (fits_iff.mp Rb'.fits)
      · rcases R.led with z | z
        · exact .inl z
        · rcases Rb'.led with y | y
          · exact .inl y
          · right
            show (tb.led && t.led) = true
            rw [z, y]
            rfl
    · exact wpAny_pure (hQ es s.drawn s.heap (List.Perm.refl _) (Heap.SameBut.refl _ _) Rb)
/-- the adds, one by one -/
def addAll (L : List Str) (l : List (Int × Value)) : List Str := l.foldl (fun L e => addTo L (txt e)) L
theorem addAll_mem {x : Str} : ∀ (l : List (Int × Value)) (L : List Str), x ∈ addAll L l ↔ x ∈ L ∨ x ∈ l.map txt
  | [], L => by simp [addAll]
  | e :: l, L => by
    show x ∈ addAll (addTo L (txt e)) l ↔ _
    rw [addAll_mem l, addTo_mem, List.map_cons, List.mem_cons]
    constructor
    · rintro ((z | z) | z)
      · exact .inr (.inl z)
      · exact .inl z
      · exact .inr (.inr z)
    · rintro (z | z | z)
      · exact .inl (.inr z)
      · exact .inl (.inl z)
      · exact .inr z
theorem addAll_len : ∀ (l : List (Int × Value)) (L : List Str), (addAll L l).length ≤ L.length + l.length
  | [], L => Nat.le_refl _
  | e :: l, L => by
    have a := addAll_len l (addTo L (txt e))
    have b := @addTo_len L (txt e)
    show (addAll (addTo L (txt e)) l).length ≤ _
    rw [List.length_cons]
    omega
/-- the new set filled from one that holds texts -/
theorem merge_ok {a b : Addr} {La Lb : List Str} {each : Sem Unit} {Q : Unit → Shared → Prop} (hne : a ≠ b) (Ra : StrSetM w s.heap a La) (Rb : StrSet w s.heap b Lb) (na : La.length ≤ 8) (nb : Lb.length ≤ 8)
    (heach : ∀ (s' : Shared) (Q' : Unit → Shared → Prop), s'.heap.get? b = s.heap.get? b → Q' () s' → wpAny (model P w) A each Q' E s')
    (hQ : ∀ d h' L, Heap.SameBut a s.heap h' → StrSet w h' a L → (∀ x, x ∈ L ↔ x ∈ La ∨ x ∈ Lb) → L.length ≤ La.length + Lb.length → (La = [] → StrSetM w h' a L) → Q () { s with heap := h', drawn := d }) :
    wpAny (model P w) A (setMerge a b each) Q E s := by
  obtain ⟨oa, ea, pa, ta, hoa, Ra', ma, da⟩ := Ra
  obtain ⟨ob, eb, pb, tb, hob, Rb⟩ := Rb
  have zb := Rb.size
  unfold setMerge
  refine wp_if_neg (by simp [hne]) ?_
  refine wpAny_bind (wpAny_setState_of hob Rb.data Rb.fits ?_)
  dsimp only
  by_cases e0 : eb.isEmpty = true
  · refine wp_if_pos e0 ?_
    have l0 : Lb = [] := by
      have : eb.size = 0 := by simpa [Array.isEmpty] using e0
      exact List.eq_nil_of_length_eq_zero (by omega)
    subst l0
    exact wpAny_pure (hQ s.drawn s.heap La (Heap.SameBut.refl _ _) ⟨oa, ea, pa, ta, hoa, Ra'⟩ (fun x => by simp) (by simp) fun _ => ⟨oa, ea, pa, ta, hoa, Ra', ma, da⟩)
  · refine wp_if_neg e0 ?_
    -- behind the making of room
    have step : ∀ h1 o1 e1 p1 t1, Heap.SameBut a s.heap h1 → h1.get? a = some o1 → TxtSet w o1 La e1 p1 t1 → M4 t1.mask → t1.dummies = #[] → eb.size ≤ t1.mask → wpAny (model P w) A (do
        let __x ← setState a
        match __x with
        | (_, _, ts) =>
          match ts.road tb with
          | SetTable.Road.slotForSlot => storeSet a eb { tb with finger := ts.finger, led := ts.led && tb.led, moves := ts.moves, plain := ts.plain && tb.plain }
          | SetTable.Road.clean => do
            let __x ← (do
              let some (t, order) := SetTable.laid ts.mask ts.finger ts.moves (ts.led && tb.led) (ts.plain && tb.plain) (eb.map (·.1)) | unsupported "internal:set-table-without-room"
              let es' := order.filterMap (eb[·]?)
              if es'.size != eb.size then unsupported "internal:set-table-lost-an-element"
              pure (es', t) : Sem (Array (Int × Value) × SetTable))
            match __x with
            | (es, t) => storeSet a es t
          | SetTable.Road.oneByOne => do
            let ys ← setWalkUnseen b [a] (some a)
            forIn ys PUnit.unit fun x __s =>
              match x with
              | (h, x) => do
                let _ ← holding [x] (setAddHashed a x h)
                each
                let z ← setState b
                if (z.2.1 != pb) = true then do
                  unsupported "set.changed-during-merge"
                  pure (ForInStep.yield PUnit.unit)
                else pure (ForInStep.yield PUnit.unit)
            pure ()) Q E { s with heap := h1 } := by
      intro h1 o1 e1 p1 t1 sb1 ho1 R1 m1 dd1 l1
      have hob1 : h1.get? b = some ob := (sb1.2 b (Ne.symm hne)).trans hob
      refine wpAny_bind (wpAny_setState_of (s := { s with heap := h1 }) ho1 R1.data R1.fits ?_)
      dsimp only
      have led2 : w.params.followText "set-order" = true ∨ (t1.led && tb.led) = true := by
        rcases R1.led with z | z
        · exact .inl z
        · rcases Rb.led with y | y
          · exact .inl y
          · right; rw [z, y]; rfl
      have hroad : t1.road tb = (if t1.fill != 0 then SetTable.Road.oneByOne else if t1.mask == tb.mask && tb.dummies.isEmpty then SetTable.Road.slotForSlot else SetTable.Road.clean) := rfl
      have La0 : t1.fill = 0 → La = [] := fun z => by
        have q := (fits_iff.mp R1.fits).1
        unfold SetTable.fill at z
        have := R1.size
        exact List.eq_nil_of_length_eq_zero (by omega)
      by_cases hfill : (t1.fill != 0) = true
      · rw [hroad, if_pos hfill]
        dsimp only
        have R1s : StrSet w h1 a La := ⟨o1, e1, p1, t1, ho1, R1⟩
        refine wpAny_bind (unseen_ok (s := { s with heap := h1 }) (Ne.symm hne) hob1 Rb R1s fun ys d h2 hp sb2 R2 => ?_)
        have fin : ∀ (s3 : Shared) (r : List (Int × Value)) (Lx : List Str), (∃ h3, s3 = { s with heap := h3, drawn := d } ∧ Heap.SameBut a s.heap h3 ∧ StrSet w h3 a Lx) → Lx = addAll La ys.toList → r = [] → Q () s3 := fun s3 r Lx hs eL _ => by
          obtain ⟨h3, e3, sb3, R3⟩ := hs
          subst e3
          refine hQ d h3 Lx sb3 R3 (fun x => ?_) ?_ fun z => ?_
          · rw [eL, addAll_mem, (hp.map txt).mem_iff, Rb.perm.mem_iff]
          · have q := addAll_len ys.toList La
            rw [hp.length_eq, show eb.toList.length = eb.size from Array.length_toList, zb] at q
            rw [eL]
            exact q
          · exfalso
            have z1 := R1.size
            rw [z] at z1
            have z2 : t1.fill = 0 := by
              unfold SetTable.fill
              rw [(fits_iff.mp R1.fits).1, z1, dd1]
              rfl
            rw [z2] at hfill
            exact absurd hfill (by simp)
        refine wpAny_bind (MeetsSeq2.wpAny_forIn_array _ (fun rest _ s3 => ∃ pre, pre ++ rest = ys.toList ∧ ∃ h3, s3 = { s with heap := h3, drawn := d } ∧ Heap.SameBut a s.heap h3 ∧ StrSet w h3 a (addAll La pre)) _ (fun x rest u s3 hI => ?_) (fun u s3 hI => ?_) ys _ ⟨[], rfl, h2, rfl, sb1.trans sb2, R2⟩)
        · obtain ⟨pre, ep, h3, e3, sb3, R3⟩ := hI
          subst e3
          have hx : x ∈ ys.toList := by rw [← ep]; exact List.mem_append_right _ List.mem_cons_self
          obtain ⟨k, tk, x1, x2⟩ := Rb.good x (hp.mem_iff.mp hx)
          obtain ⟨hh, v⟩ := x
          have ev : v = Value.str k tk := x1
          have eh : hh = hashStr w k := x2
          subst ev
          subst eh
          have len : (addAll La pre).length + 1 < scanBound := by
            have q := addAll_len pre La
            have q2 := hp.length_eq
            rw [show eb.toList.length = eb.size from Array.length_toList, ← ep, List.length_append, List.length_cons] at q2
            have q3 : scanBound = 4096 := rfl
            omega
          dsimp only
          refine wpAny_bind (wpAny_holding (txt_addHashed (s := { s with heap := h3, drawn := d }) R3 len fun b' h4 sb4 R4 => ?_))
          have sb5 := sb3.trans sb4
          refine wpAny_bind (heach { s with heap := h4, drawn := d } _ (sb5.2 b (Ne.symm hne)) ?_)
          refine wpAny_bind (wpAny_setState_of (s := { s with heap := h4, drawn := d }) ((sb5.2 b (Ne.symm hne)).trans hob) Rb.data Rb.fits ?_)
          refine wp_if_neg (by simp) ?_
          refine wpAny_pure ⟨pre ++ [(hashStr w k, Value.str k tk)], by rw [List.append_assoc]; exact ep, h4, rfl, sb5, ?_⟩
          have ea : addAll La (pre ++ [(hashStr w k, Value.str k tk)]) = addTo (addAll La pre) k := by
            unfold addAll
            rw [List.foldl_append]
            rfl
          rw [ea]
          exact R4
        · obtain ⟨pre, ep, h3, e3, sb3, R3⟩ := hI
          rw [List.append_nil] at ep
          exact wpAny_pure (fin s3 [] (addAll La pre) ⟨h3, e3, sb3, R3⟩ (by rw [ep]) rfl)
      · have f0 : t1.fill = 0 := by simpa using hfill
        have la0 := La0 f0
        subst la0
        rw [hroad, if_neg hfill]
        have own : ∀ h2, Heap.SameBut a h1 h2 → StrSetM w h2 a Lb → Q () { s with heap := h2 } := fun h2 sb2 R2 => hQ s.drawn h2 Lb (sb1.trans sb2) R2.weak (fun x => by simp) (by simp) fun _ => R2
        by_cases hs : (t1.mask == tb.mask && tb.dummies.isEmpty) = true
        · rw [if_pos hs]
          dsimp only
          have em : t1.mask = tb.mask := by
            rw [Bool.and_eq_true] at hs
            exact beq_iff_eq.mp hs.1
          refine wpAny_storeSet_of (s := { s with heap := h1 }) ho1 R1.data ?_ (fits_of_scanBound Rb.bound)
          exact own _ (Heap.SameBut.update h1 a (Obj.putSet eb _)) ⟨_, eb, _, _, store_at ho1 R1.data, ⟨R1.exact, rfl, Rb.good, Rb.perm, Rb.nd, Rb.bound, fits_iff.mpr (fits_iff.mp Rb.fits), Rb.ris, led2⟩, by show M4 tb.mask; rw [← em]; exact m1, by
            rw [Bool.and_eq_true] at hs
            exact Array.isEmpty_iff.mp hs.2⟩
        · rw [if_neg hs]
          dsimp only
          have sz : (eb.map (·.1)).size = eb.size := Array.size_map
          obtain ⟨t', order, e, hp, ris, ps, em, ed, el⟩ := laid_some (finger := t1.finger) (moves := t1.moves) (led := t1.led && tb.led) (plain := t1.plain && tb.plain) (hs := eb.map (·.1)) m1 (by rw [sz]; exact l1)
          rw [sz] at hp ps
          have tp := taken_perm hp
          have tz : (order.filterMap (eb[·]?)).size = eb.size := by rw [← Array.length_toList, tp.length_eq, Array.length_toList]
          rw [e]
          dsimp only
          refine wpAny_bind ?_
          refine wp_if_neg (by rw [tz]; simp) ?_
          try refine wpAny_bind (wpAny_pure ?_)
          refine wpAny_pure ?_
          dsimp only
          refine wpAny_storeSet_of (s := { s with heap := h1 }) ho1 R1.data ?_ (by rw [tz]; exact fits_of_scanBound Rb.bound)
          have hf : t'.fits (order.filterMap (eb[·]?)).size = true := fits_iff.mpr ⟨by rw [tz, ps], by unfold SetTable.fill; rw [ed, em]; simp; omega⟩
          exact own _ (Heap.SameBut.update h1 a (Obj.putSet _ t')) ⟨_, _, _, t', store_at ho1 R1.data, ⟨R1.exact, rfl, fun x hx => Rb.good x (tp.mem_iff.mp hx), (tp.map txt).trans Rb.perm, Rb.nd, by rw [tz]; exact Rb.bound, hf, ris, by rw [el]; exact led2⟩, by rw [em]; exact m1, ed⟩
    unfold setRoomFor
    refine wpAny_bind ?_
    refine wpAny_bind (wpAny_setState_of hoa Ra'.data Ra'.fits ?_)
    dsimp only
    have hplace := (fits_iff.mp Ra'.fits).1
    have hza := Ra'.size
    have hroom : ta.roomFor eb.size = if (ta.fill + eb.size) * 5 ≥ ta.mask * 3 then some ((ta.place.size + eb.size) * 2) else none := rfl
    by_cases hr : (ta.fill + eb.size) * 5 ≥ ta.mask * 3
    · rw [hroom, if_pos hr]
      dsimp only
      refine relayM ⟨oa, ea, pa, ta, hoa, Ra'⟩ (by omega) (by omega) fun h' o1 e1 p1 t1 sb ho1 R1 m1 l1 d1 => ?_
      exact step h' o1 e1 p1 t1 sb ho1 R1 m1 d1 (by omega)
    · rw [hroom, if_neg hr]
      dsimp only
      refine wpAny_pure ?_
      exact step s.heap oa ea pa ta (Heap.SameBut.refl _ _) hoa Ra' ma da (by omega)
/-! ### the operator -/
theorem fresh_M (w : World) {h : Heap} : StrSetM w (h.push { cls := .type "set", dict := none, data := .set #[] 0 (.fresh 0 0 (!w.params.followText "set-order")) }) h.objs.size [] := by
  obtain ⟨o, es, ep, t, ho, R⟩ := txt_fresh (h := h) w
  have e := ho.symm.trans (Heap.get?_push_size h rfl)
  have e2 := Option.some.inj e
  subst e2
  have d := R.data
  injection d with d1 d2 d3
  subst d1; subst d2; subst d3
  exact ⟨_, _, _, _, ho, R, .inl rfl, rfl⟩
theorem entry_s_or : entryFor table "set.__or__" = some Builtin.«frozenset.__or__» := entryFor_alias (id' := "frozenset.__or__") (by kernel_rfl) rfl (by decide +kernel) (by kernel_rfl)
theorem or_text (l r : Addr) : Builtin.«frozenset.__or__» ⟨[.ref l, .ref r], []⟩ = (do
    let (self, other) ← Builtin.Frozenset.slot1 "__or__" ⟨[.ref l, .ref r], []⟩
    if !(← Builtin.Frozenset.isAnySet self <&&> Builtin.Frozenset.isAnySet other) then rule s!"frozenset.{"__or__"}.declined"; return ← ret .notImplemented
    let a ← Builtin.Frozenset.addrOf self
    let v ← (do
      let result ← Builtin.Frozenset.copyOf a
      if other != .ref a then holding [result] (Builtin.Frozenset.updateFrom s!"frozenset.{"__or__"}" (← Builtin.Frozenset.addrOf result) other)
      return result : Sem Value)
    ret v) := by
  rfl
theorem isAny_ok {a : Addr} {o : Obj} {Q : Bool → Shared → Prop} (ho : s.heap.get? a = some o) (hx : o.ExactSet) (h : Q true s) : wpAny (model P w) A (Builtin.Frozenset.isAnySet (.ref a)) Q E s := by
  unfold Builtin.Frozenset.isAnySet
  refine wpAny_bind (wpAny_isInstance (b := true) ⟨o, ho, hx.1⟩ sub_set_self ?_)
  exact wpAny_pure h
/-- a | b -/
theorem txt_or {a b : Addr} {La Lb : List Str} {Q : Value → Shared → Prop} (hne : a ≠ b) (Ra : StrSet w s.heap a La) (Rb : StrSet w s.heap b Lb) (na : La.length ≤ 8) (nb : Lb.length ≤ 8)
    (hQ : ∀ d h' L, (∀ c o, s.heap.get? c = some o → h'.get? c = some o) → StrSet w h' s.heap.objs.size L → (∀ x, x ∈ L ↔ x ∈ La ∨ x ∈ Lb) → L.length ≤ La.length + Lb.length → Q (.ref s.heap.objs.size) { s with heap := h', drawn := d }) :
    wpAny (model P w) A (binaryOp .BitOr (.ref a) (.ref b)) Q E s := by
  obtain ⟨oa, ea, pa, ta, hoa, Ra'⟩ := id Ra
  obtain ⟨ob, eb, pb, tb, hob, Rb'⟩ := id Rb
  have hTa : s.TypeIs (.ref a) "set" := ⟨oa, hoa, Ra'.exact.1⟩
  have hTb : s.TypeIs (.ref b) "set" := ⟨ob, hob, Rb'.exact.1⟩
  have la := Heap.lt_size hoa
  have lb := Heap.lt_size hob
  refine wpAny_binaryOp_same hTa hTb F.fills_set_or F.slot_set_or (wpAny_call_entry F.slot_set_or hTa entry_s_or ?_ (F.args_set_or_2 _ _))
  rw [or_text]
  refine wpAny_bind (m := Builtin.Frozenset.slot1 "__or__" _) (wpAny_pure ?_)
  dsimp only
  refine wpAny_bind ?_
  show wpAny _ _ (Builtin.Frozenset.isAnySet (.ref a) >>= _) _ _ _
  refine wpAny_bind (isAny_ok hoa Ra'.exact ?_)
  refine isAny_ok hob Rb'.exact ?_
  refine wp_if_neg (by simp) ?_
  refine wpAny_bind (m := Builtin.Frozenset.addrOf (.ref a)) (wpAny_pure ?_)
  refine wpAny_bind ?_
  unfold Builtin.Frozenset.copyOf
  refine wpAny_bind ?_
  unfold Builtin.Frozenset.baseOf
  refine wpAny_bind (wpAny_bind (wpAny_isInstance (b := true) hTa sub_set_self (wpAny_pure ?_)))
  rw [if_pos rfl]
  refine wpAny_bind (PpSet.newSet_ok ?_)
  refine wpAny_bind (m := Builtin.Frozenset.addrOf (.ref s.heap.objs.size)) (wpAny_pure ?_)
  have push : ∀ c o, s.heap.get? c = some o → (s.heap.push { cls := .type "set", dict := none, data := .set #[] 0 (.fresh 0 0 (!w.params.followText "set-order")) }).get? c = some o := fun c o e => Heap.get?_push_of_some _ e
  have Rn := fresh_M (h := s.heap) w
  generalize s.heap.push { cls := .type "set", dict := none, data := .set #[] 0 (.fresh 0 0 (!w.params.followText "set-order")) } = h1 at push Rn ⊢
  refine wpAny_bind (merge_ok (s := { s with heap := h1 }) (La := []) (Lb := La) (Nat.ne_of_gt la) Rn (Ra.at fun o e => push a o e) (Nat.zero_le _) na (fun s' Q' _ q => wpAny_pure q) fun d h2 L sb R mem len toM => ?_)
  have RM := toM rfl
  refine wpAny_pure ?_
  have keep2 : ∀ c o, s.heap.get? c = some o → h2.get? c = some o := fun c o e => (sb.2 c (Nat.ne_of_lt (Heap.lt_size e))).trans (push c o e)
  have hob2 := keep2 b ob hob
  refine wp_if_pos (by simp; exact Ne.symm hne) ?_
  refine wpAny_bind (m := Builtin.Frozenset.addrOf (.ref s.heap.objs.size)) (wpAny_pure ?_)
  refine wpAny_bind (wpAny_holding ?_)
  unfold Builtin.Frozenset.updateFrom
  refine wpAny_bind (isAny_ok (s := { s with heap := h2, drawn := d }) hob2 Rb'.exact ?_)
  refine wp_if_pos rfl ?_
  refine wpAny_bind (m := Builtin.Frozenset.addrOf (.ref b)) (wpAny_pure ?_)
  unfold Builtin.Frozenset.merge
  refine wpAny_bind (wpAny_setEpoch_of (s := { s with heap := h2, drawn := d }) hob2 Rb'.data Rb'.fits ?_)
  simp only [List.length_nil, Nat.zero_add] at len
  refine merge_ok (s := { s with heap := h2, drawn := d }) (La := L) (Lb := Lb) (Nat.ne_of_gt lb) RM ⟨ob, eb, pb, tb, hob2, Rb'⟩ (Nat.le_trans len na) nb (fun s' Q' e q => ?_) fun d3 h3 L3 sb3 R3 mem3 len3 _ => ?_
  · unfold Builtin.Frozenset.unchanged
    refine wpAny_bind (wpAny_setEpoch_of (e.trans hob2) Rb'.data Rb'.fits ?_)
    refine wp_if_neg (by simp) ?_
    exact wpAny_pure q
  · refine wpAny_pure ?_
    show wpAny _ _ (ret (Value.ref s.heap.objs.size)) _ _ _
    refine wpAny_pure ⟨_, rfl, by simp, hQ d3 h3 L3 (fun c o e => (sb3.2 c (Nat.ne_of_lt (Heap.lt_size e))).trans (keep2 c o e)) R3 (fun x => ?_) (by omega)⟩
    rw [mem3, mem]
    simp
end
end KD
end

section
set_option Elab.async false
set_option linter.all false
set_option maxRecDepth 100000
set_option maxHeartbeats 4000000
/-! sets of texts: the rules of the layer -/
namespace KD
open PySem PySem.Spec PyProof.Rows L2
section
variable {X : Cx}
/-- len(found) -/
def rLenS (w : World) : List V → Hp → VK → Prop := fun xs H Q => ∃ (a : Addr) (L : List Str), xs = [V.ref a] ∧ H a = some (SetSO w a L) ∧ Q (.int L.length) H
theorem cr_lenS : CallR X (.builtin "len") (rLenS X.w) := by
  intro pins s σ H vs us Q I r h
  obtain ⟨a, L, rfl, ha, q⟩ := h
  rw [Vals.ref1 r]
  obtain ⟨o, es, ep, t, ho, R⟩ := setSO_at I ha
  have z := R.size
  refine call_len_set ho R.exact R.data R.fits (by have := R.bound; have e : scanBound = 4096 := rfl; omega) ?_
  exact ⟨.int L.length, H, I.tok _, ⟨_, by rw [z]⟩, q⟩
/-- one | another -/
def rOrS (w : World) : R2 := fun x y H Q => ∃ (a b : Addr) (La Lb : List Str), x = .ref a ∧ y = .ref b ∧ a ≠ b ∧ H a = some (SetSO w a La) ∧ H b = some (SetSO w b Lb) ∧ La.length ≤ 8 ∧ Lb.length ≤ 8 ∧
  ∀ (L : List Str) (p : Addr), L.Nodup → (∀ x, x ∈ L ↔ x ∈ La ∨ x ∈ Lb) → L.length ≤ 16 → H p = none → Q (.ref p) (upd H p (SetSO w p L))
theorem StrSet.nodup {w : World} {h : Heap} {a : Addr} {L : List Str} (R : StrSet w h a L) : L.Nodup := by
  obtain ⟨o, es, ep, t, ho, R⟩ := R
  exact R.nd
theorem or_setS : OpR X (binaryOp .BitOr) (rOrS X.w) := by
  intro pins s σ H x y v u Q I rx ry h
  obtain ⟨a, b, La, Lb, rfl, rfl, hne, ha, hb, na, nb, q⟩ := h
  cases rx
  cases ry
  refine txt_or hne (setSO_at I ha) (setSO_at I hb) na nb fun d h' L k R mem len => ?_
  have hn : H s.heap.objs.size = none := I.hok.fresh (Nat.le_refl _)
  have J : Inv X pins σ (upd H s.heap.objs.size (SetSO X.w s.heap.objs.size L)) { s with heap := h', gens := s.gens, drawn := d, toks := s.toks } :=
    I.call (ch := []) (Un.laid k (Nat.le_refl _) hn) (I.hok.laid k (Nat.le_refl _) (setSO_of R)) I.bare (fun _ z => nomatch z)
  exact ⟨.ref _, _, J, rfl, q L _ R.nodup mem (by omega) hn⟩
/-! ### sorted, of what is collected -/
section
variable {P : Program} {w : World} {A : Around} {E : Value → Shared → Prop} {s : Shared}
theorem sorted_txt {v : Value} {xs : List Str} {Q : Value → Shared → Prop} (h64 : xs.length < 64)
    (hc : ∀ (Q' : List Value → Shared → Prop), (∀ s' us ys, (∀ b o, s.heap.get? b = some o → s'.heap.get? b = some o) → s'.gens = s.gens → s'.os = s.os → StrsAre us ys → ys.Perm xs → Q' us s') → wpAny (model P w) A.in1 (collect v) Q' E s)
    (hQ : ∀ (h1 : Heap) (s' : Shared) (p : Addr) (out : Array Value) (c : Nat) (ys : List Str), (∀ b o, s.heap.get? b = some o → h1.get? b = some o) → (∀ b o, h1.get? b = some o → s'.heap.get? b = some o) → s'.gens = s.gens → s'.os = s.os → h1.objs.size ≤ p →
      s'.heap.get? p = some (seqObj "list" out c) → StrsAre out.toList ys → ys.Perm xs → sortedS ys = true → Q (.ref p) s') :
    wpAny (model P w) A (call (.builtin "sorted") [v]) Q E s := by
  refine Calls.call_function_entry kind_sorted plain_sorted entry_sorted (args_sorted1 _) ?_
  unfold Builtin.«sorted»
  refine wpAny_bind (m := checkCount "sorted" 1 1 _) (wpAny_pure ?_)
  refine wpAny_bind (hc _ fun s1 us ys k1 g1 o1 hS pm => ?_)
  have lu : us.length = xs.length := by rw [hS.length, pm.length_eq]
  refine wpAny_bind (wpAny_newList ?_ (by rw [lu, sizeLine_eq]; omega))
  have hoL : (s1.heap.push (seqObj "list" us.toArray 0)).get? s1.heap.objs.size = some (seqObj "list" us.toArray 0) := Heap.get?_push_size _ rfl
  refine wpAny_bind (wpAny_holding (wpAny_call_entry slot_list_sort ⟨_, hoL, rfl⟩ entry_list_sort (list_sort_treeK strKind_oneLt hoL hS.keysOf (fun v1 v2 rest e => keyKind_strs (by rw [← e]; exact hS)) (by rw [lu]; exact h64) fun st' hp hs => ⟨_, rfl, ?_⟩) (args_list_sort _)))
  obtain ⟨ys', h1, h2, h3⟩ := sorted_out_str hS hp hs
  obtain ⟨c, hc⟩ := sortedHeap_at (vs := us) (out := (arrOf st').map (·.2)) hoL
  refine wpAny_pure ⟨_, rfl, hQ s1.heap _ s1.heap.objs.size ((arrOf st').map (·.2)) c ys' k1 (fun b u q => ?_) g1 o1 (Nat.le_refl _) hc h1 (h2.trans pm) h3⟩
  have hlt := Heap.lt_size q
  show (sortedHeap (s1.heap.push (seqObj "list" us.toArray 0)) s1.heap.objs.size us ((arrOf st').map (·.2))).get? b = some u
  rw [sortedHeap_old (Nat.ne_of_lt hlt) (by rw [size_push']; exact Nat.lt_succ_of_lt hlt)]
  exact Heap.get?_push_of_some _ q
theorem set_out {w : World} : ∀ {l : List (Int × Value)} , (∀ e ∈ l, Entry w e) → StrsAre (l.map (·.2)) (l.map txt)
  | [], _ => .nil
  | e :: l, h => by
    obtain ⟨k, tk, h1, _⟩ := h e List.mem_cons_self
    have e2 : txt e = k := by unfold txt; rw [h1]
    rw [List.map_cons, List.map_cons, h1, e2]
    exact .cons k tk (set_out fun x hx => h x (List.mem_cons_of_mem _ hx))
theorem strs_perm {us vs : List Value} {xs : List Str} (h : StrsAre us xs) (p : vs.Perm us) : ∃ ys, StrsAre vs ys ∧ ys.Perm xs := by
  have a : ∀ v ∈ vs, ∃ x t, v = Value.str x t := fun v hv => h.all v (p.mem_iff.mp hv)
  have e : us.map strOf = xs := h.strs
  exact ⟨vs.map strOf, strsAre_map vs a, by rw [← e]; exact p.map strOf⟩
end
/-- sorted(texts): a list, a tuple or a set of texts -/
def rSortS (K : PySem.W.Frag) (w : World) : List V → Hp → VK → Prop := fun vs H Q => ∃ (a : Addr) (xs : List Str), vs = [V.ref a] ∧ (SqL K H a (xs.map V.str) ∨ SqT K H a (xs.map V.str) ∨ H a = some (SetSO w a xs)) ∧ xs.length < 64 ∧
  ∀ (ys : List Str) (p : Addr), ys.Perm xs → sortedS ys = true → H p = none → Q (.ref p) (upd H p (.lst (ys.map V.str)))
theorem cr_sortS (hc : X.calm = true) : CallR X (.builtin "sorted") (rSortS X.K X.w) := by
  intro pins s σ H vs us Q I r h
  obtain ⟨a, xs, rfl, hs, h64, q⟩ := h
  rcases hs with hs | hs | hs
  · exact cr_sortedS pins s σ H _ us Q I r ⟨a, xs, rfl, hs, h64, q⟩
  all_goals
    rw [Vals.ref1 r]
    refine sorted_txt (xs := xs) h64 (fun Q' h' => ?_) fun h1 s' p out c ys k1 k g o hp hg hS pm so => ?_
    rotate_left
    · have hlen : (ys.map V.str).length ≤ sizeLine := by rw [List.length_map, pm.length_eq]; exact small64 h64
      have I1 : Inv X pins σ H { s with heap := h1 } := I.kept k1
      have hn : H p = none := I1.hok.fresh hp
      have J : Inv X pins σ (upd H p (.lst (ys.map V.str))) { s with heap := s'.heap, gens := s'.gens, drawn := s'.drawn, toks := s'.toks } :=
        I1.call (s := { s with heap := h1 }) (ch := []) (Un.laid k hp hn) (I1.hok.laid k hp ⟨hlen, out.toList, c, vals_of_strs hS, hg⟩) (by rw [g]; exact I.bare) (fun _ z => nomatch z)
      have e : s' = { s with heap := s'.heap, gens := s'.gens, drawn := s'.drawn, toks := s'.toks } := by
        cases s'
        cases s
        cases o
        rfl
      rw [e]
      exact ⟨.ref p, _, J, rfl, q ys p pm so hn⟩
  · obtain ⟨its, rv, pl, hz⟩ := I.tuple hs
    obtain ⟨o, ho, hcl, n, hd⟩ := pl
    exact wpAny_collect_seq a (.inr rfl) ho hcl hd (fun h2 hk => h' _ _ xs hk rfl rfl (strsAre_of rv) (List.Perm.refl _)) (by rw [List.size_toArray, ← rv.length]; exact hz)
  · obtain ⟨o, es, ep, t, ho, R⟩ := setSO_at I hs
    refine collect_set (A := X.A.in1) (I.ok.hd hc) ⟨o, ho, R.exact.1, R.data⟩ R.fits R.bound R.ris R.led fun s' out k z g o pm => ?_
    obtain ⟨ys, y1, y2⟩ := strs_perm (set_out R.good) pm
    exact h' s' out ys k g o y1 (y2.trans R.perm)
end
/-! ### set(a tuple of texts) -/
section
variable {prog : Program} {w : World} {A : Around} {E : Value → Shared → Prop} {s : Shared}
theorem set_new1 (a : Value) {Q1 : Value → Shared → Prop} (h : Q1 (.ref s.heap.objs.size) { s with heap := s.heap.push { cls := .type "set", dict := none, data := .set #[] 0 (.fresh 0 0 (!w.params.followText "set-order")) } }) :
    codeAny (model prog w) A (.call (.builtin "set.__new__") ⟨[.type "set", a], []⟩) (wants Q1 E) s := by
  refine codeAny_of_tree ?_
  show wpAny _ A.in1 (do checkBuiltinCall "set.__new__" ⟨[.type "set", a], []⟩; again (.builtin "set.__new__" ⟨[.type "set", a], []⟩)) _ _ s
  refine wpAny_bind (wpAny_of_eq (PySem.F.newCall_set_1 a) (wpAny_pure ⟨plainId_quiet F.plain_set_new _, codeAny_builtin F.entry_set_new ?_⟩))
  rw [Around.under_plainId F.plain_set_new _]
  unfold Builtin.«set.__new__» Builtin.Frozenset.newClass
  have hsub := sub_set_self
  obtain ⟨hp, g, d, tk, os⟩ := s
  dsimp only
  wp_walk
  refine wpAny_askSetting (wpAny_pure ?_)
  dsimp only
  simp only [newObj]
  refine wpAny_bind (wpAny_alloc (wpAny_pure ?_))
  exact wpAny_pure h
end
section
variable {prog : Program} {w : World} {A : Around} {R : Result → Shared → Prop} {I : Addr} {fp wr : List Addr} {G : Array GenState → Array GenState → Prop} {n : Nat} {P : Nat → Value → Prop} {St : Nat → Shared → Prop}
def metS (xs : List Str) : List Str := xs.foldl addTo []
theorem metS_snoc (xs : List Str) (x : Str) : metS (xs ++ [x]) = addTo (metS xs) x := by
  unfold metS
  rw [List.foldl_append]
  rfl
theorem metS_mem : ∀ (xs L : List Str) (x : Str), x ∈ xs.foldl addTo L ↔ x ∈ L ∨ x ∈ xs
  | [], L, x => by simp
  | y :: xs, L, x => by
    rw [List.foldl_cons, metS_mem xs, addTo_mem, List.mem_cons]
    constructor
    · rintro ((z | z) | z)
      · exact .inr (.inl z)
      · exact .inl z
      · exact .inr (.inr z)
    · rintro (z | z | z)
      · exact .inl (.inr z)
      · exact .inl (.inl z)
      · exact .inr z
theorem metS_len : ∀ (xs L : List Str), (xs.foldl addTo L).length ≤ L.length + xs.length
  | [], L => Nat.le_refl _
  | y :: xs, L => by
    have a := metS_len xs (addTo L y)
    have b := @addTo_len L y
    rw [List.foldl_cons, List.length_cons]
    omega
theorem loopTxt (W : WalksS prog w A.in1 I fp wr G n P St) (S : Addr) (hSf : S ∉ fp) (xs : List Str) (hsz : xs.length = n) (hb : n + 1 < scanBound) (hval : ∀ i v, P i v → ∃ x t, xs[i]? = some x ∧ v = .str x t) :
    ∀ (k i : Nat) (s : Shared), n - i = k → i ≤ n → St i s → StrSet w s.heap S (metS (xs.take i)) →
      (∀ s', Moved (S :: wr) G s s' → StrSet w s'.heap S (metS xs) → R (.ok (.ret .none)) s') →
      codeAny (model prog w) A (.builtin "set.update.loop" ⟨[.ref S, .ref I], []⟩) R s := by
  have hSw : S ∉ wr := fun h => hSf (W.sub _ h)
  have hsub : ∀ b ∈ wr, b ∈ S :: wr := fun b hb => List.mem_cons_of_mem _ hb
  intro k
  induction k with
  | zero =>
    intro i s hk hi hst hS hR
    have hin : i = n := by omega
    subst hin
    refine codeAny_builtin PyProof.Rows.F.entry_set_update_loop ?_
    rw [Around.under_plainId PyProof.Rows.F.plain_set_update_loop _]
    show wpAny _ A.in1 (pyNext (.ref I) >>= _) _ _ s
    refine wpAny_bind (W.done s _ _ hst fun s' hm => ?_)
    show wpAny _ A.in1 (ret Value.none) _ _ s'
    rw [List.take_of_length_le (Nat.le_of_eq hsz)] at hS
    exact wpAny_pure (hR s' (hm.mono hsub) (hS.at fun o ho => hm.heap S _ hSw ho))
  | succ k ih =>
    intro i s hk hi hst hS hR
    have hlt : i < n := by omega
    refine codeAny_builtin PyProof.Rows.F.entry_set_update_loop ?_
    rw [Around.under_plainId PyProof.Rows.F.plain_set_update_loop _]
    show wpAny _ A.in1 (pyNext (.ref I) >>= _) _ _ s
    refine wpAny_bind (W.item i s _ _ hlt hst fun v s' hP hst' hm => ?_)
    obtain ⟨x, t, hx, e⟩ := hval i v hP
    subst e
    have hS' : StrSet w s'.heap S (metS (xs.take i)) := hS.at fun o ho => hm.heap S _ hSw ho
    have hlen : (metS (xs.take i)).length + 1 < scanBound := by
      have q := metS_len (xs.take i) []
      have q2 := List.length_take_le i xs
      unfold metS
      simp only [List.length_nil, Nat.zero_add] at q
      omega
    show wpAny _ A.in1 (holding [Value.str x t] (setAdd S (.str x t)) >>= _) _ _ s'
    refine wpAny_bind (wpAny_holding ?_)
    unfold setAdd
    refine wpAny_holding (wpAny_bind ((PySem.strKind prog w).pyHash (k := x) (strKind_is _ _ _ _) ?_))
    refine txt_addHashed (s := { s' with toks := s'.toks + 1 }) hS' hlen fun b h' hsb hS2 => ?_
    have e : metS (xs.take (i + 1)) = addTo (metS (xs.take i)) x := by
      rw [List.take_add_one, hx]
      exact metS_snoc _ x
    rw [← e] at hS2
    refine wpAny_pure ⟨plainId_quiet PyProof.Rows.F.plain_set_update_loop _, ih (i + 1) _ (by omega) hlt (W.frame _ s' _ _ hst' (Nat.le_succ _) fun b hb o e => ?_) hS2 fun s2 hm2 h2 => ?_⟩
    · exact (hsb.2 b (fun z => hSf (z ▸ hb))).trans e
    · exact hR s2 (Moved.trans W.gtrans ((hm.mono hsub).then_heap (Nat.le_succ _) fun b o hb e => (hsb.2 b (fun z => hb (by rw [z]; exact List.mem_cons_self))).trans e) hm2) h2
end
section
variable {prog : Program} {w : World} {A : Around} {E : Value → Shared → Prop} {s : Shared}
theorem strs_get : ∀ {us : List Value} {xs : List Str}, StrsAre us xs → ∀ (i : Nat) (v : Value), us[i]? = some v → ∃ x t, xs[i]? = some x ∧ v = .str x t
  | _, _, .nil, i, v, h => by simp at h
  | _, _, .cons x t _, 0, v, h => ⟨x, t, rfl, (Option.some.inj h).symm⟩
  | _, _, .cons _ _ r, i + 1, v, h => strs_get r i v (by simpa using h)
theorem set_of_tup {l : Addr} {items : Array Value} {xs : List Str} {Q : Value → Shared → Prop}
    (hh : A.handled = none) (hl : s.heap.IsTuple l items) (hi : PyProof.Rows.StrsAre items.toList xs) (hb : xs.length + 1 < scanBound)
    (h : ∀ (h' : Heap) (tk : Nat), StrSet w h' s.heap.objs.size (metS xs) → (∀ b o, b < s.heap.objs.size → s.heap.get? b = some o → h'.get? b = some o) → Q (.ref s.heap.objs.size) { s with heap := h', toks := tk }) :
    wpAny (model prog w) A (call (.type "set") [.ref l]) Q E s := by
  obtain ⟨c, tl, hmro⟩ := PySem.F.called_set.mro
  have hmade := PySem.F.called_set.made
  have hsub := PySem.F.called_set.sub
  refine wpAny_call (codeAny_of_tree ?_)
  show wpAny _ _ (callAny (.type "set") _) _ _ _
  refine wpAny_pure ⟨Code.quiet_builtin _ (by decide +kernel), codeAny_builtin PySem.F.entry_type_call ?_⟩
  rw [Around.under_plain (weight_type_call_type "set" [.ref l] []) rfl]
  have h1 := PySem.F.called_set.notType
  have h2 := PySem.F.called_set.canCreate
  have hct := PySem.F.typeCall_set_1 (.ref l)
  repeat (any_goals (first | assumption | wp_step))
  refine codeAny_mono (set_new1 (.ref l) (E := E) (Q1 := fun obj s1 => obj = .ref s.heap.objs.size ∧ s1 = { s with heap := s.heap.push { cls := .type "set", dict := none, data := .set #[] 0 (.fresh 0 0 (!w.params.followText "set-order")) } }) ⟨rfl, rfl⟩) fun r s1 hr => ?_
  cases r with
  | error e => exact hr
  | ok fl =>
    cases fl with
    | ret obj =>
      obtain ⟨rfl, rfl⟩ := hr
      have R0 := txt_fresh (h := s.heap) w
      have hS : (s.heap.push { cls := .type "set", dict := none, data := .set #[] 0 (.fresh 0 0 (!w.params.followText "set-order")) }).get? s.heap.objs.size = some { cls := .type "set", dict := none, data := .set #[] 0 (.fresh 0 0 (!w.params.followText "set-order")) } := Heap.get?_push_size _ rfl
      have hT : Shared.TypeIs { s with heap := s.heap.push { cls := .type "set", dict := none, data := .set #[] 0 (.fresh 0 0 (!w.params.followText "set-order")) } } (.ref s.heap.objs.size) "set" := ⟨_, hS, rfl⟩
      have hli := PySem.F.called_set.init.lookup
      have hbi := PySem.F.called_set.init.bind (.ref s.heap.objs.size)
      repeat (any_goals (first | assumption | wp_step))
      refine codeAny_mono (codeAny_call_builtin (R := wants (fun r s2 => r = .none ∧ ∃ h' tk, s2 = { s with heap := h', toks := tk } ∧ StrSet w h' s.heap.objs.size (metS xs) ∧
          (∀ b o, b < s.heap.objs.size → s.heap.get? b = some o → h'.get? b = some o)) E) PySem.F.called_set.init.plain PySem.F.entry_set_init (check_set_init_1 hT ?_)) fun r2 s2 hr2 => ?_
      · obtain ⟨ol, hol, hcl, nl, hdl⟩ := hl
        obtain ⟨ocls, odict, odata, oslots⟩ := ol
        simp only at hcl hdl
        subst hcl; subst hdl
        have hol' : (s.heap.push { cls := .type "set", dict := none, data := .set #[] 0 (.fresh 0 0 (!w.params.followText "set-order")) }).get? l = some { cls := .type "tuple", dict := odict, data := .seq items nl, slots := oslots } := Heap.get?_push_of_some _ hol
        have hsls := PySem.F.sub_tuple_set
        have hslf := PySem.F.sub_tuple_frozenset
        have hne : (Value.type "tuple" == Value.type "dict") = false := by decide
        have hl1 : (s.heap.push { cls := .type "set", dict := none, data := .set #[] 0 (.fresh 0 0 (!w.params.followText "set-order")) }).IsTuple l items := ⟨_, hol', rfl, nl, rfl⟩
        unfold Builtin.«set.__init__» noKeywords Builtin.Frozenset.updateFrom
        generalize hPI : pyIter = PI
        wp_walk
        subst hPI
        refine wpAny_pyIter_tuple (s := { s with heap := s.heap.push { cls := .type "set", dict := none, data := .set #[] 0 (.fresh 0 0 (!w.params.followText "set-order")) } }) hl1 ?_
        refine wpAny_bind (wpAny_runValue ?_)
        have hlS : l < s.heap.objs.size := Heap.lt_size hol
        have hh3 : A.in1.in1.in1.handled = none := by simp [hh]
        have hneI : l ≠ (s.heap.push { cls := .type "set", dict := none, data := .set #[] 0 (.fresh 0 0 (!w.params.followText "set-order")) }).objs.size := by
          rw [Heap.size_push]; exact Nat.ne_of_lt (Nat.lt_succ_of_lt hlS)
        have hSf : s.heap.objs.size ∉ [(s.heap.push { cls := .type "set", dict := none, data := .set #[] 0 (.fresh 0 0 (!w.params.followText "set-order")) }).objs.size, l] := by
          rw [Heap.size_push]; simp only [List.mem_cons, List.mem_singleton, List.not_mem_nil, or_false, not_or]
          exact ⟨Nat.ne_of_lt (Nat.lt_succ_self _), Nat.ne_of_gt hlS⟩
        have hsz : xs.length = items.size := by rw [← StrsAre.len_eq hi, Array.length_toList]
        refine loopTxt ((Walks.tuple hh3 _ l hneI items).toS) s.heap.objs.size
          hSf xs hsz (by rw [← hsz]; exact hb) (fun i v hv => strs_get hi i v (by rw [Array.getElem?_toList]; exact hv)) (items.size - 0) 0 _ (by omega) (Nat.zero_le _)
          ⟨⟨_, Heap.get?_push_size _ rfl, rfl, rfl⟩, (hl1.push _)⟩ ?hS0 ?hR
        case hS0 => exact R0.at fun o e => Heap.get?_push_of_some _ e
        case hR =>
          intro s' hm hS'
          obtain ⟨h', g', d', tk', os'⟩ := s'
          have eg : g' = s.gens := hm.gens
          have ed : d' = s.drawn := hm.drawn
          have eo : os' = s.os := hm.os
          subst eg; subst ed; subst eo
          show wpAny _ _ _ _ _ _
          refine wpAny_pure ?_
          show wpAny _ _ (ret Value.none) _ _ _
          refine wpAny_pure ⟨rfl, h', tk', rfl, hS', fun b o hb e => ?_⟩
          have hb2 : b ≠ (s.heap.push { cls := .type "set", dict := none, data := .set #[] 0 (.fresh 0 0 (!w.params.followText "set-order")) }).objs.size := by
            rw [Heap.size_push]; exact Nat.ne_of_lt (Nat.lt_succ_of_lt hb)
          exact hm.heap b o (by simp only [List.mem_cons, List.mem_singleton, List.not_mem_nil, or_false, not_or]; exact ⟨Nat.ne_of_lt hb, hb2⟩) (Heap.get?_push_of_some _ (Heap.get?_push_of_some _ e))
      · cases r2 with
        | error e => exact hr2
        | ok fl2 =>
          cases fl2 with
          | ret r =>
            obtain ⟨rfl, h', tk, rfl, hS', hk'⟩ := hr2
            repeat (any_goals (first | assumption | wp_step))
            exact h _ _ hS' hk'
          | _ => exact hr2.elim
    | _ => exact hr.elim
end
section
variable {X : Cx}
/-- set(a tuple of texts) -/
def rSetTup (K : PySem.W.Frag) (w : World) : List V → Hp → VK → Prop := fun vs H Q => ∃ (a : Addr) (xs : List Str), vs = [V.ref a] ∧ SqT K H a (xs.map V.str) ∧ xs.length < 64 ∧
  ∀ (L : List Str) (p : Addr), L.Nodup → (∀ x, x ∈ L ↔ x ∈ xs) → L.length ≤ xs.length → H p = none → Q (.ref p) (upd H p (SetSO w p L))
theorem cr_setTup (hc : X.calm = true) : CallR X (.type "set") (rSetTup X.K X.w) := by
  intro pins s σ H vs us Q I r h
  obtain ⟨a, xs, rfl, hs, h64, q⟩ := h
  rw [Vals.ref1 r]
  obtain ⟨its, rv, pl, hz⟩ := I.tuple hs
  have hsr := strsAre_of rv
  refine set_of_tup (I.ok.hd hc) pl hsr (by have e : scanBound = 4096 := rfl; omega) fun h' tk R k => ?_
  have k' : ∀ b o, s.heap.get? b = some o → h'.get? b = some o := fun b o e => k b o (Heap.lt_size e) e
  refine ⟨.ref _, _, I.laid (t' := tk) k' (Nat.le_refl _) (setSO_of R), rfl, q _ _ R.nodup (fun x => ?_) ?_ (I.hok.fresh (Nat.le_refl _))⟩
  · unfold metS
    rw [metS_mem]
    simp
  · have z := metS_len xs []
    simpa [metS] using z
/-! ### a comprehension over a list or a tuple that stays -/
/-- the walk of a row that stays -/
structure SeqIt (K : PySem.W.Frag) (xs : List V) (J : It) (St : Hp → Prop) : Prop where
  go : ∀ i x H, xs[i]? = some x → St H → J.go i H
  yld : ∀ i H x H', St H → J.yld i H x H' → H' = H ∧ xs[i]? = some x
  stop : ∀ H, St H → J.stop xs.length H
theorem seqIt_list (K : PySem.W.Frag) (a : Addr) (xs : List V) : SeqIt K xs (Itl K a) (fun H => SqL K H a xs) :=
  ⟨fun i x H e h => ⟨xs, x, h, e⟩, fun i H x H' h y => ⟨y.1, y.2 xs h⟩, fun H h => ⟨xs, h, Nat.le_refl _⟩⟩
theorem seqIt_tup (K : PySem.W.Frag) (a : Addr) (xs : List V) : SeqIt K xs (Itt K a) (fun H => SqT K H a xs) :=
  ⟨fun i x H e h => ⟨xs, x, h, e⟩, fun i H x H' h y => ⟨y.1, y.2 xs h⟩, fun H h => ⟨xs, h, Nat.le_refl _⟩⟩
theorem ss_seq {w : World} {K : PySem.W.Frag} {xs : List V} {J : It} {St : Hp → Prop} {g : TG} {te : TE} {vs : List Nat} {σ : L2.St} {H1 : Hp} {D : Addr} {Qd : Hp → Prop} (sq : SeqIt K xs J St) (Pv : Nat → Hp → Prop) (h0 : Pv 0 (upd H1 D (SetSO w D []))) (hl : ∀ i H, i ≤ xs.length → Pv i H → St H)
    (hs : ∀ i x H, xs[i]? = some x → Pv i H → g x (wipe σ vs) H fun σ2 H2 => wipe σ2 vs = wipe σ vs ∧ te σ2 H2 fun y H4 => ∃ (c : Str) (L : List Str), y = .str c ∧ H4 D = some (SetSO w D L) ∧ L.length + 1 < scanBound ∧ Pv (i + 1) (upd H4 D (SetSO w D (addTo L c))))
    (hd : ∀ H, Pv xs.length H → Qd H) :
    ∃ W : Nat → Nat → Hp → Prop, (∃ m, W 0 m (upd H1 D (SetSO w D []))) ∧ ∀ i m H, W i m H →
      (J.stop i H ∧ Qd H) ∨ (J.go i H ∧ ∃ Nx : Hp → Prop, (∀ H', Nx H' → ∃ m', m' < m ∧ W (i + 1) m' H') ∧ ∀ x H', J.yld i H x H' → g x (wipe σ vs) H' fun σ2 H2 => wipe σ2 vs = wipe σ vs ∧
        te σ2 H2 fun y H4 => ∃ (c : Str) (L : List Str), y = .str c ∧ H4 D = some (SetSO w D L) ∧ L.length + 1 < scanBound ∧ Nx (upd H4 D (SetSO w D (addTo L c)))) := by
  refine ⟨fun i m H => m = xs.length - i ∧ i ≤ xs.length ∧ Pv i H, ⟨xs.length, by simp, Nat.zero_le _, h0⟩, ?_⟩
  rintro i m H ⟨rfl, hi, p⟩
  have q := hl i H hi p
  by_cases hlt : i < xs.length
  · refine .inr ⟨sq.go i xs[i] H (by simp [hlt]) q, Pv (i + 1), fun H' p' => ⟨xs.length - (i + 1), by omega, rfl, hlt, p'⟩, fun x H' y => ?_⟩
    obtain ⟨e, y2⟩ := sq.yld i H x H' q y
    rw [e]
    exact hs i x _ y2 p
  · have e : i = xs.length := by omega
    subst e
    exact .inl ⟨sq.stop H q, hd H p⟩
end
end KD
end

section
set_option Elab.async false
set_option linter.all false
set_option maxRecDepth 100000
set_option maxHeartbeats 4000000
/-! promises that hold where no repr is under way -/
namespace KD
open PySem PySem.Spec PyProof.Rows C8 LamX NdefX
open L2 hiding CX0 E0 pass0 Fun
/-- as FnOk, where no display of a tuple is under way -/
structure FnOkG (P : Program) (w : World) (K : PySem.W.Frag) (mg : Str → Option Value) (base : Heap) (k : Nat) (f : Addr) (fd : FuncData) (ps : List Str) (sp : Sp) : Prop where
  len : ∀ vs H Q E, sp vs H Q E → vs.length = ps.length
  run : ∀ (A : Around) (outer : List Env) (s : Shared) (H : Hp) (args : Args) (us : List Value) (vs : List V) (Q : VK), A.guards = some [] → Room k A → Env0 P w K mg base A outer s H → BindsTo s fd args (ps.zip us) → Vals vs us → sp vs H Q E0 →
    codeAny (model P w) A (.call (.ref f) args) (CR CX0 outer P w H s Q E0) s
section
variable {P : Program} {w : World} {K : PySem.W.Frag} {mg : Str → Option Value} {base : Heap} {k : Nat} {f : Addr} {fd : FuncData} {N ps : List Str} {sp : Sp} {name qual : Str} {params : Arguments} {body : List Stmt} {scope : Scope} {dvs : List V} {kws : List (Str × V)}
theorem okG (F : FunD K name qual params body scope dvs kws f fd) (S : FnScope N ps scope) (len : ∀ vs H Q E, sp vs H Q E → vs.length = ps.length)
    (hbody : ∀ (cdv : Value) (A : Around) (outer : List Env) (s : Shared) (H : Hp) (vs : List V) (Q : VK), A.guards = some [] → Room k (A.deeper (envOfC qual scope s.heap.objs.size f cdv)) → sp vs H Q E0 →
      ∃ t, PSs (cxOf CX0 P w K mg base N qual scope f cdv A outer s H E0) body t ∧ t { nx := fun _ H' => Q .non H', rt := Q } (start N vs) H) : FnOkG P w K mg base (k + 1) f fd ps sp := by
  obtain ⟨oc, od, dV, kV, doc, pm, an, cdv, ct, osl, rfl, lk, hcd, _, _⟩ := F.ex
  refine ⟨len, fun A outer s H args us vs Q hgd hr e0 hb r hsp => ?_⟩
  have hl := len _ _ _ _ hsp
  have KX : K.In s.heap := e0.mod.kin.keeps fun b o e => (e0.bs b o e).1
  have lim : s.heap.NoLimit := e0.mod.nolimit.keeps fun b o e => (e0.bs b o e).1
  have hkind : ∀ y ∈ ps.zip us, scope.names.lookup y.1 = some .local ∨ (scope.names.lookup y.1 = some .cell ∧ ((cellsFrom (s.heap.objs.size + 1) scope.names []).lookup y.1).isSome = true) := fun ⟨n, v⟩ hy =>
    (S.par n (List.of_mem_zip hy).1).imp id fun q => ⟨q, PySem.W.cellsFrom_some _ _ _ (.inl q)⟩
  refine codeAny_call_function hr.depth (KX _ _ lk) rfl S.co S.gen rfl (PySem.W.codeRec_of KX hcd) (hb _ _ _ _ ?_)
  refine wpAny_newFunctionEnv_cells S.kind hkind fun env he s1 x => ?_
  subst he
  refine ⟨lim.keeps x.toInCall.keep, codeAny_func ?_⟩
  obtain ⟨t, ht, hq⟩ := hbody cdv A outer s H vs Q hgd (hr.deeper _) hsp
  have I : Inv (cxOf CX0 P w K mg base N qual scope f cdv A outer s H E0) [] (start N vs) H s1 := inv_start S hr.hd e0 hl r x
  refine wpAny_mono (ht.run [] s1 (start N vs) H _ I hq) (fun fl s' hs => ?_) fun e s' hs => hs
  cases fl with
  | ret u =>
    obtain ⟨v, σ', H', J, rv, q⟩ := hs
    exact ⟨v, H', J.os, J.bare, J.base, J.hok, rv, q⟩
  | next =>
    obtain ⟨σ', H', J, q⟩ := hs
    exact ⟨V.non, H', J.os, J.bare, J.base, J.hok, rfl, q⟩
  | brk =>
    obtain ⟨_, _, _, q⟩ := hs
    exact False.elim q
  | cont =>
    obtain ⟨_, _, _, q⟩ := hs
    exact False.elim q
end
/-- called by a name -/
structure CalG (P : Program) (w : World) (K : PySem.W.Frag) (mg : Str → Option Value) (base : Heap) (k : Nat) (x : Str) (sp : Sp) : Prop where
  ex : ∃ (f : Addr) (fd : FuncData) (ps : List Str), FnOkG P w K mg base k f fd ps sp ∧ mg x = some (.ref f) ∧ PySem.W.keepIn K (.ref f) = true ∧ Binds K fd ps []
section
variable {X : Cx} {k j : Nat} {x : Str} {sp : Sp} {p pos : Pos} {e : Expr} {es : List Expr} {t : TA}
theorem pe_cG (c : CalG X.prog X.w X.K X.mg X.base k x sp) (hgd : X.A.guards = some []) (hr : Room j X.A) (hk : k ≤ j) (hg : Gl X x) (ha : PA X (e :: es) t)
    (hdb : (x == ("__debug__" : Str)) = false := by decide) (he : starEach (e :: es) X.env = (false, eval e X.env) :: starEach es X.env := by rfl) (hpl : (backTo pos (starEach es X.env)).any (·.1) = false := by rfl) :
    PE X (.Call (.Name x p) (e :: es) [] pos) (tCall sp [] E0 t) := by
  obtain ⟨f, fd, ps, F, hm, kp, b⟩ := c.ex
  refine ⟨fun pins s σ H Q I h => ?_⟩
  refine wpAny_Call_Name_kw (ld_glob I hg hm ?_ hdb)
  refine PySem.W.callWith_K (h₀ := X.base) I.ok.mod.kin kp (thn (ha.run pos pins s σ H _ I h) fun us s1 ⟨vs, H1, I1, r, q⟩ => ⟨I1.kIn, ?_⟩) he hpl
  have q' : sp (vs ++ []) H1 Q E0 := q
  rw [List.append_nil] at q'
  have hlen : (us ++ []).length = ps.length := by
    rw [List.append_nil, ← r.length]
    exact F.len _ _ _ _ q'
  refine wpAny_call (codeAny_mono (F.run X.A X.stack s1 H1 ⟨us, []⟩ us vs Q hgd (hr.mono hk) I1.env0 (by have z := b s1 us I1.kIn hlen; rw [List.append_nil] at z; exact z) r q') fun r s' hq => ?_)
  cases r with
  | error e => exact (show False from hq).elim
  | ok fl =>
    cases fl with
    | ret u => exact I1.after hq
    | next => exact False.elim hq
    | brk => exact False.elim hq
    | cont => exact False.elim hq
end
/-! ### the end -/
/-- the heap at the law's entry: the script, the tables -/
def H0 (K : PySem.W.Frag) (a : Addr) (T : List Addr) (o : Obj) (xs : List V) : Hp := fun b => if b = a ∧ K.lookup a = none then some (.frz o (.lst xs)) else if b ∈ T then some (.tbl #[]) else none
section
variable {K : PySem.W.Frag} {a b : Addr} {T : List Addr} {o : Obj} {xs : List V}
theorem H0_tab (h : b ∈ T) (n : b ≠ a) : H0 K a T o xs b = some (.tbl #[]) := by
  unfold H0
  rw [if_neg (fun z => n z.1), if_pos h]
theorem H0_script (h : K.lookup a = none) : H0 K a T o xs a = some (.frz o (.lst xs)) := by
  unfold H0
  rw [if_pos ⟨rfl, h⟩]
theorem H0_some {u : HO} (h : H0 K a T o xs b = some u) : (b = a ∧ K.lookup a = none ∧ u = .frz o (.lst xs)) ∨ (b ∈ T ∧ u = .tbl #[]) := by
  unfold H0 at h
  split at h
  · rename_i z
    exact .inl ⟨z.1, z.2, (Option.some.inj h).symm⟩
  · split at h
    · rename_i z
      exact .inr ⟨z, (Option.some.inj h).symm⟩
    · cases h
end
theorem law_callG {P : Program} {w : World} {K : PySem.W.Frag} {mg mb : Str → Option Value} {k : Nat} {fa a : Addr} {cs : List (Addr × Addr)} {fd : FuncData} {x : Str} {sp : Sp} {s1 : Shared} {vs : List Value} {ns : List Int}
    (KX : K.In s1.heap) (hns : s1.heap.Ns mainGlobals mg) (hb : s1.heap.Ns builtinsNs mb) (hbb : ∀ x : Str, x ≠ "__name__" → mb x = bootBuiltins x) (hlim : s1.heap.NoLimit) (hg : s1.gens = #[])
    (hT : ∀ p ∈ cs, s1.heap.get? p.2 = some { cls := .none, data := .fields #[] }) (nT : ∀ p ∈ cs, K.lookup p.2 = none) (C : ∀ p ∈ cs, PySem.W.CodeHd s1.heap p.1 p.2)
    (hbm : ∃ (bm : Addr) (ob : Obj), mg "__builtins__" = some (.ref bm) ∧ bm ≠ builtinsNs ∧ s1.heap.get? bm = some ob ∧ ob.cls = .type "module" ∧ ob.dict = some builtinsNs ∧ ob.data = .plain)
    (ha : s1.heap.get? a = some { cls := .type "list", data := .seq vs.toArray }) (hi : IntsAre vs ns) (hl : ns.length ≤ sizeLine) (hr : Room k callerA)
    (F : ∀ base : Heap, K.In base → base.Ns mainGlobals mg → (∀ p ∈ cs, TabB base mg p.1 p.2) → FnOkG P w K mg base k fa fd [x] sp) (hbind : ∀ (s : Shared) (u : Value), BindsTo s fd ⟨[u], []⟩ [(x, u)])
    (hsp : ∀ H : Hp, (∀ p ∈ cs, H p.2 = some (.tbl #[])) → SqL K H a (ns.map V.int) → sp [.ref a] H (fun v _ => v = .bl true) E0) :
    codeAny (model P w) callerA (.call (.ref fa) ⟨[.ref a], []⟩) (fun r s' => r = .ok (.ret (.bool true)) ∧ OldK s1.heap s'.heap ∧ s'.os = s1.os ∧ AllBare s'.gens) s1 := by
  have rv := vals_ints hi
  obtain ⟨T, eT⟩ : ∃ T, T = cs.map (·.2) := ⟨_, rfl⟩
  have inT : ∀ p ∈ cs, p.2 ∈ T := fun p hp => by rw [eT]; exact List.mem_map.mpr ⟨p, hp, rfl⟩
  have ofT : ∀ b ∈ T, ∃ p ∈ cs, p.2 = b := fun b hb => by rw [eT] at hb; exact List.mem_map.mp hb
  have tabT : ∀ b ∈ T, s1.heap.get? b = some { cls := .none, data := .fields #[] } := fun b hb => by
    obtain ⟨p, hp, e⟩ := ofT b hb
    rw [← e]
    exact hT p hp
  have aT : a ∉ T := fun z => by
    have q := tabT a z
    rw [ha] at q
    exact nomatch congrArg Obj.data (Option.some.inj q)
  have neT : ∀ b ∈ T, b ≠ a := fun b hb e => aT (e ▸ hb)
  obtain ⟨H, eH⟩ : ∃ H, H = H0 K a T { cls := .type "list", data := .seq vs.toArray } (ns.map V.int) := ⟨_, rfl⟩
  have hH : ∀ p ∈ cs, H p.2 = some (.tbl #[]) := fun p hp => by rw [eH]; exact H0_tab (inT p hp) (neT _ (inT p hp))
  have cases2 : ∀ b u, H b = some u → (b = a ∧ K.lookup a = none ∧ u = .frz { cls := .type "list", data := .seq vs.toArray } (.lst (ns.map V.int))) ∨ (b ∈ T ∧ u = .tbl #[]) := fun b u h => by rw [eH] at h; exact H0_some h
  have hok : HOk P w H s1.heap := fun b u h => by
    rcases cases2 b u h with ⟨e, _, e2⟩ | ⟨hb, e2⟩
    · rw [e, e2]
      exact ⟨ha, by rw [List.length_map]; exact hl, vs, _, rv, ha⟩
    · rw [e2]
      exact tabT b hb
  have hS : SqL K H a (ns.map V.int) := by
    cases hk : K.lookup a with
    | some o =>
      have e := KX a o hk
      rw [ha] at e
      cases e
      exact .inr ⟨_, vs.toArray, _, hk, rfl, rfl, rfl, by rw [List.size_toArray, hi.length]; exact hl, by simpa using rv⟩
    | none => exact .inl (.inr ⟨_, by rw [eH]; exact H0_script hk⟩)
  -- what is not tracked
  have plain : ∀ {b : Addr} {o : Obj}, s1.heap.get? b = some o → (∀ vs n, o.data ≠ .seq vs n) → o.data ≠ .fields #[] → (hidT s1.heap H).get? b = some o := fun {b o} e h1 h2 => by
    refine hidT_get e ?_
    cases q : H b with
    | none => rfl
    | some u =>
      rcases cases2 b u q with ⟨e', _, _⟩ | ⟨hb, _⟩
      · rw [e', ha] at e
        cases e
        exact absurd rfl (h1 _ _)
      · rw [tabT b hb] at e
        cases e
        exact absurd rfl h2
  have dicts : ∀ {b : Addr} {o : Obj} {es : Array DictEntry} {ep : Nat}, s1.heap.get? b = some o → o.data = .dict es ep → (hidT s1.heap H).get? b = some o := fun {b o es ep} e d =>
    plain e (fun vs n z => nomatch d.symm.trans z) fun z => nomatch d.symm.trans z
  have nsK : ∀ {b : Addr} {m : Str → Option Value}, s1.heap.Ns b m → (hidT s1.heap H).Ns b m := fun {b m} ⟨o, es, ep, e, d, r⟩ => ⟨o, es, ep, dicts e d, d, r⟩
  have hKb : K.In (hidT s1.heap H) := fun b o e => hidT_get (KX b o e) (by
    cases q : H b with
    | none => rfl
    | some u =>
      rcases cases2 b u q with ⟨e', n, _⟩ | ⟨hb, _⟩
      · rw [e', n] at e
        cases e
      · obtain ⟨p, hp, ep⟩ := ofT b hb
        rw [← ep, nT p hp] at e
        cases e)
  have hM : L2.Mod K mg (hidT s1.heap H) := ⟨hKb, nsK hns, ⟨mb, nsK hb, hbb⟩, let ⟨mc, h1, h2⟩ := hlim; ⟨mc, nsK h1, h2⟩⟩
  have TB : ∀ p ∈ cs, TabB (hidT s1.heap H) mg p.1 p.2 := fun p hp => by
    have hTp := hT p hp
    refine ⟨?_, ?_, fun z => ?_⟩
    · obtain ⟨o, us, file, tf, flags, tg, inF, text, tt, e1, r1, r2, r3, r4, r5, r6, r7, r8, hne⟩ := C p hp
      refine ⟨o, us, file, tf, flags, tg, inF, text, tt, plain e1 (fun vs n z => nomatch r2.symm.trans z) fun z => ?_, r1, r2, r3, r4, r5, r6, r7, r8, hne⟩
      have z2 := r2.symm.trans z
      injection z2 with z3
      rw [z3] at r3
      simp at r3
    · obtain ⟨bm, ob, b1, b2, b3, b4, b5, b6⟩ := hbm
      refine ⟨bm, ob, b1, b2, fun q => ?_, fun q => ?_, plain b3 (fun vs n z => nomatch b6.symm.trans z) fun z => (nomatch b6.symm.trans z), b4, b5, b6⟩
      · obtain ⟨o, es, ep, e, hd, _⟩ := hns
        rw [q, e] at b3
        cases b3
        exact nomatch hd.symm.trans b6
      · rw [q, hTp] at b3
        cases b3
        cases b6
    · obtain ⟨o, es, ep, e, hd, _⟩ := hns
      rw [z, hTp] at e
      cases e
      cases hd
  have e0 : Env0 P w K mg (hidT s1.heap H) callerA [] s1 H := ⟨rfl, hM, fun b o e => of_hidT e, Nat.le_of_eq (hidT_size _ _), trivial, fun b hb => absurd (show b ∈ ([] : List Addr) from hb) (by simp), hok, .of_eq hg⟩
  refine codeAny_mono ((F _ hKb (nsK hns) TB).run callerA [] s1 H ⟨[.ref a], []⟩ [.ref a] [.ref a] _ rfl hr e0 (hbind s1 (.ref a)) (.cons rfl .nil) (hsp H hH hS)) fun r s' h => ?_
  cases r with
  | error e => exact (show False from h).elim
  | ok fl =>
    cases fl with
    | next => exact False.elim h
    | brk => exact False.elim h
    | cont => exact False.elim h
    | ret u =>
      obtain ⟨v, H', os, bare, un, hok', r', q⟩ := h
      have q' : v = .bl true := q
      subst q'
      obtain rfl : u = Value.bool true := r'
      have same : ∀ b o, b ∉ T → s1.heap.get? b = some o → s'.heap.get? b = some o := fun b o nb e => by
        cases q : H b with
        | none => exact un.keep b o e q (by intro z; exact absurd (show b ∈ ([] : List Addr) from z) (by simp)) (by simp)
        | some u =>
          rcases cases2 b u q with ⟨_, _, e2⟩ | ⟨hb, _⟩
          · rw [e2] at q
            obtain ⟨x1, _⟩ := hok b _ q
            obtain ⟨x2, _⟩ := hok' b _ (un.frzs b _ _ q)
            rw [e] at x1
            cases x1
            exact x2
          · exact absurd hb nb
      have grew : ∀ b ∈ T, ∃ more : Array Value, s'.heap.get? b = some { cls := .none, data := .fields (#[] ++ more) } := fun b hb => by
        obtain ⟨p, hp, ep⟩ := ofT b hb
        obtain ⟨more, z⟩ := un.tbls p.2 #[] (hH p hp)
        exact ⟨more, by rw [← ep]; exact hok' p.2 _ z⟩
      refine ⟨rfl, ⟨fun b o e => ?_, fun b o e => ?_⟩, os, bare⟩
      · by_cases hb : b ∈ T
        · obtain ⟨p, hp, ep⟩ := ofT b hb
          obtain ⟨more, hm⟩ := grew b hb
          have e' := (tabT b hb).symm.trans e
          cases e'
          refine .inr (.inl ⟨?_, rfl, #[], more, rfl, hm⟩)
          rw [← ep]
          exact ((C p hp).tab (hT p hp)).isCodeTable
        · exact .inl (same b o hb e)
      · by_cases hb : b ∈ T
        · obtain ⟨more, hm⟩ := grew b hb
          exact ⟨_, hm⟩
        · exact ⟨o, same b o hb e⟩
/-- what is known of the law's promise at the head's heap -/
def LawAtG (l : PySem.W.OpenLaw) (w : World) (K : PySem.W.Frag) (k n : Nat) (x : Str) (mg : Str → Option Value) (fa : Addr) (h : Heap) : Prop :=
  ∃ (fd : FuncData) (cs : List (Addr × Addr)) (sp : Sp), (∀ p ∈ cs, h.get? p.2 = some { cls := .none, data := .fields #[] }) ∧ (∀ p ∈ cs, K.lookup p.2 = none) ∧ (∀ p ∈ cs, PySem.W.CodeHd h p.1 p.2) ∧ (∀ (s : Shared) (u : Value), BindsTo s fd ⟨[u], []⟩ [(x, u)]) ∧
    (∀ (H : Hp) (a : Addr) (ns : List Int), ns.length ≤ n → (∀ p ∈ cs, H p.2 = some (.tbl #[])) → SqL K H a (ns.map V.int) → sp [.ref a] H (fun v _ => v = .bl true) E0) ∧
    ∀ base : Heap, K.In base → base.Ns mainGlobals mg → (∀ p ∈ cs, TabB base mg p.1 p.2) → FnOkG l.prog w K mg base k fa fd [x] sp
theorem walkG {l : PySem.W.OpenLaw} {n k : Nat} {q : Program} {loose : List Str} {XP : (Str → Option Value) → Heap → Prop} {YP : World → Heap → Prop} {d : DefRec} {x : Str}
    (hn : l.most = some n) (hn2 : n ≤ sizeLine) (hdf : d.params.defaults = []) (hr : Room k callerA)
    (F : ∀ (w : World) (mg : Str → Option Value) (fa : Addr) (h : Heap), YP w h → h.Ns mainGlobals mg → mg d.name = some (.ref fa) → ∃ K : PySem.W.Frag, K.In h ∧ LawAtG l w K k n x mg fa h) :
    PySem.W.WalkO q loose XP YP l.row.toRowW d [] (fun f vs => PySem.call f vs) := by
  refine Att.attach_callB hn hdf fun w s0 s1 mg mb fa o pm cd doc a vs ns G Y ho hd hcd hmg hobj hints hlen hbits hg => ?_
  obtain ⟨K, KX, fd, cs, sp, hT, nT, C, hb, hsp, hF⟩ := F w mg fa _ Y G.T.g hmg
  exact law_callG KX G.T.g G.T.b G.T.builtins G.T.nolimit hg hT nT C G.T.bmain hobj hints (Nat.le_trans hlen hn2) hr hF hb (fun H hH hS => hsp H a ns hlen hH hS)
end KD
end

section
set_option Elab.async false
set_option linter.all false
set_option maxRecDepth 100000
set_option maxHeartbeats 4000000
/-! ==, !=, len, repr of own things; repr of data -/
namespace KD
open PySem PySem.Spec PyProof.Rows C8 LamX NdefX
open L2 hiding CX0 E0 pass0 Fun
section
variable {X : Cx} {pins : List (Addr × Obj)} {σ : L2.St} {H : Hp} {s : Shared} {n : Nat} {C : Addr} {m : Str} {sp : Sp}
/-- a method run as the machine calls it -/
theorem run_special {A : Around} {E : Value → Shared → Prop} {f : Addr} {fd : FuncData} {ps : List Str} {us : List Value} {vs : List V} {Q : VK} (F : FnOk X.prog X.w X.K X.mg X.base CX0 n f fd ps sp) (b : Binds X.K fd ps []) (sb : Sub X n A) (I : Inv X pins σ H s) (r : Vals vs us) (h : sp vs H Q E0) :
    wpAny (model X.prog X.w) A (call (.ref f) us) (EP X pins σ Q) E s := by
  have e0 : Env0 X.prog X.w X.K X.mg X.base A X.stack s H := by
    have e := I.env0
    exact ⟨by rw [sb.fr]; exact e.frames, e.mod, e.bs, e.bsz, e.funs, e.frf, e.hok, e.bare⟩
  have hl := F.len _ _ _ _ h
  refine wpAny_call (codeAny_mono (F.run A X.stack s H ⟨us, []⟩ us vs Q E0 sb.room e0 (by
    have z := b s us I.kIn (by rw [List.append_nil, ← r.length]; exact hl)
    rw [List.append_nil] at z
    exact z) r h) fun r s' hq => ?_)
  cases r with
  | error e => exact (show False from hq).elim
  | ok fl =>
    cases fl with
    | ret u => exact I.after hq
    | next => exact False.elim hq
    | brk => exact False.elim hq
    | cont => exact False.elim hq
theorem met_fn (M : Met X.prog X.w X.K X.mg X.base n C m sp []) : ∃ (f : Addr) (fd : FuncData) (ps : List Str), FnOk X.prog X.w X.K X.mg X.base CX0 n f fd ps sp ∧ Binds X.K fd ps [] ∧ PySem.W.findIn X.K (.ref C) m = some (some (.ref f)) ∧ PySem.W.isFn X.K (.ref f) = true := by
  obtain ⟨f, fd, ps, ds, c, me, F, b, d⟩ := M.ex
  cases d
  exact ⟨f, fd, ps, F, b, me.at_, me.fn⟩
theorem sub_here {j : Nat} (hr : Room j X.A) (h : n ≤ j) : Sub X n X.A := ⟨hr.mono h, rfl⟩
/-! ### len(own), repr(own) -/
def rOwn1 (C : Addr) (sp : Sp) (G : V → V → Prop) : List V → Hp → VK → Prop := fun vs H Q => ∃ (a dx : Addr) (fs : List (Str × V)), vs = [V.ref a] ∧ H a = some (.ins C dx fs) ∧ sp [.ref a] H (fun v H' => ∃ z, G v z ∧ Q z H') E0
def GLen (v z : V) : Prop := ∃ k : Int, v = .int k ∧ z = .int k ∧ 0 ≤ k ∧ k < 2 ^ 63
def GStr (v z : V) : Prop := ∃ y : Str, v = .str y ∧ z = .str y
theorem cr_lenO {j : Nat} (M : Met X.prog X.w X.K X.mg X.base n C "__len__" sp []) (hr : Room j X.A) (hj : n + 1 ≤ j) : CallR X (.builtin "len") (rOwn1 C sp GLen) := by
  intro pins s σ H vs us Q I r h
  obtain ⟨a, dx, fs, rfl, ha, h⟩ := h
  obtain ⟨f, fd, ps, F, b, hs, hf⟩ := met_fn M
  rw [Vals.ref1 r]
  obtain ⟨mA, J, _⟩ := ins_get I.hok ha
  obtain ⟨od, J, _⟩ := J.look
  obtain ⟨mf, hF⟩ := I.fr
  refine PySem.W.len_K hF I.ok.mod.kin J hs hf (thn (run_special F b (sub_here hr hj).in1 I (us := [.ref a]) (vs := [.ref a]) (.cons rfl .nil) h) fun u s' ⟨v, H', I', rv, z, ⟨k, e1, e2, k0, k1⟩, q⟩ => ?_)
  subst e1
  subst e2
  obtain ⟨t, rfl⟩ := rv
  exact ⟨⟨k0, k1⟩, .int k, H', I'.tok _, ⟨_, rfl⟩, q⟩
theorem cr_reprO {j : Nat} (M : Met X.prog X.w X.K X.mg X.base n C "__repr__" sp []) (hr : Room j X.A) (hj : n + 1 ≤ j) : CallR X (.builtin "repr") (rOwn1 C sp GStr) := by
  intro pins s σ H vs us Q I r h
  obtain ⟨a, dx, fs, rfl, ha, h⟩ := h
  obtain ⟨f, fd, ps, F, b, hs, hf⟩ := met_fn M
  rw [Vals.ref1 r]
  obtain ⟨mA, J, _⟩ := ins_get I.hok ha
  obtain ⟨od, J, _⟩ := J.look
  obtain ⟨mf, hF⟩ := I.fr
  refine PySem.W.repr_K (by have z := hr.un; show X.A.units + 1 < cLine; omega) hF I.ok.mod.kin J hs hf (thn (run_special F b (sub_here hr hj).in1 I (us := [.ref a]) (vs := [.ref a]) (.cons rfl .nil) h) fun u s' ⟨v, H', I', rv, z, ⟨y, e1, e2⟩, q⟩ => ?_)
  subst e1
  subst e2
  obtain ⟨t, rfl⟩ := rv
  exact ⟨.str y, H', I', ⟨_, rfl⟩, q⟩
/-! ### own == and != , with both answers -/
def rEqO (C : Addr) (sp : Sp) (neg : Bool) : R2 := fun x y H Q => ∃ (a b dx dy : Addr) (fs gs : List (Str × V)), x = .ref a ∧ y = .ref b ∧ H a = some (.ins C dx fs) ∧ H b = some (.ins C dy gs) ∧ sp [.ref a, .ref b] H (fun v H' => ∃ k : Bool, v = .bl k ∧ Q (.bl (xor neg k)) H') E0
theorem op_eqO {j : Nat} (M : Met X.prog X.w X.K X.mg X.base n C "__eq__" sp []) (hr : Room j X.A) (hj : n ≤ j) : OpR X (compareOp .Eq) (rEqO C sp false) := by
  intro pins s σ H x y u v Q I rx ry h
  obtain ⟨a, b, dx, dy, fs, gs, rfl, rfl, ha, hb, h⟩ := h
  obtain ⟨f, fd, ps, F, bd, hs, hf⟩ := met_fn M
  cases rx
  cases ry
  obtain ⟨mA, J, _⟩ := ins_get I.hok ha
  obtain ⟨mB, J', _⟩ := ins_get I.hok hb
  obtain ⟨od, J, _⟩ := J.look
  obtain ⟨od', J', _⟩ := J'.look
  obtain ⟨mf, hF⟩ := I.fr
  show wpAny (model X.prog X.w) X.A (richCompare .Eq (.ref a) (.ref b)) (EP X pins σ Q) X.xe s
  refine PySem.W.cmp_K (op := .Eq) (tb := .ref C) hr.units0 hF I.ok.mod.kin J J'.type (by simp [PySem.W.notFirst]) hs hf (thn (run_special F bd (sub_here hr hj) I (us := [.ref a, .ref b]) (vs := [.ref a, .ref b]) (.cons rfl (.cons rfl .nil)) h) fun r s' ⟨v, H', I', rv, k, ev, q⟩ => ?_)
  subst ev
  cases rv
  exact ⟨.bl k, H', I', rfl, by simpa using q⟩
/-- the class leaves != to object's -/
structure NeC (K : PySem.W.Frag) (C : Addr) : Prop where
  ne : PySem.W.findIn K (.ref C) "__ne__" = some (some (.builtin "object.__ne__"))
  top : PySem.W.mroIn K C (.type "object") = some true
section
variable {A : Around} {E : Value → Shared → Prop} {K : PySem.W.Frag} {x y f : Addr} {ox : Obj} {od : Option Obj} {prog : Program} {w : World}
theorem ne_bound {M : Model} {args : List Value} {Q : Option Value → Shared → Prop} (Kx : K.In s.heap) (I : PySem.W.InstAt s.heap x ox C od) (c : NeC K C) (h : wpAny M A (call (.builtin "object.__ne__") (.ref x :: args)) (fun v => Q (some v)) E s) :
    wpAny M A (callSpecialIfBound? (.ref x) "__ne__" args) Q E s := by
  simp only [callSpecialIfBound?, bindSpecialIfBound?]
  refine wpAny_holding (wpAny_bind (wpAny_bind (wpAny_bind (I.type.here ((PySem.W.looks_findIn Kx c.ne).here ?_)))))
  refine wpAny_bind (wpAny_askSetting (wpAny_ite ?_))
  have fin : wpAny M A (call (.builtin "object.__ne__") ([.ref x] ++ args) >>= fun v => pure (some v)) Q E s := wpAny_bind (wpAny_mono h (fun v s' h' => wpAny_pure h') fun _ _ h' => h')
  split
  · exact wpAny_bind (wpAny_of_eq (F.cmp_object.ne.bind _) (wpAny_pure (by exact fin)))
  · exact wpAny_tryCatch (wpAny_bind (wpAny_of_eq (F.cmp_object.ne.bind _) (wpAny_pure (by exact fin))))
theorem ne_body {Q : PySem.Fin → Shared → Prop} (hu : A.units < cLine) (Kx : K.In s.heap) (I : PySem.W.InstAt s.heap x ox C od) (hs : PySem.W.findIn K (.ref C) "__eq__" = some (some (.ref f))) (hf : PySem.W.isFn K (.ref f) = true)
    (h : wpAny (model prog w) A (call (.ref f) [.ref x, .ref y]) (fun v s' => ∃ b, v = .bool b ∧ Q (.done (.ret (.bool (!b)))) s') E s) : wpAny (model prog w) A (Builtin.«object.__ne__» ⟨[.ref x, .ref y], []⟩) Q E s := by
  unfold Builtin.«object.__ne__»
  refine wpAny_bind (m := slotArgs "__ne__" 1 _) (wpAny_pure ?_)
  refine wpAny_bind (wpAny_cRoomFor hu ?_)
  refine wpAny_bind (m := callSpecialIfBound? (.ref x) (Str.ofString "__eq__") [.ref y]) (PySem.W.ifBound_K Kx I hs hf (wpAny_mono h (fun r s' hr => ?_) fun _ _ e => e))
  obtain ⟨b, rfl, hq⟩ := hr
  refine wpAny_bind (wpAny_truthy_bool ?_)
  exact wpAny_pure hq
theorem ne_K {tb : Value} {Q : Value → Shared → Prop} (hu : A.units + 1 < cLine) (Kx : K.In s.heap) (I : PySem.W.InstAt s.heap x ox C od) (hb : PySem.W.Looks (model prog w) s.heap (typeOf (.ref y)) (.ref C)) (c : NeC K C)
    (hs : PySem.W.findIn K (.ref C) "__eq__" = some (some (.ref f))) (hf : PySem.W.isFn K (.ref f) = true)
    (h : wpAny (model prog w) A.in1 (call (.ref f) [.ref x, .ref y]) (fun v s' => ∃ b, v = .bool b ∧ Q (.bool (!b)) s') E s) : wpAny (model prog w) A (richCompare .NotEq (.ref x) (.ref y)) Q E s := by
  have one : wpAny (model prog w) A (tryCompare (.ref x) "__ne__" (.ref y)) (fun r s' => ∃ v, r = some v ∧ Q v s') E s := by
    unfold tryCompare
    refine wpAny_bind (ne_bound Kx I c (wpAny_call (codeAny_call_builtin F.cmp_object.ne.plain F.cmpEntry_ne (PySem.W.check_slot F.cmpKind_ne F.cmpSplit_ne (I.type.andThen (PySem.W.looks_mroIn Kx c.top)) (F.cmpArgs_ne _ _)
      (ne_body (A := A.in1) hu Kx I hs hf (wpAny_mono h (fun v s' hv => ?_) fun _ _ e => e))))))
    obtain ⟨b, rfl, hq⟩ := hv
    exact ⟨b, rfl, wpAny_pure ⟨_, rfl, hq⟩⟩
  unfold richCompare
  simp only [oneThing_ref]
  refine wpAny_holding (wpAny_bind (wpAny_cRoomFor (by omega) ?_))
  refine wpAny_bind (I.type.here (wpAny_bind (hb.here ?_)))
  rw [show (Value.ref C != Value.ref C) = false from by simp]
  simp only [Bool.false_eq_true, if_false]
  refine wpAny_bind (wpAny_pure ?_)
  simp only [Bool.false_eq_true, if_false]
  refine wpAny_bind (wpAny_mono one (fun r s' z => ?_) fun _ _ e => e)
  obtain ⟨v, rfl, hq⟩ := z
  exact wpAny_pure hq
end
theorem op_neO {j : Nat} (M : Met X.prog X.w X.K X.mg X.base n C "__eq__" sp []) (c : NeC X.K C) (hr : Room j X.A) (hj : n + 1 ≤ j) : OpR X (compareOp .NotEq) (rEqO C sp true) := by
  intro pins s σ H x y u v Q I rx ry h
  obtain ⟨a, b, dx, dy, fs, gs, rfl, rfl, ha, hb, h⟩ := h
  obtain ⟨f, fd, ps, F, bd, hs, hf⟩ := met_fn M
  cases rx
  cases ry
  obtain ⟨mA, J, _⟩ := ins_get I.hok ha
  obtain ⟨mB, J', _⟩ := ins_get I.hok hb
  obtain ⟨od, J, _⟩ := J.look
  obtain ⟨od', J', _⟩ := J'.look
  show wpAny (model X.prog X.w) X.A (richCompare .NotEq (.ref a) (.ref b)) (EP X pins σ Q) X.xe s
  refine ne_K (tb := .ref C) (by have z := hr.un; omega) I.kIn J J'.type c hs hf (thn (run_special F bd (sub_here hr hj).in1 I (us := [.ref a, .ref b]) (vs := [.ref a, .ref b]) (.cons rfl (.cons rfl .nil)) h) fun r s' ⟨v, H', I', rv, k, ev, q⟩ => ?_)
  subst ev
  cases rv
  exact ⟨k, rfl, .bl (!k), H', I', rfl, by simpa using q⟩
/-! ### repr of data -/
def rReprD (K : PySem.W.Frag) : List V → Hp → VK → Prop := fun vs H Q => ∃ (a : Addr) (d : PyData), vs = [V.ref a] ∧ Dp K H (.ref a) d ∧ d.showable = true ∧ d.hasDict = false ∧ d.depth ≤ 8 ∧ d.shown.length ≤ sizeLine ∧ Q (.str d.shown) H
theorem cr_reprD (hg : X.A.guards = some []) (hu : X.A.units + 16 < cLine) : CallR X (.builtin "repr") (rReprD X.K) := by
  intro pins s σ H vs us Q I r h
  obtain ⟨a, d, rfl, hd, sh, nd, dp, sz, q⟩ := h
  rw [Vals.ref1 r]
  obtain ⟨as, hr⟩ := Dp.reads I d (.ref a) (.ref a) hd rfl
  exact repr_of_reads' hr sh (PyData.noDict_hsm nd) hg (by omega) (fun _ _ e => e) (fun h' u tk hk => ⟨.str d.shown, H, I.kept hk, ⟨_, rfl⟩, q⟩) sz
end
/-! ### tuples that are equal, asked by != -/
namespace NeT
open PySem PySem.SeqAt

open MeetsSeq MeetsSeq2 MeetsSeq3 SeqRoads2
section
variable {prog : Program} {w : World} {A : Around} {R : Result → Shared → Prop}
theorem tuple_neG (l b : Addr) (items items2 : Array Value) (n n2 : Nat) (dd dd2 : Option Addr) (sl sl2 : Array (Option Value)) (hsz : items.size = items2.size) (I : Nat → Shared → Prop)
    (turn : ∀ i (h1 : i < items.size) (h2 : i < items2.size) s, I i s → wpAny (model prog w) A.in1 (eqBool items[i] items2[i]) (fun r s' => r = true ∧ I (i + 1) s') (fun e s' => R (.error e) s') s)
    (fin : ∀ s, I items.size s → R (.ok (.ret (.bool false))) s) {s : Shared} (hl1 : s.heap.get? l = some { cls := .type "tuple", dict := dd, data := .seq items n, slots := sl }) (hb1 : s.heap.get? b = some { cls := .type "tuple", dict := dd2, data := .seq items2 n2, slots := sl2 }) (h : I 0 s) :
    wpAny (model prog w) A.in1 (Builtin.«tuple.__ne__» ⟨[.ref l, .ref b], []⟩) (GQ.FinOf prog w A R) (fun e s' => R (.error e) s') s := by
  have f2 := AutoSeq1.sub_tuple_tuple
  have hZ : (items.toList.zip items2.toList).length = items.size := by simp [hsz]
  have h0 := h
  obtain ⟨hp, g, d, tk, os⟩ := s
  wp_walk using _root_.PySem.AutoSeq1.wpAny_loadPart' hl1, _root_.PySem.AutoSeq1.wpAny_loadPart' hb1, wpAny_forIn_list _ (fun rest b s' => b.1 = none ∧ ∃ i, rest = (items.toList.zip items2.toList).drop i ∧ i ≤ items.size ∧ I i s') _
  case turn =>
    rintro ⟨y, x⟩ rest b s' ⟨hb', i, hz, hi, hI⟩
    have hlt : i < (items.toList.zip items2.toList).length := Nat.lt_of_not_le fun h' => by
      rw [List.drop_of_length_le h'] at hz
      cases hz
    have h1 : i < items.size := hZ ▸ hlt
    have h2 : i < items2.size := hsz ▸ h1
    rw [List.drop_eq_getElem_cons hlt] at hz
    injection hz with hyx hrest
    have hy : y = items[i] := by have := congrArg Prod.fst hyx; simpa using this
    have hx : x = items2[i] := by have := congrArg Prod.snd hyx; simpa using this
    subst hy hx
    refine wpAny_bind (wpAny_mono (turn i h1 h2 s' hI) (fun r s2 q2 => ?_) fun _ _ x => x)
    obtain ⟨hr, q2⟩ := q2
    subst hr
    wp_walk
    exact ⟨rfl, i + 1, hrest, h1, q2⟩
  case fin =>
    rintro ⟨b1, b2⟩ s' ⟨hb', i, hz, hi, hI⟩
    simp only at hb'
    subst hb'
    have hge : items.size ≤ i := Nat.le_of_not_lt fun h' => by
      rw [List.drop_eq_getElem_cons (by rw [hZ]; exact h')] at hz
      cases hz
    have hi' : i = items.size := by omega
    have hR : R (.ok (.ret (.bool false))) s' := fin s' (hi' ▸ hI)
    wp_walk
    simpa [Builtin.Tuple.tupleCompareSizes, hsz] using hR
  case h =>
    exact ⟨rfl, 0, rfl, Nat.zero_le _, h0⟩
end
section
variable {prog : Program} {w : World} {A : Around} {E : Value → Shared → Prop} {s : Shared}
theorem rc_ne {l b : Addr} {items items2 : Array Value} {Q : Value → Shared → Prop} (hsz : items.size = items2.size) (hu : A.units < cLine) (I : Nat → Shared → Prop)
    (hl : s.heap.IsTuple l items) (hb : s.heap.IsTuple b items2)
    (turn : ∀ i (h1 : i < items.size) (h2 : i < items2.size) s, I i s → wpAny (model prog w) A.in1 (eqBool items[i] items2[i]) (fun r s' => r = true ∧ I (i + 1) s') E s)
    (fin : ∀ s, I items.size s → Q (.bool false) s) (h : I 0 s) : wpAny (model prog w) A (richCompare .NotEq (.ref l) (.ref b)) Q E s := by
  obtain ⟨⟨cls, dd, data, sl⟩, ho, hc, n, hd⟩ := id hl
  obtain ⟨⟨cls2, dd2, data2, sl2⟩, ho2, hc2, n2, hd2⟩ := id hb
  simp only at hc hd hc2 hd2
  subst hc hd hc2 hd2
  refine wpAny_richCompare_same_room (op := .NotEq) ⟨_, ho, rfl⟩ ⟨_, ho2, rfl⟩ F.slot_tuple_ne (GQ.call_here F.slot_tuple_ne ⟨_, ho, rfl⟩ F.entry_tuple_ne (F.args_tuple_ne_2 _ _) ?_) hu
  exact tuple_neG (R := wants (fun v s' => v ≠ .notImplemented ∧ Q v s') E) l b items items2 n n2 dd dd2 sl sl2 hsz I turn (fun s' q => ⟨(fun x => nomatch x), fin s' q⟩) ho ho2 h
end
end NeT
section
variable {X : Cx} {n : Nat} {D : Eqv}
def rNeT (K : PySem.W.Frag) (D : Eqv) : R2 := fun x y H Q => DTup K D x y H ∧ ∀ H', L2.Ext H H' → Q (.bl false) H'
theorem op_neT (hD : Mon D) (h : EqG X n D) (hr : Room (n + 1) X.A) : OpR X (compareOp .NotEq) (rNeT X.K D) := by
  intro pins s σ H x y u v Q I rx ry hq
  obtain ⟨⟨a, b, xs, ys, rfl, rfl, ha, hb, p⟩, q⟩ := hq
  cases rx
  cases ry
  obtain ⟨its, r, e, z⟩ := I.tuple ha
  obtain ⟨its2, r2, e2, z2⟩ := I.tuple hb
  have hsz : its.toArray.size = its2.toArray.size := by rw [List.size_toArray, List.size_toArray, ← r.length, ← r2.length]; exact p.1
  show wpAny (model X.prog X.w) X.A (richCompare .NotEq (.ref a) (.ref b)) (EP X pins σ Q) X.xe s
  exact NeT.rc_ne hsz hr.units0 (fun _ s' => LoopI X pins σ H s') e e2 (fun i h1 h2 s' q => turnG hD h ⟨hr, rfl⟩ p r r2 i h1 h2 s' q) (fun s' ⟨H', I', ex⟩ => ⟨.bl false, H', I', rfl, q H' ex⟩) ⟨H, I, Ext.rfl'⟩
end
end KD
end

section
set_option Elab.async false
set_option linter.all false
set_option maxRecDepth 100000
set_option maxHeartbeats 4000000
/-! how the heap grows; what stands for a want, a till, a turn -/
namespace KD
open PySem PySem.Spec PyProof.Rows C8 LamX NdefX
open L2 hiding CX0 E0 pass0 Fun
/-- what may be written without a table's word being lost -/
def Free1 (o : HO) : Prop := (∀ ps, o ≠ .tbl ps) ∧ ∀ c q, o ≠ CodeO c q
theorem free_lst {xs : List V} : Free1 (.lst xs) := ⟨fun _ z => (nomatch z), fun c q z => by unfold CodeO at z; cases z⟩
theorem free_dK {xs : List (Key × V)} : Free1 (.dK xs) := ⟨fun _ z => (nomatch z), fun c q z => by unfold CodeO at z; cases z⟩
theorem free_ins {C dx : Addr} {fs : List (Str × V)} : Free1 (.ins C dx fs) := ⟨fun _ z => (nomatch z), fun c q z => by unfold CodeO at z; cases z⟩
theorem tabs_put {T : List (Addr × Str)} {H : Hp} {D : Addr} {o o' : HO} (t : Tabs T H) (hD : H D = some o) (f : Free1 o) : Tabs T (upd H D o') := fun p hp => by
  obtain ⟨ps, a1, a2, a3⟩ := t p hp
  refine ⟨ps, by rw [upd_ne (fun z => by rw [z, hD] at a1; exact f.1 ps (Option.some.inj a1))]; exact a1, a2, fun pos cv h => ?_⟩
  obtain ⟨c, e1, e2⟩ := a3 pos cv h
  exact ⟨c, e1, by rw [upd_ne (fun z => by rw [z, hD] at e2; exact f.2 _ _ (Option.some.inj e2))]; exact e2⟩
/-- from H to H': all stays but tables and the lists at M -/
structure Gr (T : List (Addr × Str)) (M : List Addr) (H H' : Hp) : Prop where
  keep : ∀ b o, H b = some o → (∀ ps, o ≠ .tbl ps) → (∀ xs, o = .lst xs → b ∉ M) → H' b = some o
  tabs : Tabs T H → Tabs T H'
section
variable {T : List (Addr × Str)} {M : List Addr} {H H1 H2 H' : Hp} {D p b : Addr} {o o' : HO}
theorem Gr.refl (H : Hp) : Gr T M H H := ⟨fun _ _ h _ _ => h, fun t => t⟩
theorem Gr.trans (a : Gr T M H H1) (b : Gr T M H1 H2) : Gr T M H H2 := ⟨fun c o h n m => b.keep c o (a.keep c o h n m) n m, fun t => b.tabs (a.tabs t)⟩
theorem Gr.mono (a : Gr T [] H H1) : Gr T M H H1 := ⟨fun b o h n _ => a.keep b o h n fun _ _ => List.not_mem_nil, a.tabs⟩
theorem Gr.of_ext (e : ∀ b o, H b = some o → H' b = some o) : Gr T M H H' := ⟨fun b o h _ _ => e b o h, fun t => t.ext e⟩
theorem Gr.extN (a : Gr T [] H H1) : ExtN H H1 := fun b o h n => a.keep b o h n fun _ _ => List.not_mem_nil
theorem Gr.of_extN (a : ExtN H H1) (t : Tabs T H → Tabs T H1) : Gr T M H H1 := ⟨fun b o h n _ => a b o h n, t⟩
/-- a new object -/
theorem Gr.new (a : Gr T M H H1) (h : H1 p = none) : Gr T M H (upd H1 p o) := a.trans (Gr.of_ext fun b u e => (upd_ne (ne_of_none e h)).trans e)
/-- an object that is new since H, written -/
theorem Gr.put (a : Gr T M H H1) (hn : H D = none) (hD : H1 D = some o) (f : Free1 o) : Gr T M H (upd H1 D o') :=
  ⟨fun b u e n m => (upd_ne (ne_of_none e hn)).trans (a.keep b u e n m), fun t => tabs_put (a.tabs t) hD f⟩
/-- a list of M written -/
theorem Gr.putM {xs ys : List V} (a : Gr T M H H1) (hM : D ∈ M) (hD : H1 D = some (.lst xs)) (h0 : ∃ zs, H D = some (.lst zs)) : Gr T M H (upd H1 D (.lst ys)) :=
  ⟨fun b u e n m => by
    by_cases z : b = D
    · obtain ⟨zs, h0⟩ := h0
      rw [z] at e
      rw [h0] at e
      exact absurd (by rw [z]; exact hM) (m zs (Option.some.inj e).symm)
    · exact (upd_ne z).trans (a.keep b u e n m), fun t => tabs_put (a.tabs t) hD free_lst⟩
theorem Gr.tup (a : Gr T M H H1) {xs : List V} (h : H b = some (.tup xs)) : H1 b = some (.tup xs) := a.keep b _ h (fun _ z => (nomatch z)) fun _ z => (nomatch z)
theorem Gr.ins (a : Gr T M H H1) {C dx : Addr} {fs : List (Str × V)} (h : H b = some (.ins C dx fs)) : H1 b = some (.ins C dx fs) := a.keep b _ h (fun _ z => (nomatch z)) fun _ z => (nomatch z)
theorem Gr.dK (a : Gr T M H H1) {xs : List (Key × V)} (h : H b = some (.dK xs)) : H1 b = some (.dK xs) := a.keep b _ h (fun _ z => (nomatch z)) fun _ z => (nomatch z)
theorem Gr.frz (a : Gr T M H H1) {ob : Obj} {u : HO} (h : H b = some (.frz ob u)) : H1 b = some (.frz ob u) := a.keep b _ h (fun _ z => (nomatch z)) fun _ z => (nomatch z)
theorem Gr.ext (a : Gr T M H H1) {φ : Heap → Prop} (h : H b = some (.ext φ)) : H1 b = some (.ext φ) := a.keep b _ h (fun _ z => (nomatch z)) fun _ z => (nomatch z)
theorem Gr.lst (a : Gr T M H H1) {xs : List V} (h : H b = some (.lst xs)) (hb : b ∉ M) : H1 b = some (.lst xs) := a.keep b _ h (fun _ z => (nomatch z)) fun _ _ => hb
theorem Gr.sqT {K : PySem.W.Frag} (a : Gr T M H H1) {xs : List V} (h : SqT K H b xs) : SqT K H1 b xs := by
  rcases h with (h | ⟨ob, h⟩) | h
  · exact .inl (.inl (a.tup h))
  · exact .inl (.inr ⟨ob, a.frz h⟩)
  · exact .inr h
theorem Gr.sqL {K : PySem.W.Frag} (a : Gr T M H H1) {xs : List V} (h : SqL K H b xs) (hb : b ∉ M) : SqL K H1 b xs := by
  rcases h with (h | ⟨ob, h⟩) | h
  · exact .inl (.inl (a.lst h hb))
  · exact .inl (.inr ⟨ob, a.frz h⟩)
  · exact .inr h
/-- a list made, filled and written no more, is there: what holds of the list D by itself -/
theorem Gr.none (a : Gr T M H H1) (h : H1 b = none) (n : ∀ o, H b = some o → (∀ ps, o ≠ .tbl ps) ∧ ∀ xs, o = .lst xs → b ∉ M) : H b = none := by
  cases q : H b with
  | none => rfl
  | some o =>
    obtain ⟨n1, n2⟩ := n o q
    have := a.keep b o q n1 n2
    rw [h] at this
    cases this
end
/-! ### wants -/
/-- a sender's name -/
def Nm (x : Str) : Prop := 1 ≤ x.length ∧ x.length ≤ 8 ∧ ∀ c ∈ x.cps.toList, 97 ≤ c ∧ c ≤ 122
def WantAt (CW : Addr) (H : Hp) (a : Addr) (W : WantD) : Prop := (W.Ok ∧ ∀ x ∈ W.names, Nm x) ∧ W.names.length < 64 ∧ ∃ dx p, H a = some (.ins CW dx [("names", .ref p), ("all_but", .bl W.but)]) ∧ H p = some (.tup (W.names.map V.str))
/-- rows (name, number) -/
def RowsAt (H : Hp) (bs : List (Addr × Str × Int)) : Prop := ∀ b ∈ bs, H b.1 = some (.tup [.str b.2.1, .int b.2.2])
def TillAt (CT : Addr) (H : Hp) (a : Addr) (U : Tab Int) : Prop := (U.Ok ∧ ∀ p ∈ U.own, Nm p.1) ∧ U.own.length < 64 ∧ ∃ (dx p d : Addr) (bs : List (Addr × Str × Int)), bs.map (·.2) = U.own ∧ RowsAt H bs ∧
  H a = some (.ins CT dx [("rest", .int U.rest), ("own", .ref p), ("known", .ref d)]) ∧ H p = some (.tup (bs.map fun b => V.ref b.1)) ∧ H d = some (.dK (U.own.map fun q => (Sum.inr q.1, V.int q.2)))
def optV : Option Int → V
  | none => .non
  | some h => .int h
def BdAt (K : PySem.W.Frag) (H : Hp) (q : Addr) (b : Bd) : Prop := SqT K H q [.int b.1, optV b.2]
/-- rows (name, bounds); q: the bounds' own address -/
def BowsAt (K : PySem.W.Frag) (H : Hp) (bs : List (Addr × Str × Addr × Bd)) : Prop := ∀ b ∈ bs, H b.1 = some (.tup [.str b.2.1, .ref b.2.2.1]) ∧ BdAt K H b.2.2.1 b.2.2.2
def TurnAt (K : PySem.W.Frag) (CU : Addr) (H : Hp) (a : Addr) (U : Tab Bd) : Prop := (U.Ok ∧ ∀ p ∈ U.own, Nm p.1) ∧ U.own.length < 64 ∧ (BdOk U.rest ∧ ∀ p ∈ U.own, BdOk p.2) ∧ ∃ (dx r p d : Addr) (bs : List (Addr × Str × Addr × Bd)), bs.map (fun b => (b.2.1, b.2.2.2)) = U.own ∧ BowsAt K H bs ∧ BdAt K H r U.rest ∧
  H a = some (.ins CU dx [("rest", .ref r), ("own", .ref p), ("known", .ref d)]) ∧ H p = some (.tup (bs.map fun b => V.ref b.1)) ∧ H d = some (.dK (bs.map fun b => (Sum.inr b.2.1, V.ref b.2.2.1)))
section
variable {T : List (Addr × Str)} {M : List Addr} {H H1 : Hp} {K : PySem.W.Frag} {C a : Addr}
theorem WantAt.gr {W : WantD} (h : WantAt C H a W) (g : Gr T M H H1) : WantAt C H1 a W := by
  obtain ⟨h1, h2, dx, p, h3, h4⟩ := h
  exact ⟨h1, h2, dx, p, g.ins h3, g.tup h4⟩
theorem RowsAt.gr {bs : List (Addr × Str × Int)} (h : RowsAt H bs) (g : Gr T M H H1) : RowsAt H1 bs := fun b hb => g.tup (h b hb)
theorem TillAt.gr {U : Tab Int} (h : TillAt C H a U) (g : Gr T M H H1) : TillAt C H1 a U := by
  obtain ⟨h1, h2, dx, p, d, bs, h3, h4, h5, h6, h7⟩ := h
  exact ⟨h1, h2, dx, p, d, bs, h3, h4.gr g, g.ins h5, g.tup h6, g.dK h7⟩
theorem BdAt.gr {b : Bd} (h : BdAt K H a b) (g : Gr T M H H1) : BdAt K H1 a b := g.sqT h
theorem BowsAt.gr {bs : List (Addr × Str × Addr × Bd)} (h : BowsAt K H bs) (g : Gr T M H H1) : BowsAt K H1 bs := fun b hb => ⟨g.tup (h b hb).1, (h b hb).2.gr g⟩
theorem TurnAt.gr {U : Tab Bd} (h : TurnAt K C H a U) (g : Gr T M H H1) : TurnAt K C H1 a U := by
  obtain ⟨h1, h2, h0, dx, r, p, d, bs, h3, h4, h5, h6, h7, h8⟩ := h
  exact ⟨h1, h2, h0, dx, r, p, d, bs, h3, h4.gr g, h5.gr g, g.ins h6, g.tup h7, g.dK h8⟩
end
/-! ### comprehensions over a row that stays -/
/-- the list at D holds acc, and Pv -/
def NxL (D : Addr) (Pv : Nat → List V → Hp → Prop) (i : Nat) (H : Hp) : Prop := ∃ acc : List V, acc.length ≤ i ∧ H D = some (.lst acc) ∧ Pv i acc H
theorem nx_add {D : Addr} {Pv : Nat → List V → Hp → Prop} {i : Nat} {H : Hp} {acc : List V} {y : V} (h : H D = some (.lst acc)) (l : acc.length ≤ i) (z : i < sizeLine) (p : Pv (i + 1) (acc ++ [y]) (upd H D (.lst (acc ++ [y])))) :
    ∃ acc, H D = some (.lst acc) ∧ acc.length < sizeLine ∧ NxL D Pv (i + 1) (upd H D (.lst (acc ++ [y]))) :=
  ⟨acc, h, by omega, acc ++ [y], by rw [List.length_append, List.length_singleton]; omega, upd_same, p⟩
theorem lc_seq {K : PySem.W.Frag} {xs : List V} {J : It} {St : Hp → Prop} {g : TG} {tt : TT} {te : TE} {vs : List Nat} {σ : L2.St} {H1 : Hp} {D : Addr} {Qd : Hp → Prop} (sq : SeqIt K xs J St) (Pv : Nat → List V → Hp → Prop)
    (h0 : Pv 0 [] (upd H1 D (.lst []))) (hl : ∀ i acc H, i ≤ xs.length → Pv i acc H → St H)
    (hs : ∀ i x acc H, xs[i]? = some x → acc.length ≤ i → H D = some (.lst acc) → Pv i acc H → g x (wipe σ vs) H fun σ2 H2 => wipe σ2 vs = wipe σ vs ∧ tt σ2 H2 fun b H3 =>
      if b = true then te σ2 H3 fun y H4 => ∃ acc, H4 D = some (.lst acc) ∧ acc.length < sizeLine ∧ NxL D Pv (i + 1) (upd H4 D (.lst (acc ++ [y]))) else NxL D Pv (i + 1) H3)
    (hd : ∀ acc H, H D = some (.lst acc) → acc.length ≤ xs.length → Pv xs.length acc H → Qd H) :
    ∃ W : Nat → Nat → Hp → Prop, (∃ m, W 0 m (upd H1 D (.lst []))) ∧ ∀ i m H, W i m H →
      (J.stop i H ∧ Qd H) ∨ (J.go i H ∧ ∃ Nx : Hp → Prop, (∀ H', Nx H' → ∃ m', m' < m ∧ W (i + 1) m' H') ∧ ∀ x H', J.yld i H x H' → g x (wipe σ vs) H' fun σ2 H2 => wipe σ2 vs = wipe σ vs ∧ tt σ2 H2 fun b H3 =>
        if b = true then te σ2 H3 fun y H4 => ∃ acc, H4 D = some (.lst acc) ∧ acc.length < sizeLine ∧ Nx (upd H4 D (.lst (acc ++ [y]))) else Nx H3) := by
  refine ⟨fun i m H => m = xs.length - i ∧ i ≤ xs.length ∧ NxL D Pv i H, ⟨xs.length, by simp, Nat.zero_le _, [], Nat.le_refl _, upd_same, h0⟩, ?_⟩
  rintro i m H ⟨rfl, hi, acc, ha, hD, p⟩
  have q := hl i acc H hi p
  by_cases hlt : i < xs.length
  · refine .inr ⟨sq.go i xs[i] H (by simp [hlt]) q, NxL D Pv (i + 1), fun H' p' => ⟨xs.length - (i + 1), by omega, rfl, hlt, p'⟩, fun x H' y => ?_⟩
    obtain ⟨e, y2⟩ := sq.yld i H x H' q y
    rw [e]
    exact hs i x acc _ y2 ha hD p
  · have e : i = xs.length := by omega
    subst e
    exact .inl ⟨sq.stop H q, hd acc H hD ha p⟩
/-- signs of a text, one by one -/
theorem seqIt_str (K : PySem.W.Frag) (x : Str) : SeqIt K (x.cps.toList.map fun c => V.str ⟨#[c]⟩) (Its x) (fun _ => True) := by
  have sz : (x.cps.toList.map fun c => V.str ⟨#[c]⟩).length = x.cps.size := by rw [List.length_map, Array.length_toList]
  refine ⟨fun i v H e _ => ?_, fun i H v H' _ y => ?_, fun H _ => ?_⟩
  · have l := (List.getElem?_eq_some_iff.mp e).1
    rw [sz] at l
    exact l
  · obtain ⟨e, c, h1, h2⟩ := y
    refine ⟨e, ?_⟩
    rw [List.getElem?_map, Array.getElem?_toList, h1, h2]
    rfl
  · exact Nat.le_of_eq sz.symm
theorem yes_if {σ : L2.St} {H : Hp} {A B : Hp → Prop} (h : A H) : tYes σ H (fun b H3 => if b = true then A H3 else B H3) := by
  show if true = true then A H else B H
  exact iteT h
/-- either reading -/
theorem pe_or2 {X : Cx} {e : Expr} {t u : TE} (h : PE X e t) (g : PE X e u) : PE X e (fun σ H Q => t σ H Q ∨ u σ H Q) := ⟨fun pins s σ H Q I q => q.elim (h.run pins s σ H Q I) (g.run pins s σ H Q I)⟩
theorem pi_or2 {X : Cx} {tg e : Expr} {t u : TI} (h : PI X tg e t) (g : PI X tg e u) : PI X tg e (fun σ H Q => t σ H Q ∨ u σ H Q) := ⟨fun pins s σ H Q I q => q.elim (h.run pins s σ H Q I) (g.run pins s σ H Q I)⟩
/-! ### a list of one's own, or a tuple -/
def SeqV (K : PySem.W.Frag) (H : Hp) (a : Addr) (xs : List V) : Prop := H a = some (.lst xs) ∨ SqT K H a xs
section
variable {T : List (Addr × Str)} {M : List Addr} {K : PySem.W.Frag} {H H1 : Hp} {a : Addr} {xs : List V}
theorem SeqV.gr (h : SeqV K H a xs) (g : Gr T M H H1) (n : a ∉ M) : SeqV K H1 a xs := h.elim (fun h => .inl (g.lst h n)) fun h => .inr (g.sqT h)
theorem SeqV.len (h : SeqV K H a xs) : LenV K (.ref a) H xs.length := h.elim (fun h => .inl ⟨xs, SqL.of h, rfl⟩) fun h => .inr ⟨xs, h, rfl⟩
theorem SeqV.or3 {w : World} {ys : List Str} (h : SeqV K H a (ys.map V.str)) : SqL K H a (ys.map V.str) ∨ SqT K H a (ys.map V.str) ∨ H a = some (SetSO w a ys) := h.elim (fun h => .inl (SqL.of h)) fun h => .inr (.inl h)
theorem SeqV.ty (h : SeqV K H a xs) : TyX K H (.ref a) (.type "list") ∨ TyX K H (.ref a) (.type "tuple") := by
  rcases h with h | (h | ⟨o, h⟩) | ⟨o, its, n, h, c, _⟩
  · exact .inl (.base (.lst h))
  · exact .inr (.base (.tup h))
  · exact .inr (.fTuple h)
  · exact .inr (.kTuple h c)
theorem SeqV.isi (h : SeqV K H a xs) : ∃ t : Value, TyX K H (.ref a) t ∧ PySem.W.kitAny K t [.type "tuple", .type "list"] = some true ∧ PySem.W.kitAny K t [.type "list", .type "tuple"] = some true := by
  have ll : PySem.W.kitOne K (.type "list") (.type "list") = some true := kit_ty (by decide +kernel)
  have lt : PySem.W.kitOne K (.type "list") (.type "tuple") = some false := kit_ty (by decide +kernel)
  have tl : PySem.W.kitOne K (.type "tuple") (.type "list") = some false := kit_ty (by decide +kernel)
  have tt : PySem.W.kitOne K (.type "tuple") (.type "tuple") = some true := kit_ty (by decide +kernel)
  rcases h.ty with h | h
  · exact ⟨.type "list", h, kitAny_cons lt (fun _ => kitAny_cons ll (fun z => nomatch z) fun _ => rfl) (fun z => nomatch z), kitAny_cons ll (fun z => nomatch z) fun _ => rfl⟩
  · exact ⟨.type "tuple", h, kitAny_cons tt (fun z => nomatch z) fun _ => rfl, kitAny_cons tl (fun _ => kitAny_cons tt (fun z => nomatch z) fun _ => rfl) (fun z => nomatch z)⟩
end
def iSq (K : PySem.W.Frag) (tl : TE) : TI := fun σ H R => tl σ H fun x H1 => ∃ a xs, x = .ref a ∧ SeqV K H1 a xs ∧ ∀ (J : It) (St : Hp → Prop), SeqIt K xs J St → (∀ T M H', Gr T M H1 H' → a ∉ M → St H') → R J H1
theorem pi_seq {X : Cx} {tg l : Expr} {tl : TE} (hl : PE X l tl) : PI X tg l (iSq X.K tl) := by
  refine ⟨fun pins s σ H R I h => ?_⟩
  refine thn (hl.run pins s σ H _ I h) fun v s1 ⟨x, H1, I1, r1, a, xs, e, hq, q⟩ => ?_
  subst e
  cases r1
  have fin : ∀ b ∈ [s1.heap.objs.size], FpOk X pins H1 b := fun b hb => by
    rw [List.mem_singleton.mp hb]
    exact I1.fpOk (Nat.le_refl _) (I1.hok.fresh (Nat.le_refl _))
  rcases hq with hq | hq
  · obtain ⟨its, rv, p, hz⟩ := I1.list (SqL.of hq)
    refine wpAny_pyIter_list p.isList ?_
    exact ⟨s1.heap.objs.size, [s1.heap.objs.size], _, _, H1, rfl, I1.kept (t' := s1.toks) fun b o e => Heap.get?_push_of_some _ e, turn_list a _, ⟨_, Heap.get?_push_size _ rfl, rfl, rfl⟩, fin, q _ _ (seqIt_list X.K a xs) fun T M H' g n => g.sqL (SqL.of hq) n⟩
  · obtain ⟨its, rv, p, hz⟩ := I1.tuple hq
    refine wpAny_pyIter_tuple (show s1.heap.IsTuple a its.toArray from p) ?_
    exact ⟨s1.heap.objs.size, [s1.heap.objs.size], _, _, H1, rfl, I1.kept (t' := s1.toks) fun b o e => Heap.get?_push_of_some _ e, turn_tuple a _, ⟨_, Heap.get?_push_size _ rfl, rfl, rfl⟩, fin, q _ _ (seqIt_tup X.K a xs) fun T M H' g n => g.sqT hq⟩
/-! ### rules whose readings name the fragment from without (in blocks) -/
section
variable {X : Cx} {K : PySem.W.Frag}
theorem pg_tupK {es : List Expr} {k : Nat} {t : TGs} {pos : Pos} (K : PySem.W.Frag) (n' : Nat) (e : X.K = K) (hc : X.calm = true) (h : PGs X es t) (hn : (assignEach es X.env).length = n' := by rfl) (hst : (assignEach es X.env).findIdx? (·.1) = none := by rfl) : PG X (.Tuple es k pos) (gTup K n' t) := by
  subst e
  exact pg_tup hc h hn hst
theorem pe_fldK {e : Expr} {ta : TE} {f : Str} {pos : Pos} (K : PySem.W.Frag) (eK : X.K = K) (he : PE X e ta) (hb : attributeBase e f X.env (eval e X.env) = eval e X.env) : PE X (.Attribute e f pos) (tFld K ta f) := by
  subst eK
  exact pe_fld he hb
def rLen (K : PySem.W.Frag) : List V → Hp → VK → Prop := fun xs H Q => ∃ (x : V) (n : Nat), xs = [x] ∧ LenV K x H n ∧ Q (.int n) H
theorem cr_lenK (K : PySem.W.Frag) (e : X.K = K) : CallR X (.builtin "len") (rLen K) := by
  subst e
  exact call_len
theorem cr_isiK (K : PySem.W.Frag) (e : X.K = K) : CallR X (.builtin "isinstance") (rIsi K) := by
  subst e
  exact call_isi
theorem ix_tupK (K : PySem.W.Frag) (e : X.K = K) : IxR X (rIxT K) := by
  subst e
  exact ix_tup
theorem op_neDK (K : PySem.W.Frag) (e : X.K = K) (hu : X.A.units + 64 < cLine) : OpR X (compareOp .NotEq) (rNeD K) := by
  subst e
  exact op_neD hu
end
theorem putK_new {κ : Type} [DecidableEq κ] {kvs : List (κ × V)} {k : κ} {v : V} (h : k ∉ kvs.map (·.1)) : putK kvs k v = kvs ++ [(k, v)] := by
  unfold putK
  rw [if_neg]
  intro z
  obtain ⟨p, hp, e⟩ := List.any_eq_true.mp z
  exact h (List.mem_map.mpr ⟨p, hp, of_decide_eq_true e⟩)
theorem valV_rows {β : Type} (f : β → V) (x : Str) : ∀ l : List (Str × β), valV (l.map fun q => ((Sum.inr q.1 : Key), f q.2)) (Sum.inr x) = (l.lookup x).map f
  | [] => rfl
  | (y, v) :: l => by
    have ih := valV_rows f x l
    rw [List.map_cons, List.lookup_cons]
    by_cases e : x = y
    · subst e
      simp [valV]
    · rw [show (x == y) = false from beq_false_of_ne e]
      have n : ¬ (Sum.inr y : Key) = Sum.inr x := fun z => e (by injection z with z; exact z.symm)
      unfold valV at ih ⊢
      rw [List.find?_cons_of_neg (by simpa using fun z => e z.symm)]
      exact ih
/-- an instance written, then written back -/
theorem Gr.around {T : List (Addr × Str)} {H H1 : Hp} {x C dx : Addr} {fs fs' : List (Str × V)} (h : H x = some (.ins C dx fs)) (g : Gr T [] (upd H x (.ins C dx fs')) H1) : Gr T [] H (upd H1 x (.ins C dx fs)) := by
  have hx : H1 x = some (.ins C dx fs') := g.ins upd_same
  refine ⟨fun b o e n m => ?_, fun t => tabs_put (g.tabs (tabs_put t h free_ins)) hx free_ins⟩
  by_cases z : b = x
  · rw [z] at e ⊢
    rw [upd_same, ← e, h]
  · rw [upd_ne z]
    exact g.keep b o (by rw [upd_ne z]; exact e) n fun _ _ => List.not_mem_nil
end KD
end

section
set_option Elab.async false
set_option linter.all false
set_option maxRecDepth 100000
set_option maxHeartbeats 4000000
/-! wants, walked -/
namespace KD
open PySem PySem.Spec PyProof.Rows C8 LamX NdefX
open L2 hiding CX0 E0 pass0 Fun
/-- the module's names and classes -/
structure Fc (K : PySem.W.Frag) (mg : Str → Option Value) (CW CT CU : Addr) : Prop where
  isi : mg "isinstance" = none
  int : mg "int" = none
  bool : mg "bool" = none
  str : mg "str" = none
  len : mg "len" = none
  all : mg "all" = none
  tuple : mg "tuple" = none
  list : mg "list" = none
  sorted : mg "sorted" = none
  set : mg "set" = none
  max : mg "max" = none
  min : mg "min" = none
  range : mg "range" = none
  repr : mg "repr" = none
  dict : mg "dict" = none
  enum : mg "enumerate" = none
  abs : mg "abs" = none
  ml : ∃ t, mg "MOST_LETTERS" = some (.int 8 t)
  mn : ∃ t, mg "MOST_NAMES" = some (.int 60 t)
  lt : ∃ t, mg "LETTERS" = some (.str "abcdefghijklmnopqrstuvwxyz" t)
  gW : mg "Want" = some (.ref CW)
  gT : mg "Till" = some (.ref CT)
  gU : mg "Turn" = some (.ref CU)
  iW : InsC K CW
  iT : InsC K CT
  neW : NeC K CW
  neT : NeC K CT
  clU : Cls K CU
  nW : ∀ f ∈ ([Str.ofString "names", Str.ofString "all_but"] : List Str), NoAttr K CW f
  nT : ∀ f ∈ ([Str.ofString "rest", Str.ofString "own", Str.ofString "known"] : List Str), NoAttr K CT f
  nU : ∀ f ∈ ([Str.ofString "rest", Str.ofString "own", Str.ofString "known"] : List Str), NoAttr K CU f
  free : ∃ aF, mg "FREE" = some (.ref aF) ∧ ∀ H : Hp, SqT K H aF [.int 0, .non]
abbrev FD (K : PySem.W.Frag) (x q : Str) (st : Stmt) (f : Addr) (fd : FuncData) : Prop := FunD K x q (defArgs st) (defBody st) (defScope st) [] [] f fd
theorem boot_isi : bootBuiltins "isinstance" = some (.builtin "isinstance") := by decide +kernel
theorem boot_all_ : bootBuiltins "all" = some (.builtin "all") := by decide +kernel
theorem boot_len_ : bootBuiltins "len" = some (.builtin "len") := by decide +kernel
theorem boot_sorted_ : bootBuiltins "sorted" = some (.builtin "sorted") := by decide +kernel
theorem boot_bool_ : bootBuiltins "bool" = some (.type "bool") := by decide +kernel
theorem boot_int_ : bootBuiltins "int" = some (.type "int") := by decide +kernel
theorem boot_str_ : bootBuiltins "str" = some (.type "str") := by decide +kernel
theorem boot_tuple_ : bootBuiltins "tuple" = some (.type "tuple") := by decide +kernel
theorem boot_list_ : bootBuiltins "list" = some (.type "list") := by decide +kernel
theorem boot_set_ : bootBuiltins "set" = some (.type "set") := by decide +kernel
section
variable {P : Program} {w : World} {K : PySem.W.Frag} {mg : Str → Option Value} {base : Heap} {CW CT CU : Addr} {T : List (Addr × Str)}
def sp_is_whole : Sp := fun vs H Q _ => ∃ i : Int, vs = [.int i] ∧ Q (.bl true) H
theorem sc_is_whole : FnScope ["thing"] ["thing"] (defScope s_is_whole) := ⟨rfl, rfl, rfl, by decide +kernel, rfl, by decide +kernel, by decide +kernel⟩
theorem ok_is_whole {f : Addr} {fd : FuncData} (F : FD K "is_whole" "is_whole" s_is_whole f fd) (T : Fc K mg CW CT CU) : FnOk P w K mg base CX0 1 f fd ["thing"] sp_is_whole := by
  refine F.ok sc_is_whole (fun vs H Q E h => ?_) (fun cdv A outer s H vs Q E hr h => ?_)
  · obtain ⟨i, rfl, _⟩ := h; rfl
  · obtain ⟨i, rfl, q⟩ := h
    refine ⟨_, PSs.nox (pss_one (ps_ret (pe_and (pe_callB call_isi (by rfl) T.isi boot_isi (pa_cons (pv 0) (pa_cons (pe_bltn (v := .ty "int") (by rfl) T.int boot_int_ rfl) pa_nil)))
      (pe_one (pe_not (pe_callB call_isi (by rfl) T.isi boot_isi (pa_cons (pv 0) (pa_cons (pe_bltn (v := .ty "bool") (by rfl) T.bool boot_bool_ rfl) pa_nil)))))))), ?_⟩
    refine ⟨_, rfl, _, _, _, _, true, rfl, .ty _, .base (.int _), kit_ty (by decide +kernel), true, rfl, iteT ?_⟩
    exact ⟨_, rfl, _, _, _, _, false, rfl, .ty _, .base (.int _), kit_ty (by decide +kernel), false, rfl, q⟩
def sp_is_moment : Sp := fun vs H Q _ => ∃ i : Int, vs = [.int i] ∧ 0 ≤ i ∧ Q (.bl true) H
theorem sc_is_moment : FnScope ["thing"] ["thing"] (defScope s_is_moment) := ⟨rfl, rfl, rfl, by decide +kernel, rfl, by decide +kernel, by decide +kernel⟩
theorem ok_is_moment {f : Addr} {fd : FuncData} (F : FD K "is_moment" "is_moment" s_is_moment f fd) (c1 : Cal P w K mg base 1 "is_whole" sp_is_whole []) : FnOk P w K mg base CX0 2 f fd ["thing"] sp_is_moment := by
  refine F.ok sc_is_moment (fun vs H Q E h => ?_) (fun cdv A outer s H vs Q E hr h => ?_)
  · obtain ⟨i, rfl, _⟩ := h; rfl
  · obtain ⟨i, rfl, i0, q⟩ := h
    refine ⟨_, PSs.nox (pss_one (ps_ret (pe_and (pe_c c1 hr (Nat.le_refl _) (by rfl) (pa_cons (pv 0) pa_nil)) (pe_one (pe_cmpR op_ge (pv 0) pe_int (nomark _)))))), ?_⟩
    refine ⟨_, rfl, i, rfl, true, rfl, iteT ?_⟩
    refine ⟨_, rfl, i, 0, rfl, rfl, ?_⟩
    show Q (.bl (decide ((0 : Int) ≤ i))) H
    rw [decide_eq_true i0]
    exact q
def sp_is_name (T : List (Addr × Str)) : Sp := fun vs H Q _ => ∃ x : Str, vs = [.str x] ∧ Nm x ∧ ∀ H', Gr T [] H H' → Q (.bl true) H'
theorem sc_is_name : FnScope ["thing", "letter"] ["thing"] (defScope s_is_name) := ⟨rfl, rfl, rfl, by decide +kernel, rfl, by decide +kernel, by decide +kernel⟩
theorem letters_all : ∀ c ∈ List.range 123, 97 ≤ c → c ∈ (Str.ofString "abcdefghijklmnopqrstuvwxyz").cps.toList := by decide +kernel
theorem ok_is_name {f : Addr} {fd : FuncData} (F : FD K "is_name" "is_name" s_is_name f fd) (B : Fc K mg CW CT CU) : FnOk P w K mg base CX0 1 f fd ["thing"] (sp_is_name T) := by
  refine F.ok sc_is_name (fun vs H Q E h => ?_) (fun cdv A outer s H vs Q E hr h => ?_)
  · obtain ⟨x, rfl, _⟩ := h; rfl
  · obtain ⟨x, rfl, nm, q⟩ := h
    refine ⟨_, PSs.nox (pss_cons (ps_if (pw_or (pt_not (pt_val (pe_callB call_isi (by rfl) B.isi boot_isi (pa_cons (pv 0) (pa_cons (pe_bltn (v := .ty "str") (by rfl) B.str boot_str_ rfl) pa_nil)))))
        (pw_or1 (pt_not (pt_chain op_le op_le pe_int (pe_callB call_len (by rfl) B.len boot_len_ (pa_cons (pv 0) pa_nil)) (pe_gc (v := .int 8) (by rfl) (let ⟨t, e⟩ := B.ml; ⟨_, e, ⟨t, rfl⟩⟩)))))).pt pss_never pss_nil)
      (pss_one (ps_ret (pe_callB (cr_all rfl) (by rfl) B.all boot_all_ (pa_cons (pe_lc (own := [("letter", 1)]) rfl sc_is_name.nd (pi_str (pv 0)) (blkOk_by (N := ["thing", "letter"]) (sc := defScope s_is_name) (by decide +kernel)) (fun _ _ _ _ _ => pg_name (i := 1) sc_is_name.nd rfl (.inl rfl)) (fun _ _ _ _ _ => pts_nil)
        (fun _ _ _ _ _ => pe_cmpR op_in_sign (pv 1) (pe_gc (v := .str "abcdefghijklmnopqrstuvwxyz") (by rfl) (let ⟨t, e⟩ := B.lt; ⟨_, e, ⟨t, rfl⟩⟩)) (by rfl))) pa_nil))))), ?_⟩
    refine ⟨_, rfl, _, _, _, _, true, rfl, .ty _, .base (.str _), kit_ty (by decide +kernel), true, rfl, ?_⟩
    refine ⟨_, rfl, _, _, rfl, ⟨by rw [sizeLine_eq]; have := nm.2.1; omega, rfl⟩, 1, _, rfl, rfl, _, rfl, ?_⟩
    rw [decide_eq_true (by have := nm.1; omega)]
    refine iteT ⟨_, 8, rfl, rfl, true, congrArg V.bl (decide_eq_true (by have := nm.2.1; omega)), ?_⟩
    refine iteF ?_
    refine ⟨_, rfl, x, rfl, fun D hD => ?_⟩
    refine lc_seq (K := K) (seqIt_str K x) (fun i acc H' => acc = List.replicate i (V.bl true) ∧ Gr T [] H H') ⟨rfl, (Gr.refl H).new hD⟩ (fun _ _ _ _ _ => trivial) (fun i v acc H' hv hl hD' ⟨e, g⟩ => ?_) (fun acc H' hD' hl ⟨e, g⟩ => ?_)
    · rw [List.getElem?_map] at hv
      obtain ⟨c, hc, ev⟩ := Option.map_eq_some_iff.mp hv
      have hm : c ∈ x.cps.toList := List.mem_of_getElem? hc
      have hz : i < x.cps.toList.length := (List.getElem?_eq_some_iff.mp hc).1
      have hlen : x.cps.toList.length ≤ 8 := nm.2.1
      refine ⟨rfl, ?_⟩
      refine yes_if ?_
      refine ⟨v, rfl, c, _, ev.symm, rfl, ?_⟩
      have hin : c ∈ (Str.ofString "abcdefghijklmnopqrstuvwxyz").cps.toList := letters_all c (List.mem_range.mpr (by have := (nm.2.2 c hm).2; omega)) (nm.2.2 c hm).1
      rw [decide_eq_true hin]
      exact nx_add hD' hl (by rw [sizeLine_eq]; omega) ⟨by rw [e, ← List.replicate_succ'], g.put hD hD' free_lst⟩
    · refine ⟨D, List.replicate (x.cps.toList.map fun c => V.str ⟨#[c]⟩).length true, rfl, SqL.of (by rw [hD', e, List.map_replicate]), ?_⟩
      rw [show (List.replicate (x.cps.toList.map fun c => V.str ⟨#[c]⟩).length true).all id = true from by simp]
      exact q H' g
theorem strs_item {xs : List Str} {i : Nat} {x : V} (h : (xs.map V.str)[i]? = some x) : ∃ y, xs[i]? = some y ∧ x = .str y := by
  rw [List.getElem?_map] at h
  obtain ⟨y, h1, h2⟩ := Option.map_eq_some_iff.mp h
  exact ⟨y, h1, h2.symm⟩
theorem metL_take {xs : List Str} {i : Nat} {y : Str} (h : xs[i]? = some y) : metS (xs.take (i + 1)) = addTo (metS (xs.take i)) y := by
  rw [List.take_add_one, h]
  exact metS_snoc _ y
theorem metL_len (xs : List Str) (i : Nat) : (metS (xs.take i)).length ≤ xs.length := by
  have a := metS_len (xs.take i) []
  have b := List.length_take_le' i xs
  simp only [List.length_nil, Nat.zero_add] at a
  exact Nat.le_trans a b
theorem metS_nodup : ∀ (xs L : List Str), L.Nodup → (xs.foldl addTo L).Nodup
  | [], L, h => h
  | x :: xs, L, h => metS_nodup xs _ (addTo_nodup h)
theorem metS_all {xs : List Str} : ∀ x, x ∈ metS xs ↔ x ∈ xs := fun x => by
  unfold metS
  rw [metS_mem]
  simp
theorem metS_unlike : ∀ (xs L : List Str), (L ++ xs).Nodup → (xs.foldl addTo L).length = L.length + xs.length
  | [], L, _ => rfl
  | x :: xs, L, d => by
    have hx : x ∉ L := fun z => by
      have := (List.nodup_append.mp d).2.2 x z x List.mem_cons_self
      exact this rfl
    have e : addTo L x = x :: L := if_neg hx
    rw [List.foldl_cons, e, metS_unlike xs (x :: L) (by
      refine (List.perm_middle.nodup_iff).mp ?_ |> fun z => z
      exact d), List.length_cons, List.length_cons]
    omega
/-- {y for .. in row}, the block's element a text read off without any change -/
theorem ss_texts {w : World} {K : PySem.W.Frag} {xs : List V} {J : It} {St : Hp → Prop} {g : TG} {te : TE} {vs : List Nat} {σ : L2.St} {H1 : Hp} {D : Addr} {Qd : Hp → Prop} (ys : List Str) (hl : ys.length = xs.length) (l64 : ys.length < 64) (sq : SeqIt K xs J St)
    (hSt : ∀ L, St (upd H1 D (SetSO w D L)))
    (hs : ∀ (i : Nat) (x : V) (y : Str) (L : List Str), xs[i]? = some x → ys[i]? = some y → ∀ Pk : V → Hp → Prop, Pk (.str y) (upd H1 D (SetSO w D L)) → g x (wipe σ vs) (upd H1 D (SetSO w D L)) fun σ2 H2 => wipe σ2 vs = wipe σ vs ∧ te σ2 H2 Pk)
    (hd : Qd (upd H1 D (SetSO w D (metS ys)))) :
    ∃ W : Nat → Nat → Hp → Prop, (∃ m, W 0 m (upd H1 D (SetSO w D []))) ∧ ∀ i m H, W i m H →
      (J.stop i H ∧ Qd H) ∨ (J.go i H ∧ ∃ Nx : Hp → Prop, (∀ H', Nx H' → ∃ m', m' < m ∧ W (i + 1) m' H') ∧ ∀ x H', J.yld i H x H' → g x (wipe σ vs) H' fun σ2 H2 => wipe σ2 vs = wipe σ vs ∧
        te σ2 H2 fun y H4 => ∃ (c : Str) (L : List Str), y = .str c ∧ H4 D = some (SetSO w D L) ∧ L.length + 1 < scanBound ∧ Nx (upd H4 D (SetSO w D (addTo L c)))) := by
  refine ss_seq sq (fun i H => H = upd H1 D (SetSO w D (metS (ys.take i)))) rfl (fun i H hi e => by rw [e]; exact hSt _) (fun i x H hx e => ?_) (fun H e => ?_)
  · have li : i < ys.length := by rw [hl]; exact (List.getElem?_eq_some_iff.mp hx).1
    have hy := List.getElem?_eq_getElem li
    rw [e]
    refine hs i x ys[i] _ hx hy _ ⟨ys[i], _, rfl, upd_same, ?_, ?_⟩
    · have := metL_len ys i
      have e : scanBound = 4096 := rfl
      omega
    · rw [upd_upd, metL_take hy]
  · rw [e, ← hl, List.take_of_length_le (Nat.le_refl _)]
    exact hd
def sp_unlike (T : List (Addr × Str)) (K : PySem.W.Frag) : Sp := fun vs H Q _ => ∃ (a : Addr) (xs : List Str), vs = [.ref a] ∧ SeqV K H a (xs.map V.str) ∧ (∀ x ∈ xs, Nm x) ∧ xs.Nodup ∧ xs.length < 61 ∧ ∀ H', Gr T [] H H' → Q (.bl true) H'
theorem sc_unlike : FnScope ["thing", "name"] ["thing"] (defScope s_are_unlike_names) := ⟨rfl, rfl, rfl, by decide +kernel, rfl, by decide +kernel, by decide +kernel⟩
theorem ok_unlike {f : Addr} {fd : FuncData} (F : FD K "are_unlike_names" "are_unlike_names" s_are_unlike_names f fd) (B : Fc K mg CW CT CU) (c1 : Cal P w K mg base 1 "is_name" (sp_is_name T) []) : FnOk P w K mg base CX0 2 f fd ["thing"] (sp_unlike T K) := by
  refine F.ok sc_unlike (fun vs H Q E h => ?_) (fun cdv A outer s H vs Q E hr h => ?_)
  · obtain ⟨a, xs, rfl, _⟩ := h; rfl
  · obtain ⟨a, xs, rfl, hS, nm, nd, l60, q⟩ := h
    refine ⟨_, PSs.nox (pss_cons (ps_if (pw_or (pt_not (pt_val (pe_callB call_isiT (by rfl) B.isi boot_isi (pa_cons (pv 0) (pa_cons (pe_tup (pa_cons (pe_bltn (v := .ty "tuple") (by rfl) B.tuple boot_tuple_ rfl) (pa_cons (pe_bltn (v := .ty "list") (by rfl) B.list boot_list_ rfl) pa_nil))) pa_nil)))))
        (pw_or1 (pt_not (pt_val (pe_callB (cr_all rfl) (by rfl) B.all boot_all_ (pa_cons (pe_lc (own := [("name", 1)]) rfl sc_unlike.nd (pi_seq (pv 0)) (blkOk_by (N := ["thing", "name"]) (sc := defScope s_are_unlike_names) (by decide +kernel)) (fun _ _ _ _ _ => pg_name (i := 1) sc_unlike.nd rfl (.inl rfl)) (fun _ _ _ _ _ => pts_nil)
          (fun _ _ _ _ _ => pe_c c1 hr (Nat.le_refl _) (by rfl) (pa_cons (pv 1) pa_nil))) pa_nil)))))).pt pss_never pss_nil)
      (pss_one (ps_ret (pe_cmpR op_eq (pe_callB cr_lenS (by rfl) B.len boot_len_ (pa_cons (pe_ss (own := [("name", 1)]) rfl sc_unlike.nd (pi_seq (pv 0)) (blkOk_by (N := ["thing", "name"]) (sc := defScope s_are_unlike_names) (by decide +kernel)) (fun _ _ _ _ _ => pg_name (i := 1) sc_unlike.nd rfl (.inl rfl)) (fun _ _ _ _ _ => pv 1)) pa_nil))
        (pe_callB call_len (by rfl) B.len boot_len_ (pa_cons (pv 0) pa_nil)) (nomark _))))), ?_⟩
    refine ⟨_, rfl, by decide, fun p hp => ?_⟩
    have g1 : Gr T [] H (upd H p (.tup [.ty "tuple", .ty "list"])) := (Gr.refl H).new hp
    generalize eH1 : upd H p (.tup [.ty "tuple", .ty "list"]) = H1 at g1 ⊢
    have hS1 := hS.gr g1 List.not_mem_nil
    obtain ⟨ty, k1, k2, k3⟩ := hS1.isi
    refine ⟨_, p, [.ty "tuple", .ty "list"], ty, [.type "tuple", .type "list"], true, rfl, by rw [← eH1]; exact upd_same, .cons (.ty _) (.cons (.ty _) .nil), k1, k2, true, rfl, iteF ?_⟩
    refine ⟨_, rfl, a, _, rfl, hS1, fun J St sq hst D hD => ?_⟩
    refine lc_seq sq (fun i acc H' => acc = List.replicate i (V.bl true) ∧ Gr T [] H1 H') ⟨rfl, (Gr.refl H1).new hD⟩ (fun i acc H' _ e => hst T [] H' e.2 List.not_mem_nil) (fun i v acc H' hv hl hD' ⟨e, g⟩ => ?_) (fun acc H' hD' hl ⟨e, g⟩ => ?_)
    · obtain ⟨y, hy, ev⟩ := strs_item hv
      have li : i < xs.length := (List.getElem?_eq_some_iff.mp hy).1
      refine ⟨rfl, yes_if ?_⟩
      refine ⟨v, rfl, y, by rw [ev]; rfl, nm y (List.mem_of_getElem? hy), fun H2 g2 => ?_⟩
      have g3 := g.trans g2
      exact nx_add (g2.lst hD' List.not_mem_nil) hl (by rw [sizeLine_eq]; omega) ⟨by rw [e, ← List.replicate_succ'], g3.put hD (g2.lst hD' List.not_mem_nil) free_lst⟩
    · refine ⟨D, List.replicate (xs.map V.str).length true, rfl, SqL.of (by rw [hD', e, List.map_replicate]), true, by simp, ?_⟩
      refine iteF ?_
      have hS2 := hS1.gr g List.not_mem_nil
      refine ⟨_, rfl, a, _, rfl, hS2, fun J St sq hst D' hD2 => ?_⟩
      refine ss_texts xs (List.length_map _).symm (by omega) sq (fun L => hst T [] _ ((Gr.refl H').new hD2) List.not_mem_nil) (fun j v y L hv hy Pk hk => ?_) ?_
      · obtain ⟨y2, hy2, ev⟩ := strs_item hv
        rw [hy] at hy2
        cases hy2
        exact ⟨rfl, _, rfl, by rw [ev]; exact hk⟩
      · have g3 : Gr T [] H' (upd H' D' (SetSO w D' (metS xs))) := (Gr.refl H').new hD2
        refine ⟨D', metS xs, rfl, upd_same, ?_⟩
        refine ⟨_, rfl, _, _, rfl, (hS2.gr g3 List.not_mem_nil).len, rfl, ?_⟩
        have e2 : (metS xs).length = xs.length := by
          have z := metS_unlike xs [] (by simpa using nd)
          simpa [metS] using z
        rw [List.length_map, e2, decide_eq_true rfl]
        exact q _ (g1.trans (g.trans g3))
/-! ### a class called with keywords -/
structure MkK (P : Program) (w : World) (K : PySem.W.Frag) (mg : Str → Option Value) (base : Heap) (k : Nat) (x : Str) (C : Addr) (n : Nat) (ks : List Str) (sp : Sp) (gV : List V → List V → List V) : Prop where
  ex : ∃ (f : Addr) (fd : FuncData) (ps : List Str) (g : List Value → List Value → List Value), Mk K C f ∧ FnOk P w K mg base CX0 k f fd ps sp ∧ mg x = some (.ref C) ∧ KBn K fd ps (n + 1) ks g gV
section
variable {X : Cx} {k j n : Nat} {C : Addr} {x : Str} {ks : List Str} {sp : Sp} {gV : List V → List V → List V} {p pos : Pos} {e : Expr} {es : List Expr} {kws : List Keyword} {t tk : TA}
theorem pe_mkK0 (c : MkK X.prog X.w X.K X.mg X.base k x C 0 ks sp gV) (hr : Room j X.A) (hk : k + 1 ≤ j) (hg : Gl X x) (hkw : PK X kws tk)
    (hall : (backToKw pos (keywordEach kws X.env)).all (·.1.isSome) = true := by rfl) (hks : (backToKw pos (keywordEach kws X.env)).filterMap (·.1) = ks := by rfl) (hdb : (x == ("__debug__" : Str)) = false := by decide)
    (hpl : ((backTo pos (starEach [] X.env)).any (·.1) || (backToKw pos (keywordEach kws X.env)).any (·.1.isNone)) = false := by rfl) :
    PE X (.Call (.Name x p) [] kws pos) (tMakeK C 0 ks.length sp gV E0 tNil tk) := by
  obtain ⟨f, fd, ps, g, M, F, hm, b⟩ := c.ex
  exact pe_makeK0 M F (hr.mono hk) hg hm b pass0 hkw hall hks hdb hpl
theorem pe_mkK (c : MkK X.prog X.w X.K X.mg X.base k x C n ks sp gV) (hr : Room j X.A) (hk : k + 1 ≤ j) (hg : Gl X x) (ha : PA X (e :: es) t) (hkw : PK X kws tk)
    (hall : (backToKw pos (keywordEach kws X.env)).all (·.1.isSome) = true := by rfl) (hks : (backToKw pos (keywordEach kws X.env)).filterMap (·.1) = ks := by rfl) (hdb : (x == ("__debug__" : Str)) = false := by decide)
    (he : starEach (e :: es) X.env = (false, eval e X.env) :: starEach es X.env := by rfl) (hpl : ((backTo pos (starEach (e :: es) X.env)).any (·.1) || (backToKw pos (keywordEach kws X.env)).any (·.1.isNone)) = false := by rfl) :
    PE X (.Call (.Name x p) (e :: es) kws pos) (tMakeK C n ks.length sp gV E0 t tk) := by
  obtain ⟨f, fd, ps, g, M, F, hm, b⟩ := c.ex
  exact pe_makeK M F (hr.mono hk) hg hm b pass0 ha hkw hall hks hdb he hpl
end
/-! ### Want -/
def fsW (p : Addr) (b : Bool) : List (Str × V) := [("names", .ref p), ("all_but", .bl b)]
theorem fsW_put {fs : List (Str × V)} (h : fs = [] ∨ ∃ p b, fs = fsW p b) (p : Addr) (b : Bool) : fs.length < 1000 ∧ (putF (Str.ofString "names") (V.ref p) fs).length < 1000 ∧ putF (Str.ofString "all_but") (V.bl b) (putF (Str.ofString "names") (V.ref p) fs) = fsW p b := by
  rcases h with e | ⟨p', b', e⟩
  · rw [e]
    exact ⟨by decide, by show 1 < 1000; decide, rfl⟩
  · rw [e]
    exact ⟨by show 2 < 1000; decide, by show 2 < 1000; decide, rfl⟩
def sp_set_names (T : List (Addr × Str)) (K : PySem.W.Frag) (CW : Addr) : Sp := fun vs H Q _ => ∃ (x a dx : Addr) (b : Bool) (xs : List Str) (fs : List (Str × V)), vs = [.ref x, .ref a, .bl b] ∧ H x = some (.ins CW dx fs) ∧ (fs = [] ∨ ∃ p b, fs = fsW p b) ∧ SeqV K H a (xs.map V.str) ∧ xs.Nodup ∧ xs.length < 64 ∧
  ∀ (H1 : Hp) (p : Addr) (cs : List Str), Gr T [] H H1 → H1 p = some (.tup (cs.map V.str)) → cs.Perm xs → cs.Pairwise SLt → Q .non (upd H1 x (.ins CW dx (fsW p b)))
theorem sc_set_names : FnScope ["self", "names", "all_but"] ["self", "names", "all_but"] (defScope s_Want_set_names) := ⟨rfl, rfl, rfl, by decide +kernel, rfl, by decide +kernel, by decide +kernel⟩
theorem ok_set_names {f : Addr} {fd : FuncData} (F : FD K "set_names" "Want.set_names" s_Want_set_names f fd) (B : Fc K mg CW CT CU) : FnOk P w K mg base CX0 1 f fd ["self", "names", "all_but"] (sp_set_names T K CW) := by
  refine F.ok sc_set_names (fun vs H Q E h => ?_) (fun cdv A outer s H vs Q E hr h => ?_)
  · obtain ⟨x, a, dx, b, xs, fs, rfl, _⟩ := h; rfl
  · obtain ⟨x, a, dx, b, xs, fs, rfl, hx, hfs, hS, nd, l64, q⟩ := h
    refine ⟨_, PSs.nox (pss_cons (ps_fld (pv 0) (pe_callTy call_tuple_of (by rfl) B.tuple boot_tuple_ (pa_cons (pe_callB (cr_sortS rfl) (by rfl) B.sorted boot_sorted_ (pa_cons (pv 1) pa_nil)) pa_nil)) rfl)
      (pss_one (ps_fld (pv 0) (pv 2) rfl))), ?_⟩
    refine ⟨_, rfl, a, xs, rfl, hS.or3, l64, fun cs l pm so hl => ?_⟩
    refine ⟨l, cs.map V.str, rfl, .inl ⟨SqL.of upd_same, fun p hp => ?_⟩⟩
    have g : Gr T [] H (upd (upd H l (.lst (cs.map V.str))) p (.tup (cs.map V.str))) := ((Gr.refl H).new hl).new hp
    have hx2 := g.ins hx
    obtain ⟨z1, z2, z3⟩ := fsW_put hfs p b
    refine ⟨_, rfl, x, CW, dx, fs, rfl, hx2, B.iW.cl, B.nW _ (by simp), z1, ?_⟩
    refine ⟨_, rfl, _, rfl, x, CW, dx, _, rfl, upd_same, B.iW.cl, B.nW _ (by simp), z2, ?_⟩
    rw [upd_upd, z3]
    exact q _ p cs g upd_same pm (sortedS_lt so (pm.nodup_iff.mpr nd))
def sp_Want (T : List (Addr × Str)) (K : PySem.W.Frag) (CW : Addr) : Sp := fun vs H Q _ => ∃ (x a dx : Addr) (b : Bool) (xs : List Str), vs = [.ref x, .ref a, .bl b] ∧ H x = some (.ins CW dx []) ∧ SeqV K H a (xs.map V.str) ∧ (∀ x ∈ xs, Nm x) ∧ xs.Nodup ∧ xs.length < 61 ∧
  ∀ (H1 : Hp) (p : Addr) (cs : List Str), Gr T [] H H1 → H1 p = some (.tup (cs.map V.str)) → cs.Perm xs → cs.Pairwise SLt → Q .non (upd H1 x (.ins CW dx (fsW p b)))
theorem sc_Want : FnScope ["self", "names", "all_but"] ["self", "names", "all_but"] (defScope s_Want_init) := ⟨rfl, rfl, rfl, by decide +kernel, rfl, by decide +kernel, by decide +kernel⟩
theorem ok_Want {dW : Addr} {f : Addr} {fd : FuncData} (F : FunD K "__init__" "Want.__init__" (defArgs s_Want_init) (defBody s_Want_init) (defScope s_Want_init) [.ref dW] [("all_but", .bl false)] f fd) (B : Fc K mg CW CT CU)
    (c1 : Cal P w K mg base 2 "are_unlike_names" (sp_unlike T K) []) (m1 : Met P w K mg base 1 CW "set_names" (sp_set_names T K CW) []) : FnOk P w K mg base CX0 3 f fd ["self", "names", "all_but"] (sp_Want T K CW) := by
  refine F.ok sc_Want (fun vs H Q E h => ?_) (fun cdv A outer s H vs Q E hr h => ?_)
  · obtain ⟨x, a, dx, b, xs, rfl, _⟩ := h; rfl
  · obtain ⟨x, a, dx, b, xs, rfl, hx, hS, nm, nd, l60, q⟩ := h
    refine ⟨_, PSs.nox (pss_cons (ps_if (pw_or (pt_not (pt_val (pe_c c1 hr (Nat.le_refl _) (by rfl) (pa_cons (pv 1) pa_nil))))
        (pw_or (pt_cmpR op_gt (pe_callB call_len (by rfl) B.len boot_len_ (pa_cons (pv 1) pa_nil)) (pe_gc (v := .int 60) (by rfl) (let ⟨t, e⟩ := B.mn; ⟨_, e, ⟨t, rfl⟩⟩)) (nomark _))
        (pw_or1 (pt_not (pt_val (pe_callB call_isi (by rfl) B.isi boot_isi (pa_cons (pv 2) (pa_cons (pe_bltn (v := .ty "bool") (by rfl) B.bool boot_bool_ rfl) pa_nil)))))))).pt pss_never pss_nil)
      (pss_one (ps_expr (pe_mt m1 hr (by decide) (pv 0) (pa_cons (pv 1) (pa_cons (pv 2) pa_nil)))))), ?_⟩
    refine ⟨_, rfl, a, xs, rfl, hS, nm, nd, l60, fun H1 g1 => ?_⟩
    have hS1 := hS.gr g1 List.not_mem_nil
    refine ⟨true, rfl, iteF ?_⟩
    refine ⟨_, rfl, _, _, rfl, hS1.len, _, _, rfl, rfl, false, congrArg V.bl (decide_eq_false (by rw [List.length_map]; omega)), iteF ?_⟩
    refine ⟨_, rfl, _, _, _, _, true, rfl, .ty _, .base (.bl _), kit_ty (by decide +kernel), true, rfl, iteF ?_⟩
    refine ⟨_, rfl, x, dx, _, rfl, g1.ins hx, rfl, _, rfl, _, rfl, x, a, dx, b, xs, [], rfl, g1.ins hx, .inl rfl, hS1, nd, by omega, fun H2 p cs g2 hp pm so => ?_⟩
    exact q H2 p cs (g1.trans g2) hp pm so
/-! ### what a want answers -/
theorem in_strs (x : Str) : ∀ xs : List Str, inV (.str x) (xs.map V.str) = decide (x ∈ xs)
  | [] => rfl
  | y :: xs => by
    have ih := in_strs x xs
    unfold inV at ih ⊢
    rw [List.map_cons, List.any_cons, ih]
    have e : eqV (.str y) (.str x) = decide (y = x) := by
      show (y == x) = decide (y = x)
      rw [Bool.eq_iff_iff]
      simp
    rw [e]
    by_cases h : y = x
    · subst h; simp
    · have h2 : ¬ x = y := fun z => h z.symm
      simp [h, h2]
def sp_has (CW : Addr) : Sp := fun vs H Q _ => ∃ (a : Addr) (W : WantD) (x : Str), vs = [.ref a, .str x] ∧ WantAt CW H a W ∧ Q (.bl (W.has x)) H
theorem sc_has : FnScope ["self", "sender"] ["self", "sender"] (defScope s_Want_has) := ⟨rfl, rfl, rfl, by decide +kernel, rfl, by decide +kernel, by decide +kernel⟩
theorem ok_has {f : Addr} {fd : FuncData} (F : FD K "has" "Want.has" s_Want_has f fd) (B : Fc K mg CW CT CU) : FnOk P w K mg base CX0 1 f fd ["self", "sender"] (sp_has CW) := by
  refine F.ok sc_has (fun vs H Q E h => ?_) (fun cdv A outer s H vs Q E hr h => ?_)
  · obtain ⟨a, W, x, rfl, _⟩ := h; rfl
  · obtain ⟨a, W, x, rfl, ⟨wo, w64, dx, p, h1, h2⟩, q⟩ := h
    refine ⟨_, PSs.nox (pss_one (ps_ret (pe_cmpR op_ne (pe_cmpR op_in_seq (pv 1) (pe_fld (pv 0) rfl) (by rfl)) (pe_fld (pv 0) rfl) (nomark _)))), ?_⟩
    refine ⟨_, rfl, _, rfl, a, CW, dx, _, _, rfl, h1, B.iW.cl, B.nW _ (by simp), rfl, p, W.names.map V.str, rfl, .inr (SqT.of h2), rfl, flat_strs _, ?_⟩
    rw [in_strs]
    refine ⟨_, rfl, a, CW, dx, _, _, rfl, h1, B.iW.cl, B.nW _ (by simp), rfl, rfl, ?_⟩
    have e : (!decide (V.bl (decide (x ∈ W.names)) = V.bl W.but)) = W.has x := by
      unfold WantD.has
      cases decide (x ∈ W.names) <;> cases W.but <;> rfl
    show Q (V.bl (!decide (V.bl (decide (x ∈ W.names)) = V.bl W.but))) H
    rw [e]
    exact q
theorem eqvAll_strs : ∀ xs ys : List Str, PyData.eqvAll (xs.map .str) (ys.map .str) = decide (xs = ys)
  | [], [] => by simp [PyData.eqvAll]
  | [], y :: ys => by simp [PyData.eqvAll]
  | x :: xs, [] => by simp [PyData.eqvAll]
  | x :: xs, y :: ys => by
    rw [List.map_cons, List.map_cons]
    simp only [PyData.eqvAll, PyData.eqv]
    rw [eqvAll_strs xs ys, Bool.eq_iff_iff]
    simp
theorem eqv_strs (xs ys : List Str) : PyData.eqv (.tuple (xs.map .str)) (.tuple (ys.map .str)) = decide (xs = ys) := by
  simp only [PyData.eqv]
  exact eqvAll_strs xs ys
def sp_weq (CW : Addr) : Sp := fun vs H Q _ => ∃ (a b : Addr) (W U : WantD), vs = [.ref a, .ref b] ∧ WantAt CW H a W ∧ WantAt CW H b U ∧ ∀ k : Bool, (k = true ↔ W = U) → Q (.bl k) H
theorem dp_strs {K : PySem.W.Frag} {H : Hp} : ∀ xs : List Str, DpAll K H (xs.map V.str) (xs.map PyData.str)
  | [] => .nil
  | x :: xs => .cons (.str x) (dp_strs xs)
theorem nm_strOk {x : Str} (h : Nm x) : PyData.strOk x = true := by
  unfold PyData.strOk
  rw [Array.all_eq_true]
  intro i hi
  have := h.2.2 x.cps[i] (Array.getElem_mem_toList hi)
  exact decide_eq_true (by omega)
theorem lay_strs : ∀ {xs : List Str}, (∀ x ∈ xs, Nm x) → PyData.canLayAll0 (xs.map PyData.str) = true
  | [], _ => by simp [PyData.canLayAll0]
  | x :: xs, h => by simp [PyData.canLayAll0, PyData.canLay0, nm_strOk (h x List.mem_cons_self), lay_strs fun y hy => h y (List.mem_cons_of_mem _ hy)]
theorem depth_strs : ∀ xs : List Str, PyData.depthAll (xs.map PyData.str) = 0
  | [] => by simp [PyData.depthAll]
  | x :: xs => by simp [PyData.depthAll, PyData.depth, depth_strs xs]
theorem shaped_strs {xs : List Str} (h : ∀ x ∈ xs, Nm x) : SeqAt.shaped (.tuple (xs.map PyData.str)) = true := by
  simp [SeqAt.shaped, PyData.canLay0, lay_strs h, PyData.depth, depth_strs]
theorem sc_weq : FnScope ["self", "other"] ["self", "other"] (defScope s_Want_eq) := ⟨rfl, rfl, rfl, by decide +kernel, rfl, by decide +kernel, by decide +kernel⟩
theorem ok_weq {f : Addr} {fd : FuncData} (F : FD K "__eq__" "Want.__eq__" s_Want_eq f fd) (B : Fc K mg CW CT CU) : FnOk P w K mg base CX0 1 f fd ["self", "other"] (sp_weq CW) := by
  refine F.ok sc_weq (fun vs H Q E h => ?_) (fun cdv A outer s H vs Q E hr h => ?_)
  · obtain ⟨a, b, W, U, rfl, _⟩ := h; rfl
  · obtain ⟨a, b, W, U, rfl, ⟨⟨wo, wn⟩, w64, dx, p, h1, h2⟩, ⟨⟨uo, un⟩, u64, dy, r, h3, h4⟩, q⟩ := h
    refine ⟨_, PSs.nox (pss_one (ps_ret (pe_and (pe_callB (call_isC B.iW) (by rfl) B.isi boot_isi (pa_cons (pv 1) (pa_cons (pe_gc (v := .ref CW) (by rfl) ⟨_, B.gW, rfl⟩) pa_nil)))
      (pe_and (pe_cmpR (op_eqD (by have := hr.un; show A.units + 3 + 64 < cLine; simp only [Around.deeper] at this; omega)) (pe_fld (pv 0) rfl) (pe_fld (pv 1) rfl) (nomark _)) (pe_one (pe_cmpR op_eq (pe_fld (pv 0) rfl) (pe_fld (pv 1) rfl) (nomark _))))))), ?_⟩
    refine ⟨_, rfl, b, dy, _, rfl, h3, true, rfl, iteT ?_⟩
    refine ⟨_, rfl, a, CW, dx, _, _, rfl, h1, B.iW.cl, B.nW _ (by simp), rfl, _, rfl, b, CW, dy, _, _, rfl, h3, B.iW.cl, B.nW _ (by simp), rfl, _, _, .tup (SqT.of h2) (dp_strs _), .tup (SqT.of h4) (dp_strs _), shaped_strs wn, shaped_strs un, _, rfl, ?_⟩
    rw [eqv_strs]
    by_cases e : W.names = U.names
    · rw [decide_eq_true e]
      refine iteT ⟨_, rfl, a, CW, dx, _, _, rfl, h1, B.iW.cl, B.nW _ (by simp), rfl, _, rfl, b, CW, dy, _, _, rfl, h3, B.iW.cl, B.nW _ (by simp), rfl, rfl, q _ ?_⟩
      rw [decide_eq_true_eq]
      constructor
      · intro z
        injection z with z
        cases W; cases U
        simp only at e z
        rw [e, z]
      · intro z; rw [z]
    · rw [decide_eq_false e]
      exact iteF (q false ⟨(fun z => nomatch z), fun z => absurd (congrArg WantD.names z) e⟩)
/-! ### want_of, mingled, both, others -/
theorem cat_read {T : List (Addr × Str)} {H : Hp} {a b : Addr} {xs ys : List V} {Q : VK} (h1 : SqT K H a xs) (h2 : SqT K H b ys) (hl : xs.length + ys.length ≤ 100) (q : ∀ c H', Gr T [] H H' → SqT K H' c (xs ++ ys) → Q (.ref c) H') : rCatA K (.ref a) (.ref b) H Q := by
  refine ⟨a, b, xs, ys, rfl, rfl, h1, h2, by rw [sizeLine_eq]; omega, fun e => ?_, fun _ e => ?_, fun _ _ p hp => ?_⟩
  · subst e; exact q b H (Gr.refl H) h2
  · subst e; exact q a H (Gr.refl H) (by rw [List.append_nil]; exact h1)
  · exact q p _ ((Gr.refl H).new hp) (SqT.of upd_same)
def sp_want_of (T : List (Addr × Str)) (K : PySem.W.Frag) (CW : Addr) : Sp := fun vs H Q _ => ∃ (a : Addr) (b : Bool) (xs : List Str), vs = [.ref a, .bl b] ∧ SeqV K H a (xs.map V.str) ∧ (∀ x ∈ xs, Nm x) ∧ xs.Nodup ∧ xs.length < 64 ∧
  ∀ (H1 : Hp) (v : Addr) (W : WantD), Gr T [] H H1 → WantAt CW H1 v W → W.but = b → W.names.Perm xs → Q (.ref v) H1
theorem sc_want_of : FnScope ["names", "all_but", "found"] ["names", "all_but"] (defScope s_want_of) := ⟨rfl, rfl, rfl, by decide +kernel, rfl, by decide +kernel, by decide +kernel⟩
theorem want_made {T : List (Addr × Str)} {H H1 : Hp} {x dx p : Addr} {b : Bool} {xs cs : List Str} {fs : List (Str × V)} (hx : H1 x = some (.ins CW dx fs)) (hp : H1 p = some (.tup (cs.map V.str))) (pm : cs.Perm xs) (so : cs.Pairwise SLt) (nm : ∀ x ∈ xs, Nm x) (l : xs.length < 64) :
    WantAt CW (upd H1 x (.ins CW dx (fsW p b))) x ⟨cs, b⟩ :=
  ⟨⟨so, fun y hy => nm y (pm.mem_iff.mp hy)⟩, by rw [pm.length_eq]; exact l, dx, p, upd_same, by
    rw [upd_ne (fun e => by rw [e, hx] at hp; cases hp)]
    exact hp⟩
theorem ok_want_of {dW : Addr} {f : Addr} {fd : FuncData} (F : FD K "want_of" "want_of" s_want_of f fd) (B : Fc K mg CW CT CU) (hdW : ∀ H : Hp, SqT K H dW [])
    (c1 : MkK P w K mg base 3 "Want" CW 0 [] (sp_Want T K CW) (fun vs _ => vs ++ [.ref dW, .bl false])) (m1 : Met P w K mg base 1 CW "set_names" (sp_set_names T K CW) []) : FnOk P w K mg base CX0 5 f fd ["names", "all_but"] (sp_want_of T K CW) := by
  refine F.ok sc_want_of (fun vs H Q E h => ?_) (fun cdv A outer s H vs Q E hr h => ?_)
  · obtain ⟨a, b, xs, rfl, _⟩ := h; rfl
  · obtain ⟨a, b, xs, rfl, hS, nm, nd, l64, q⟩ := h
    refine ⟨_, PSs.nox (pss_cons (ps_set (i := 2) sc_want_of.nd rfl (.inl rfl) (pe_mkK0 c1 hr (by decide) (by rfl) pk_nil))
      (pss_cons (ps_expr (pe_mt m1 hr (by decide) (pv 2) (pa_cons (pv 0) (pa_cons (pv 1) pa_nil)))) (pss_one (ps_ret (pv 2))))), ?_⟩
    refine ⟨rfl, rfl, fun x dx hx hdx hne => ?_⟩
    have hx' : upd H dx (.own x) x = none := (upd_ne (Ne.symm hne)).trans hx
    have g0 : Gr T [] H (upd (upd H dx (.own x)) x (.ins CW dx [])) := ((Gr.refl H).new hdx).new hx'
    refine ⟨x, dW, dx, false, [], rfl, upd_same, .inr (hdW _), (fun _ z => nomatch z), .nil, by decide, fun H1 p cs g1 hp pm so => ⟨rfl, ?_⟩⟩
    have i1 : H1 x = some (.ins CW dx []) := g1.ins upd_same
    have g2 : Gr T [] H (upd H1 x (.ins CW dx (fsW p false))) := (g0.trans g1).put hx i1 free_ins
    have g3 := hS.gr g2 List.not_mem_nil
    refine ⟨_, rfl, x, dx, _, rfl, upd_same, rfl, _, rfl, _, rfl, x, a, dx, b, xs, _, rfl, upd_same, .inr ⟨p, false, rfl⟩, g3, nd, l64, fun H3 p3 cs3 g4 hp3 pm3 so3 => ?_⟩
    have i3 := g4.ins (upd_same (H := H1) (a := x) (o := .ins CW dx (fsW p false)))
    exact ⟨_, rfl, q _ x ⟨cs3, b⟩ ((g2.trans g4).put hx i3 free_ins) (want_made (T := T) (H := H) i3 hp3 pm3 so3 nm l64) rfl pm3⟩
/-- a rule of two truth values -/
def D2B : List V → Prop := fun vs => ∃ a b : Bool, vs = [.bl a, .bl b]
def g2B (h : Bool → Bool → Bool) : List V → V := fun vs => match vs with
  | [.bl a, .bl b] => .bl (h a b)
  | _ => .non
abbrev Rule2B (P : Program) (w : World) (K : PySem.W.Frag) (mg : Str → Option Value) (base : Heap) (k : Nat) (H : Hp) (f : Addr) (h : Bool → Bool → Bool) : Prop := LFn P w K mg base k H f D2B (g2B h)
def sp_mingled (P : Program) (w : World) (K : PySem.W.Frag) (mg : Str → Option Value) (base : Heap) (k : Nat) (T : List (Addr × Str)) (CW : Addr) : Sp := fun vs H Q _ => ∃ (a b f : Addr) (W U : WantD) (h : Bool → Bool → Bool), vs = [.ref a, .ref b, .ref f] ∧ WantAt CW H a W ∧ WantAt CW H b U ∧ W.names.length ≤ 8 ∧ U.names.length ≤ 8 ∧ Rule2B P w K mg base k H f h ∧
  ∀ (H1 : Hp) (v : Addr) (Z : WantD), Gr T [] H H1 → WantAt CW H1 v Z → Z.but = h W.but U.but → (∀ x, Z.has x = h (W.has x) (U.has x)) → (∀ x ∈ Z.names, x ∈ W.names ∨ x ∈ U.names) → Q (.ref v) H1
theorem sc_mingled : FnScope ["one", "other", "rule", "rest", "some", "name"] ["one", "other", "rule"] (defScope s_mingled) := ⟨rfl, rfl, rfl, by decide +kernel, rfl, by decide +kernel, by decide +kernel⟩
theorem ok_mingled {f : Addr} {fd : FuncData} (F : FD K "mingled" "mingled" s_mingled f fd) (B : Fc K mg CW CT CU) (c1 : Cal P w K mg base 5 "want_of" (sp_want_of T K CW) []) (m1 : Met P w K mg base 1 CW "has" (sp_has CW) []) :
    FnOk P w K mg base CX0 6 f fd ["one", "other", "rule"] (sp_mingled P w K mg base 1 T CW) := by
  refine F.ok sc_mingled (fun vs H Q E h => ?_) (fun cdv A outer s H vs Q E hr h => ?_)
  · obtain ⟨a, b, f, W, U, h, rfl, _⟩ := h; rfl
  · obtain ⟨a, b, r, W, U, h, rfl, hW, hU, l1, l2, hR, q⟩ := h
    have okN := sc_mingled.nd
    have hr1 := hr.mono (show 1 ≤ 5 by decide)
    refine ⟨_, PSs.nox (pss_cons (ps_set (i := 3) okN rfl (.inr rfl) (pe_callLam (i := 2) (k := 1) (D := D2B) (g := g2B h) (hr.mono (by decide)) rfl (.inr (.inl rfl)) (pa_cons (pe_fld (pv 0) rfl) (pa_cons (pe_fld (pv 1) rfl) pa_nil))))
      (pss_cons (ps_set (i := 4) okN rfl (.inl rfl) (pe_callB (cr_sortS rfl) (by rfl) B.sorted boot_sorted_ (pa_cons (pe_ss (own := [("name", 5)]) rfl okN (pi_seq (pe_op op_catA (pe_fld (pv 0) rfl) (pe_fld (pv 1) rfl))) (blkOk_by (N := ["one", "other", "rule", "rest", "some", "name"]) (sc := defScope s_mingled) (by decide +kernel))
        (fun _ _ _ _ _ => pg_name (i := 5) okN rfl (.inl rfl)) (fun _ _ _ _ _ => pv 5)) pa_nil)))
      (pss_one (ps_ret (pe_c c1 hr (by decide) (by rfl) (pa_cons (pe_lc (own := [("name", 5)]) rfl okN (pi_seq (pv 4)) (blkOk_by (N := ["one", "other", "rule", "rest", "some", "name"]) (sc := defScope s_mingled) (by decide +kernel))
        (fun _ _ _ _ _ => pg_name (i := 5) okN rfl (.inl rfl)) (fun _ _ _ _ _ => pts_one (pt_cmpR op_ne (pe_callLamB (i := 2) (k := 1) P w K mg base D2B (g2B h) ⟨rfl, rfl, rfl, rfl, rfl⟩ hr1 rfl (by first | exact Or.inl rfl | exact Or.inr (Or.inl rfl) | exact Or.inr (Or.inr rfl)) (pa_cons (pe_mt m1 hr1 (Nat.le_refl _) (pv 0) (pa_cons (pv 5) pa_nil)) (pa_cons (pe_mt m1 hr1 (Nat.le_refl _) (pv 1) (pa_cons (pv 5) pa_nil)) pa_nil))) (pv 3) (nomark _)))
        (fun _ _ _ _ _ => pv 5)) (pa_cons (pv 3) pa_nil))))))), ?_⟩
    obtain ⟨⟨wo, wn⟩, w64, dx, p, h1, h2⟩ := id hW
    obtain ⟨⟨uo, un⟩, u64, dy, r2, h3, h4⟩ := id hU
    refine ⟨r, rfl, hR, _, rfl, a, CW, dx, _, _, rfl, h1, B.iW.cl, B.nW _ (by simp), rfl, _, rfl, b, CW, dy, _, _, rfl, h3, B.iW.cl, B.nW _ (by simp), rfl, hR, ⟨_, _, rfl⟩, ?_⟩
    refine ⟨_, rfl, a, CW, dx, _, _, rfl, h1, B.iW.cl, B.nW _ (by simp), rfl, _, rfl, b, CW, dy, _, _, rfl, h3, B.iW.cl, B.nW _ (by simp), rfl, ?_⟩
    refine cat_read (T := T) (SqT.of h2) (SqT.of h4) (by rw [List.length_map, List.length_map]; omega) fun c H1 g1 hc => ?_
    rw [← List.map_append] at hc
    refine ⟨c, _, rfl, .inr hc, fun J St sq hst D hD => ?_⟩
    refine ss_texts (W.names ++ U.names) (List.length_map _).symm (by rw [List.length_append]; omega) sq (fun L => hst T [] _ ((Gr.refl H1).new hD) List.not_mem_nil) (fun j v y L hv hy Pk hk => ?_) ?_
    · obtain ⟨y2, hy2, ev⟩ := strs_item hv
      rw [hy] at hy2
      cases hy2
      exact ⟨rfl, _, rfl, by rw [ev]; exact hk⟩
    have g2 : Gr T [] H (upd H1 D (SetSO w D (metS (W.names ++ U.names)))) := g1.new hD
    refine ⟨D, _, rfl, .inr (.inr upd_same), ?_, fun ys l pm so hl => ?_⟩
    · have z := metS_len (W.names ++ U.names) []
      rw [List.length_append] at z
      simp only [List.length_nil, Nat.zero_add] at z
      exact Nat.lt_of_le_of_lt z (by omega)
    have nd : ys.Nodup := (pm.nodup_iff).mpr (metS_nodup _ _ .nil)
    have mem : ∀ x, x ∈ ys ↔ x ∈ W.names ∨ x ∈ U.names := fun x => by rw [pm.mem_iff, metS_all, List.mem_append]
    have lys : ys.length ≤ 16 := by
      have z := metS_len (W.names ++ U.names) []
      rw [List.length_append] at z
      simp only [List.length_nil, Nat.zero_add] at z
      rw [pm.length_eq]
      exact Nat.le_trans z (by omega)
    refine ⟨_, rfl, l, _, rfl, .inl upd_same, fun J St sq hst D2 hD2 => ?_⟩
    obtain ⟨H3, eH3⟩ : ∃ H3, H3 = upd (upd H1 D (SetSO w D (metS (W.names ++ U.names)))) l (.lst (ys.map V.str)) := ⟨_, rfl⟩
    have g3 : Gr T [] H H3 := by rw [eH3]; exact g2.new hl
    have hst3 : ∀ H', Gr T [] H3 H' → St H' := fun H' z => hst T [] H' (by rw [eH3] at z; exact z) List.not_mem_nil
    have hD3 : H3 D2 = none := by rw [eH3]; exact hD2
    refine lc_seq sq (fun i acc H' => acc = ((ys.take i).filter fun x => xor (h (W.has x) (U.has x)) (h W.but U.but)).map V.str ∧ Gr T [] H3 H') ⟨rfl, by rw [eH3]; exact (Gr.refl _).new hD2⟩ (fun i acc H' _ e => hst3 H' e.2) (fun i v acc H' hv hla hD' ⟨e, g⟩ => ?_) (fun acc H' hD' hla ⟨e, g⟩ => ?_)
    · obtain ⟨y, hy, ev⟩ := strs_item hv
      have li : i < ys.length := (List.getElem?_eq_some_iff.mp hy).1
      have g4 := g3.trans g
      have hR' := hR.ext g4.extN
      refine ⟨rfl, ?_⟩
      refine ⟨r, rfl, hR', _, rfl, a, dx, _, rfl, g4.ins h1, rfl, _, rfl, a, W, y, by rw [ev]; rfl, hW.gr g4, _, rfl, b, dy, _, rfl, g4.ins h3, rfl, _, rfl, b, U, y, by rw [ev]; rfl, hU.gr g4, hR', ⟨_, _, rfl⟩, ?_⟩
      refine ⟨_, rfl, rfl, _, rfl, ?_⟩
      have ee : (!decide (g2B h [.bl (W.has y), .bl (U.has y)] = g2B h [.bl W.but, .bl U.but])) = xor (h (W.has y) (U.has y)) (h W.but U.but) := by
        show (!decide (V.bl (h (W.has y) (U.has y)) = V.bl (h W.but U.but))) = _
        cases h (W.has y) (U.has y) <;> cases h W.but U.but <;> rfl
      rw [ee]
      have tk : ys.take (i + 1) = ys.take i ++ [y] := by rw [List.take_add_one, hy]; rfl
      cases hx : xor (h (W.has y) (U.has y)) (h W.but U.but) with
      | true =>
        refine iteT ⟨v, rfl, nx_add hD' hla (by rw [sizeLine_eq]; omega) ⟨?_, g.put hD3 hD' free_lst⟩⟩
        rw [tk, List.filter_append, List.map_append, e, ev]
        simp [hx]
      | false =>
        refine iteF ⟨acc, by omega, hD', ?_, g⟩
        rw [tk, List.filter_append, List.map_append, e]
        simp [hx]
    · rw [List.length_map, List.take_of_length_le (Nat.le_refl _)] at e
      refine ⟨_, rfl, D2, h W.but U.but, _, rfl, .inl (by rw [hD', e]), fun x hx => ?_, nd.filter _, ?_, fun H5 v Z g5 hZ hb hp => ?_⟩
      · rcases (mem x).1 (List.mem_filter.mp hx).1 with z | z
        · exact wn x z
        · exact un x z
      · exact Nat.lt_of_le_of_lt (List.length_filter_le _ _) (by omega)
      · have g6 := g3.trans (g.trans g5)
        obtain ⟨Zo, Zh⟩ := want_filter (g := fun x => h (W.has x) (U.has x)) (r := h W.but U.but) nd hp hZ.1.1 fun x hx => by
          have nx : ¬ (x ∈ W.names ∨ x ∈ U.names) := fun z => hx ((mem x).2 z)
          show h (W.has x) (U.has x) = _
          rw [has_out fun z => nx (.inl z), has_out fun z => nx (.inr z)]
        have eZ : Z = ⟨Z.names, h W.but U.but⟩ := by cases Z; simp only at hb; rw [hb]
        refine q H5 v Z g6 hZ hb (fun x => by rw [eZ]; exact Zh x) fun x hx => (mem x).1 (List.mem_filter.mp (hp.mem_iff.mp hx)).1
end
end KD
end

section
set_option Elab.async false
set_option linter.all false
set_option maxRecDepth 100000
set_option maxHeartbeats 4000000
/-! both, others -/
namespace KD
open PySem PySem.Spec PyProof.Rows C8 LamX NdefX
open L2 hiding CX0 E0 pass0 Fun
section
variable {P : Program} {w : World} {K : PySem.W.Frag} {mg : Str → Option Value} {base : Heap} {CW CT CU : Addr} {T : List (Addr × Str)}
/-- a def whose code object is known -/
theorem okC {k : Nat} {f : Addr} {fd : FuncData} {N ps : List Str} {sp : Sp} {name qual : Str} {params : Arguments} {body : List Stmt} {scope : Scope} {dvs : List V} {kws : List (Str × V)} (F : FunD K name qual params body scope dvs kws f fd) (S : FnScope N ps scope) (len : ∀ vs H Q E, sp vs H Q E → vs.length = ps.length)
    (hbody : ∀ (c : Addr) (A : Around) (outer : List Env) (s : Shared) (H : Hp) (vs : List V) (Q : VK) (E : XK), fd.code = .ref c → Room k (A.deeper (envOfC qual scope s.heap.objs.size f (.ref c))) → sp vs H Q E →
      ∃ t, PSs (cxOf CX0 P w K mg base N qual scope f (.ref c) A outer s H E) body t ∧ t { nx := fun _ H' => Q .non H', rt := Q } (start N vs) H) : FnOk P w K mg base CX0 (k + 1) f fd ps sp := by
  obtain ⟨oc, od, dV, kV, doc, pm, an, cdv, ct, osl, rfl, lk, hcd, _, _⟩ := F.ex
  obtain ⟨c, rfl⟩ := He.codeIn_ref hcd
  exact fn_of lk hcd S len fun A outer s H vs Q E hr hsp => hbody c A outer s H vs Q E rfl hr hsp
/-- the def's table of lambdas -/
structure LamT (mg : Str → Option Value) (base : Heap) (T : List (Addr × Str)) (q : Str) (fd : FuncData) : Prop where
  ex : ∃ C0 P0 : Addr, TabB base mg C0 P0 ∧ (P0, q ++ ".<locals>." ++ "<lambda>") ∈ T ∧ (∀ p ∈ T, p.1 = P0 → p.2 = q ++ ".<locals>." ++ "<lambda>") ∧ ∀ c, fd.code = .ref c → c = C0
def sp_both (T : List (Addr × Str)) (CW : Addr) : Sp := fun vs H Q _ => ∃ (a b : Addr) (W U : WantD), vs = [.ref a, .ref b] ∧ Tabs T H ∧ WantAt CW H a W ∧ WantAt CW H b U ∧ W.names.length ≤ 8 ∧ U.names.length ≤ 8 ∧
  ∀ (H1 : Hp) (v : Addr) (Z : WantD), Gr T [] H H1 → WantAt CW H1 v Z → Z.but = (W.but && U.but) → (∀ x, Z.has x = (W.has x && U.has x)) → Q (.ref v) H1
theorem sc_both : FnScope ["one", "other"] ["one", "other"] (defScope s_both) := ⟨rfl, rfl, rfl, by decide +kernel, rfl, by decide +kernel, by decide +kernel⟩
def freeB (names : List (Str × NameKind)) (sc : Scope) : Bool := names.all fun y => match y.2 with
  | .free => (match sc.names.lookup y.1 with
    | some .cell => true
    | some .free => true
    | _ => false)
  | _ => true
theorem free_by {names : List (Str × NameKind)} {sc : Scope} (h : freeB names sc = true) : ∀ y ∈ names, y.2 = .free → sc.names.lookup y.1 = some .cell ∨ sc.names.lookup y.1 = some .free := fun y hy e => by
  have z := List.all_eq_true.mp h y hy
  rw [e] at z
  cases q : sc.names.lookup y.1 with
  | none => rw [q] at z; cases z
  | some k => rw [q] at z; cases k <;> first | exact .inl rfl | exact .inr rfl | cases z
def lamSc (ns : List (Str × NameKind)) : Scope := { kind := .function, names := ns, isGenerator := false, isCoroutine := false }
theorem nsc_of {N ps fr : List Str} {sc sc' : Scope} (e : sc = sc') (h : nscB N ps fr sc' = true) : NScope N ps fr sc := by
  subst e
  exact nscope_by h
theorem ok_both {f : Addr} {fd : FuncData} (F : FD K "both" "both" s_both f fd) (L : LamT mg base T "both" fd) (c1 : Cal P w K mg base 6 "mingled" (sp_mingled P w K mg base 1 T CW) []) : FnOk P w K mg base CX0 7 f fd ["one", "other"] (sp_both T CW) := by
  refine okC F sc_both (fun vs H Q E h => ?_) (fun c A outer s H vs Q E hcode hr h => ?_)
  · obtain ⟨a, b, W, U, rfl, _⟩ := h; rfl
  · obtain ⟨a, b, W, U, rfl, hT, hW, hU, l1, l2, q⟩ := h
    obtain ⟨C0, P0, TB, hm, hu, hc⟩ := L.ex
    have ec : c = C0 := hc c hcode
    subst ec
    refine ⟨_, PSs.nox (pss_one (ps_ret (pe_c c1 hr (Nat.le_refl _) (by rfl) (pa_cons (pv 0) (pa_cons (pv 1) (pa_cons (pe_lambda (T := T) TB rfl hm hu rfl (free_by (sc := defScope s_both) (by decide +kernel))) pa_nil)))))), ?_⟩
    refine ⟨_, rfl, _, rfl, hT, fun g c' H1 e1 t1 hf hc' => ?_⟩
    have g1 : Gr T [] H H1 := Gr.of_extN e1 fun _ => t1
    refine ⟨a, b, g, W, U, fun x y => x && y, rfl, hW.gr g1, hU.gr g1, l1, l2, ⟨_, _, ["here", "there"], hf, hc', rfl, ?_⟩, fun H2 v Z g2 hZ hb hh _ => q H2 v Z (g1.trans g2) hZ hb hh⟩
    refine lok_of (N := ["here", "there"]) (k := 0) (nsc_of rfl (sc' := lamSc [("here", .local), ("there", .local)]) (by decide +kernel)) (fun pm ctv us hl => ?_) (fun ws vs H Q E h => ?_) (fun A2 outer2 s2 H2 vs2 ws Q2 hr2 hl hsp => ?_)
    · match us, hl with
      | [x, y], _ => rfl
    · obtain ⟨⟨x, y, rfl⟩, _⟩ := h; rfl
    · obtain ⟨⟨x, y, rfl⟩, q2⟩ := hsp
      refine ⟨_, pe_and (pv 0) (pe_one (pv 1)), ?_⟩
      refine ⟨_, rfl, x, rfl, ?_⟩
      cases x with
      | true => exact iteT ⟨_, rfl, q2⟩
      | false => exact iteF q2
def sp_others (T : List (Addr × Str)) (CW : Addr) : Sp := fun vs H Q _ => ∃ (a : Addr) (W : WantD), vs = [.ref a] ∧ WantAt CW H a W ∧
  ∀ (H1 : Hp) (v : Addr) (Z : WantD), Gr T [] H H1 → WantAt CW H1 v Z → Z.names = W.names → Z.but = (!W.but) → Q (.ref v) H1
theorem sc_others : FnScope ["want"] ["want"] (defScope s_others) := ⟨rfl, rfl, rfl, by decide +kernel, rfl, by decide +kernel, by decide +kernel⟩
theorem ok_others {f : Addr} {fd : FuncData} (F : FD K "others" "others" s_others f fd) (B : Fc K mg CW CT CU) (c1 : Cal P w K mg base 5 "want_of" (sp_want_of T K CW) []) : FnOk P w K mg base CX0 6 f fd ["want"] (sp_others T CW) := by
  refine F.ok sc_others (fun vs H Q E h => ?_) (fun cdv A outer s H vs Q E hr h => ?_)
  · obtain ⟨a, W, rfl, _⟩ := h; rfl
  · obtain ⟨a, W, rfl, hW, q⟩ := h
    obtain ⟨⟨wo, wn⟩, w64, dx, p, h1, h2⟩ := id hW
    refine ⟨_, PSs.nox (pss_one (ps_ret (pe_c c1 hr (Nat.le_refl _) (by rfl) (pa_cons (pe_fld (pv 0) rfl) (pa_cons (pe_not (pe_fld (pv 0) rfl)) pa_nil))))), ?_⟩
    refine ⟨_, rfl, a, CW, dx, _, _, rfl, h1, B.iW.cl, B.nW _ (by simp), rfl, _, rfl, a, CW, dx, _, _, rfl, h1, B.iW.cl, B.nW _ (by simp), rfl, W.but, rfl, ?_⟩
    exact ⟨p, !W.but, W.names, rfl, .inr (SqT.of h2), wn, slt_nodup wo, w64, fun H1 v Z g hZ hb hp => q H1 v Z g hZ (sorted_same hZ.1.1 wo fun x => hp.mem_iff) hb⟩
end
end KD
end

section
set_option Elab.async false
set_option linter.all false
set_option maxRecDepth 100000
set_option maxHeartbeats 4000000
/-! tills, walked -/
namespace KD
open PySem PySem.Spec PyProof.Rows C8 LamX NdefX
open L2 hiding CX0 E0 pass0 Fun
section
variable {P : Program} {w : World} {K : PySem.W.Frag} {mg : Str → Option Value} {base : Heap} {CW CT CU : Addr} {T : List (Addr × Str)}
theorem refs_item {β : Type} {f : β → Addr} {bs : List β} {i : Nat} {x : V} (h : (bs.map fun b => V.ref (f b))[i]? = some x) : ∃ b, bs[i]? = some b ∧ x = .ref (f b) := by
  rw [List.getElem?_map] at h
  obtain ⟨y, h1, h2⟩ := Option.map_eq_some_iff.mp h
  exact ⟨y, h1, h2.symm⟩
/-- rows by names, whatever else they hold -/
def sp_are_pairs (T : List (Addr × Str)) (K : PySem.W.Frag) : Sp := fun vs H Q _ => ∃ (a : Addr) (bs : List (Addr × Str)), vs = [.ref a] ∧ SeqV K H a (bs.map fun b => V.ref b.1) ∧ (∀ b ∈ bs, ∃ z, H b.1 = some (.tup [.str b.2, z])) ∧ (∀ b ∈ bs, Nm b.2) ∧ (bs.map (·.2)).Nodup ∧ bs.length < 61 ∧ ∀ H', Gr T [] H H' → Q (.bl true) H'
theorem sc_are_pairs : FnScope ["thing", "pair"] ["thing"] (defScope s_are_pairs) := ⟨rfl, rfl, rfl, by decide +kernel, rfl, by decide +kernel, by decide +kernel⟩
theorem ok_are_pairs {f : Addr} {fd : FuncData} (F : FD K "are_pairs" "are_pairs" s_are_pairs f fd) (B : Fc K mg CW CT CU) (c1 : Cal P w K mg base 1 "is_name" (sp_is_name T) []) : FnOk P w K mg base CX0 2 f fd ["thing"] (sp_are_pairs T K) := by
  refine F.ok sc_are_pairs (fun vs H Q E h => ?_) (fun cdv A outer s H vs Q E hr h => ?_)
  · obtain ⟨a, bs, rfl, _⟩ := h; rfl
  · obtain ⟨a, bs, rfl, hS, hR, nm, nd, l60, q⟩ := h
    have okN := sc_are_pairs.nd
    refine ⟨_, PSs.nox (pss_cons (ps_if (pw_or (pt_not (pt_val (pe_callB call_isiT (by rfl) B.isi boot_isi (pa_cons (pv 0) (pa_cons (pe_tup (pa_cons (pe_bltn (v := .ty "list") (by rfl) B.list boot_list_ rfl) (pa_cons (pe_bltn (v := .ty "tuple") (by rfl) B.tuple boot_tuple_ rfl) pa_nil))) pa_nil)))))
        (pw_or1 (pt_cmpR op_gt (pe_callB call_len (by rfl) B.len boot_len_ (pa_cons (pv 0) pa_nil)) (pe_gc (v := .int 60) (by rfl) (let ⟨t, e⟩ := B.mn; ⟨_, e, ⟨t, rfl⟩⟩)) (nomark _)))).pt pss_never pss_nil)
      (pss_cons (ps_if (pt_not (pt_val (pe_callB (cr_all rfl) (by rfl) B.all boot_all_ (pa_cons (pe_lc (own := [("pair", 1)]) rfl okN (pi_seq (pv 0)) (blkOk_by (N := ["thing", "pair"]) (sc := defScope s_are_pairs) (by decide +kernel)) (fun _ _ _ _ _ => pg_name (i := 1) okN rfl (.inl rfl)) (fun _ _ _ _ _ => pts_nil)
          (fun _ _ _ _ _ => pe_and (pe_callB (cr_isiK K rfl) (by rfl) B.isi boot_isi (pa_cons (pv 1) (pa_cons (pe_bltn (v := .ty "tuple") (by rfl) B.tuple boot_tuple_ rfl) pa_nil)))
            (pe_and (pe_cmpR op_eq (pe_callB (cr_lenK K rfl) (by rfl) B.len boot_len_ (pa_cons (pv 1) pa_nil)) pe_int (nomark _)) (pe_one (pe_c c1 hr (Nat.le_refl _) (by rfl) (pa_cons (pe_ix (ix_tupK K rfl) (pv 1) pe_int (fun _ _ => rfl)) pa_nil)))))) pa_nil)))) pss_never pss_nil)
      (pss_one (ps_ret (pe_cmpR op_eq (pe_callB cr_lenS (by rfl) B.len boot_len_ (pa_cons (pe_ss (own := [("pair", 1)]) rfl okN (pi_seq (pv 0)) (blkOk_by (N := ["thing", "pair"]) (sc := defScope s_are_pairs) (by decide +kernel)) (fun _ _ _ _ _ => pg_name (i := 1) okN rfl (.inl rfl))
          (fun _ _ _ _ _ => pe_ix (ix_tupK K rfl) (pv 1) pe_int (fun _ _ => rfl))) pa_nil))
        (pe_callB call_len (by rfl) B.len boot_len_ (pa_cons (pv 0) pa_nil)) (nomark _)))))), ?_⟩
    refine ⟨_, rfl, by decide, fun p hp => ?_⟩
    obtain ⟨H1, eH1⟩ : ∃ H1, H1 = upd H p (.tup [.ty "list", .ty "tuple"]) := ⟨_, rfl⟩
    have g1 : Gr T [] H H1 := by rw [eH1]; exact (Gr.refl H).new hp
    rw [← eH1]
    have hS1 := hS.gr g1 List.not_mem_nil
    have hR1 : ∀ b ∈ bs, ∃ z, H1 b.1 = some (.tup [.str b.2, z]) := fun b hb => (hR b hb).imp fun z h => g1.tup h
    obtain ⟨ty, k1, k2, k3⟩ := hS1.isi
    refine ⟨_, p, [.ty "list", .ty "tuple"], ty, [.type "list", .type "tuple"], true, rfl, by rw [eH1]; exact upd_same, .cons (.ty _) (.cons (.ty _) .nil), k1, k3, true, rfl, iteF ?_⟩
    refine ⟨_, rfl, _, _, rfl, hS1.len, _, _, rfl, rfl, false, congrArg V.bl (decide_eq_false (by rw [List.length_map]; omega)), iteF ?_⟩
    refine ⟨_, rfl, a, _, rfl, hS1, fun J St sq hst D hD => ?_⟩
    refine lc_seq sq (fun i acc H' => acc = List.replicate i (V.bl true) ∧ Gr T [] H1 H') ⟨rfl, (Gr.refl H1).new hD⟩ (fun i acc H' _ e => hst T [] H' e.2 List.not_mem_nil) (fun i v acc H' hv hl hD' ⟨e, g⟩ => ?_) (fun acc H' hD' hl ⟨e, g⟩ => ?_)
    · obtain ⟨b, hb, ev⟩ := refs_item (f := fun b : Addr × Str => b.1) hv
      have li : i < bs.length := (List.getElem?_eq_some_iff.mp hb).1
      have hm := List.mem_of_getElem? hb
      obtain ⟨z, hz⟩ := hR1 b hm
      have hz' := g.tup hz
      refine ⟨rfl, yes_if ?_⟩
      refine ⟨v, rfl, v, .ty "tuple", .type "tuple", .type "tuple", true, rfl, .ty _, by rw [ev]; exact .base (.tup hz'), kit_ty (by decide +kernel), true, rfl, iteT ?_⟩
      refine ⟨v, rfl, v, 2, rfl, by rw [ev]; exact .inr ⟨_, SqT.of hz', rfl⟩, rfl, true, rfl, iteT ?_⟩
      refine ⟨v, rfl, b.1, _, 0, .str b.2, ev, rfl, SqT.of hz', rfl, b.2, rfl, nm b hm, fun H2 g2 => ?_⟩
      have g3 := g.trans g2
      exact nx_add (g2.lst hD' List.not_mem_nil) hl (by rw [sizeLine_eq]; omega) ⟨by rw [e, ← List.replicate_succ'], g3.put hD (g2.lst hD' List.not_mem_nil) free_lst⟩
    · refine ⟨D, List.replicate (bs.map fun b => V.ref b.1).length true, rfl, SqL.of (by rw [hD', e, List.map_replicate]), true, by simp, iteF ?_⟩
      have hS2 := hS1.gr g List.not_mem_nil
      refine ⟨_, rfl, a, _, rfl, hS2, fun J St sq hst D' hD2 => ?_⟩
      refine ss_texts (bs.map (·.2)) (by rw [List.length_map, List.length_map]) (by rw [List.length_map]; omega) sq (fun L => hst T [] _ ((Gr.refl H').new hD2) List.not_mem_nil) (fun j v y L hv hy Pk hk => ?_) ?_
      · obtain ⟨b, hb, ev⟩ := refs_item (f := fun b : Addr × Str => b.1) hv
        rw [List.getElem?_map, hb] at hy
        have ey : b.2 = y := Option.some.inj hy
        obtain ⟨z, hz⟩ := hR1 b (List.mem_of_getElem? hb)
        have hz' := ((g.trans ((Gr.refl H').new hD2)).tup hz : upd H' D' (SetSO w D' L) b.1 = _)
        exact ⟨rfl, v, rfl, b.1, _, 0, .str b.2, ev, rfl, SqT.of hz', rfl, by rw [ey]; exact hk⟩
      · have g3 : Gr T [] H' (upd H' D' (SetSO w D' (metS (bs.map (·.2))))) := (Gr.refl H').new hD2
        refine ⟨D', metS (bs.map (·.2)), rfl, upd_same, ?_⟩
        refine ⟨_, rfl, _, _, rfl, (hS2.gr g3 List.not_mem_nil).len, rfl, ?_⟩
        have e2 : (metS (bs.map (·.2))).length = bs.length := by
          have z := metS_unlike (bs.map (·.2)) [] (by simpa using nd)
          simpa [metS] using z
        rw [List.length_map, e2, decide_eq_true rfl]
        exact q _ (g1.trans (g.trans g3))
def fsT (r : Int) (p d : Addr) : List (Str × V) := [("rest", .int r), ("own", .ref p), ("known", .ref d)]
theorem fsT_put {fs : List (Str × V)} (h : fs = [] ∨ ∃ r p d, fs = fsT r p d) (r : Int) (p d : Addr) : fs.length < 1000 ∧ (putF (Str.ofString "rest") (V.int r) fs).length < 1000 ∧ (putF (Str.ofString "own") (V.ref p) (putF (Str.ofString "rest") (V.int r) fs)).length < 1000 ∧
    putF (Str.ofString "known") (V.ref d) (putF (Str.ofString "own") (V.ref p) (putF (Str.ofString "rest") (V.int r) fs)) = fsT r p d ∧ (putF (Str.ofString "own") (V.ref p) (putF (Str.ofString "rest") (V.int r) fs)).lookup (Str.ofString "own") = some (V.ref p) := by
  rcases h with e | ⟨r', p', d', e⟩
  · rw [e]
    exact ⟨by decide, by show 1 < 1000; decide, by show 2 < 1000; decide, rfl, rfl⟩
  · rw [e]
    exact ⟨by show 3 < 1000; decide, by show 3 < 1000; decide, by show 3 < 1000; decide, rfl, rfl⟩
def dKof (cs : List (Addr × Str × Int)) : List (Key × V) := cs.map fun b => (Sum.inr b.2.1, V.int b.2.2)
def sp_set_till (T : List (Addr × Str)) (K : PySem.W.Frag) (CT : Addr) : Sp := fun vs H Q _ => ∃ (x a dx : Addr) (r : Int) (L : List (Addr × Str × Int)) (fs : List (Str × V)), vs = [.ref x, .int r, .ref a] ∧ H x = some (.ins CT dx fs) ∧ (fs = [] ∨ ∃ r p d, fs = fsT r p d) ∧ SeqV K H a (L.map fun b => V.ref b.1) ∧ RowsAt H L ∧ (L.map fun b => b.2.1).Nodup ∧ L.length < 61 ∧
  ∀ (H1 : Hp) (p d : Addr) (cs : List (Addr × Str × Int)), Gr T [] H H1 → H1 p = some (.tup (cs.map fun b => V.ref b.1)) → H1 d = some (.dK (dKof cs)) → RowsAt H1 cs → (cs.map (·.2)).Perm ((L.map (·.2)).filter fun q => decide (q.2 ≠ r)) → (cs.map fun b => b.2.1).Pairwise SLt →
    Q .non (upd H1 x (.ins CT dx (fsT r p d)))
theorem sc_set_till : FnScope ["self", "rest", "own", "name", "moment"] ["self", "rest", "own"] (defScope s_Till_set_till) := ⟨rfl, rfl, rfl, by decide +kernel, rfl, by decide +kernel, by decide +kernel⟩
theorem ok_set_till {f : Addr} {fd : FuncData} (F : FD K "set_till" "Till.set_till" s_Till_set_till f fd) (B : Fc K mg CW CT CU) : FnOk P w K mg base CX0 1 f fd ["self", "rest", "own"] (sp_set_till T K CT) := by
  refine F.ok sc_set_till (fun vs H Q E h => ?_) (fun cdv A outer s H vs Q E hr h => ?_)
  · obtain ⟨x, a, dx, r, L, fs, rfl, _⟩ := h; rfl
  · obtain ⟨x, a, dx, r, L, fs, rfl, hx, hfs, hS, hR, nd, l60, q⟩ := h
    have okN := sc_set_till.nd
    have hu : A.units + 3 + 8 < cLine := by have := hr.un; simp only [Around.deeper] at this; omega
    refine ⟨_, PSs.nox (pss_cons (ps_fld (pv 0) (pv 1) rfl)
      (pss_cons (ps_fld (pv 0) (pe_callTy call_tuple_of (by rfl) B.tuple boot_tuple_ (pa_cons (pe_callB (cr_sortP hu) (by rfl) B.sorted boot_sorted_ (pa_cons (pe_lc (own := [("name", 3), ("moment", 4)]) rfl okN (pi_seq (pv 2)) (blkOk_by (N := ["self", "rest", "own", "name", "moment"]) (sc := defScope s_Till_set_till) (by decide +kernel))
          (fun _ _ _ _ _ => pg_tupK K 2 rfl rfl (pgs_cons (pg_name (i := 3) okN rfl (.inl rfl)) (pgs_cons (pg_name (i := 4) okN rfl (.inl rfl)) pgs_nil))) (fun _ _ _ _ _ => pts_one (pt_cmpR op_ne (pv 4) (pv 1) (nomark _)))
          (fun _ _ _ _ _ => pe_tup (pa_cons (pv 3) (pa_cons (pv 4) pa_nil)))) pa_nil)) pa_nil)) rfl)
      (pss_one (ps_fld (pv 0) (pe_dc (own := [("name", 3), ("moment", 4)]) rfl okN (pi_tup (pe_fld (pv 0) rfl)) (blkOk_by (N := ["self", "rest", "own", "name", "moment"]) (sc := defScope s_Till_set_till) (by decide +kernel))
          (fun _ _ _ _ _ => pg_tupK K 2 rfl rfl (pgs_cons (pg_name (i := 3) okN rfl (.inl rfl)) (pgs_cons (pg_name (i := 4) okN rfl (.inl rfl)) pgs_nil))) (fun _ _ _ _ _ => pts_nil) (fun _ _ _ _ _ => pv 3) (fun _ _ _ _ _ => pv 4)) rfl)))), ?_⟩
    obtain ⟨z1, z2, z3, z4, z5⟩ := fsT_put hfs r 0 0
    refine ⟨_, rfl, _, rfl, x, CT, dx, fs, rfl, hx, B.iT.cl, B.nT _ (by simp), z1, ?_⟩
    obtain ⟨f1, e1'⟩ : ∃ f1, f1 = putF (Str.ofString "rest") (V.int r) fs := ⟨_, rfl⟩
    obtain ⟨Ha, eHa⟩ : ∃ Ha, Ha = upd H x (.ins CT dx f1) := ⟨_, rfl⟩
    rw [← e1', ← eHa]
    have hxa : Ha x = some (.ins CT dx f1) := by rw [eHa]; exact upd_same
    have gA : ∀ Hf, Gr T [] Ha Hf → Gr T [] H (upd Hf x (.ins CT dx fs)) := fun Hf g => by rw [eHa] at g; exact g.around hx
    have kA : ∀ b o, H b = some o → b ≠ x → Ha b = some o := fun b o e n => by rw [eHa, upd_ne n]; exact e
    have hSa : SeqV K Ha a (L.map fun b => V.ref b.1) := by
      rcases hS with z | (z | ⟨o, z⟩) | z
      · exact .inl (kA _ _ z (fun e => by rw [e, hx] at z; cases z))
      · exact .inr (.inl (.inl (kA _ _ z (fun e => by rw [e, hx] at z; cases z))))
      · exact .inr (.inl (.inr ⟨o, kA _ _ z (fun e => by rw [e, hx] at z; cases z)⟩))
      · exact .inr (.inr z)
    have hRa : RowsAt Ha L := fun b hb => kA _ _ (hR b hb) (fun e => by have z := hR b hb; rw [e, hx] at z; cases z)
    refine ⟨_, rfl, a, _, rfl, hSa, fun J St sq hst D hD => ?_⟩
    refine lc_seq sq (fun i acc H' => ∃ es : List (Addr × Str × Int), acc = es.map (fun b => V.ref b.1) ∧ es.map (·.2) = ((L.take i).map (·.2)).filter (fun q => decide (q.2 ≠ r)) ∧ RowsAt H' es ∧ Gr T [] Ha H') ⟨[], rfl, rfl, (fun _ z => nomatch z), (Gr.refl Ha).new hD⟩
      (fun i acc H' _ e => hst T [] H' e.choose_spec.2.2.2 List.not_mem_nil) (fun i v acc H' hv hl hD' ⟨es, e1, e2, e3, g⟩ => ?_) (fun acc H' hD' hl ⟨es, e1, e2, e3, g⟩ => ?_)
    · obtain ⟨b, hb, ev⟩ := refs_item (f := fun b : Addr × Str × Int => b.1) hv
      have li : i < L.length := (List.getElem?_eq_some_iff.mp hb).1
      have hz := g.tup (hRa b (List.mem_of_getElem? hb))
      have tk : (L.take (i + 1)).map (·.2) = (L.take i).map (·.2) ++ [b.2] := by rw [List.take_add_one, hb, List.map_append]; rfl
      refine ⟨b.1, _, ev, SqT.of hz, rfl, .str b.2.1, [.int b.2.2], rfl, .int b.2.2, [], rfl, rfl, rfl, ?_⟩
      refine ⟨.int b.2.2, rfl, .int r, rfl, rfl, _, rfl, ?_⟩
      by_cases hn : b.2.2 = r
      · rw [show (!decide (V.int b.2.2 = V.int r)) = false from by rw [hn]; simp]
        refine iteF ⟨acc, by omega, hD', es, e1, ?_, e3, g⟩
        rw [tk, List.filter_append, e2]
        simp [hn]
      · rw [show (!decide (V.int b.2.2 = V.int r)) = true from by simp [hn]]
        refine iteT ⟨.str b.2.1, rfl, .int b.2.2, rfl, (by show 2 ≤ sizeLine; rw [sizeLine_eq]; decide), fun t ht => ?_⟩
        have g2 := g.new (o := .tup [.str b.2.1, .int b.2.2]) ht
        have nD : D ≠ t := ne_of_none hD' ht
        have hD2 : upd H' t (.tup [.str b.2.1, .int b.2.2]) D = some (.lst acc) := (upd_ne nD).trans hD'
        refine nx_add hD2 hl (by rw [sizeLine_eq]; omega) ⟨es ++ [(t, b.2)], by rw [List.map_append, e1]; rfl, ?_, fun c hc => ?_, g2.put hD hD2 free_lst⟩
        · rw [tk, List.filter_append, List.map_append, e2]
          simp [hn]
        · rcases List.mem_append.mp hc with hc | hc
          · have z := e3 c hc
            rw [upd_ne (fun e => by rw [e, hD'] at z; cases z), upd_ne (ne_of_none z ht)]
            exact z
          · rw [List.mem_singleton.mp hc, upd_ne (Ne.symm nD)]
            exact upd_same
    · rw [List.length_map, List.take_of_length_le (Nat.le_refl _)] at e2
      have les : es.length ≤ L.length := by
        have z := congrArg List.length e2
        rw [List.length_map] at z
        rw [z]
        exact Nat.le_trans (List.length_filter_le _ _) (by rw [List.length_map]; exact Nat.le_refl _)
      have nde : (es.map fun b => b.2.1).Nodup := by
        have z : (es.map fun b => b.2.1) = (es.map (·.2)).map (·.1) := by rw [List.map_map]; rfl
        rw [z, e2]
        have z2 : (L.map fun b => b.2.1) = (L.map (·.2)).map (·.1) := by rw [List.map_map]; rfl
        rw [z2] at nd
        exact nd.sublist (List.filter_sublist.map _)
      refine ⟨D, es, rfl, SqL.of (by rw [hD', e1]), fun b hb => SqT.of (e3 b hb), nde, by omega, fun cs l pm so hl => ?_⟩
      have e3c : RowsAt H' cs := fun b hb => e3 b (pm.mem_iff.mp hb)
      have g2 := g.new (o := .lst (cs.map fun b => V.ref b.1)) hl
      refine ⟨l, _, rfl, .inl ⟨SqL.of upd_same, fun p hp => ?_⟩⟩
      have g3 := g2.new (o := .tup (cs.map fun b => V.ref b.1)) hp
      obtain ⟨H3, eH3⟩ : ∃ H3, H3 = upd (upd H' l (.lst (cs.map fun b => V.ref b.1))) p (.tup (cs.map fun b => V.ref b.1)) := ⟨_, rfl⟩
      rw [← eH3] at g3 ⊢
      have hp3 : H3 p = some (.tup (cs.map fun b => V.ref b.1)) := by rw [eH3]; exact upd_same
      have gL : Gr T [] H' H3 := by rw [eH3]; exact ((Gr.refl H').new hl).new hp
      have e3d := e3c.gr gL
      have hx3 := g3.ins hxa
      obtain ⟨y1, y2, y3, y4, y5⟩ := fsT_put hfs r p 0
      refine ⟨_, rfl, x, CT, dx, f1, rfl, hx3, B.iT.cl, B.nT _ (by simp), by rw [e1']; exact y2, ?_⟩
      obtain ⟨f2, e2'⟩ : ∃ f2, f2 = putF (Str.ofString "own") (V.ref p) f1 := ⟨_, rfl⟩
      obtain ⟨H4, eH4⟩ : ∃ H4, H4 = upd H3 x (.ins CT dx f2) := ⟨_, rfl⟩
      rw [← e2', ← eH4]
      have npx : p ≠ x := fun e => by rw [e, hx3] at hp3; cases hp3
      have hp4 : H4 p = some (.tup (cs.map fun b => V.ref b.1)) := by rw [eH4, upd_ne npx]; exact hp3
      have e3x : RowsAt H4 cs := fun b hb => by
        have z := e3d b hb
        rw [eH4, upd_ne (fun e => by rw [e, hx3] at z; cases z)]
        exact z
      have hx4 : H4 x = some (.ins CT dx f2) := by rw [eH4]; exact upd_same
      refine ⟨_, rfl, x, CT, dx, f2, _, rfl, hx4, B.iT.cl, B.nT _ (by simp), by rw [e2', e1']; exact y5, p, rfl, ⟨_, SqT.of hp4⟩, fun d hd => ?_⟩
      refine dc_tup (K := K) (a := p) (xs := cs.map fun b => V.ref b.1) (fun i H' => H' = upd H4 d (.dK (dKof (cs.take i)))) rfl (fun i H' _ e => SqT.of (by rw [e, upd_ne (ne_of_none hp4 hd)]; exact hp4)) (fun i v H' hv e => ?_) (fun H' e => ?_)
      · obtain ⟨b, hb, ev⟩ := refs_item (f := fun b : Addr × Str × Int => b.1) hv
        have hz := e3x b (List.mem_of_getElem? hb)
        have li : i < cs.length := (List.getElem?_eq_some_iff.mp hb).1
        refine ⟨b.1, _, ev, SqT.of (by rw [e, upd_ne (ne_of_none hz hd)]; exact hz), rfl, .str b.2.1, [.int b.2.2], rfl, .int b.2.2, [], rfl, rfl, rfl, yes_if ?_⟩
        refine ⟨.str b.2.1, rfl, .int b.2.2, rfl, dKof (cs.take i), Sum.inr b.2.1, rfl, by rw [e]; exact upd_same, ?_, ?_⟩
        · have z := List.length_take_le' i cs
          have z2 := pm.length_eq
          unfold dKof
          rw [List.length_map, sizeLine_eq]
          omega
        · rw [e, upd_upd]
          have nk : (Sum.inr b.2.1 : Key) ∉ (dKof (cs.take i)).map (·.1) := fun z => by
            unfold dKof at z
            rw [List.map_map] at z
            obtain ⟨b2, hb2, e2⟩ := List.mem_map.mp z
            have e2 : (Sum.inr b2.2.1 : Key) = Sum.inr b.2.1 := e2
            injection e2 with e2
            have nds := slt_nodup so
            obtain ⟨j, hj⟩ := List.mem_iff_getElem?.mp hb2
            rw [List.getElem?_take] at hj
            split at hj
            · rename_i hji
              have a1 : (cs.map fun b => b.2.1)[j]? = some b2.2.1 := by rw [List.getElem?_map, hj]; rfl
              have a2 : (cs.map fun b => b.2.1)[i]? = some b2.2.1 := by rw [List.getElem?_map, hb, e2]; rfl
              have z3 := nodup_ix nds a1 a2
              omega
            · cases hj
          rw [putK_new nk]
          congr 2
          unfold dKof
          rw [List.take_add_one, hb, List.map_append]
          rfl
      · rw [List.length_map, List.take_of_length_le (Nat.le_refl _)] at e
        refine ⟨_, rfl, x, CT, dx, f2, rfl, by rw [e, upd_ne (ne_of_none hx4 hd)]; exact hx4, B.iT.cl, B.nT _ (by simp), by rw [e2', e1']; exact y3, ?_⟩
        have hd3 : H3 d = none := by
          have z := hd
          rw [eH4, upd_ne (ne_of_none hx4 hd).symm] at z
          exact z
        have hdx : d ≠ x := fun z => by rw [z, hx4] at hd; cases hd
        have eF : H' = upd (upd H3 d (.dK (dKof cs))) x (.ins CT dx f2) := by
          rw [e, eH4]
          funext b
          by_cases h1 : b = d
          · rw [h1, upd_same, upd_ne hdx, upd_same]
          · by_cases h2 : b = x
            · rw [h2, upd_ne (Ne.symm hdx), upd_same, upd_same]
            · rw [upd_ne h1, upd_ne h2, upd_ne h2, upd_ne h1]
        have gF := g3.new (o := .dK (dKof cs)) hd3
        have goal := q _ p d cs (gA _ gF) (by rw [upd_ne npx, upd_ne (ne_of_none hp3 hd3)]; exact hp3) (by rw [upd_ne hdx]; exact upd_same) (fun b hb => by
          have z := e3d b hb
          rw [upd_ne (fun e => by rw [e, hx3] at z; cases z), upd_ne (ne_of_none z hd3)]
          exact z) (by rw [← e2]; exact pm.map _) so
        rw [upd_upd] at goal
        obtain ⟨_, _, _, w4, _⟩ := fsT_put hfs r p d
        rw [eF, upd_upd, e2', e1', w4]
        exact goal
end
end KD
end

section
set_option Elab.async false
set_option linter.all false
set_option maxRecDepth 100000
set_option maxHeartbeats 4000000
/-! tills: made, asked, compared -/
namespace KD
open PySem PySem.Spec PyProof.Rows C8 LamX NdefX
open L2 hiding CX0 E0 pass0 Fun
section
variable {P : Program} {w : World} {K : PySem.W.Frag} {mg : Str → Option Value} {base : Heap} {CW CT CU : Addr} {T : List (Addr × Str)}
theorem lt_line {n : Nat} (h : n < 1000) : n < sizeLine := by rw [sizeLine_eq]; omega
theorem le_line {n : Nat} (h : n < 1000) : n ≤ sizeLine := by rw [sizeLine_eq]; omega
def sp_Till (T : List (Addr × Str)) (K : PySem.W.Frag) (CT : Addr) : Sp := fun vs H Q _ => ∃ (x a dx : Addr) (r : Int) (L : List (Addr × Str × Int)), vs = [.ref x, .int r, .ref a] ∧ 0 ≤ r ∧ H x = some (.ins CT dx []) ∧ SeqV K H a (L.map fun b => V.ref b.1) ∧ RowsAt H L ∧ (∀ b ∈ L, Nm b.2.1) ∧ (∀ b ∈ L, 0 ≤ b.2.2) ∧ (L.map fun b => b.2.1).Nodup ∧ L.length < 61 ∧
  ∀ (H1 : Hp) (p d : Addr) (cs : List (Addr × Str × Int)), Gr T [] H H1 → H1 p = some (.tup (cs.map fun b => V.ref b.1)) → H1 d = some (.dK (dKof cs)) → RowsAt H1 cs → (cs.map (·.2)).Perm ((L.map (·.2)).filter fun q => decide (q.2 ≠ r)) → (cs.map fun b => b.2.1).Pairwise SLt →
    Q .non (upd H1 x (.ins CT dx (fsT r p d)))
theorem sc_Till : FnScope ["self", "rest", "own", "pair"] ["self", "rest", "own"] (defScope s_Till_init) := ⟨rfl, rfl, rfl, by decide +kernel, rfl, by decide +kernel, by decide +kernel⟩
theorem ok_Till {dT : Addr} {f : Addr} {fd : FuncData} (F : FunD K "__init__" "Till.__init__" (defArgs s_Till_init) (defBody s_Till_init) (defScope s_Till_init) [.int 0] [("own", .ref dT)] f fd) (B : Fc K mg CW CT CU)
    (c1 : Cal P w K mg base 2 "is_moment" sp_is_moment []) (c2 : Cal P w K mg base 2 "are_pairs" (sp_are_pairs T K) []) (m1 : Met P w K mg base 1 CT "set_till" (sp_set_till T K CT) []) : FnOk P w K mg base CX0 3 f fd ["self", "rest", "own"] (sp_Till T K CT) := by
  refine F.ok sc_Till (fun vs H Q E h => ?_) (fun cdv A outer s H vs Q E hr h => ?_)
  · obtain ⟨x, a, dx, r, L, rfl, _⟩ := h; rfl
  · obtain ⟨x, a, dx, r, L, rfl, r0, hx, hS, hR, nm, n0, nd, l60, q⟩ := h
    have okN := sc_Till.nd
    refine ⟨_, PSs.nox (pss_cons (ps_if (pw_or (pt_not (pt_val (pe_c c1 hr (Nat.le_refl _) (by rfl) (pa_cons (pv 1) pa_nil))))
        (pw_or (pt_not (pt_val (pe_c c2 hr (Nat.le_refl _) (by rfl) (pa_cons (pv 2) pa_nil))))
        (pw_or1 (pt_not (pt_val (pe_callB (cr_all rfl) (by rfl) B.all boot_all_ (pa_cons (pe_lc (own := [("pair", 3)]) rfl okN (pi_seq (pv 2)) (blkOk_by (N := ["self", "rest", "own", "pair"]) (sc := defScope s_Till_init) (by decide +kernel)) (fun _ _ _ _ _ => pg_name (i := 3) okN rfl (.inl rfl)) (fun _ _ _ _ _ => pts_nil)
          (fun _ _ _ _ _ => pe_c c1 hr (Nat.le_refl _) (by rfl) (pa_cons (pe_ix (ix_tupK K rfl) (pv 3) pe_int (fun _ _ => rfl)) pa_nil))) pa_nil))))))).pt pss_never pss_nil)
      (pss_one (ps_expr (pe_mt m1 hr (by decide) (pv 0) (pa_cons (pv 1) (pa_cons (pv 2) pa_nil)))))), ?_⟩
    refine ⟨_, rfl, r, rfl, r0, true, rfl, iteF ?_⟩
    have hS0 : SeqV K H a ((L.map fun b => (b.1, b.2.1)).map fun b : Addr × Str => V.ref b.1) := by rw [List.map_map]; exact hS
    refine ⟨_, rfl, a, L.map fun b => (b.1, b.2.1), rfl, hS0, fun b hb => ?_, fun b hb => ?_, by rw [List.map_map]; exact nd, by rw [List.length_map]; exact l60, fun H1 g1 => ⟨true, rfl, iteF ?_⟩⟩
    · obtain ⟨c, hc, rfl⟩ := List.mem_map.mp hb
      exact ⟨_, hR c hc⟩
    · obtain ⟨c, hc, rfl⟩ := List.mem_map.mp hb
      exact nm c hc
    have hS1 := hS.gr g1 List.not_mem_nil
    have hR1 := hR.gr g1
    refine ⟨_, rfl, a, _, rfl, hS1, fun J St sq hst D hD => ?_⟩
    refine lc_seq sq (fun i acc H' => acc = List.replicate i (V.bl true) ∧ Gr T [] H1 H') ⟨rfl, (Gr.refl H1).new hD⟩ (fun i acc H' _ e => hst T [] H' e.2 List.not_mem_nil) (fun i v acc H' hv hl hD' ⟨e, g⟩ => ?_) (fun acc H' hD' hl ⟨e, g⟩ => ?_)
    · obtain ⟨b, hb, ev⟩ := refs_item (f := fun b : Addr × Str × Int => b.1) hv
      have li : i < L.length := (List.getElem?_eq_some_iff.mp hb).1
      have hm := List.mem_of_getElem? hb
      refine ⟨rfl, yes_if ?_⟩
      refine ⟨v, rfl, b.1, _, 1, .int b.2.2, ev, rfl, SqT.of (g.tup (hR1 b hm)), rfl, b.2.2, rfl, n0 b hm, ?_⟩
      exact nx_add hD' hl (lt_line (by omega)) ⟨by rw [e, ← List.replicate_succ'], g.put hD hD' free_lst⟩
    · refine ⟨D, List.replicate (L.map fun b => V.ref b.1).length true, rfl, SqL.of (by rw [hD', e, List.map_replicate]), true, by simp, iteF ?_⟩
      have g2 := g1.trans g
      refine ⟨_, rfl, x, dx, _, rfl, g2.ins hx, rfl, _, rfl, _, rfl, x, a, dx, r, L, [], rfl, g2.ins hx, .inl rfl, hS.gr g2 List.not_mem_nil, hR.gr g2, nd, l60, fun H2 p d cs g3 hp hd hc pm so => ?_⟩
      exact q H2 p d cs (g2.trans g3) hp hd hc pm so
theorem till_made {H1 : Hp} {x dx p d : Addr} {r : Int} {L cs : List (Addr × Str × Int)} {fs : List (Str × V)} (hx : H1 x = some (.ins CT dx fs)) (hp : H1 p = some (.tup (cs.map fun b => V.ref b.1))) (hd : H1 d = some (.dK (dKof cs))) (hc : RowsAt H1 cs)
    (pm : (cs.map (·.2)).Perm ((L.map (·.2)).filter fun q => decide (q.2 ≠ r))) (so : (cs.map fun b => b.2.1).Pairwise SLt) (nd : (L.map fun b => b.2.1).Nodup) (nm : ∀ b ∈ L, Nm b.2.1) (l : L.length < 61) :
    TillAt CT (upd H1 x (.ins CT dx (fsT r p d))) x ⟨r, cs.map (·.2)⟩ ∧ ∀ y, (Tab.mk r (cs.map (·.2))).at y = ((L.map (·.2)).lookup y).getD r := by
  have nd2 : ((L.map (·.2)).map (·.1)).Nodup := by rw [List.map_map]; exact nd
  have so2 : ((cs.map (·.2)).map (·.1)).Pairwise SLt := by rw [List.map_map]; exact so
  obtain ⟨o1, o2⟩ := tab_made nd2 pm so2
  refine ⟨⟨⟨o1, fun q hq => ?_⟩, ?_, dx, p, d, cs, rfl, fun b hb => ?_, upd_same, ?_, ?_⟩, o2⟩
  · have z := (List.mem_filter.mp (pm.mem_iff.mp hq)).1
    obtain ⟨b, hb, rfl⟩ := List.mem_map.mp z
    exact nm b hb
  · have z := pm.length_eq
    have z2 := List.length_filter_le (fun q : Str × Int => decide (q.2 ≠ r)) (L.map (·.2))
    rw [List.length_map] at z2
    show (cs.map (·.2)).length < 64
    omega
  · have z := hc b hb
    rw [upd_ne (fun e => by rw [e, hx] at z; cases z)]
    exact z
  · rw [upd_ne (fun e => by rw [e, hx] at hp; cases hp)]; exact hp
  · rw [upd_ne (fun e => by rw [e, hx] at hd; cases hd), hd]
    unfold dKof
    rw [List.map_map]
    rfl
def sp_till_of (T : List (Addr × Str)) (K : PySem.W.Frag) (CT : Addr) : Sp := fun vs H Q _ => ∃ (a : Addr) (r : Int) (L : List (Addr × Str × Int)), vs = [.int r, .ref a] ∧ SeqV K H a (L.map fun b => V.ref b.1) ∧ RowsAt H L ∧ (∀ b ∈ L, Nm b.2.1) ∧ (L.map fun b => b.2.1).Nodup ∧ L.length < 61 ∧
  ∀ (H1 : Hp) (v : Addr) (U : Tab Int), Gr T [] H H1 → TillAt CT H1 v U → U.rest = r → (∀ x, U.at x = ((L.map (·.2)).lookup x).getD r) → Q (.ref v) H1
theorem sc_till_of : FnScope ["rest", "own", "found"] ["rest", "own"] (defScope s_till_of) := ⟨rfl, rfl, rfl, by decide +kernel, rfl, by decide +kernel, by decide +kernel⟩
theorem ok_till_of {dT : Addr} {f : Addr} {fd : FuncData} (F : FD K "till_of" "till_of" s_till_of f fd) (B : Fc K mg CW CT CU) (hdT : ∀ H : Hp, SqT K H dT [])
    (c1 : MkK P w K mg base 3 "Till" CT 0 [] (sp_Till T K CT) (fun vs _ => vs ++ [.int 0, .ref dT])) (m1 : Met P w K mg base 1 CT "set_till" (sp_set_till T K CT) []) : FnOk P w K mg base CX0 5 f fd ["rest", "own"] (sp_till_of T K CT) := by
  refine F.ok sc_till_of (fun vs H Q E h => ?_) (fun cdv A outer s H vs Q E hr h => ?_)
  · obtain ⟨a, r, L, rfl, _⟩ := h; rfl
  · obtain ⟨a, r, L, rfl, hS, hR, nm, nd, l60, q⟩ := h
    refine ⟨_, PSs.nox (pss_cons (ps_set (i := 2) sc_till_of.nd rfl (.inl rfl) (pe_mkK0 c1 hr (by decide) (by rfl) pk_nil))
      (pss_cons (ps_expr (pe_mt m1 hr (by decide) (pv 2) (pa_cons (pv 0) (pa_cons (pv 1) pa_nil)))) (pss_one (ps_ret (pv 2))))), ?_⟩
    refine ⟨rfl, rfl, fun x dx hx hdx hne => ?_⟩
    have hx' : upd H dx (.own x) x = none := (upd_ne (Ne.symm hne)).trans hx
    have g0 : Gr T [] H (upd (upd H dx (.own x)) x (.ins CT dx [])) := ((Gr.refl H).new hdx).new hx'
    refine ⟨x, dT, dx, 0, [], rfl, by decide, upd_same, .inr (hdT _), (fun _ z => nomatch z), (fun _ z => nomatch z), (fun _ z => nomatch z), .nil, by decide, fun H1 p d cs g1 hp hd hc pm so => ⟨rfl, ?_⟩⟩
    have i1 : H1 x = some (.ins CT dx []) := g1.ins upd_same
    have g2 : Gr T [] H (upd H1 x (.ins CT dx (fsT 0 p d))) := (g0.trans g1).put hx i1 free_ins
    refine ⟨_, rfl, x, dx, _, rfl, upd_same, rfl, _, rfl, _, rfl, x, a, dx, r, L, _, rfl, upd_same, .inr ⟨0, p, d, rfl⟩, hS.gr g2 List.not_mem_nil, hR.gr g2, nd, l60, fun H3 p3 d3 cs3 g4 hp3 hd3 hc3 pm3 so3 => ?_⟩
    have i3 := g4.ins (upd_same (H := H1) (a := x) (o := .ins CT dx (fsT 0 p d)))
    obtain ⟨o1, o2⟩ := till_made i3 hp3 hd3 hc3 pm3 so3 nd nm l60
    exact ⟨_, rfl, q _ x _ ((g2.trans g4).put hx i3 free_ins) o1 rfl o2⟩
/-! ### what a till answers -/
theorem m2_get {X : Cx} {o e f : Expr} {apos cpos : Pos} (b : attributeBase o "get" X.env (eval o X.env) = eval o X.env) (w : ((backTo cpos (starEach [e, f] X.env)).all (fun x => !x.1) && (backToKw cpos (keywordEach [] X.env)).all (fun x => x.1.isSome)
    && decide (([e, f] : List Expr).length + ([] : List Keyword).length + (if ([] : List Keyword).isEmpty then 0 else 1) < 30)) = true := by rfl) (l : (apos.endLine == cpos.line) = true := by rfl) (t : backTo cpos (starEach [e, f] X.env) = [(false, eval e X.env), (false, eval f X.env)] := by rfl) : M2 X o "get" apos e f cpos := ⟨b, w, l, t⟩
def sp_moment_of (CT : Addr) : Sp := fun vs H Q _ => ∃ (a : Addr) (U : Tab Int) (x : Str), vs = [.ref a, .str x] ∧ TillAt CT H a U ∧ Q (.int (U.at x)) H
theorem sc_moment_of : FnScope ["self", "sender"] ["self", "sender"] (defScope s_Till_moment_of) := ⟨rfl, rfl, rfl, by decide +kernel, rfl, by decide +kernel, by decide +kernel⟩
theorem ok_moment_of {f : Addr} {fd : FuncData} (F : FD K "moment_of" "Till.moment_of" s_Till_moment_of f fd) (B : Fc K mg CW CT CU) : FnOk P w K mg base CX0 1 f fd ["self", "sender"] (sp_moment_of CT) := by
  refine F.ok sc_moment_of (fun vs H Q E h => ?_) (fun cdv A outer s H vs Q E hr h => ?_)
  · obtain ⟨a, U, x, rfl, _⟩ := h; rfl
  · obtain ⟨a, U, x, rfl, ⟨_, _, dx, p, d, bs, _, _, h1, _, h2⟩, q⟩ := h
    have hu : A.units + 3 + 1 < cLine := by have := hr.un; simp only [Around.deeper] at this; omega
    refine ⟨_, PSs.nox (pss_one (ps_ret (pe_dget2 hu (pe_fld (pv 0) rfl) (pv 1) (pe_fld (pv 0) rfl) (m2_get rfl)))), ?_⟩
    refine ⟨_, rfl, a, CT, dx, _, _, rfl, h1, B.iT.cl, B.nT _ (by simp), rfl, d, rfl, .inl ⟨_, .inl h2⟩, _, rfl, _, rfl, a, CT, dx, _, _, rfl, h1, B.iT.cl, B.nT _ (by simp), rfl, _, DGet.k (k := Sum.inr x) h2, ?_⟩
    rw [valV_rows (fun i : Int => V.int i)]
    have e : ((U.own.lookup x).map fun i : Int => V.int i).getD (V.int U.rest) = V.int (U.at x) := by
      unfold Tab.at
      cases U.own.lookup x <;> rfl
    rw [e]
    exact q
def rowD (q : Str × Int) : PyData := .tuple [.str q.1, .int q.2]
theorem eqvAll_rows : ∀ l m : List (Str × Int), PyData.eqvAll (l.map rowD) (m.map rowD) = decide (l = m)
  | [], [] => by simp [PyData.eqvAll]
  | [], y :: m => by simp [PyData.eqvAll]
  | x :: l, [] => by simp [PyData.eqvAll]
  | x :: l, y :: m => by
    rw [List.map_cons, List.map_cons]
    obtain ⟨x1, x2⟩ := x
    obtain ⟨y1, y2⟩ := y
    simp only [PyData.eqvAll]
    rw [eqvAll_rows l m, Bool.eq_iff_iff]
    simp [rowD, PyData.eqvAll, PyData.eqv]
theorem dp_rows {H : Hp} : ∀ {bs : List (Addr × Str × Int)}, RowsAt H bs → DpAll K H (bs.map fun b => V.ref b.1) ((bs.map (·.2)).map rowD)
  | [], _ => .nil
  | b :: bs, h => .cons (.tup (SqT.of (h b List.mem_cons_self)) (.cons (.str _) (.cons (.int _) .nil))) (dp_rows fun c hc => h c (List.mem_cons_of_mem _ hc))
theorem lay_rows : ∀ {l : List (Str × Int)}, (∀ q ∈ l, Nm q.1) → PyData.canLayAll0 (l.map rowD) = true
  | [], _ => by simp [PyData.canLayAll0]
  | q :: l, h => by simp [PyData.canLayAll0, PyData.canLay0, rowD, nm_strOk (h q List.mem_cons_self), lay_rows fun y hy => h y (List.mem_cons_of_mem _ hy)]
theorem depth_rows : ∀ l : List (Str × Int), PyData.depthAll (l.map rowD) ≤ 1
  | [] => by simp [PyData.depthAll]
  | q :: l => by
    have := depth_rows l
    rw [List.map_cons]
    simp only [PyData.depthAll]
    exact Nat.max_le.mpr ⟨by simp [rowD, PyData.depthAll, PyData.depth], this⟩
theorem shaped_rows {l : List (Str × Int)} (h : ∀ q ∈ l, Nm q.1) : SeqAt.shaped (.tuple (l.map rowD)) = true := by
  have := depth_rows l
  unfold SeqAt.shaped
  rw [show (PyData.tuple (l.map rowD)).canLay0 = true from by rw [PyData.canLay0]; exact lay_rows h, Bool.true_and, decide_eq_true_eq]
  rw [PyData.depth]
  omega
def sp_teq (CT : Addr) : Sp := fun vs H Q _ => ∃ (a b : Addr) (U Z : Tab Int), vs = [.ref a, .ref b] ∧ TillAt CT H a U ∧ TillAt CT H b Z ∧ ∀ k : Bool, (k = true ↔ U = Z) → Q (.bl k) H
theorem sc_teq : FnScope ["self", "other"] ["self", "other"] (defScope s_Till_eq) := ⟨rfl, rfl, rfl, by decide +kernel, rfl, by decide +kernel, by decide +kernel⟩
theorem ok_teq {f : Addr} {fd : FuncData} (F : FD K "__eq__" "Till.__eq__" s_Till_eq f fd) (B : Fc K mg CW CT CU) : FnOk P w K mg base CX0 1 f fd ["self", "other"] (sp_teq CT) := by
  refine F.ok sc_teq (fun vs H Q E h => ?_) (fun cdv A outer s H vs Q E hr h => ?_)
  · obtain ⟨a, b, U, Z, rfl, _⟩ := h; rfl
  · obtain ⟨a, b, U, Z, rfl, ⟨⟨uo, un⟩, u64, dx, p, d, bs, ub, hR, h1, h2, h3⟩, ⟨⟨zo, zn⟩, z64, dy, r, e, cs, zb, hR2, h4, h5, h6⟩, q⟩ := h
    refine ⟨_, PSs.nox (pss_one (ps_ret (pe_and (pe_callB (call_isC B.iT) (by rfl) B.isi boot_isi (pa_cons (pv 1) (pa_cons (pe_gc (v := .ref CT) (by rfl) ⟨_, B.gT, rfl⟩) pa_nil)))
      (pe_and (pe_cmpR op_eq (pe_fld (pv 0) rfl) (pe_fld (pv 1) rfl) (nomark _)) (pe_one (pe_cmpR (op_eqD (by have := hr.un; show A.units + 3 + 64 < cLine; simp only [Around.deeper] at this; omega)) (pe_fld (pv 0) rfl) (pe_fld (pv 1) rfl) (nomark _))))))), ?_⟩
    refine ⟨_, rfl, b, dy, _, rfl, h4, true, rfl, iteT ?_⟩
    refine ⟨_, rfl, a, CT, dx, _, _, rfl, h1, B.iT.cl, B.nT _ (by simp), rfl, _, rfl, b, CT, dy, _, _, rfl, h4, B.iT.cl, B.nT _ (by simp), rfl, rfl, _, rfl, ?_⟩
    by_cases er : U.rest = Z.rest
    · rw [show decide (V.int U.rest = V.int Z.rest) = true from by rw [er]; simp]
      refine iteT ⟨_, rfl, a, CT, dx, _, _, rfl, h1, B.iT.cl, B.nT _ (by simp), rfl, _, rfl, b, CT, dy, _, _, rfl, h4, B.iT.cl, B.nT _ (by simp), rfl, _, _, .tup (SqT.of h2) (dp_rows hR), .tup (SqT.of h5) (dp_rows hR2), by rw [ub]; exact shaped_rows un, by rw [zb]; exact shaped_rows zn, ?_⟩
      refine q _ ?_
      simp only [PyData.eqv]
      rw [eqvAll_rows, decide_eq_true_eq, ub, zb]
      constructor
      · intro z
        cases U; cases Z
        simp only at er z
        rw [er, z]
      · intro z; rw [z]
    · rw [show decide (V.int U.rest = V.int Z.rest) = false from decide_eq_false fun z => er (by injection z)]
      exact iteF (q false ⟨(fun z => nomatch z), fun z => absurd (congrArg Tab.rest z) er⟩)
def sp_tlen (CT : Addr) : Sp := fun vs H Q _ => ∃ (a : Addr) (U : Tab Int), vs = [.ref a] ∧ TillAt CT H a U ∧ Q (.int U.own.length) H
theorem sc_tlen : FnScope ["self"] ["self"] (defScope s_Till_len) := ⟨rfl, rfl, rfl, by decide +kernel, rfl, by decide +kernel, by decide +kernel⟩
theorem ok_tlen {f : Addr} {fd : FuncData} (F : FD K "__len__" "Till.__len__" s_Till_len f fd) (B : Fc K mg CW CT CU) : FnOk P w K mg base CX0 1 f fd ["self"] (sp_tlen CT) := by
  refine F.ok sc_tlen (fun vs H Q E h => ?_) (fun cdv A outer s H vs Q E hr h => ?_)
  · obtain ⟨a, U, rfl, _⟩ := h; rfl
  · obtain ⟨a, U, rfl, ⟨_, _, dx, p, d, bs, ub, hR, h1, h2, h3⟩, q⟩ := h
    refine ⟨_, PSs.nox (pss_one (ps_ret (pe_callB call_len (by rfl) B.len boot_len_ (pa_cons (pe_fld (pv 0) rfl) pa_nil)))), ?_⟩
    refine ⟨_, rfl, a, CT, dx, _, _, rfl, h1, B.iT.cl, B.nT _ (by simp), rfl, _, U.own.length, rfl, .inr ⟨_, SqT.of h2, by rw [← ub, List.length_map, List.length_map]⟩, q⟩
/-- f'Till(.., .. own)' -/
def tillText (r : Int) (n : Nat) : Str := ((((Str.empty ++ "Till(") ++ toString r) ++ ", ") ++ toString (n : Int)) ++ " own)"
theorem text_small {i : Int} (h : i.natAbs.log2 < 100) : (Str.ofString (toString i)).length ≤ 101 := by
  rw [PySem.ofString_length]
  exact int_text_length_le (by decide) h
theorem log_small {n : Nat} (h : n < 2 ^ 64) : n.log2 < 100 := by
  by_cases z : n = 0
  · rw [z]; decide
  · have := (Nat.log2_lt z).2 h
    omega
def sp_trepr (CT : Addr) : Sp := fun vs H Q _ => ∃ (a : Addr) (U : Tab Int), vs = [.ref a] ∧ TillAt CT H a U ∧ U.rest.natAbs < 2 ^ 64 ∧ Q (.str (tillText U.rest U.own.length)) H
theorem sc_trepr : FnScope ["self"] ["self"] (defScope s_Till_repr) := ⟨rfl, rfl, rfl, by decide +kernel, rfl, by decide +kernel, by decide +kernel⟩
/-- what the five parts ask -/
theorem js_till {σ : L2.St} {H : Hp} {r : Int} {n : Nat} {t1 t2 : TE} {Q : Str → Hp → Prop} (hr : r.natAbs < 2 ^ 64) (hn : n < 2 ^ 64) (h1 : ∀ R : V → Hp → Prop, R (.str (toString r)) H → t1 σ H R) (h2 : ∀ R : V → Hp → Prop, R (.str (toString (n : Int))) H → t2 σ H R) (q : Q (tillText r n) H) :
    tJs [tC (.str "Till("), t1, tC (.str ", "), t2, tC (.str " own)")] Str.empty σ H Q := by
  have a1 : (toString r : Str).length ≤ 101 := text_small (log_small hr)
  have a2 : (toString (n : Int) : Str).length ≤ 101 := text_small (log_small (by rw [Int.natAbs_natCast]; exact hn))
  have b1 : (Str.empty ++ ("Till(" : Str)).length = 5 := by decide
  have ap : ∀ a b : Str, (a ++ b).length = a.length + b.length := fun a b => Str.length_append a b
  refine ⟨_, rfl, by rw [b1, sizeLine_eq]; decide, ?_⟩
  refine h1 _ ⟨_, rfl, by rw [ap, b1, sizeLine_eq]; omega, ?_⟩
  refine ⟨_, rfl, by rw [ap, ap, b1, sizeLine_eq]; show 5 + _ + 2 ≤ _; omega, ?_⟩
  refine h2 _ ⟨_, rfl, by rw [ap, ap, ap, b1, sizeLine_eq]; show 5 + _ + 2 + _ ≤ _; omega, ?_⟩
  refine ⟨_, rfl, by rw [ap, ap, ap, ap, b1, sizeLine_eq]; show 5 + _ + 2 + _ + 5 ≤ _; omega, ?_⟩
  exact q
theorem ok_trepr {f : Addr} {fd : FuncData} (F : FD K "__repr__" "Till.__repr__" s_Till_repr f fd) (B : Fc K mg CW CT CU) : FnOk P w K mg base CX0 1 f fd ["self"] (sp_trepr CT) := by
  refine F.ok sc_trepr (fun vs H Q E h => ?_) (fun cdv A outer s H vs Q E hr h => ?_)
  · obtain ⟨a, U, rfl, _⟩ := h; rfl
  · obtain ⟨a, U, rfl, ⟨_, u64, dx, p, d, bs, ub, hR, h1, h2, h3⟩, hz, q⟩ := h
    refine ⟨_, PSs.nox (pss_one (ps_ret (pe_joined (.cons pe_str (.cons (pe_fmt (pe_fld (pv 0) rfl)) (.cons pe_str (.cons (pe_fmt (pe_callB call_len (by rfl) B.len boot_len_ (pa_cons (pe_fld (pv 0) rfl) pa_nil))) (.cons pe_str .nil)))))))), ?_⟩
    refine js_till (n := U.own.length) hz (by omega) (fun R z => ?_) (fun R z => ?_) q
    · exact ⟨_, rfl, a, CT, dx, _, _, rfl, h1, B.iT.cl, B.nT _ (by simp), rfl, .inr ⟨U.rest, rfl, by have := log_small hz; omega, z⟩⟩
    · exact ⟨_, rfl, a, CT, dx, _, _, rfl, h1, B.iT.cl, B.nT _ (by simp), rfl, _, U.own.length, rfl, .inr ⟨_, SqT.of h2, by rw [← ub, List.length_map, List.length_map]⟩, .inr ⟨(U.own.length : Int), rfl, by have := log_small (show ((U.own.length : Int)).natAbs < 2 ^ 64 by rw [Int.natAbs_natCast]; omega); omega, z⟩⟩
end
end KD
end

section
set_option Elab.async false
set_option linter.all false
set_option maxRecDepth 100000
set_option maxHeartbeats 4000000
/-! tills changed and mixed -/
namespace KD
open PySem PySem.Spec PyProof.Rows C8 LamX NdefX
open L2 hiding CX0 E0 pass0 Fun
/-- a for over a row that stays -/
theorem for_seq {K : PySem.W.Frag} {xs : List V} {J : It} {St : Hp → Prop} {g : TG} {tb : TS} {σ : L2.St} {H1 : Hp} {D : Ends} (sq : SeqIt K xs J St) (Pv : Nat → L2.St → Hp → Prop) (h0 : Pv 0 σ H1) (hl : ∀ i σ H, i ≤ xs.length → Pv i σ H → St H)
    (hs : ∀ i x σ H, xs[i]? = some x → Pv i σ H → g x σ H fun σ2 H2 => tb { D with nx := Pv (i + 1), ct := Pv (i + 1), bk := D.nx } σ2 H2) (hd : ∀ σ H, Pv xs.length σ H → D.nx σ H) :
    ∃ W : Nat → Nat → L2.St → Hp → Prop, (∃ m, W 0 m σ H1) ∧ ∀ i m σ H, W i m σ H → (J.stop i H ∧ D.nx σ H) ∨ (J.go i H ∧ ∃ N : L2.St → Hp → Prop, (∀ σ' H', N σ' H' → ∃ m', m' < m ∧ W (i + 1) m' σ' H') ∧ ∀ x H', J.yld i H x H' → g x σ H' fun σ2 H2 => tb { D with nx := N, ct := N, bk := D.nx } σ2 H2) := by
  refine ⟨fun i m σ H => m = xs.length - i ∧ i ≤ xs.length ∧ Pv i σ H, ⟨xs.length, by simp, Nat.zero_le _, h0⟩, ?_⟩
  rintro i m σ H ⟨rfl, hi, p⟩
  have q := hl i σ H hi p
  by_cases hlt : i < xs.length
  · refine .inr ⟨sq.go i xs[i] H (by simp [hlt]) q, Pv (i + 1), fun σ' H' p' => ⟨xs.length - (i + 1), by omega, rfl, hlt, p'⟩, fun x H' y => ?_⟩
    obtain ⟨e, y2⟩ := sq.yld i H x H' q y
    rw [e]
    exact hs i x σ H y2 p
  · have e : i = xs.length := by omega
    subst e
    exact .inl ⟨sq.stop H q, hd σ H p⟩
theorem if_to {c : Bool} {ta tb : TE} {σ : L2.St} {H : Hp} {R : V → Hp → Prop} {v : V} (ht : c = true → ∀ R : V → Hp → Prop, R v H → ta σ H R) (hf : c = false → ∀ R : V → Hp → Prop, R v H → tb σ H R) (k : R v H) : if c = true then ta σ H R else tb σ H R := by
  cases c with
  | true => exact iteT (ht rfl R k)
  | false => exact iteF (hf rfl R k)
/-- a locked cell let go: all else has stayed -/
theorem gr_cut {T : List (Addr × Str)} {H H2 : Hp} {c : Addr} {o : Obj} (hn : H c = none) (g : Gr T [] (upd H c (.frz o (.own 0))) H2) (t : Tabs T H) : Gr T [] H (cut c H2) := by
  have ne : ∀ b u, H b = some u → b ≠ c := fun b u e z => by rw [z, hn] at e; cases e
  refine ⟨fun b u e n m => ?_, fun _ => ?_⟩
  · rw [cut_ne (ne b u e)]
    exact g.keep b u (by rw [upd_ne (ne b u e)]; exact e) n m
  · have t1 : Tabs T (upd H c (.frz o (.own 0))) := t.ext fun b u e => (upd_ne (ne b u e)).trans e
    have t2 := g.tabs t1
    have hc : H2 c = some (.frz o (.own 0)) := g.frz upd_same
    intro p hp
    obtain ⟨ps, a1, a2, a3⟩ := t2 p hp
    have n1 : p.1 ≠ c := fun z => by rw [z, hc] at a1; cases a1
    refine ⟨ps, by rw [cut_ne n1]; exact a1, a2, fun pos cv h => ?_⟩
    obtain ⟨c0, e1, e2⟩ := a3 pos cv h
    refine ⟨c0, e1, ?_⟩
    rw [cut_ne (fun z => by rw [z, hc] at e2; unfold CodeO at e2; cases e2)]
    exact e2
theorem TillAt.cut {CT : Addr} {H : Hp} {a c : Addr} {U : Tab Int} {o : Obj} (h : TillAt CT H a U) (hc : H c = some (.frz o (.own 0))) : TillAt CT (cut c H) a U := by
  obtain ⟨h1, h2, dx, p, d, bs, h3, h4, h5, h6, h7⟩ := h
  have ne : ∀ b u, H b = some u → (∀ z, u ≠ .frz o z) → b ≠ c := fun b u e n z => by rw [z, hc] at e; exact n _ (Option.some.inj e).symm
  exact ⟨h1, h2, dx, p, d, bs, h3, fun b hb => by rw [cut_ne (ne _ _ (h4 b hb) fun _ z => nomatch z)]; exact h4 b hb, by rw [cut_ne (ne _ _ h5 fun _ z => nomatch z)]; exact h5,
    by rw [cut_ne (ne _ _ h6 fun _ z => nomatch z)]; exact h6, by rw [cut_ne (ne _ _ h7 fun _ z => nomatch z)]; exact h7⟩
section
variable {P : Program} {w : World} {K : PySem.W.Frag} {mg : Str → Option Value} {base : Heap} {CW CT CU : Addr} {T : List (Addr × Str)}
def D1I : List V → Prop := fun vs => ∃ i : Int, vs = [.int i]
def g1I (h : Int → Int) : List V → V := fun vs => match vs with
  | [.int i] => .int (h i)
  | _ => .non
def D2I : List V → Prop := fun vs => ∃ i j : Int, vs = [.int i, .int j]
def g2I (h : Int → Int → Int) : List V → V := fun vs => match vs with
  | [.int i, .int j] => .int (h i j)
  | _ => .non
/-- what set(own) | set(names) covers -/
theorem metS_len0 (xs : List Str) : (metS xs).length ≤ xs.length := by
  have z := metS_len xs []
  simp only [List.length_nil, Nat.zero_add] at z
  exact z
theorem rows_names {H : Hp} {bs : List (Addr × Str × Int)} {U : Tab Int} (ub : bs.map (·.2) = U.own) : (bs.map fun b => b.2.1) = U.own.map (·.1) := by
  rw [← ub, List.map_map]
  rfl
def chg (W : WantD) (h : Int → Int) (U : Tab Int) (x : Str) : Int := if W.has x = true then h (U.at x) else U.at x
theorem lookup_rows {β : Type} [DecidableEq β] {es : List (Addr × Str × β)} {ys : List Str} {F : Str → β} (e : es.map (·.2) = ys.map fun y => (y, F y)) (r : β) (cov : ∀ x, x ∉ ys → F x = r) (x : Str) : ((es.map (·.2)).lookup x).getD r = F x := by
  rw [e]
  exact at_of_names cov x
theorem rows_fst {β : Type} {es : List (Addr × Str × β)} {ys : List Str} {F : Str → β} (e : es.map (·.2) = ys.map fun y => (y, F y)) : (es.map fun b => b.2.1) = ys := by
  have z : (es.map fun b => b.2.1) = (es.map (·.2)).map (·.1) := by rw [List.map_map]; rfl
  rw [z, e, List.map_map]
  exact List.map_id' ys
theorem RowsAt.snoc {H : Hp} {es : List (Addr × Str × Int)} {t D : Addr} {x : Str} {i : Int} {xs ys : List V} (h : RowsAt H es) (ht : H t = none) (hD : H D = some (.lst xs)) : RowsAt (upd (upd H t (.tup [.str x, .int i])) D (.lst ys)) (es ++ [(t, x, i)]) := fun c hc => by
  have nD : D ≠ t := ne_of_none hD ht
  rcases List.mem_append.mp hc with hc | hc
  · have z := h c hc
    rw [upd_ne (fun e => by rw [e, hD] at z; cases z), upd_ne (ne_of_none z ht)]
    exact z
  · rw [List.mem_singleton.mp hc, upd_ne (Ne.symm nD)]
    exact upd_same
def sp_changed_on (P : Program) (w : World) (K : PySem.W.Frag) (mg : Str → Option Value) (base : Heap) (k : Nat) (T : List (Addr × Str)) (CW CT : Addr) : Sp := fun vs H Q _ => ∃ (a b f : Addr) (U : Tab Int) (W : WantD) (h : Int → Int), vs = [.ref a, .ref b, .ref f] ∧ TillAt CT H a U ∧ WantAt CW H b W ∧ U.own.length ≤ 8 ∧ W.names.length ≤ 8 ∧ LFnC P w K mg base k H f D1I (g1I h) ∧
  ∀ (H1 : Hp) (v : Addr) (Z : Tab Int), Gr T [] H H1 → TillAt CT H1 v Z → Z.rest = (if W.but = true then h U.rest else U.rest) → (∀ x, Z.at x = chg W h U x) → Q (.ref v) H1
theorem sc_changed_on : FnScope ["till", "want", "rule", "rest", "own", "name", "here", "pair"] ["till", "want", "rule"] (defScope s_changed_on) := ⟨rfl, rfl, rfl, by decide +kernel, rfl, by decide +kernel, by decide +kernel⟩
theorem ok_changed_on {f : Addr} {fd : FuncData} (F : FD K "changed_on" "changed_on" s_changed_on f fd) (B : Fc K mg CW CT CU) (c1 : Cal P w K mg base 5 "till_of" (sp_till_of T K CT) []) (m1 : Met P w K mg base 1 CT "moment_of" (sp_moment_of CT) []) (m2 : Met P w K mg base 1 CW "has" (sp_has CW) []) :
    FnOk P w K mg base CX0 6 f fd ["till", "want", "rule"] (sp_changed_on P w K mg base 1 T CW CT) := by
  refine F.ok sc_changed_on (fun vs H Q E h => ?_) (fun cdv A outer s H vs Q E hr h => ?_)
  · obtain ⟨a, b, f, U, W, h, rfl, _⟩ := h; rfl
  · obtain ⟨a, b, r, U, W, h, rfl, hU, hW, l1, l2, hR, q⟩ := h
    have okN := sc_changed_on.nd
    have hr1 := hr.mono (show 1 ≤ 5 by decide)
    refine ⟨_, PSs.nox (pss_cons (ps_set (i := 3) okN rfl (.inl rfl) (pe_ifExp (pt_val (pe_fld (pv 1) rfl)) (pe_callLamC (i := 2) (k := 1) (D := D1I) (g := g1I h) hr1 rfl (.inl rfl) (pa_cons (pe_fld (pv 0) rfl) pa_nil)) (pe_fld (pv 0) rfl)))
      (pss_cons (ps_set (i := 4) okN rfl (.inl rfl) (pe_lst pa_nil))
      (pss_cons (ps_for PassesOwn.never rfl (pi_seq (pe_callB (cr_sortS rfl) (by rfl) B.sorted boot_sorted_ (pa_cons (pe_op or_setS (pe_ss (own := [("pair", 7)]) rfl okN (pi_seq (pe_fld (pv 0) rfl)) (blkOk_by (N := ["till", "want", "rule", "rest", "own", "name", "here", "pair"]) (sc := defScope s_changed_on) (by decide +kernel))
            (fun _ _ _ _ _ => pg_name (i := 7) okN rfl (.inl rfl)) (fun _ _ _ _ _ => pe_ix (ix_tupK K rfl) (pv 7) pe_int (fun _ _ => rfl)))
            (pe_callTy (cr_setTup rfl) (by rfl) B.set boot_set_ (pa_cons (pe_fld (pv 1) rfl) pa_nil))) pa_nil)))
          (pg_name (i := 5) okN rfl (.inl rfl))
          (pss_cons (ps_set (i := 6) okN rfl (.inl rfl) (pe_mt m1 hr1 (Nat.le_refl _) (pv 0) (pa_cons (pv 5) pa_nil)))
          (pss_one (ps_expr (pe_bm PySem.F.plainAttrs_list PySem.F.slot_list_append PySem.F.type_list_append mt_append (pv 4) (pa_cons (pe_tup (pa_cons (pv 5) (pa_cons (pe_ifExp (pt_val (pe_mt m2 hr1 (Nat.le_refl _) (pv 1) (pa_cons (pv 5) pa_nil)))
            (pe_callLamC (i := 2) (k := 1) (D := D1I) (g := g1I h) hr1 rfl (.inl rfl) (pa_cons (pv 6) pa_nil)) (pv 6)) pa_nil))) pa_nil))))))
      (pss_one (ps_ret (pe_c c1 hr (Nat.le_refl _) (by rfl) (pa_cons (pv 3) (pa_cons (pv 4) pa_nil)))))))), ?_⟩
    obtain ⟨⟨uo, un⟩, u64, dx, p, d, bs, ub, hB, h1, h2, h3⟩ := id hU
    obtain ⟨⟨wo, wn⟩, w64, dy, p2, h4, h5⟩ := id hW
    refine ⟨_, rfl, b, CW, dy, _, _, rfl, h4, B.iW.cl, B.nW _ (by simp), rfl, W.but, rfl, ?_⟩
    obtain ⟨r0, er0⟩ : ∃ r0, r0 = if W.but = true then h U.rest else U.rest := ⟨_, rfl⟩
    refine if_to (v := .int r0) (fun hb R z => ?_) (fun hb R z => ?_) ?_
    · rw [hb] at er0
      have er1 : r0 = h U.rest := er0
      rw [er1] at z
      exact ⟨r, rfl, hR, _, rfl, a, CT, dx, _, _, rfl, h1, B.iT.cl, B.nT _ (by simp), rfl, hR, ⟨_, rfl⟩, z⟩
    · rw [hb] at er0
      have er1 : r0 = U.rest := er0
      rw [er1] at z
      exact ⟨_, rfl, a, CT, dx, _, _, rfl, h1, B.iT.cl, B.nT _ (by simp), rfl, z⟩
    refine ⟨le_line (by decide), fun D hD => ?_⟩
    let H1 : Hp := upd H D (.lst [])
    have g1 : Gr T [] H H1 := (Gr.refl H).new hD
    have hD1 : H1 D = some (.lst []) := upd_same
    refine ⟨_, rfl, a, CT, dx, _, _, rfl, g1.ins h1, B.iT.cl, B.nT _ (by simp), rfl, p, _, rfl, .inr (SqT.of (g1.tup h2)), fun J St sq hst D1 hD1n => ?_⟩
    have ln : (U.own.map (·.1)).length ≤ 8 := by rw [List.length_map]; exact l1
    have lbs : bs.length = U.own.length := by rw [← ub, List.length_map]
    refine ss_texts (U.own.map (·.1)) (by rw [List.length_map, List.length_map, lbs]) (by omega) sq (fun L => hst T [] _ ((Gr.refl H1).new hD1n) List.not_mem_nil) (fun j v y L hv hy Pk hk => ?_) ?_
    · obtain ⟨b0, hb0, ev⟩ := refs_item (f := fun b : Addr × Str × Int => b.1) hv
      rw [← rows_names (H := H) ub, List.getElem?_map, hb0] at hy
      have ey : b0.2.1 = y := Option.some.inj hy
      have hz := (g1.trans ((Gr.refl H1).new (o := SetSO w D1 L) hD1n)).tup (hB b0 (List.mem_of_getElem? hb0))
      exact ⟨rfl, v, rfl, b0.1, _, 0, .str b0.2.1, ev, rfl, SqT.of hz, rfl, by rw [ey]; exact hk⟩
    let H2 : Hp := upd H1 D1 (SetSO w D1 (metS (U.own.map (·.1))))
    have g2 : Gr T [] H1 H2 := (Gr.refl H1).new hD1n
    have hs2 : H2 D1 = some (SetSO w D1 (metS (U.own.map (·.1)))) := upd_same
    refine ⟨_, rfl, b, CW, dy, _, _, rfl, (g1.trans g2).ins h4, B.iW.cl, B.nW _ (by simp), rfl, p2, W.names, rfl, SqT.of ((g1.trans g2).tup h5), by omega, fun L2 q2 nd2 mem2 len2 hq2 => ?_⟩
    let H3 : Hp := upd H2 q2 (SetSO w q2 L2)
    have g3 : Gr T [] H2 H3 := (Gr.refl H2).new hq2
    have n12 : D1 ≠ q2 := ne_of_none hs2 hq2
    refine ⟨D1, q2, _, L2, rfl, rfl, n12, (upd_ne n12).trans hs2, upd_same, Nat.le_trans (metS_len0 _) ln, by omega, fun L3 q3 nd3 mem3 len3 hq3 => ?_⟩
    refine ⟨q3, L3, rfl, .inr (.inr upd_same), by omega, fun ys l pm so hl => ?_⟩
    let H4 : Hp := upd (upd H3 q3 (SetSO w q3 L3)) l (.lst (ys.map V.str))
    have g4 : Gr T [] H3 H4 := ((Gr.refl H3).new hq3).new hl
    have hl4 : H4 l = some (.lst (ys.map V.str)) := upd_same
    have g14 : Gr T [] H1 H4 := (g2.trans g3).trans g4
    have gH4 : Gr T [] H H4 := g1.trans g14
    have nd : ys.Nodup := (pm.nodup_iff).mpr nd3
    have mem : ∀ x, x ∈ ys ↔ x ∈ U.own.map (·.1) ∨ x ∈ W.names := fun x => by rw [pm.mem_iff, mem3, metS_all, mem2]
    have lys : ys.length ≤ 16 := by rw [pm.length_eq]; exact len3
    have hD4 : H4 D = some (.lst []) := g14.lst hD1 List.not_mem_nil
    have nlD : l ≠ D := by
      have z : (upd H3 q3 (SetSO w q3 L3)) D = some (.lst []) := (((g2.trans g3).trans ((Gr.refl H3).new hq3)).lst hD1 List.not_mem_nil)
      exact (ne_of_none z hl).symm
    refine ⟨l, _, rfl, .inl hl4, fun J2 St2 sq2 hst2 => ?_⟩
    refine for_seq sq2 (fun i σ H' => ∃ (o5 o6 : Option V) (es : List (Addr × Str × Int)), σ = [some (.ref a), some (.ref b), some (.ref r), some (.int r0), some (.ref D), o5, o6, none] ∧ H' D = some (.lst (es.map fun b => V.ref b.1)) ∧ es.map (·.2) = (ys.take i).map (fun y => (y, chg W h U y)) ∧ RowsAt H' es ∧ Gr T [] H H' ∧ Gr T [D] H4 H')
      ⟨none, none, [], rfl, hD4, rfl, (fun _ z => nomatch z), gH4, Gr.refl H4⟩ (fun i σ H' _ e => ?_) (fun i v σ H' hv e => ?_) (fun σ H' e => ?_)
    · obtain ⟨o5, o6, es, _, _, _, _, _, g⟩ := e
      exact hst2 T [D] H' g (fun z => nlD (List.mem_singleton.mp z))
    · obtain ⟨o5, o6, es, rfl, hD', ee, hes, g5, g6⟩ := e
      obtain ⟨y, hy, ev⟩ := strs_item hv
      have li : i < ys.length := (List.getElem?_eq_some_iff.mp hy).1
      have les : es.length = i := by
        have z := congrArg List.length ee
        rw [List.length_map, List.length_map, List.length_take] at z
        omega
      rw [ev]
      have hR5 := hR.ext g5.extN
      refine ⟨_, rfl, a, dx, _, rfl, g5.ins h1, rfl, _, rfl, a, U, y, rfl, hU.gr g5, ?_⟩
      refine ⟨_, rfl, .inl ⟨rfl, _, SqL.of hD'⟩, ?_⟩
      refine ⟨_, rfl, _, rfl, b, dy, _, rfl, g5.ins h4, rfl, _, rfl, b, W, y, rfl, hW.gr g5, W.has y, rfl, ?_⟩
      refine if_to (v := .int (chg W h U y)) (fun hb R z => ?_) (fun hb R z => ?_) ?_
      · have e : chg W h U y = h (U.at y) := if_pos hb
        rw [e] at z
        exact ⟨r, rfl, hR5, _, rfl, hR5, ⟨_, rfl⟩, z⟩
      · have e : chg W h U y = U.at y := if_neg (by rw [hb]; exact Bool.false_ne_true)
        rw [e] at z
        exact ⟨_, rfl, z⟩
      refine ⟨le_line (by show 2 < 1000; decide), fun t ht => ?_⟩
      have g7 : Gr T [] H (upd H' t (.tup [.str y, .int (chg W h U y)])) := g5.new ht
      have nDt : D ≠ t := ne_of_none hD' ht
      have hD7 : (upd H' t (.tup [.str y, .int (chg W h U y)])) D = some (.lst (es.map fun b => V.ref b.1)) := (upd_ne nDt).trans hD'
      refine ⟨D, _, _, rfl, rfl, hD7, lt_line (by rw [List.length_map]; omega), ?_⟩
      refine ⟨_, _, es ++ [(t, y, chg W h U y)], rfl, by rw [upd_same, List.map_append]; rfl, ?_, hes.snoc ht hD', g7.put hD hD7 free_lst, (g6.new ht).putM (List.mem_singleton.mpr rfl) hD7 ⟨_, hD4⟩⟩
      rw [List.map_append, ee, List.take_add_one, hy, List.map_append]
      rfl
    · obtain ⟨o5, o6, es, rfl, hD', ee, hes, g5, g6⟩ := e
      rw [List.length_map, List.take_of_length_le (Nat.le_refl _)] at ee
      have fe := rows_fst ee
      have les : es.length = ys.length := by rw [← fe, List.length_map]
      refine ⟨_, rfl, _, rfl, D, r0, es, rfl, .inl hD', hes, fun c hc => ?_, by rw [fe]; exact nd, by omega, fun H6 v Z g7 hZ hr0 hat => ?_⟩
      · have z : c.2.1 ∈ ys := by rw [← fe]; exact List.mem_map.mpr ⟨c, hc, rfl⟩
        rcases (mem _).1 z with z | z
        · obtain ⟨c2, hc2, e2⟩ := List.mem_map.mp z
          rw [← e2]
          exact un c2 hc2
        · exact wn _ z
      · refine q H6 v Z (g5.trans g7) hZ (hr0.trans er0) fun x => ?_
        rw [hat]
        refine lookup_rows ee r0 (fun x hx => ?_) x
        have n1 : x ∉ U.own.map (·.1) := fun z => hx ((mem x).2 (.inl z))
        have n2 : x ∉ W.names := fun z => hx ((mem x).2 (.inr z))
        unfold chg
        rw [has_out n2, Tab.at_rest n1, er0]
end
end KD
end

section
set_option Elab.async false
set_option linter.all false
set_option maxRecDepth 100000
set_option maxHeartbeats 4000000
/-! raised, lowered, mixed, higher, lower, wanted_at -/
namespace KD
open PySem PySem.Spec PyProof.Rows C8 LamX NdefX
open L2 hiding CX0 E0 pass0 Fun
theorem boot_max_ : bootBuiltins "max" = some (.builtin "max") := by decide +kernel
theorem boot_min_ : bootBuiltins "min" = some (.builtin "min") := by decide +kernel
def maxI (m i : Int) : Int := if m > i then m else i
def minI (m i : Int) : Int := if m < i then m else i
section
variable {P : Program} {w : World} {K : PySem.W.Frag} {mg : Str → Option Value} {base : Heap} {CW CT CU : Addr} {T : List (Addr × Str)}
def sp_onwant (T : List (Addr × Str)) (CW CT : Addr) (h : Int → Int → Int) : Sp := fun vs H Q _ => ∃ (a b : Addr) (U : Tab Int) (W : WantD) (m : Int), vs = [.ref a, .ref b, .int m] ∧ Tabs T H ∧ TillAt CT H a U ∧ WantAt CW H b W ∧ U.own.length ≤ 8 ∧ W.names.length ≤ 8 ∧
  ∀ (H1 : Hp) (v : Addr) (Z : Tab Int), Gr T [] H H1 → TillAt CT H1 v Z → Z.rest = (if W.but = true then h m U.rest else U.rest) → (∀ x, Z.at x = chg W (h m) U x) → Q (.ref v) H1
theorem cloFrom_one {cells : List (Str × Addr)} {n x y : Str} {c : Addr} (h : cells.lookup y = some c) : cloFrom cells [(n, .local), (y, .free), (x, .globalImplicit)] [] = [(y, c)] := by
  simp [cloFrom, h]
 
theorem sc_raised : FnScope ["till", "want", "moment"] ["till", "want", "moment"] (defScope s_raised) := ⟨rfl, rfl, rfl, by decide +kernel, rfl, by decide +kernel, by decide +kernel⟩
theorem sc_lowered : FnScope ["till", "want", "moment"] ["till", "want", "moment"] (defScope s_lowered) := ⟨rfl, rfl, rfl, by decide +kernel, rfl, by decide +kernel, by decide +kernel⟩
theorem ok_raised {f : Addr} {fd : FuncData} (F : FD K "raised" "raised" s_raised f fd) (L : LamT mg base T "raised" fd) (B : Fc K mg CW CT CU) (c1 : Cal P w K mg base 6 "changed_on" (sp_changed_on P w K mg base 1 T CW CT) []) : FnOk P w K mg base CX0 7 f fd ["till", "want", "moment"] (sp_onwant T CW CT maxI) := by
  refine okC F sc_raised (fun vs H Q E h => ?_) (fun c A outer s H vs Q E hcode hr h => ?_)
  · obtain ⟨a, b, U, W, m, rfl, _⟩ := h; rfl
  · obtain ⟨a, b, U, W, m, rfl, hT, hU, hW, l1, l2, q⟩ := h
    obtain ⟨C0, P0, TB, hm, hu, hc⟩ := L.ex
    have ec : c = C0 := hc c hcode
    subst ec
    refine ⟨_, PSs.nox (pss_one (ps_ret (pe_callCell (y := "moment") (j := 2) c1 hr (Nat.le_refl _) (by rfl) (pa_cons (pv 0) (pa_cons (pv 1) (pa_cons (pe_lambda (T := T) TB rfl hm hu rfl (free_by (sc := defScope s_raised) (by decide +kernel))) pa_nil))) (fun _ => rfl) rfl (by rfl)))), ?_⟩
    refine ⟨_, rfl, _, rfl, hT, fun g c' H1 e1 t1 hf hc' => ?_⟩
    have g1 : Gr T [] H H1 := Gr.of_extN e1 fun _ => t1
    refine ⟨_, rfl, fun c0 o u hcl hn hod hru => ?_⟩
    have ne : ∀ b u, H1 b = some u → upd H1 c0 (.frz o (.own 0)) b = some u := fun b u e => (upd_ne (ne_of_none e hn)).trans e
    have g2 : Gr T [] H1 (upd H1 c0 (.frz o (.own 0))) := (Gr.refl H1).new hn
    have g12 := g1.trans g2
    refine ⟨a, b, g, U, W, maxI m, rfl, hU.gr g12, hW.gr g12, l1, l2, ⟨_, _, ["here"], "moment", c0, .int m, ne _ _ hf, ne _ _ hc', cloFrom_one (n := "here") (x := "max") hcl, ⟨o, u, upd_same, hod, hru⟩, ?_⟩, fun H2 v Z g3 hZ hb hh => ?_⟩
    · refine lok_of (N := ["here", "moment"]) (k := 0) (nsc_of rfl (sc' := lamSc [("here", .local), ("moment", .free), ("max", .globalImplicit)]) (by decide +kernel)) (fun pm ctv us hl => ?_) (fun ws vs H Q E h => ?_) (fun A2 outer2 s2 H2 vs2 ws Q2 hr2 hl hsp => ?_)
      · match us, hl with
        | [x], _ => rfl
      · obtain ⟨_, ⟨x, rfl⟩, _⟩ := h; rfl
      · obtain ⟨rfl, ⟨x, rfl⟩, q2⟩ := hsp
        exact ⟨_, pe_callB (call_max2 rfl) (by rfl) B.max boot_max_ (pa_cons (pv 0) (pa_cons (pv 1) pa_nil)), ⟨_, rfl, _, rfl, x, m, rfl, q2⟩⟩
    · exact q _ v Z (g1.trans (gr_cut hn g3 t1)) (hZ.cut (g3.frz upd_same)) hb hh
theorem ok_lowered {f : Addr} {fd : FuncData} (F : FD K "lowered" "lowered" s_lowered f fd) (L : LamT mg base T "lowered" fd) (B : Fc K mg CW CT CU) (c1 : Cal P w K mg base 6 "changed_on" (sp_changed_on P w K mg base 1 T CW CT) []) : FnOk P w K mg base CX0 7 f fd ["till", "want", "moment"] (sp_onwant T CW CT minI) := by
  refine okC F sc_lowered (fun vs H Q E h => ?_) (fun c A outer s H vs Q E hcode hr h => ?_)
  · obtain ⟨a, b, U, W, m, rfl, _⟩ := h; rfl
  · obtain ⟨a, b, U, W, m, rfl, hT, hU, hW, l1, l2, q⟩ := h
    obtain ⟨C0, P0, TB, hm, hu, hc⟩ := L.ex
    have ec : c = C0 := hc c hcode
    subst ec
    refine ⟨_, PSs.nox (pss_one (ps_ret (pe_callCell (y := "moment") (j := 2) c1 hr (Nat.le_refl _) (by rfl) (pa_cons (pv 0) (pa_cons (pv 1) (pa_cons (pe_lambda (T := T) TB rfl hm hu rfl (free_by (sc := defScope s_lowered) (by decide +kernel))) pa_nil))) (fun _ => rfl) rfl (by rfl)))), ?_⟩
    refine ⟨_, rfl, _, rfl, hT, fun g c' H1 e1 t1 hf hc' => ?_⟩
    have g1 : Gr T [] H H1 := Gr.of_extN e1 fun _ => t1
    refine ⟨_, rfl, fun c0 o u hcl hn hod hru => ?_⟩
    have ne : ∀ b u, H1 b = some u → upd H1 c0 (.frz o (.own 0)) b = some u := fun b u e => (upd_ne (ne_of_none e hn)).trans e
    have g2 : Gr T [] H1 (upd H1 c0 (.frz o (.own 0))) := (Gr.refl H1).new hn
    have g12 := g1.trans g2
    refine ⟨a, b, g, U, W, minI m, rfl, hU.gr g12, hW.gr g12, l1, l2, ⟨_, _, ["here"], "moment", c0, .int m, ne _ _ hf, ne _ _ hc', cloFrom_one (n := "here") (x := "min") hcl, ⟨o, u, upd_same, hod, hru⟩, ?_⟩, fun H2 v Z g3 hZ hb hh => ?_⟩
    · refine lok_of (N := ["here", "moment"]) (k := 0) (nsc_of rfl (sc' := lamSc [("here", .local), ("moment", .free), ("min", .globalImplicit)]) (by decide +kernel)) (fun pm ctv us hl => ?_) (fun ws vs H Q E h => ?_) (fun A2 outer2 s2 H2 vs2 ws Q2 hr2 hl hsp => ?_)
      · match us, hl with
        | [x], _ => rfl
      · obtain ⟨_, ⟨x, rfl⟩, _⟩ := h; rfl
      · obtain ⟨rfl, ⟨x, rfl⟩, q2⟩ := hsp
        exact ⟨_, pe_callB (call_min2 rfl) (by rfl) B.min boot_min_ (pa_cons (pv 0) (pa_cons (pv 1) pa_nil)), ⟨_, rfl, _, rfl, x, m, rfl, q2⟩⟩
    · exact q _ v Z (g1.trans (gr_cut hn g3 t1)) (hZ.cut (g3.frz upd_same)) hb hh
end
end KD
end

section
set_option Elab.async false
set_option linter.all false
set_option maxRecDepth 100000
set_option maxHeartbeats 4000000
/-! mixed, higher, lower, wanted_at -/
namespace KD
open PySem PySem.Spec PyProof.Rows C8 LamX NdefX
open L2 hiding CX0 E0 pass0 Fun
section
variable {P : Program} {w : World} {K : PySem.W.Frag} {mg : Str → Option Value} {base : Heap} {CW CT CU : Addr} {T : List (Addr × Str)}
def sp_mixed (P : Program) (w : World) (K : PySem.W.Frag) (mg : Str → Option Value) (base : Heap) (k : Nat) (T : List (Addr × Str)) (CT : Addr) : Sp := fun vs H Q _ => ∃ (a b f : Addr) (U Z : Tab Int) (h : Int → Int → Int), vs = [.ref a, .ref b, .ref f] ∧ TillAt CT H a U ∧ TillAt CT H b Z ∧ U.own.length ≤ 8 ∧ Z.own.length ≤ 8 ∧ LFn P w K mg base k H f D2I (g2I h) ∧
  ∀ (H1 : Hp) (v : Addr) (Y : Tab Int), Gr T [] H H1 → TillAt CT H1 v Y → Y.rest = h U.rest Z.rest → (∀ x, Y.at x = h (U.at x) (Z.at x)) → Q (.ref v) H1
theorem sc_mixed : FnScope ["one", "other", "rule", "names", "own", "pair", "name"] ["one", "other", "rule"] (defScope s_mixed) := ⟨rfl, rfl, rfl, by decide +kernel, rfl, by decide +kernel, by decide +kernel⟩
theorem ok_mixed {f : Addr} {fd : FuncData} (F : FD K "mixed" "mixed" s_mixed f fd) (B : Fc K mg CW CT CU) (c1 : Cal P w K mg base 5 "till_of" (sp_till_of T K CT) []) (m1 : Met P w K mg base 1 CT "moment_of" (sp_moment_of CT) []) :
    FnOk P w K mg base CX0 6 f fd ["one", "other", "rule"] (sp_mixed P w K mg base 1 T CT) := by
  refine F.ok sc_mixed (fun vs H Q E h => ?_) (fun cdv A outer s H vs Q E hr h => ?_)
  · obtain ⟨a, b, f, U, Z, h, rfl, _⟩ := h; rfl
  · obtain ⟨a, b, r, U, Z, h, rfl, hU, hZ, l1, l2, hR, q⟩ := h
    have okN := sc_mixed.nd
    have hr1 := hr.mono (show 1 ≤ 5 by decide)
    refine ⟨_, PSs.nox (pss_cons (ps_set (i := 3) okN rfl (.inl rfl) (pe_callB (cr_sortS rfl) (by rfl) B.sorted boot_sorted_ (pa_cons (pe_ss (own := [("pair", 5)]) rfl okN (pi_seq (pe_op op_catA (pe_fld (pv 0) rfl) (pe_fld (pv 1) rfl))) (blkOk_by (N := ["one", "other", "rule", "names", "own", "pair", "name"]) (sc := defScope s_mixed) (by decide +kernel))
        (fun _ _ _ _ _ => pg_name (i := 5) okN rfl (.inl rfl)) (fun _ _ _ _ _ => pe_ix (ix_tupK K rfl) (pv 5) pe_int (fun _ _ => rfl))) pa_nil)))
      (pss_cons (ps_setLc (i := 4) (own := [("name", 6)]) rfl okN rfl rfl rfl (pi_seq (pv 3)) (blkOk_by (N := ["one", "other", "rule", "names", "own", "pair", "name"]) (sc := defScope s_mixed) (by decide +kernel))
        (fun _ _ _ _ _ => pg_name (i := 6) okN rfl (.inl rfl)) (fun _ _ _ _ _ => pts_nil)
        (fun _ _ _ _ _ => pe_tup (pa_cons (pv 6) (pa_cons (pe_callLamB (i := 2) (k := 1) P w K mg base D2I (g2I h) ⟨rfl, rfl, rfl, rfl, rfl⟩ hr1 rfl (by first | exact Or.inl rfl | exact Or.inr (Or.inl rfl) | exact Or.inr (Or.inr rfl))
          (pa_cons (pe_mt m1 hr1 (Nat.le_refl _) (pv 0) (pa_cons (pv 6) pa_nil)) (pa_cons (pe_mt m1 hr1 (Nat.le_refl _) (pv 1) (pa_cons (pv 6) pa_nil)) pa_nil))) pa_nil))))
      (pss_one (ps_ret (pe_c c1 hr (Nat.le_refl _) (by rfl) (pa_cons (pe_callLam (i := 2) (k := 1) (D := D2I) (g := g2I h) hr1 rfl (.inr (.inl rfl)) (pa_cons (pe_fld (pv 0) rfl) (pa_cons (pe_fld (pv 1) rfl) pa_nil))) (pa_cons (pv 4) pa_nil))))))), ?_⟩
    obtain ⟨⟨uo, un⟩, u64, dx, p, d, bs, ub, hB, h1, h2, h3⟩ := id hU
    obtain ⟨⟨zo, zn⟩, z64, dy, p2, d2, cs, zb, hC, h4, h5, h6⟩ := id hZ
    refine ⟨_, rfl, a, CT, dx, _, _, rfl, h1, B.iT.cl, B.nT _ (by simp), rfl, _, rfl, b, CT, dy, _, _, rfl, h4, B.iT.cl, B.nT _ (by simp), rfl, ?_⟩
    have lb : bs.length = U.own.length := by rw [← ub, List.length_map]
    have lc : cs.length = Z.own.length := by rw [← zb, List.length_map]
    refine cat_read (T := T) (SqT.of h2) (SqT.of h5) (by rw [List.length_map, List.length_map]; omega) fun c H1 g1 hc => ?_
    rw [← List.map_append] at hc
    have hRb : RowsAt H1 (bs ++ cs) := fun x hx => (List.mem_append.mp hx).elim (fun z => hB.gr g1 x z) fun z => hC.gr g1 x z
    refine ⟨c, _, rfl, .inr hc, fun J St sq hst D hD => ?_⟩
    have lL : ((bs ++ cs).map fun b => b.2.1).length ≤ 16 := by rw [List.length_map, List.length_append]; omega
    refine ss_texts ((bs ++ cs).map fun b => b.2.1) (by rw [List.length_map, List.length_map]) (by omega) sq (fun L => hst T [] _ ((Gr.refl H1).new hD) List.not_mem_nil) (fun j v y L hv hy Pk hk => ?_) ?_
    · obtain ⟨b0, hb0, ev⟩ := refs_item (f := fun b : Addr × Str × Int => b.1) hv
      rw [List.getElem?_map, hb0] at hy
      have ey : b0.2.1 = y := Option.some.inj hy
      have hz := ((Gr.refl (T := T) (M := []) H1).new (o := SetSO w D L) hD).tup (hRb b0 (List.mem_of_getElem? hb0))
      exact ⟨rfl, v, rfl, b0.1, _, 0, .str b0.2.1, ev, rfl, SqT.of hz, rfl, by rw [ey]; exact hk⟩
    refine ⟨D, _, rfl, .inr (.inr upd_same), Nat.lt_of_le_of_lt (metS_len0 _) (by omega), fun ys l pm so hl => ?_⟩
    let H4 : Hp := upd (upd H1 D (SetSO w D (metS ((bs ++ cs).map fun b => b.2.1)))) l (.lst (ys.map V.str))
    have g14 : Gr T [] H1 H4 := ((Gr.refl H1).new hD).new hl
    have gH4 : Gr T [] H H4 := g1.trans g14
    have nd : ys.Nodup := (pm.nodup_iff).mpr (metS_nodup _ _ .nil)
    have mem : ∀ x, x ∈ ys ↔ x ∈ U.own.map (·.1) ∨ x ∈ Z.own.map (·.1) := fun x => by
      rw [pm.mem_iff, metS_all, List.map_append, List.mem_append, rows_names (H := H) ub, rows_names (H := H) zb]
    have lys : ys.length ≤ 16 := by
      rw [pm.length_eq]
      exact Nat.le_trans (metS_len0 _) lL
    refine ⟨_, rfl, l, _, rfl, .inl upd_same, fun J2 St2 sq2 hst2 D2 hD2 => ?_⟩
    have hst3 : ∀ H', Gr T [] H4 H' → St2 H' := fun H' z => hst2 T [] H' z List.not_mem_nil
    refine lc_seq sq2 (fun i acc H' => ∃ es : List (Addr × Str × Int), acc = es.map (fun b => V.ref b.1) ∧ es.map (·.2) = (ys.take i).map (fun y => (y, h (U.at y) (Z.at y))) ∧ RowsAt H' es ∧ Gr T [] H4 H') ⟨[], rfl, rfl, (fun _ z => nomatch z), (Gr.refl H4).new hD2⟩
      (fun i acc H' _ e => hst3 H' e.choose_spec.2.2.2) (fun i v acc H' hv hla hD' ⟨es, ea, ee, hes, g⟩ => ?_) (fun acc H' hD' hla ⟨es, ea, ee, hes, g⟩ => ?_)
    · obtain ⟨y, hy, ev⟩ := strs_item hv
      have li : i < ys.length := (List.getElem?_eq_some_iff.mp hy).1
      have g5 := gH4.trans g
      have hR5 := hR.ext g5.extN
      rw [ev]
      refine ⟨rfl, yes_if ?_⟩
      refine ⟨_, rfl, r, rfl, hR5, _, rfl, a, dx, _, rfl, g5.ins h1, rfl, _, rfl, a, U, y, rfl, hU.gr g5, _, rfl, b, dy, _, rfl, g5.ins h4, rfl, _, rfl, b, Z, y, rfl, hZ.gr g5, hR5, ⟨_, _, rfl⟩, le_line (by show 2 < 1000; decide), fun t ht => ?_⟩
      have g7 : Gr T [] H4 (upd H' t (.tup [.str y, .int (h (U.at y) (Z.at y))])) := g.new ht
      have nDt : D2 ≠ t := ne_of_none hD' ht
      have hD7 : (upd H' t (.tup [.str y, .int (h (U.at y) (Z.at y))])) D2 = some (.lst acc) := (upd_ne nDt).trans hD'
      refine nx_add hD7 hla (lt_line (by omega)) ⟨es ++ [(t, y, h (U.at y) (Z.at y))], by rw [ea, List.map_append]; rfl, ?_, hes.snoc ht hD', g7.put hD2 hD7 free_lst⟩
      rw [List.map_append, ee, List.take_add_one, hy, List.map_append]
      rfl
    · rw [List.length_map, List.take_of_length_le (Nat.le_refl _)] at ee
      have fe := rows_fst ee
      have les : es.length = ys.length := by rw [← fe, List.length_map]
      have g5 := gH4.trans g
      have hR5 := hR.ext g5.extN
      refine ⟨r, rfl, hR5, _, rfl, a, CT, dx, _, _, rfl, g5.ins h1, B.iT.cl, B.nT _ (by simp), rfl, _, rfl, b, CT, dy, _, _, rfl, g5.ins h4, B.iT.cl, B.nT _ (by simp), rfl, hR5, ⟨_, _, rfl⟩, ?_⟩
      refine ⟨_, rfl, D2, h U.rest Z.rest, es, rfl, .inl (by rw [hD', ea]), hes, fun c hc => ?_, by rw [fe]; exact nd, by omega, fun H6 v Y g7 hY hr0 hat => ?_⟩
      · have z : c.2.1 ∈ ys := by rw [← fe]; exact List.mem_map.mpr ⟨c, hc, rfl⟩
        rcases (mem _).1 z with z | z
        · obtain ⟨c2, hc2, e2⟩ := List.mem_map.mp z
          rw [← e2]
          exact un c2 hc2
        · obtain ⟨c2, hc2, e2⟩ := List.mem_map.mp z
          rw [← e2]
          exact zn c2 hc2
      · refine q H6 v Y (g5.trans g7) hY hr0 fun x => ?_
        rw [hat]
        refine lookup_rows ee _ (fun x hx => ?_) x
        have n1 : x ∉ U.own.map (·.1) := fun z => hx ((mem x).2 (.inl z))
        have n2 : x ∉ Z.own.map (·.1) := fun z => hx ((mem x).2 (.inr z))
        rw [Tab.at_rest n1, Tab.at_rest n2]
def sp_highlow (T : List (Addr × Str)) (CT : Addr) (h : Int → Int → Int) : Sp := fun vs H Q _ => ∃ (a b : Addr) (U Z : Tab Int), vs = [.ref a, .ref b] ∧ Tabs T H ∧ TillAt CT H a U ∧ TillAt CT H b Z ∧ U.own.length ≤ 8 ∧ Z.own.length ≤ 8 ∧
  ∀ (H1 : Hp) (v : Addr) (Y : Tab Int), Gr T [] H H1 → TillAt CT H1 v Y → Y.rest = h U.rest Z.rest → (∀ x, Y.at x = h (U.at x) (Z.at x)) → Q (.ref v) H1
theorem sc_higher : FnScope ["one", "other"] ["one", "other"] (defScope s_higher) := ⟨rfl, rfl, rfl, by decide +kernel, rfl, by decide +kernel, by decide +kernel⟩
theorem sc_lower : FnScope ["one", "other"] ["one", "other"] (defScope s_lower) := ⟨rfl, rfl, rfl, by decide +kernel, rfl, by decide +kernel, by decide +kernel⟩
theorem ok_higher {f : Addr} {fd : FuncData} (F : FD K "higher" "higher" s_higher f fd) (L : LamT mg base T "higher" fd) (B : Fc K mg CW CT CU) (c1 : Cal P w K mg base 6 "mixed" (sp_mixed P w K mg base 1 T CT) []) : FnOk P w K mg base CX0 7 f fd ["one", "other"] (sp_highlow T CT (fun i j => maxI j i)) := by
  refine okC F sc_higher (fun vs H Q E h => ?_) (fun c A outer s H vs Q E hcode hr h => ?_)
  · obtain ⟨a, b, U, Z, rfl, _⟩ := h; rfl
  · obtain ⟨a, b, U, Z, rfl, hT, hU, hZ, l1, l2, q⟩ := h
    obtain ⟨C0, P0, TB, hm, hu, hc⟩ := L.ex
    have ec : c = C0 := hc c hcode
    subst ec
    refine ⟨_, PSs.nox (pss_one (ps_ret (pe_c c1 hr (Nat.le_refl _) (by rfl) (pa_cons (pv 0) (pa_cons (pv 1) (pa_cons (pe_lambda (T := T) TB rfl hm hu rfl (free_by (sc := defScope s_higher) (by decide +kernel))) pa_nil)))))), ?_⟩
    refine ⟨_, rfl, _, rfl, hT, fun g c' H1 e1 t1 hf hc' => ?_⟩
    have g1 : Gr T [] H H1 := Gr.of_extN e1 fun _ => t1
    refine ⟨a, b, g, U, Z, fun i j => maxI j i, rfl, hU.gr g1, hZ.gr g1, l1, l2, ⟨_, _, ["here", "there"], hf, hc', rfl, ?_⟩, fun H2 v Y g2 hY hb hh => q H2 v Y (g1.trans g2) hY hb hh⟩
    refine lok_of (N := ["here", "there"]) (k := 0) (nsc_of rfl (sc' := lamSc [("here", .local), ("there", .local), ("max", .globalImplicit)]) (by decide +kernel)) (fun pm ctv us hl => ?_) (fun ws vs H Q E h => ?_) (fun A2 outer2 s2 H2 vs2 ws Q2 hr2 hl hsp => ?_)
    · match us, hl with
      | [x, y], _ => rfl
    · obtain ⟨⟨x, y, rfl⟩, _⟩ := h; rfl
    · obtain ⟨⟨x, y, rfl⟩, q2⟩ := hsp
      exact ⟨_, pe_callB (call_max2 rfl) (by rfl) B.max boot_max_ (pa_cons (pv 0) (pa_cons (pv 1) pa_nil)), ⟨_, rfl, _, rfl, x, y, rfl, q2⟩⟩
theorem ok_lower {f : Addr} {fd : FuncData} (F : FD K "lower" "lower" s_lower f fd) (L : LamT mg base T "lower" fd) (B : Fc K mg CW CT CU) (c1 : Cal P w K mg base 6 "mixed" (sp_mixed P w K mg base 1 T CT) []) : FnOk P w K mg base CX0 7 f fd ["one", "other"] (sp_highlow T CT (fun i j => minI j i)) := by
  refine okC F sc_lower (fun vs H Q E h => ?_) (fun c A outer s H vs Q E hcode hr h => ?_)
  · obtain ⟨a, b, U, Z, rfl, _⟩ := h; rfl
  · obtain ⟨a, b, U, Z, rfl, hT, hU, hZ, l1, l2, q⟩ := h
    obtain ⟨C0, P0, TB, hm, hu, hc⟩ := L.ex
    have ec : c = C0 := hc c hcode
    subst ec
    refine ⟨_, PSs.nox (pss_one (ps_ret (pe_c c1 hr (Nat.le_refl _) (by rfl) (pa_cons (pv 0) (pa_cons (pv 1) (pa_cons (pe_lambda (T := T) TB rfl hm hu rfl (free_by (sc := defScope s_lower) (by decide +kernel))) pa_nil)))))), ?_⟩
    refine ⟨_, rfl, _, rfl, hT, fun g c' H1 e1 t1 hf hc' => ?_⟩
    have g1 : Gr T [] H H1 := Gr.of_extN e1 fun _ => t1
    refine ⟨a, b, g, U, Z, fun i j => minI j i, rfl, hU.gr g1, hZ.gr g1, l1, l2, ⟨_, _, ["here", "there"], hf, hc', rfl, ?_⟩, fun H2 v Y g2 hY hb hh => q H2 v Y (g1.trans g2) hY hb hh⟩
    refine lok_of (N := ["here", "there"]) (k := 0) (nsc_of rfl (sc' := lamSc [("here", .local), ("there", .local), ("min", .globalImplicit)]) (by decide +kernel)) (fun pm ctv us hl => ?_) (fun ws vs H Q E h => ?_) (fun A2 outer2 s2 H2 vs2 ws Q2 hr2 hl hsp => ?_)
    · match us, hl with
      | [x, y], _ => rfl
    · obtain ⟨⟨x, y, rfl⟩, _⟩ := h; rfl
    · obtain ⟨⟨x, y, rfl⟩, q2⟩ := hsp
      exact ⟨_, pe_callB (call_min2 rfl) (by rfl) B.min boot_min_ (pa_cons (pv 0) (pa_cons (pv 1) pa_nil)), ⟨_, rfl, _, rfl, x, y, rfl, q2⟩⟩
def sp_wanted_at (T : List (Addr × Str)) (CW CT : Addr) : Sp := fun vs H Q _ => ∃ (a : Addr) (m : Int) (U : Tab Int), vs = [.ref a, .int m] ∧ TillAt CT H a U ∧
  ∀ (H1 : Hp) (v : Addr) (W : WantD), Gr T [] H H1 → WantAt CW H1 v W → W.but = decide (m < U.rest) → (∀ x, W.has x = decide (m < U.at x)) → (∀ x ∈ W.names, x ∈ U.own.map (·.1)) → Q (.ref v) H1
theorem sc_wanted_at : FnScope ["till", "moment", "rest", "name", "own"] ["till", "moment"] (defScope s_wanted_at) := ⟨rfl, rfl, rfl, by decide +kernel, rfl, by decide +kernel, by decide +kernel⟩
theorem ok_wanted_at {f : Addr} {fd : FuncData} (F : FD K "wanted_at" "wanted_at" s_wanted_at f fd) (B : Fc K mg CW CT CU) (c1 : Cal P w K mg base 5 "want_of" (sp_want_of T K CW) []) : FnOk P w K mg base CX0 6 f fd ["till", "moment"] (sp_wanted_at T CW CT) := by
  refine F.ok sc_wanted_at (fun vs H Q E h => ?_) (fun cdv A outer s H vs Q E hr h => ?_)
  · obtain ⟨a, m, U, rfl, _⟩ := h; rfl
  · obtain ⟨a, m, U, rfl, hU, q⟩ := h
    have okN := sc_wanted_at.nd
    refine ⟨_, PSs.nox (pss_cons (ps_set (i := 2) okN rfl (.inr rfl) (pe_cmpR op_lt (pv 1) (pe_fld (pv 0) rfl) (nomark _)))
      (pss_one (ps_ret (pe_c c1 hr (Nat.le_refl _) (by rfl) (pa_cons (pe_lc (own := [("name", 3), ("own", 4)]) rfl okN (pi_tup (pe_fld (pv 0) rfl)) (blkOk_by (N := ["till", "moment", "rest", "name", "own"]) (sc := defScope s_wanted_at) (by decide +kernel))
        (fun _ _ _ _ _ => pg_tupK K 2 rfl rfl (pgs_cons (pg_name (i := 3) okN rfl (.inl rfl)) (pgs_cons (pg_name (i := 4) okN rfl (.inl rfl)) pgs_nil)))
        (fun _ _ _ _ _ => pts_one (pt_cmpR op_ne (pe_cmpR op_lt (pv 1) (pv 4) (nomark _)) (pv 2) (nomark _))) (fun _ _ _ _ _ => pv 3)) (pa_cons (pv 2) pa_nil)))))), ?_⟩
    obtain ⟨⟨uo, un⟩, u64, dx, p, d, bs, ub, hB, h1, h2, h3⟩ := id hU
    refine ⟨_, rfl, _, rfl, a, CT, dx, _, _, rfl, h1, B.iT.cl, B.nT _ (by simp), rfl, m, U.rest, rfl, rfl, ?_⟩
    refine ⟨_, rfl, a, CT, dx, _, _, rfl, h1, B.iT.cl, B.nT _ (by simp), rfl, p, rfl, ⟨_, SqT.of h2⟩, fun D hD => ?_⟩
    have lb : bs.length = U.own.length := by rw [← ub, List.length_map]
    have atb : ∀ b ∈ bs, U.at b.2.1 = b.2.2 := fun b hb => ((uo.mem b.2.1 b.2.2).1 (by rw [← ub]; exact List.mem_map.mpr ⟨b, hb, rfl⟩)).1
    obtain ⟨g, eg⟩ : ∃ g : Str → Bool, g = fun x => decide (m < U.at x) := ⟨_, rfl⟩
    obtain ⟨r, er⟩ : ∃ r : Bool, r = decide (m < U.rest) := ⟨_, rfl⟩
    refine lc_seq (K := K) (seqIt_tup K p (bs.map fun b => V.ref b.1)) (fun i acc H' => acc = (((bs.take i).map fun b => b.2.1).filter fun x => xor (g x) r).map V.str ∧ Gr T [] H H') ⟨rfl, (Gr.refl H).new hD⟩ (fun i acc H' _ e => SqT.of (e.2.tup h2))
      (fun i v acc H' hv hla hD' ⟨e, gg⟩ => ?_) (fun acc H' hD' hla ⟨e, gg⟩ => ?_)
    · obtain ⟨b, hb, ev⟩ := refs_item (f := fun b : Addr × Str × Int => b.1) hv
      have li : i < bs.length := (List.getElem?_eq_some_iff.mp hb).1
      have hm := List.mem_of_getElem? hb
      refine ⟨b.1, _, ev, SqT.of (gg.tup (hB b hm)), rfl, .str b.2.1, [.int b.2.2], rfl, .int b.2.2, [], rfl, rfl, rfl, ?_⟩
      refine ⟨_, rfl, _, rfl, m, b.2.2, rfl, rfl, _, rfl, rfl, _, rfl, ?_⟩
      have ex : (!decide (V.bl (decide (m < b.2.2)) = V.bl (decide (m < U.rest)))) = xor (g b.2.1) r := by
        rw [eg, er]
        show _ = xor (decide (m < U.at b.2.1)) _
        rw [atb b hm]
        cases decide (m < b.2.2) <;> cases decide (m < U.rest) <;> rfl
      rw [ex]
      have tk : (bs.take (i + 1)).map (fun b => b.2.1) = (bs.take i).map (fun b => b.2.1) ++ [b.2.1] := by rw [List.take_add_one, hb, List.map_append]; rfl
      cases hx : xor (g b.2.1) r with
      | true =>
        refine iteT ⟨_, rfl, nx_add hD' hla (lt_line (by omega)) ⟨?_, gg.put hD hD' free_lst⟩⟩
        rw [tk, List.filter_append, List.map_append, e]
        simp [hx]
      | false =>
        refine iteF ⟨acc, by omega, hD', ?_, gg⟩
        rw [tk, List.filter_append, List.map_append, e]
        simp [hx]
    · rw [List.length_map, List.take_of_length_le (Nat.le_refl _), rows_names (H := H) ub] at e
      have nd : (U.own.map (·.1)).Nodup := slt_nodup uo.so
      refine ⟨_, rfl, D, decide (m < U.rest), ((U.own.map fun q : Str × Int => q.1).filter fun x => xor (g x) r), rfl, .inl (by rw [hD', e]), fun x hx => ?_, nd.filter _, ?_, fun H5 v Z g5 hZ hb hp => ?_⟩
      · obtain ⟨c2, hc2, e2⟩ := List.mem_map.mp (List.mem_filter.mp hx).1
        rw [← e2]
        exact un c2 hc2
      · exact Nat.lt_of_le_of_lt (List.length_filter_le _ _) (by rw [List.length_map]; exact u64)
      · obtain ⟨Zo, Zh⟩ := want_filter (g := g) (r := r) nd hp hZ.1.1 fun x hx => by
          rw [eg, er]
          show decide (m < U.at x) = _
          rw [Tab.at_rest hx]
        have eZ : Z = ⟨Z.names, r⟩ := by cases Z; simp only at hb; rw [hb, er]
        refine q H5 v Z (gg.trans g5) hZ hb (fun x => ?_) fun x hx => (List.mem_filter.mp (hp.mem_iff.mp hx)).1
        have z := Zh x
        rw [← eZ] at z
        rw [z, eg]
end
end KD
end

section
set_option Elab.async false
set_option linter.all false
set_option maxRecDepth 100000
set_option maxHeartbeats 4000000
/-! a list asked against an empty one -/
namespace KD
open PySem PySem.Spec PyProof.Rows C8 LamX NdefX
open L2 hiding CX0 E0 pass0 Fun
section
variable {X : Cx}
def rNeNil (K : PySem.W.Frag) : R2 := fun x y H Q => ∃ (a b : Addr) (xs : List V), x = .ref a ∧ y = .ref b ∧ SqL K H a xs ∧ SqL K H b [] ∧ Q (.bl (!xs.isEmpty)) H
theorem op_neNil (hu : X.A.units < cLine) : OpR X (compareOp .NotEq) (rNeNil X.K) := by
  intro pins s σ H x y v u Q I rx ry hq
  obtain ⟨a, b, xs, rfl, rfl, ha, hb, q⟩ := hq
  cases rx
  cases ry
  obtain ⟨its, r, p, z⟩ := I.list ha
  obtain ⟨its2, r2, p2, z2⟩ := I.list hb
  cases r2
  show wpAny (model X.prog X.w) X.A (richCompare .NotEq (.ref a) (.ref b)) (EP X pins σ Q) X.xe s
  obtain ⟨⟨cls, dd, data, sl⟩, ho, hc, n, hd⟩ := id p.isList
  obtain ⟨⟨cls2, dd2, data2, sl2⟩, ho2, hc2, n2, hd2⟩ := id p2.isList
  simp only at hc hd hc2 hd2
  subst hc hd hc2 hd2
  refine wpAny_richCompare_same_room (op := .NotEq) ⟨_, ho, rfl⟩ ⟨_, ho2, rfl⟩ F.slot_list_ne (GQ.call_here F.slot_list_ne ⟨_, ho, rfl⟩ F.entry_list_ne (F.args_list_ne_2 _ _) ?_) hu
  cases r with
  | nil =>
    refine PySem.SeqAt.list_neAt a b #[] #[] n n2 dd dd2 sl sl2 rfl (fun _ => true) X.prog X.w X.A _ s ⟨ho, ho2, fun j h1 _ => absurd h1 (Nat.not_lt_zero _), ?_⟩
    exact ⟨(fun e => nomatch e), .bl false, H, I, rfl, q⟩
  | cons r1 r2 =>
    refine PySem.SeqAt.list_ne_lengthsAt a b _ #[] n n2 dd dd2 sl sl2 (by simp) X.prog X.w X.A _ s ⟨ho, ho2, ?_⟩
    exact ⟨(fun e => nomatch e), .bl true, H, I, rfl, q⟩
end
end KD
end

section
set_option Elab.async false
set_option linter.all false
set_option maxRecDepth 100000
set_option maxHeartbeats 4000000
/-! lapse -/
namespace KD
open PySem PySem.Spec PyProof.Rows C8 LamX NdefX
open L2 hiding CX0 E0 pass0 Fun
def wantedD (U : Tab Int) (m : Int) : WantD := ⟨(U.own.map (·.1)).filter fun x => xor (decide (m < U.at x)) (decide (m < U.rest)), decide (m < U.rest)⟩
theorem wantedD_ok {U : Tab Int} (h : U.Ok) (m : Int) : (wantedD U m).Ok ∧ ∀ x, (wantedD U m).has x = decide (m < U.at x) :=
  want_filter (g := fun x => decide (m < U.at x)) (slt_nodup h.so) (List.Perm.refl _) (h.so.filter _) fun x hx => by
    show decide (m < U.at x) = _
    rw [Tab.at_rest hx]
theorem wantedD_is {U : Tab Int} (h : U.Ok) {m : Int} {W : WantD} (o : W.Ok) (b : W.but = decide (m < U.rest)) (a : ∀ x, W.has x = decide (m < U.at x)) : W = wantedD U m :=
  want_ext o (wantedD_ok h m).1 b fun x => (a x).trans ((wantedD_ok h m).2 x).symm
def lastW (acc : List (Int × WantD)) : WantD := match acc.getLast? with
  | none => ⟨[], false⟩
  | some p => p.2
open Classical in
noncomputable def lapStep (U : Tab Int) (acc : List (Int × WantD)) (m : Int) : List (Int × WantD) := if wantedD U m = lastW acc then acc else acc ++ [(m, wantedD U m)]
noncomputable def lapL (U : Tab Int) (ms : List Int) : List (Int × WantD) := ms.foldl (lapStep U) []
theorem lapL_snoc (U : Tab Int) (ms : List Int) (m : Int) : lapL U (ms ++ [m]) = lapStep U (lapL U ms) m := by
  unfold lapL
  rw [List.foldl_append]
  rfl
theorem lapL_len (U : Tab Int) (ms : List Int) : (lapL U ms).length ≤ ms.length := by
  have z : ∀ (ms : List Int) (acc : List (Int × WantD)), (ms.foldl (lapStep U) acc).length ≤ acc.length + ms.length := by
    intro ms
    induction ms with
    | nil => intro acc; exact Nat.le_refl _
    | cons m ms ih =>
      intro acc
      have z := ih (lapStep U acc m)
      have y : (lapStep U acc m).length ≤ acc.length + 1 := by
        unfold lapStep
        split
        · omega
        · rw [List.length_append, List.length_singleton]; exact Nat.le_refl _
      rw [List.foldl_cons, List.length_cons]
      omega
  have y := z ms []
  simpa [lapL] using y
/-- an object new since some heap between, written -/
theorem gr_put2 {T : List (Addr × Str)} {M : List Addr} {H Ha H1 : Hp} {D : Addr} {o o' : HO} (a0 : Gr T M H Ha) (hn : Ha D = .none) (a : Gr T M H H1) (hD : H1 D = some o) (f : Free1 o) : Gr T M H (upd H1 D o') :=
  ⟨fun b u e n m => (upd_ne (fun z => by have := a0.keep b u e n m; rw [z, hn] at this; cases this)).trans (a.keep b u e n m), fun t => tabs_put (a.tabs t) hD f⟩
/-- rows (moment, want); the want's own address -/
def LapsAt (CW : Addr) (H : Hp) (rs : List (Addr × Int × Addr × WantD)) : Prop := ∀ r ∈ rs, H r.1 = some (.tup [.int r.2.1, .ref r.2.2.1]) ∧ WantAt CW H r.2.2.1 r.2.2.2
theorem LapsAt.gr {CW : Addr} {T : List (Addr × Str)} {M : List Addr} {H H1 : Hp} {rs : List (Addr × Int × Addr × WantD)} (h : LapsAt CW H rs) (g : Gr T M H H1) : LapsAt CW H1 rs := fun r hr => ⟨g.tup (h r hr).1, (h r hr).2.gr g⟩
theorem if_to2 {c : Bool} {ta tb : TE} {σ : L2.St} {H : Hp} {R : V → Hp → Prop} (Φ : V → Hp → Prop) (ht : c = true → ∀ R : V → Hp → Prop, (∀ v H', Φ v H' → R v H') → ta σ H R) (hf : c = false → ∀ R : V → Hp → Prop, (∀ v H', Φ v H' → R v H') → tb σ H R) (k : ∀ v H', Φ v H' → R v H') : if c = true then ta σ H R else tb σ H R := by
  cases c with
  | true => exact iteT (ht rfl R k)
  | false => exact iteF (hf rfl R k)
theorem atI_last {α : Type} (xs : List α) (x : α) : atI (xs ++ [x]) (-1) = some x := by
  unfold atI ixN
  have l : (xs ++ [x]).length = xs.length + 1 := by rw [List.length_append, List.length_singleton]
  rw [l]
  have e : ¬ (0 : Int) ≤ -1 := by omega
  have e2 : -((xs.length + 1 : Nat) : Int) ≤ -1 := by omega
  rw [if_neg e, if_pos e2]
  have e3 : (-1 + ((xs.length + 1 : Nat) : Int)).toNat = xs.length := by omega
  rw [e3]
  show (xs ++ [x])[xs.length]? = some x
  rw [List.getElem?_append_right (Nat.le_refl _)]
  simp
theorem keys_putIn {kvs : List (Key × V)} {k : Key} (v : V) (h : k ∈ kvs.map (·.1)) : (putK kvs k v).map (·.1) = kvs.map (·.1) := by
  unfold putK
  rw [if_pos (by
      obtain ⟨p, hp, e⟩ := List.mem_map.mp h
      exact List.any_eq_true.mpr ⟨p, hp, decide_eq_true e⟩), List.map_map]
  refine List.map_congr_left fun p _ => ?_
  show (if p.1 = k then (p.1, v) else p).1 = p.1
  split <;> rfl
theorem keys_putOut {kvs : List (Key × V)} {k : Key} (v : V) (h : k ∉ kvs.map (·.1)) : (putK kvs k v).map (·.1) = kvs.map (·.1) ++ [k] := by
  rw [putK_new h, List.map_append]
  rfl
/-- keys, as ints -/
theorem keys_put {kvs : List (Key × V)} {ks : List Int} {k : Int} {v : V} (e : kvs.map (·.1) = ks.map Sum.inl) (nd : ks.Nodup) : ∃ ls : List Int, (putK kvs (Sum.inl k) v).map (·.1) = ls.map Sum.inl ∧ ls.Nodup ∧ (∀ m, m ∈ ls ↔ m ∈ ks ∨ m = k) ∧ ls.length ≤ ks.length + 1 := by
  have mi : (Sum.inl k : Key) ∈ kvs.map (·.1) ↔ k ∈ ks := by
    rw [e, List.mem_map]
    exact ⟨fun ⟨j, hj, ej⟩ => by injection ej with ej; rw [← ej]; exact hj, fun z => ⟨k, z, rfl⟩⟩
  by_cases h : k ∈ ks
  · refine ⟨ks, ?_, nd, fun m => ⟨.inl, fun z => z.elim id fun z => z ▸ h⟩, Nat.le_succ _⟩
    rw [keys_putIn _ (mi.2 h), e]
  · refine ⟨ks ++ [k], ?_, ?_, fun m => by simp, by simp⟩
    · rw [keys_putOut _ (fun z => h (mi.1 z)), e, List.map_append]
      rfl
    · exact List.nodup_append.mpr ⟨nd, by simp, fun a ha b hb => by rw [List.mem_singleton.mp hb]; exact fun z => h (z ▸ ha)⟩
theorem ints_item {xs : List Int} {i : Nat} {x : V} (h : (xs.map V.int)[i]? = some x) : ∃ y, xs[i]? = some y ∧ x = .int y := by
  rw [List.getElem?_map] at h
  obtain ⟨y, h1, h2⟩ := Option.map_eq_some_iff.mp h
  exact ⟨y, h1, h2.symm⟩
theorem lt_of_le_nodup : ∀ {ms : List Int}, ms.Pairwise (· ≤ ·) → ms.Nodup → ms.Pairwise (· < ·)
  | [], _, _ => .nil
  | m :: ms, h, d => by
    obtain ⟨h1, h2⟩ := List.pairwise_cons.mp h
    obtain ⟨d1, d2⟩ := List.nodup_cons.mp d
    refine List.pairwise_cons.mpr ⟨fun x hx => ?_, lt_of_le_nodup h2 d2⟩
    have a := h1 x hx
    have b : m ≠ x := fun z => d1 (z ▸ hx)
    omega
section
variable {P : Program} {w : World} {K : PySem.W.Frag} {mg : Str → Option Value} {base : Heap} {CW CT CU : Addr} {T : List (Addr × Str)}
def LapMs (U : Tab Int) (ms : List Int) : Prop := ms.Pairwise (· < ·) ∧ ∀ m, m ∈ ms ↔ (m = U.rest ∨ m = 0 ∨ m ∈ U.own.map (·.2)) ∧ 0 ≤ m
def sp_lapse (T : List (Addr × Str)) (K : PySem.W.Frag) (CW CT : Addr) : Sp := fun vs H Q _ => ∃ (a : Addr) (U : Tab Int), vs = [.ref a, .int 0] ∧ TillAt CT H a U ∧ U.own.length ≤ 8 ∧
  ∀ (H1 : Hp) (v : Addr) (rs : List (Addr × Int × Addr × WantD)) (ms : List Int), Gr T [] H H1 → SqT K H1 v (rs.map fun r => V.ref r.1) → LapsAt CW H1 rs → rs.map (fun r => (r.2.1, r.2.2.2)) = lapL U ms → LapMs U ms → Q (.ref v) H1
theorem sc_lapse : FnScope ["till", "begin", "moments", "name", "moment", "found", "want"] ["till", "begin"] (defScope s_lapse) := ⟨rfl, rfl, rfl, by decide +kernel, rfl, by decide +kernel, by decide +kernel⟩
theorem ok_lapse {f : Addr} {fd : FuncData} (F : FunD K "lapse" "lapse" (defArgs s_lapse) (defBody s_lapse) (defScope s_lapse) [] [("begin", .int 0)] f fd) (B : Fc K mg CW CT CU) (c1 : Cal P w K mg base 6 "wanted_at" (sp_wanted_at T CW CT) []) (c2 : Cal P w K mg base 5 "want_of" (sp_want_of T K CW) []) (m1 : Met P w K mg base 1 CW "__eq__" (sp_weq CW) []) :
    FnOk P w K mg base CX0 7 f fd ["till", "begin"] (sp_lapse T K CW CT) := by
  refine F.ok sc_lapse (fun vs H Q E h => ?_) (fun cdv A outer s H vs Q E hr h => ?_)
  · obtain ⟨a, U, rfl, _⟩ := h; rfl
  · obtain ⟨a, U, rfl, hU, l8, q⟩ := h
    have okN := sc_lapse.nd
    have hu : A.units + 3 + 1 < cLine := by have := hr.un; simp only [Around.deeper] at this; omega
    have hu0 : A.units + 3 < cLine := by omega
    refine ⟨_, PSs.nox (pss_cons (ps_set (i := 2) okN rfl (.inl rfl) (pe_disp (pps_cons (pe_fld (pv 0) rfl) pe_bl (pps_cons (pv 1) pe_bl pps_nil)) rfl rfl (by simp) (by decide)))
      (pss_cons (ps_for PassesOwn.never rfl (pi_tup (pe_fld (pv 0) rfl)) (pg_tup rfl (pgs_cons (pg_name (i := 3) okN rfl (.inl rfl)) (pgs_cons (pg_name (i := 4) okN rfl (.inl rfl)) pgs_nil)))
          (pss_one (ps_dput hu (pv 2) (pv 4) pe_bl rfl)))
      (pss_cons (ps_set (i := 5) okN rfl (.inl rfl) (pe_lst pa_nil))
      (pss_cons (ps_for PassesOwn.never rfl (pi_seq (pe_lc (own := [("moment", 4)]) rfl okN (pi_seq (pe_callB (call_sortedDI rfl) (by rfl) B.sorted boot_sorted_ (pa_cons (pv 2) pa_nil))) (blkOk_by (N := ["till", "begin", "moments", "name", "moment", "found", "want"]) (sc := defScope s_lapse) (by decide +kernel))
            (fun _ _ _ _ _ => pg_name (i := 4) okN rfl (.inl rfl)) (fun _ _ _ _ _ => pts_one (pt_cmpR op_ge (pv 4) (pv 1) (nomark _))) (fun _ _ _ _ _ => pv 4)))
          (pg_name (i := 4) okN rfl (.inl rfl))
          (pss_cons (ps_set (i := 6) okN rfl (.inl rfl) (pe_c c1 hr (Nat.le_refl _) (by rfl) (pa_cons (pv 0) (pa_cons (pv 4) pa_nil))))
          (pss_one (ps_if (pt_cmpR (op_neO m1 B.neW hr (by decide)) (pv 6) (pe_ifExp (pt_cmpR (op_neNil hu0) (pv 5) (pe_lst pa_nil) (nomark _)) (pe_ix ix_tup (pe_ix ix_list (pv 5) (pe_un un_neg pe_int) (fun _ _ => rfl)) pe_int (fun _ _ => rfl))
              (pe_c c2 hr (by decide) (by rfl) (pa_cons (pe_tup pa_nil) (pa_cons pe_bl pa_nil)))) (nomark _))
            (pss_one (ps_expr (pe_bm PySem.F.plainAttrs_list PySem.F.slot_list_append PySem.F.type_list_append mt_append (pv 5) (pa_cons (pe_tup (pa_cons (pv 4) (pa_cons (pv 6) pa_nil))) pa_nil)))) pss_nil))))
      (pss_one (ps_ret (pe_callTy call_tuple_of (by rfl) B.tuple boot_tuple_ (pa_cons (pv 5) pa_nil)))))))), ?_⟩
    obtain ⟨⟨uo, un⟩, u64, dx, p, d, bs, ub, hB, h1, h2, h3⟩ := id hU
    have lb : bs.length = U.own.length := by rw [← ub, List.length_map]
    intro D hD
    have gD : Gr T [] H (upd H D (.dK [])) := (Gr.refl H).new hD
    refine ⟨_, rfl, a, CT, dx, _, _, rfl, gD.ins h1, B.iT.cl, B.nT _ (by simp), rfl, _, rfl, upd_same, [(Sum.inl U.rest, V.bl true), (Sum.inl 0, V.bl true)], rfl, (by show 2 ≤ 15; decide), ?_⟩
    obtain ⟨k1, e1, n1, m1', l1⟩ := keys_put (kvs := []) (ks := []) (k := U.rest) (v := V.bl true) rfl .nil
    obtain ⟨k2, e2, n2, m2', l2⟩ := keys_put (k := 0) (v := V.bl true) e1 n1
    let H1 : Hp := upd (upd H D (.dK [])) D (.dK (putK (putK [] (Sum.inl U.rest) (V.bl true)) (Sum.inl 0) (V.bl true)))
    have g1 : Gr T [] H H1 := gD.put hD upd_same free_dK
    refine ⟨_, rfl, a, CT, dx, _, _, rfl, g1.ins h1, B.iT.cl, B.nT _ (by simp), rfl, p, rfl, ⟨_, SqT.of (g1.tup h2)⟩, ?_⟩
    refine for_seq (K := K) (seqIt_tup K p (bs.map fun b => V.ref b.1)) (fun i σ H' => ∃ (o3 o4 : Option V) (kvs : List (Key × V)) (ks : List Int), σ = [some (.ref a), some (.int 0), some (.ref D), o3, o4, none, none] ∧ H' D = some (.dK kvs) ∧ kvs.map (·.1) = ks.map Sum.inl ∧ ks.Nodup ∧ ks.length ≤ 2 + i ∧
        (∀ m, m ∈ ks ↔ m = U.rest ∨ m = 0 ∨ m ∈ (bs.take i).map fun b => b.2.2) ∧ Gr T [] H H')
      ⟨none, none, _, k2, rfl, upd_same, e2, n2, by simp only [List.length_nil] at l1; omega, fun m => by rw [m2', m1']; simp, g1⟩ (fun i σ H' _ e => ?_) (fun i v σ H' hv e => ?_) (fun σ H' e => ?_)
    · obtain ⟨o3, o4, kvs, ks, _, _, _, _, _, _, g⟩ := e
      exact SqT.of (g.tup h2)
    · obtain ⟨o3, o4, kvs, ks, rfl, hD', ek, nk, lk, mk, g⟩ := e
      obtain ⟨b, hb, ev⟩ := refs_item (f := fun b : Addr × Str × Int => b.1) hv
      have li : i < bs.length := (List.getElem?_eq_some_iff.mp hb).1
      refine ⟨b.1, _, ev, SqT.of (g.tup (hB b (List.mem_of_getElem? hb))), rfl, .str b.2.1, [.int b.2.2], rfl, .int b.2.2, [], rfl, rfl, ?_⟩
      obtain ⟨k3, e3, n3, m3, l3⟩ := keys_put (k := b.2.2) (v := V.bl true) ek nk
      have lkv : kvs.length = ks.length := by
        have z := congrArg List.length ek
        rw [List.length_map, List.length_map] at z
        exact z
      refine ⟨_, rfl, _, rfl, D, _, rfl, DPut.k (k := Sum.inl b.2.2) hD' (lt_line (by omega)), ?_⟩
      refine ⟨_, _, _, k3, rfl, upd_same, e3, n3, by omega, fun m => ?_, g.put hD hD' free_dK⟩
      rw [m3, mk, List.take_add_one, hb, List.map_append, List.mem_append]
      simp only [Option.toList_some, List.map_cons, List.map_nil, List.mem_singleton]
      constructor
      · rintro ((z | z | z) | z)
        · exact .inl z
        · exact .inr (.inl z)
        · exact .inr (.inr (.inl z))
        · exact .inr (.inr (.inr z))
      · rintro (z | z | z | z)
        · exact .inl (.inl z)
        · exact .inl (.inr (.inl z))
        · exact .inl (.inr (.inr z))
        · exact .inr z
    · obtain ⟨o3, o4, kvs, ks, rfl, hD', ek, nk, lk, mk, g2⟩ := e
      rw [List.length_map] at lk mk
      rw [List.take_of_length_le (Nat.le_refl _)] at mk
      refine ⟨le_line (by decide), fun Fl hF => ?_⟩
      let H2 : Hp := upd H' Fl (.lst [])
      have g3 : Gr T [] H H2 := g2.new hF
      have nDF : D ≠ Fl := ne_of_none hD' hF
      refine ⟨_, rfl, D, kvs, ks, rfl, .inl ((upd_ne nDF).trans hD'), ek, by omega, fun ys l pm so hl => ?_⟩
      let H3 : Hp := upd H2 l (.lst (ys.map V.int))
      have g4 : Gr T [] H H3 := g3.new hl
      refine ⟨l, _, rfl, .inl upd_same, fun J2 St2 sq2 hst2 C hC => ?_⟩
      have hst3 : ∀ H', Gr T [] H3 H' → St2 H' := fun H' z => hst2 T [] H' z List.not_mem_nil
      refine lc_seq sq2 (fun i acc H' => acc = ((ys.take i).filter fun m => decide (0 ≤ m)).map V.int ∧ Gr T [] H3 H') ⟨rfl, (Gr.refl H3).new hC⟩ (fun i acc H' _ e => hst3 H' e.2) (fun i v acc H' hv hla hD' ⟨e, gg⟩ => ?_) (fun acc H' hCa hla ⟨e, gg⟩ => ?_)
      · obtain ⟨y, hy, ev⟩ := ints_item hv
        have li : i < ys.length := (List.getElem?_eq_some_iff.mp hy).1
        have lys : ys.length ≤ 10 := by rw [pm.length_eq]; omega
        rw [ev]
        refine ⟨rfl, _, rfl, _, rfl, y, 0, rfl, rfl, _, rfl, ?_⟩
        have tk : ys.take (i + 1) = ys.take i ++ [y] := by rw [List.take_add_one, hy]; rfl
        cases hx : decide ((0 : Int) ≤ y) with
        | true =>
          refine iteT ⟨_, rfl, nx_add hD' hla (lt_line (by omega)) ⟨?_, gg.put hC hD' free_lst⟩⟩
          rw [tk, List.filter_append, List.map_append, e]
          simp [hx]
        | false =>
          refine iteF ⟨acc, by omega, hD', ?_, gg⟩
          rw [tk, List.filter_append, List.map_append, e]
          simp [hx]
      · rw [List.length_map, List.take_of_length_le (Nat.le_refl _)] at e
        obtain ⟨ms, ems⟩ : ∃ ms, ms = ys.filter fun m => decide ((0 : Int) ≤ m) := ⟨_, rfl⟩
        rw [← ems] at e
        rw [e] at hCa
        have lms : ms.length ≤ 10 := by
          rw [ems]
          exact Nat.le_trans (List.length_filter_le _ _) (by rw [pm.length_eq]; omega)
        have hms : LapMs U ms := by
          refine ⟨?_, fun m => ?_⟩
          · rw [ems]
            exact (lt_of_le_nodup so (pm.nodup_iff.mpr nk)).filter _
          · rw [ems, List.mem_filter, pm.mem_iff, mk, decide_eq_true_eq]
            have e5 : (bs.map fun b => b.2.2) = U.own.map (·.2) := by rw [← ub, List.map_map]; rfl
            rw [e5]
        have g5 := g4.trans gg
        have hF3 : H3 Fl = some (.lst []) := ((Gr.refl (T := T) (M := []) H2).new hl).lst upd_same List.not_mem_nil
        have hFH : H' Fl = some (.lst []) := gg.lst hF3 List.not_mem_nil
        have nCF : C ≠ Fl := (ne_of_none hF3 hC).symm
        refine ⟨C, _, rfl, .inl hCa, fun J3 St3 sq3 hst5 => ?_⟩
        refine for_seq sq3 (fun i σ Hx => ∃ (o3 o4 o6 : Option V) (rs : List (Addr × Int × Addr × WantD)), σ = [some (.ref a), some (.int 0), some (.ref D), o3, o4, some (.ref Fl), o6] ∧ Hx Fl = some (.lst (rs.map fun r => V.ref r.1)) ∧ LapsAt CW Hx rs ∧ rs.map (fun r => (r.2.1, r.2.2.2)) = lapL U (ms.take i) ∧ Gr T [] H Hx ∧ Gr T [Fl] H' Hx)
          ⟨_, _, _, [], rfl, hFH, (fun _ z => nomatch z), rfl, g5, Gr.refl H'⟩ (fun i σ Hx _ e => ?_) (fun i v σ Hx hv e => ?_) (fun σ Hx e => ?_)
        · obtain ⟨_, _, _, rs, _, _, _, _, _, g6⟩ := e
          exact hst5 T [Fl] Hx g6 (fun z => nCF (List.mem_singleton.mp z))
        · obtain ⟨o3, o4, o6, rs, rfl, hFx, hL, el, g6, g7⟩ := e
          obtain ⟨m, hm, ev⟩ := ints_item hv
          have li : i < ms.length := (List.getElem?_eq_some_iff.mp hm).1
          have lrs : rs.length ≤ i := by
            have z := congrArg List.length el
            have y := lapL_len U (ms.take i)
            rw [List.length_map] at z
            rw [List.length_take] at y
            omega
          have tk : ms.take (i + 1) = ms.take i ++ [m] := by rw [List.take_add_one, hm]; rfl
          rw [ev]
          refine ⟨_, rfl, _, rfl, a, m, U, rfl, hU.gr g6, fun H8 v W g8 hW hb hh _ => ?_⟩
          have eW : W = wantedD U m := wantedD_is uo hW.1.1 hb hh
          have g68 := g6.trans g8
          have hF8 : H8 Fl = some (.lst (rs.map fun r => V.ref r.1)) := g8.lst hFx List.not_mem_nil
          refine ⟨_, rfl, _, rfl, le_line (by decide), fun e0 he0 => ?_⟩
          have g9 : Gr T [] H8 (upd H8 e0 (.lst [])) := (Gr.refl H8).new he0
          refine ⟨Fl, e0, _, rfl, rfl, SqL.of (g9.lst hF8 List.not_mem_nil), SqL.of upd_same, _, rfl, ?_⟩
          refine if_to2 (fun y Hy => ∃ b, y = .ref b ∧ Gr T [] H8 Hy ∧ WantAt CW Hy b (lastW (lapL U (ms.take i)))) (fun hc R z => ?_) (fun hc R z => ?_) ?_
          · rcases List.eq_nil_or_concat rs with en | ⟨rs', b, en⟩
            · rw [en] at hc; cases hc
            · have hb' : b ∈ rs := by rw [en]; simp
              have z1 := (hL.gr (g8.trans g9)) b hb'
              refine ⟨_, rfl, 1, rfl, Fl, _, -1, .ref b.1, rfl, rfl, SqL.of (g9.lst hF8 List.not_mem_nil), ?_, b.1, _, 1, .ref b.2.2.1, rfl, rfl, SqT.of z1.1, rfl, z _ _ ⟨b.2.2.1, rfl, g9, ?_⟩⟩
              · rw [en, List.concat_eq_append, List.map_append]
                exact atI_last _ _
              · have e9 : lastW (lapL U (ms.take i)) = b.2.2.2 := by
                  rw [← el, en, List.concat_eq_append, List.map_append]
                  unfold lastW
                  simp
                rw [e9]
                exact z1.2
          · have en : rs = [] := by
              cases rs with
              | nil => rfl
              | cons r rs => cases hc
            refine ⟨le_line (by decide), fun t ht => ⟨t, false, [], rfl, .inr (SqT.of upd_same), (fun _ z => nomatch z), .nil, by decide, fun H10 v2 W2 g10 hW2 hb2 hp2 => z _ _ ⟨v2, rfl, (g9.new ht).trans g10, ?_⟩⟩⟩
            have e9 : lastW (lapL U (ms.take i)) = W2 := by
              rw [← el, en]
              have z3 := hp2.eq_nil
              cases W2
              simp only at hb2 z3
              rw [hb2, z3]
              rfl
            rw [e9]
            exact hW2
          · rintro y Hy ⟨b, rfl, g10, hWb⟩
            obtain ⟨_, _, dxv, pv, hv1, _⟩ := id (hW.gr g10)
            obtain ⟨_, _, dxb, pb, hb1, _⟩ := id hWb
            refine ⟨v, b, dxv, dxb, _, _, rfl, rfl, hv1, hb1, v, b, _, _, rfl, hW.gr g10, hWb, fun k hk => ⟨k, rfl, _, rfl, ?_⟩⟩
            have gz := g8.trans g10
            have g610 := g6.trans gz
            have hF10 := gz.lst hFx List.not_mem_nil
            cases k with
            | true =>
              have ew : W = lastW (lapL U (ms.take i)) := hk.1 rfl
              refine iteF ⟨_, _, _, rs, rfl, hF10, hL.gr gz, ?_, g610, g7.trans gz.mono⟩
              rw [tk, lapL_snoc, el]
              unfold lapStep
              rw [if_pos (eW.symm.trans ew)]
            | false =>
              have nw : ¬ W = lastW (lapL U (ms.take i)) := fun z => by have := hk.2 z; cases this
              refine iteT ⟨_, rfl, .inl ⟨rfl, _, SqL.of hF10⟩, _, rfl, _, rfl, le_line (by show 2 < 1000; decide), fun t ht => ?_⟩
              have hFt := ((Gr.refl (T := T) (M := []) Hy).new (o := .tup [.int m, .ref v]) ht).lst hF10 List.not_mem_nil
              have gt := g610.new (o := .tup [.int m, .ref v]) ht
              have nFt : Fl ≠ t := ne_of_none hF10 ht
              refine ⟨Fl, _, _, rfl, rfl, hFt, lt_line (by rw [List.length_map]; omega), ?_⟩
              have gfin : Gr T [Fl] Hy (upd (upd Hy t (.tup [.int m, .ref v])) Fl (.lst (rs.map (fun r => V.ref r.1) ++ [V.ref t]))) := ((Gr.refl Hy).new ht).putM (List.mem_singleton.mpr rfl) hFt ⟨_, hF10⟩
              have hWf := (hW.gr g10).gr gfin
              refine ⟨_, _, _, rs ++ [(t, m, v, W)], rfl, by rw [upd_same, List.map_append]; rfl, fun r hr => ?_, ?_, gr_put2 g2 hF gt hFt free_lst, (g7.trans gz.mono).trans gfin⟩
              · rcases List.mem_append.mp hr with hr | hr
                · exact ((hL.gr gz).gr gfin) r hr
                · rw [List.mem_singleton.mp hr]
                  exact ⟨by rw [upd_ne (Ne.symm nFt)]; exact upd_same, hWf⟩
              · rw [List.map_append, el, tk, lapL_snoc]
                unfold lapStep
                rw [if_neg (fun z => nw (eW.trans z)), eW]
                rfl
        · obtain ⟨o3, o4, o6, rs, rfl, hFx, hL, el, g6, g7⟩ := e
          rw [List.length_map, List.take_of_length_le (Nat.le_refl _)] at el
          refine ⟨_, rfl, Fl, _, rfl, .inl ⟨SqL.of hFx, fun t ht => ?_⟩⟩
          exact q _ t rs ms (g6.new ht) (SqT.of upd_same) (hL.gr ((Gr.refl (T := T) (M := []) Hx).new ht)) el hms
end
end KD
end

section
set_option Elab.async false
set_option linter.all false
set_option maxRecDepth 100000
set_option maxHeartbeats 4000000
/-! turns: bounds, making -/
namespace KD
open PySem PySem.Spec PyProof.Rows C8 LamX NdefX
open L2 hiding CX0 E0 pass0 Fun
theorem perm_lift {α β : Type} {f : α → β} : ∀ {l : List β} {bs : List α}, l.Perm (bs.map f) → ∃ cs : List α, cs.Perm bs ∧ cs.map f = l
  | [], bs, h => by
    have z := h.symm.eq_nil
    rw [List.map_eq_nil_iff] at z
    exact ⟨[], by rw [z], rfl⟩
  | x :: l, bs, h => by
    have hx : x ∈ bs.map f := h.mem_iff.mp List.mem_cons_self
    obtain ⟨b, hb, e⟩ := List.mem_map.mp hx
    obtain ⟨s, t, es⟩ := List.append_of_mem hb
    subst es
    rw [List.map_append, List.map_cons, e] at h
    have h2 : l.Perm ((s ++ t).map f) := by
      rw [List.map_append]
      exact (List.perm_cons x).mp (h.trans List.perm_middle)
    obtain ⟨cs, pc, ec⟩ := perm_lift h2
    exact ⟨b :: cs, (pc.cons b).trans List.perm_middle.symm, by rw [List.map_cons, e, ec]⟩
theorem sqT_upd {K : PySem.W.Frag} {H : Hp} {q x C dx : Addr} {xs : List V} {fs : List (Str × V)} {o : HO} (h : SqT K H q xs) (hx : H x = some (.ins C dx fs)) : SqT K (upd H x o) q xs := by
  rcases h with (z | ⟨ob, z⟩) | z
  · exact .inl (.inl ((upd_ne (fun e => by rw [e, hx] at z; cases z)).trans z))
  · exact .inl (.inr ⟨ob, (upd_ne (fun e => by rw [e, hx] at z; cases z)).trans z⟩)
  · exact .inr z
theorem seqV_upd {K : PySem.W.Frag} {H : Hp} {q x C dx : Addr} {xs : List V} {fs : List (Str × V)} {o : HO} (h : SeqV K H q xs) (hx : H x = some (.ins C dx fs)) : SeqV K (upd H x o) q xs := by
  rcases h with z | z
  · exact .inl ((upd_ne (fun e => by rw [e, hx] at z; cases z)).trans z)
  · exact .inr (sqT_upd z hx)
theorem sqT_ty {K : PySem.W.Frag} {H : Hp} {a : Addr} {xs : List V} (h : SqT K H a xs) : TyX K H (.ref a) (.type "tuple") := by
  rcases h with (h | ⟨o, h⟩) | ⟨o, its, n, h, c, _⟩
  · exact .base (.tup h)
  · exact .fTuple h
  · exact .kTuple h c
def optD : Option Int → PyData
  | none => .none
  | some h => .int h
def bdD (b : Bd) : PyData := .tuple [.int b.1, optD b.2]
theorem eqv_bd (a b : Bd) : PyData.eqv (bdD a) (bdD b) = decide (a = b) := by
  obtain ⟨a1, a2⟩ := a
  obtain ⟨b1, b2⟩ := b
  unfold bdD
  rw [Bool.eq_iff_iff]
  cases a2 <;> cases b2 <;> simp [PyData.eqv, PyData.eqvAll, optD]
theorem dp_bd {K : PySem.W.Frag} {H : Hp} {q : Addr} {b : Bd} (h : BdAt K H q b) : Dp K H (.ref q) (bdD b) := by
  obtain ⟨b1, b2⟩ := b
  cases b2 with
  | none => exact .tup h (.cons (.int _) (.cons .non .nil))
  | some z => exact .tup h (.cons (.int _) (.cons (.int _) .nil))
theorem shaped_bd (b : Bd) : SeqAt.shaped (bdD b) = true := by
  obtain ⟨b1, b2⟩ := b
  cases b2 <;> simp [bdD, optD, SeqAt.shaped, PyData.canLay0, PyData.canLayAll0, PyData.depth, PyData.depthAll]
section
variable {P : Program} {w : World} {K : PySem.W.Frag} {mg : Str → Option Value} {base : Heap} {CW CT CU : Addr} {T : List (Addr × Str)}
def sp_is_bounds (K : PySem.W.Frag) : Sp := fun vs H Q _ => ∃ (q : Addr) (b : Bd), vs = [.ref q] ∧ BdAt K H q b ∧ BdOk b ∧ Q (.bl true) H
theorem sc_is_bounds : FnScope ["thing"] ["thing"] (defScope s_is_bounds) := ⟨rfl, rfl, rfl, by decide +kernel, rfl, by decide +kernel, by decide +kernel⟩
theorem ok_is_bounds {f : Addr} {fd : FuncData} (F : FD K "is_bounds" "is_bounds" s_is_bounds f fd) (B : Fc K mg CW CT CU) (c1 : Cal P w K mg base 2 "is_moment" sp_is_moment []) : FnOk P w K mg base CX0 3 f fd ["thing"] (sp_is_bounds K) := by
  refine F.ok sc_is_bounds (fun vs H Q E h => ?_) (fun cdv A outer s H vs Q E hr h => ?_)
  · obtain ⟨q, b, rfl, _⟩ := h; rfl
  · obtain ⟨q, b, rfl, hb, ⟨o1, o2⟩, qq⟩ := h
    refine ⟨_, PSs.nox (pss_cons (ps_if (pw_or (pt_not (pt_val (pe_callB call_isi (by rfl) B.isi boot_isi (pa_cons (pv 0) (pa_cons (pe_bltn (v := .ty "tuple") (by rfl) B.tuple boot_tuple_ rfl) pa_nil)))))
        (pw_or (pt_cmpR op_ne (pe_callB call_len (by rfl) B.len boot_len_ (pa_cons (pv 0) pa_nil)) pe_int (nomark _))
        (pw_or1 (pt_not (pt_val (pe_c c1 hr (Nat.le_refl _) (by rfl) (pa_cons (pe_ix ix_tup (pv 0) pe_int (fun _ _ => rfl)) pa_nil))))))).pt pss_never pss_nil)
      (pss_one (ps_ret (pe_or (pe_cmpR op_isN (pe_ix ix_tup (pv 0) pe_int (fun _ _ => rfl)) pe_non (nomark _)) (pe_one (pe_and (pe_c c1 hr (Nat.le_refl _) (by rfl) (pa_cons (pe_ix ix_tup (pv 0) pe_int (fun _ _ => rfl)) pa_nil))
        (pe_one (pe_cmpR op_le (pe_ix ix_tup (pv 0) pe_int (fun _ _ => rfl)) (pe_ix ix_tup (pv 0) pe_int (fun _ _ => rfl)) (nomark _))))))))), ?_⟩
    obtain ⟨b1, b2⟩ := b
    refine ⟨_, rfl, _, .ty "tuple", .type "tuple", .type "tuple", true, rfl, .ty _, sqT_ty hb, kit_ty (by decide +kernel), true, rfl, iteF ?_⟩
    refine ⟨_, rfl, _, 2, rfl, .inr ⟨_, hb, rfl⟩, rfl, false, rfl, iteF ?_⟩
    refine ⟨_, rfl, q, _, 0, .int b1, rfl, rfl, hb, rfl, b1, rfl, o1, true, rfl, iteF ?_⟩
    refine ⟨_, rfl, q, _, 1, optV b2, rfl, rfl, hb, rfl, rfl, ?_⟩
    cases b2 with
    | none => exact ⟨_, rfl, iteT qq⟩
    | some z =>
      have lz : b1 ≤ z := o2 z rfl
      refine ⟨_, rfl, iteF ?_⟩
      have o1' : 0 ≤ b1 := o1
      refine ⟨_, rfl, q, _, 1, .int z, rfl, rfl, hb, rfl, z, rfl, by omega, true, rfl, iteT ?_⟩
      refine ⟨_, rfl, q, _, 0, .int b1, rfl, rfl, hb, rfl, _, rfl, q, _, 1, .int z, rfl, rfl, hb, rfl, b1, z, rfl, rfl, ?_⟩
      show Q (.bl (decide (b1 ≤ z))) H
      rw [decide_eq_true lz]
      exact qq
def fsU (r p d : Addr) : List (Str × V) := [("rest", .ref r), ("own", .ref p), ("known", .ref d)]
theorem fsU_put {fs : List (Str × V)} (h : fs = [] ∨ ∃ r p d, fs = fsU r p d) (r p d : Addr) : fs.length < 1000 ∧ (putF (Str.ofString "rest") (V.ref r) fs).length < 1000 ∧ (putF (Str.ofString "own") (V.ref p) (putF (Str.ofString "rest") (V.ref r) fs)).length < 1000 ∧
    putF (Str.ofString "known") (V.ref d) (putF (Str.ofString "own") (V.ref p) (putF (Str.ofString "rest") (V.ref r) fs)) = fsU r p d ∧ (putF (Str.ofString "own") (V.ref p) (putF (Str.ofString "rest") (V.ref r) fs)).lookup (Str.ofString "own") = some (V.ref p) := by
  rcases h with e | ⟨r', p', d', e⟩
  · rw [e]
    exact ⟨by decide, by show 1 < 1000; decide, by show 2 < 1000; decide, rfl, rfl⟩
  · rw [e]
    exact ⟨by show 3 < 1000; decide, by show 3 < 1000; decide, by show 3 < 1000; decide, rfl, rfl⟩
abbrev Bow := Addr × Str × Addr × Bd
def dKu (cs : List Bow) : List (Key × V) := cs.map fun b => (Sum.inr b.2.1, V.ref b.2.2.1)
def sp_set_turn (T : List (Addr × Str)) (K : PySem.W.Frag) (CU : Addr) : Sp := fun vs H Q _ => ∃ (x r a dx : Addr) (b : Bd) (L : List Bow) (fs : List (Str × V)), vs = [.ref x, .ref r, .ref a] ∧ Tabs T H ∧ H x = some (.ins CU dx fs) ∧ (fs = [] ∨ ∃ r p d, fs = fsU r p d) ∧ BdAt K H r b ∧ SeqV K H a (L.map fun b => V.ref b.1) ∧ BowsAt K H L ∧ (L.map fun b => b.2.1).Nodup ∧ L.length < 61 ∧
  ∀ (H1 : Hp) (p d : Addr) (cs : List Bow), Gr T [] H H1 → H1 p = some (.tup (cs.map fun b => V.ref b.1)) → H1 d = some (.dK (dKu cs)) → BowsAt K H1 cs → cs.Perm (L.filter fun c => decide (c.2.2.2 ≠ b)) → (cs.map fun b => b.2.1).Pairwise SLt →
    Q .non (upd H1 x (.ins CU dx (fsU r p d)))
theorem sc_set_turn : FnScope ["self", "rest", "own", "pair", "name", "bounds"] ["self", "rest", "own"] (defScope s_Turn_set_turn) := ⟨rfl, rfl, rfl, by decide +kernel, rfl, by decide +kernel, by decide +kernel⟩
theorem bows_upd {H : Hp} {x C dx : Addr} {fs : List (Str × V)} {o : HO} {L : List Bow} (h : BowsAt K H L) (hx : H x = some (.ins C dx fs)) : BowsAt K (upd H x o) L := fun b hb =>
  ⟨(upd_ne (fun e => by have z := (h b hb).1; rw [e, hx] at z; cases z)).trans (h b hb).1, sqT_upd (h b hb).2 hx⟩
theorem ok_set_turn {f : Addr} {fd : FuncData} (F : FD K "set_turn" "Turn.set_turn" s_Turn_set_turn f fd) (Lm : LamT mg base T "Turn.set_turn" fd) (B : Fc K mg CW CT CU) : FnOk P w K mg base CX0 1 f fd ["self", "rest", "own"] (sp_set_turn T K CU) := by
  refine okC F sc_set_turn (fun vs H Q E h => ?_) (fun c A outer s H vs Q E hcode hr h => ?_)
  · obtain ⟨x, r, a, dx, b, L, fs, rfl, _⟩ := h; rfl
  · obtain ⟨x, r, a, dx, b, L, fs, rfl, hT, hx, hfs, hb, hS, hR, nd, l60, q⟩ := h
    obtain ⟨C0, P0, TB, hm, hum, hc⟩ := Lm.ex
    have ec : c = C0 := hc c hcode
    subst ec
    have okN := sc_set_turn.nd
    have hu : A.units + 3 + 8 < cLine := by have := hr.un; simp only [Around.deeper] at this; omega
    have hu64 : A.units + 3 + 64 < cLine := by have := hr.un; simp only [Around.deeper] at this; omega
    have hdp : A.depth + 1 < recursionLimit := by have := hr.dp; simp only [Around.deeper] at this; omega
    refine ⟨_, PSs.nox (pss_cons (ps_fld (pv 0) (pv 1) rfl)
      (pss_cons (ps_fld (pv 0) (pe_callTy call_tuple_of (by rfl) B.tuple boot_tuple_ (pa_cons (pe_callBK (cr_sortKey hu hdp) (by rfl) B.sorted boot_sorted_ (pa_cons (pe_lc (own := [("pair", 3)]) rfl okN (pi_seq (pv 2)) (blkOk_by (N := ["self", "rest", "own", "pair", "name", "bounds"]) (sc := defScope s_Turn_set_turn) (by decide +kernel))
          (fun _ _ _ _ _ => pg_name (i := 3) okN rfl (.inl rfl)) (fun _ _ _ _ _ => pts_one (pt_cmpR (op_neDK K rfl hu64) (pe_ix (ix_tupK K rfl) (pv 3) pe_int (fun _ _ => rfl)) (pv 1) (nomark _)))
          (fun _ _ _ _ _ => pv 3)) pa_nil) (pk_cons (pe_lambda (T := T) TB rfl hm hum rfl (free_by (sc := defScope s_Turn_set_turn) (by decide +kernel))) pk_nil)) pa_nil)) rfl)
      (pss_one (ps_fld (pv 0) (pe_dc (own := [("name", 4), ("bounds", 5)]) rfl okN (pi_tup (pe_fld (pv 0) rfl)) (blkOk_by (N := ["self", "rest", "own", "pair", "name", "bounds"]) (sc := defScope s_Turn_set_turn) (by decide +kernel))
          (fun _ _ _ _ _ => pg_tupK K 2 rfl rfl (pgs_cons (pg_name (i := 4) okN rfl (.inl rfl)) (pgs_cons (pg_name (i := 5) okN rfl (.inl rfl)) pgs_nil))) (fun _ _ _ _ _ => pts_nil) (fun _ _ _ _ _ => pv 4) (fun _ _ _ _ _ => pv 5)) rfl)))), ?_⟩
    obtain ⟨z1, z2, z3, z4, z5⟩ := fsU_put hfs r 0 0
    refine ⟨_, rfl, _, rfl, x, CU, dx, fs, rfl, hx, B.clU, B.nU _ (by simp), z1, ?_⟩
    obtain ⟨f1, e1'⟩ : ∃ f1, f1 = putF (Str.ofString "rest") (V.ref r) fs := ⟨_, rfl⟩
    obtain ⟨Ha, eHa⟩ : ∃ Ha, Ha = upd H x (.ins CU dx f1) := ⟨_, rfl⟩
    rw [← e1', ← eHa]
    have hxa : Ha x = some (.ins CU dx f1) := by rw [eHa]; exact upd_same
    have gA : ∀ Hf, Gr T [] Ha Hf → Gr T [] H (upd Hf x (.ins CU dx fs)) := fun Hf g => by rw [eHa] at g; exact g.around hx
    have hTa : Tabs T Ha := by rw [eHa]; exact tabs_put hT hx free_ins
    have hba : BdAt K Ha r b := by rw [eHa]; exact sqT_upd hb hx
    have hSa : SeqV K Ha a (L.map fun b => V.ref b.1) := by rw [eHa]; exact seqV_upd hS hx
    have hRa : BowsAt K Ha L := by rw [eHa]; exact bows_upd hR hx
    refine ⟨_, rfl, a, _, rfl, hSa, fun J St sq hst D hD => ?_⟩
    refine lc_seq sq (fun i acc H' => acc = (((L.take i).filter fun c => decide (c.2.2.2 ≠ b)).map fun c => V.ref c.1) ∧ Gr T [] Ha H') ⟨rfl, (Gr.refl Ha).new hD⟩
      (fun i acc H' _ e => hst T [] H' e.2 List.not_mem_nil) (fun i v acc H' hv hl hD' ⟨e1, g⟩ => ?_) (fun acc H' hD' hl ⟨e1, g⟩ => ?_)
    · obtain ⟨c, hcx, ev⟩ := refs_item (f := fun b : Bow => b.1) hv
      have li : i < L.length := (List.getElem?_eq_some_iff.mp hcx).1
      have hR2 := (hRa.gr g) c (List.mem_of_getElem? hcx)
      refine ⟨rfl, v, rfl, c.1, _, 1, .ref c.2.2.1, ev, rfl, SqT.of hR2.1, rfl, _, rfl, _, _, dp_bd hR2.2, dp_bd (hba.gr g), shaped_bd _, shaped_bd _, _, rfl, ?_⟩
      rw [eqv_bd]
      have tk : L.take (i + 1) = L.take i ++ [c] := by rw [List.take_add_one, hcx]; rfl
      by_cases hn : c.2.2.2 = b
      · rw [decide_eq_true hn]
        refine iteF ⟨acc, by omega, hD', ?_, g⟩
        rw [tk, List.filter_append, e1]
        simp [hn]
      · rw [decide_eq_false hn]
        refine iteT ⟨_, rfl, nx_add hD' hl (lt_line (by omega)) ⟨?_, g.put hD hD' free_lst⟩⟩
        rw [tk, List.filter_append, List.map_append, e1, ev]
        simp [hn]
    · rw [List.length_map, List.take_of_length_le (Nat.le_refl _)] at e1
      obtain ⟨es, ees⟩ : ∃ es, es = L.filter fun c => decide (c.2.2.2 ≠ b) := ⟨_, rfl⟩
      rw [← ees] at e1
      have les : es.length ≤ L.length := by rw [ees]; exact List.length_filter_le _ _
      have nde : (es.map fun b => b.2.1).Nodup := by
        rw [ees]
        exact nd.sublist (List.filter_sublist.map _)
      have hes : BowsAt K H' es := fun c hc => (hRa.gr g) c (by rw [ees] at hc; exact (List.mem_filter.mp hc).1)
      refine ⟨g.tabs hTa, fun lf c' H1 x1 t1 hf hc' => ?_⟩
      have g1 : Gr T [] H' H1 := Gr.of_extN x1 fun _ => t1
      refine ⟨D, lf, es.map fun c => (c.1, c.2.1), _, _, "pair", rfl, rfl, SqL.of (by rw [List.map_map]; exact (g1.lst hD' List.not_mem_nil).trans (by rw [e1]; rfl)), fun c hc => ?_, by rw [List.map_map]; exact nde, by rw [List.length_map]; omega, hf, hc', ⟨rfl, nsc_of rfl (sc' := lamSc [("pair", .local)]) (by decide +kernel), fun _ _ _ => rfl, ⟨_, _, _, _, rfl⟩, by decide⟩, fun cs0 l pm0 so0 hl => ?_⟩
      · obtain ⟨c2, hc2, rfl⟩ := List.mem_map.mp hc
        exact ⟨_, SqT.of (g1.tup (hes c2 hc2).1)⟩
      obtain ⟨cs, pm, ecs⟩ := perm_lift pm0
      have so : (cs.map fun b => b.2.1).Pairwise SLt := by
        rw [← ecs, List.map_map] at so0
        exact so0
      have er : cs0.map (fun b => V.ref b.1) = cs.map fun b => V.ref b.1 := by rw [← ecs, List.map_map]; rfl
      rw [er]
      have e3c : BowsAt K H1 cs := fun b hb => (hes.gr g1) b (pm.mem_iff.mp hb)
      refine ⟨l, _, rfl, .inl ⟨SqL.of upd_same, fun p hp => ?_⟩⟩
      obtain ⟨H3, eH3⟩ : ∃ H3, H3 = upd (upd H1 l (.lst (cs.map fun b => V.ref b.1))) p (.tup (cs.map fun b => V.ref b.1)) := ⟨_, rfl⟩
      rw [← eH3]
      have hp3 : H3 p = some (.tup (cs.map fun b => V.ref b.1)) := by rw [eH3]; exact upd_same
      have gL : Gr T [] H1 H3 := by rw [eH3]; exact ((Gr.refl H1).new hl).new hp
      have e3d := e3c.gr gL
      have g3 : Gr T [] Ha H3 := (g.trans g1).trans gL
      have hx3 := g3.ins hxa
      obtain ⟨y1, y2, y3, y4, y5⟩ := fsU_put hfs r p 0
      refine ⟨_, rfl, x, CU, dx, f1, rfl, hx3, B.clU, B.nU _ (by simp), by rw [e1']; exact y2, ?_⟩
      obtain ⟨f2, e2'⟩ : ∃ f2, f2 = putF (Str.ofString "own") (V.ref p) f1 := ⟨_, rfl⟩
      obtain ⟨H4, eH4⟩ : ∃ H4, H4 = upd H3 x (.ins CU dx f2) := ⟨_, rfl⟩
      rw [← e2', ← eH4]
      have npx : p ≠ x := fun e => by rw [e, hx3] at hp3; cases hp3
      have hp4 : H4 p = some (.tup (cs.map fun b => V.ref b.1)) := by rw [eH4, upd_ne npx]; exact hp3
      have e3x : BowsAt K H4 cs := by rw [eH4]; exact bows_upd e3d hx3
      have hx4 : H4 x = some (.ins CU dx f2) := by rw [eH4]; exact upd_same
      refine ⟨_, rfl, x, CU, dx, f2, _, rfl, hx4, B.clU, B.nU _ (by simp), by rw [e2', e1']; exact y5, p, rfl, ⟨_, SqT.of hp4⟩, fun d hd => ?_⟩
      refine dc_tup (K := K) (a := p) (xs := cs.map fun b => V.ref b.1) (fun i H' => H' = upd H4 d (.dK (dKu (cs.take i)))) rfl (fun i H' _ e => SqT.of (by rw [e, upd_ne (ne_of_none hp4 hd)]; exact hp4)) (fun i v H' hv e => ?_) (fun H' e => ?_)
      · obtain ⟨b, hb, ev⟩ := refs_item (f := fun b : Bow => b.1) hv
        have hz := (e3x b (List.mem_of_getElem? hb)).1
        have li : i < cs.length := (List.getElem?_eq_some_iff.mp hb).1
        refine ⟨b.1, _, ev, SqT.of (by rw [e, upd_ne (ne_of_none hz hd)]; exact hz), rfl, .str b.2.1, [.ref b.2.2.1], rfl, .ref b.2.2.1, [], rfl, rfl, rfl, yes_if ?_⟩
        refine ⟨.str b.2.1, rfl, .ref b.2.2.1, rfl, dKu (cs.take i), Sum.inr b.2.1, rfl, by rw [e]; exact upd_same, ?_, ?_⟩
        · have z := List.length_take_le' i cs
          have z2 := pm.length_eq
          unfold dKu
          rw [List.length_map, sizeLine_eq]
          omega
        · rw [e, upd_upd]
          have nk : (Sum.inr b.2.1 : Key) ∉ (dKu (cs.take i)).map (·.1) := fun z => by
            unfold dKu at z
            rw [List.map_map] at z
            obtain ⟨b2, hb2, e2⟩ := List.mem_map.mp z
            have e2 : (Sum.inr b2.2.1 : Key) = Sum.inr b.2.1 := e2
            injection e2 with e2
            have nds := slt_nodup so
            obtain ⟨j, hj⟩ := List.mem_iff_getElem?.mp hb2
            rw [List.getElem?_take] at hj
            split at hj
            · rename_i hji
              have a1 : (cs.map fun b => b.2.1)[j]? = some b2.2.1 := by rw [List.getElem?_map, hj]; rfl
              have a2 : (cs.map fun b => b.2.1)[i]? = some b2.2.1 := by rw [List.getElem?_map, hb, e2]; rfl
              have z3 := nodup_ix nds a1 a2
              omega
            · cases hj
          rw [putK_new nk]
          congr 2
          unfold dKu
          rw [List.take_add_one, hb, List.map_append]
          rfl
      · rw [List.length_map, List.take_of_length_le (Nat.le_refl _)] at e
        refine ⟨_, rfl, x, CU, dx, f2, rfl, by rw [e, upd_ne (ne_of_none hx4 hd)]; exact hx4, B.clU, B.nU _ (by simp), by rw [e2', e1']; exact y3, ?_⟩
        have hd3 : H3 d = none := by
          have z := hd
          rw [eH4, upd_ne (ne_of_none hx4 hd).symm] at z
          exact z
        have hdx : d ≠ x := fun z => by rw [z, hx4] at hd; cases hd
        have eF : H' = upd (upd H3 d (.dK (dKu cs))) x (.ins CU dx f2) := by
          rw [e, eH4]
          funext b
          by_cases h1 : b = d
          · rw [h1, upd_same, upd_ne hdx, upd_same]
          · by_cases h2 : b = x
            · rw [h2, upd_ne (Ne.symm hdx), upd_same, upd_same]
            · rw [upd_ne h1, upd_ne h2, upd_ne h2, upd_ne h1]
        have gF := g3.new (o := .dK (dKu cs)) hd3
        have gd := (Gr.refl (T := T) (M := []) H3).new (o := .dK (dKu cs)) hd3
        have goal := q _ p d cs (gA _ gF) (by rw [upd_ne npx, upd_ne (ne_of_none hp3 hd3)]; exact hp3) (by rw [upd_ne hdx]; exact upd_same) (bows_upd (e3d.gr gd) (gd.ins hx3)) (by rw [← ees]; exact pm) so
        rw [upd_upd] at goal
        obtain ⟨_, _, _, w4, _⟩ := fsU_put hfs r p d
        rw [eF, upd_upd, e2', e1', w4]
        exact goal
end
end KD
end

section
set_option Elab.async false
set_option linter.all false
set_option maxRecDepth 100000
set_option maxHeartbeats 4000000
/-! turns made and asked -/
namespace KD
open PySem PySem.Spec PyProof.Rows C8 LamX NdefX
open L2 hiding CX0 E0 pass0 Fun
section
variable {P : Program} {w : World} {K : PySem.W.Frag} {mg : Str → Option Value} {base : Heap} {CW CT CU : Addr} {T : List (Addr × Str)}
/-- Turn(): nothing of one's own is given -/
def sp_Turn (T : List (Addr × Str)) (K : PySem.W.Frag) (CU : Addr) : Sp := fun vs H Q _ => ∃ (x r a dx : Addr) (b : Bd), vs = [.ref x, .ref r, .ref a] ∧ Tabs T H ∧ H x = some (.ins CU dx []) ∧ BdAt K H r b ∧ BdOk b ∧ SqT K H a [] ∧
  ∀ (H1 : Hp) (p d : Addr), Gr T [] H H1 → H1 p = some (.tup []) → H1 d = some (.dK []) → Q .non (upd H1 x (.ins CU dx (fsU r p d)))
theorem sc_Turn : FnScope ["self", "rest", "own", "pair"] ["self", "rest", "own"] (defScope s_Turn_init) := ⟨rfl, rfl, rfl, by decide +kernel, rfl, by decide +kernel, by decide +kernel⟩
theorem ok_Turn {aF dU : Addr} {f : Addr} {fd : FuncData} (F : FunD K "__init__" "Turn.__init__" (defArgs s_Turn_init) (defBody s_Turn_init) (defScope s_Turn_init) [.ref aF] [("own", .ref dU)] f fd) (B : Fc K mg CW CT CU)
    (c0 : Cal P w K mg base 3 "is_bounds" (sp_is_bounds K) []) (c2 : Cal P w K mg base 2 "are_pairs" (sp_are_pairs T K) []) (m1 : Met P w K mg base 1 CU "set_turn" (sp_set_turn T K CU) []) : FnOk P w K mg base CX0 4 f fd ["self", "rest", "own"] (sp_Turn T K CU) := by
  refine F.ok sc_Turn (fun vs H Q E h => ?_) (fun cdv A outer s H vs Q E hr h => ?_)
  · obtain ⟨x, r, a, dx, b, rfl, _⟩ := h; rfl
  · obtain ⟨x, r, a, dx, b, rfl, hT, hx, hb, bo, hS, q⟩ := h
    have okN := sc_Turn.nd
    refine ⟨_, PSs.nox (pss_cons (ps_if (pw_or (pt_not (pt_val (pe_c c0 hr (Nat.le_refl _) (by rfl) (pa_cons (pv 1) pa_nil))))
        (pw_or (pt_not (pt_val (pe_c c2 hr (by decide) (by rfl) (pa_cons (pv 2) pa_nil))))
        (pw_or1 (pt_not (pt_val (pe_callB (cr_all rfl) (by rfl) B.all boot_all_ (pa_cons (pe_lc (own := [("pair", 3)]) rfl okN (pi_seq (pv 2)) (blkOk_by (N := ["self", "rest", "own", "pair"]) (sc := defScope s_Turn_init) (by decide +kernel)) (fun _ _ _ _ _ => pg_name (i := 3) okN rfl (.inl rfl)) (fun _ _ _ _ _ => pts_nil)
          (fun _ _ _ _ _ => pe_c c0 hr (Nat.le_refl _) (by rfl) (pa_cons (pe_ix (ix_tupK K rfl) (pv 3) pe_int (fun _ _ => rfl)) pa_nil))) pa_nil))))))).pt pss_never pss_nil)
      (pss_one (ps_expr (pe_mt m1 hr (by decide) (pv 0) (pa_cons (pv 1) (pa_cons (pv 2) pa_nil)))))), ?_⟩
    refine ⟨_, rfl, r, b, rfl, hb, bo, true, rfl, iteF ?_⟩
    refine ⟨_, rfl, a, [], rfl, .inr hS, (fun _ z => nomatch z), (fun _ z => nomatch z), .nil, by decide, fun H1 g1 => ⟨true, rfl, iteF ?_⟩⟩
    refine ⟨_, rfl, a, [], rfl, .inr (g1.sqT hS), fun J St sq hst D hD => ?_⟩
    refine lc_seq sq (fun i acc H' => acc = [] ∧ Gr T [] H1 H') ⟨rfl, (Gr.refl H1).new hD⟩ (fun i acc H' _ e => hst T [] H' e.2 List.not_mem_nil) (fun i v acc H' hv hl hD' ⟨e, g⟩ => by simp at hv) (fun acc H' hD' hl ⟨e, g⟩ => ?_)
    refine ⟨D, [], rfl, SqL.of (by rw [hD', e]; rfl), true, rfl, iteF ?_⟩
    have g2 := g1.trans g
    refine ⟨_, rfl, x, dx, _, rfl, g2.ins hx, rfl, _, rfl, _, rfl, x, r, a, dx, b, [], [], rfl, g2.tabs hT, g2.ins hx, .inl rfl, hb.gr g2, .inr (g2.sqT hS), (fun _ z => nomatch z), .nil, by decide, fun H2 p d cs g3 hp hd hc pm so => ?_⟩
    have ec : cs = [] := pm.eq_nil
    subst ec
    exact q H2 p d (g2.trans g3) hp hd
def bowP (c : Bow) : Str × Bd := (c.2.1, c.2.2.2)
theorem turn_made {H1 : Hp} {x dx p d r : Addr} {b : Bd} {L cs : List Bow} {fs : List (Str × V)} (hx : H1 x = some (.ins CU dx fs)) (hp : H1 p = some (.tup (cs.map fun b => V.ref b.1))) (hd : H1 d = some (.dK (dKu cs))) (hc : BowsAt K H1 cs) (hr : BdAt K H1 r b) (bo : BdOk b) (lo : ∀ c ∈ L, BdOk c.2.2.2)
    (pm : cs.Perm (L.filter fun c => decide (c.2.2.2 ≠ b))) (so : (cs.map fun b => b.2.1).Pairwise SLt) (nd : (L.map fun b => b.2.1).Nodup) (nm : ∀ b ∈ L, Nm b.2.1) (l : L.length < 61) :
    TurnAt K CU (upd H1 x (.ins CU dx (fsU r p d))) x ⟨b, cs.map bowP⟩ ∧ ∀ y, (Tab.mk b (cs.map bowP)).at y = ((L.map bowP).lookup y).getD b := by
  have nd2 : ((L.map bowP).map (·.1)).Nodup := by rw [List.map_map]; exact nd
  have so2 : ((cs.map bowP).map (·.1)).Pairwise SLt := by rw [List.map_map]; exact so
  have pm2 : (cs.map bowP).Perm ((L.map bowP).filter fun q => decide (q.2 ≠ b)) := by
    rw [List.filter_map]
    exact pm.map bowP
  obtain ⟨o1, o2⟩ := tab_made nd2 pm2 so2
  have inL : ∀ c ∈ cs, c ∈ L := fun c hc => (List.mem_filter.mp (pm.mem_iff.mp hc)).1
  refine ⟨⟨⟨o1, fun q hq => ?_⟩, ?_, ⟨bo, fun q hq => ?_⟩, dx, r, p, d, cs, rfl, bows_upd hc hx, sqT_upd hr hx, upd_same, ?_, ?_⟩, o2⟩
  · obtain ⟨c, hc, rfl⟩ := List.mem_map.mp hq
    exact nm c (inL c hc)
  · have z := pm.length_eq
    have z2 := List.length_filter_le (fun c : Bow => decide (c.2.2.2 ≠ b)) L
    show (cs.map bowP).length < 64
    rw [List.length_map]
    omega
  · obtain ⟨c, hc, rfl⟩ := List.mem_map.mp hq
    exact lo c (inL c hc)
  · rw [upd_ne (fun e => by rw [e, hx] at hp; cases hp)]; exact hp
  · rw [upd_ne (fun e => by rw [e, hx] at hd; cases hd), hd]
    rfl
def sp_turn_of (T : List (Addr × Str)) (K : PySem.W.Frag) (CU : Addr) : Sp := fun vs H Q _ => ∃ (r a : Addr) (b : Bd) (L : List Bow), vs = [.ref r, .ref a] ∧ Tabs T H ∧ BdAt K H r b ∧ BdOk b ∧ SeqV K H a (L.map fun b => V.ref b.1) ∧ BowsAt K H L ∧ (∀ b ∈ L, Nm b.2.1) ∧ (∀ c ∈ L, BdOk c.2.2.2) ∧ (L.map fun b => b.2.1).Nodup ∧ L.length < 61 ∧
  ∀ (H1 : Hp) (v : Addr) (U : Tab Bd), Gr T [] H H1 → TurnAt K CU H1 v U → U.rest = b → (∀ x, U.at x = ((L.map bowP).lookup x).getD b) → Q (.ref v) H1
theorem sc_turn_of : FnScope ["rest", "own", "found"] ["rest", "own"] (defScope s_turn_of) := ⟨rfl, rfl, rfl, by decide +kernel, rfl, by decide +kernel, by decide +kernel⟩
theorem ok_turn_of {aF dU : Addr} {f : Addr} {fd : FuncData} (F : FD K "turn_of" "turn_of" s_turn_of f fd) (B : Fc K mg CW CT CU) (hF : ∀ H : Hp, SqT K H aF [.int 0, .non]) (hdU : ∀ H : Hp, SqT K H dU [])
    (c1 : MkK P w K mg base 4 "Turn" CU 0 [] (sp_Turn T K CU) (fun vs _ => vs ++ [.ref aF, .ref dU])) (m1 : Met P w K mg base 1 CU "set_turn" (sp_set_turn T K CU) []) : FnOk P w K mg base CX0 6 f fd ["rest", "own"] (sp_turn_of T K CU) := by
  refine F.ok sc_turn_of (fun vs H Q E h => ?_) (fun cdv A outer s H vs Q E hr h => ?_)
  · obtain ⟨r, a, b, L, rfl, _⟩ := h; rfl
  · obtain ⟨r, a, b, L, rfl, hT, hb, bo, hS, hR, nm, lo, nd, l60, q⟩ := h
    refine ⟨_, PSs.nox (pss_cons (ps_set (i := 2) sc_turn_of.nd rfl (.inl rfl) (pe_mkK0 c1 hr (by decide) (by rfl) pk_nil))
      (pss_cons (ps_expr (pe_mt m1 hr (by decide) (pv 2) (pa_cons (pv 0) (pa_cons (pv 1) pa_nil)))) (pss_one (ps_ret (pv 2))))), ?_⟩
    refine ⟨rfl, rfl, fun x dx hx hdx hne => ?_⟩
    have hx' : upd H dx (.own x) x = none := (upd_ne (Ne.symm hne)).trans hx
    have g0 : Gr T [] H (upd (upd H dx (.own x)) x (.ins CU dx [])) := ((Gr.refl H).new hdx).new hx'
    refine ⟨x, aF, dU, dx, (0, none), rfl, g0.tabs hT, upd_same, hF _, ⟨by decide, fun _ z => nomatch z⟩, hdU _, fun H1 p d g1 hp hd => ⟨rfl, ?_⟩⟩
    have i1 : H1 x = some (.ins CU dx []) := g1.ins upd_same
    have g2 : Gr T [] H (upd H1 x (.ins CU dx (fsU aF p d))) := (g0.trans g1).put hx i1 free_ins
    refine ⟨_, rfl, x, dx, _, rfl, upd_same, rfl, _, rfl, _, rfl, x, r, a, dx, b, L, _, rfl, g2.tabs hT, upd_same, .inr ⟨aF, p, d, rfl⟩, hb.gr g2, hS.gr g2 List.not_mem_nil, hR.gr g2, nd, l60, fun H3 p3 d3 cs3 g4 hp3 hd3 hc3 pm3 so3 => ?_⟩
    have i3 := g4.ins (upd_same (H := H1) (a := x) (o := .ins CU dx (fsU aF p d)))
    obtain ⟨o1, o2⟩ := turn_made i3 hp3 hd3 hc3 (hb.gr (g2.trans g4)) bo lo pm3 so3 nd nm l60
    exact ⟨_, rfl, q _ x _ ((g2.trans g4).put hx i3 free_ins) o1 rfl o2⟩
def sp_bounds_of (K : PySem.W.Frag) (CU : Addr) : Sp := fun vs H Q _ => ∃ (a : Addr) (U : Tab Bd) (x : Str), vs = [.ref a, .str x] ∧ TurnAt K CU H a U ∧ ∀ q, BdAt K H q (U.at x) → Q (.ref q) H
theorem sc_bounds_of : FnScope ["self", "sender"] ["self", "sender"] (defScope s_Turn_bounds_of) := ⟨rfl, rfl, rfl, by decide +kernel, rfl, by decide +kernel, by decide +kernel⟩
theorem ok_bounds_of {f : Addr} {fd : FuncData} (F : FD K "bounds_of" "Turn.bounds_of" s_Turn_bounds_of f fd) (B : Fc K mg CW CT CU) : FnOk P w K mg base CX0 1 f fd ["self", "sender"] (sp_bounds_of K CU) := by
  refine F.ok sc_bounds_of (fun vs H Q E h => ?_) (fun cdv A outer s H vs Q E hr h => ?_)
  · obtain ⟨a, U, x, rfl, _⟩ := h; rfl
  · obtain ⟨a, U, x, rfl, ⟨⟨uo, _⟩, _, _, dx, r, p, d, bs, ub, hB, hr0, h1, _, h2⟩, q⟩ := h
    have hu : A.units + 3 + 1 < cLine := by have := hr.un; simp only [Around.deeper] at this; omega
    refine ⟨_, PSs.nox (pss_one (ps_ret (pe_dget2 hu (pe_fld (pv 0) rfl) (pv 1) (pe_fld (pv 0) rfl) (m2_get rfl)))), ?_⟩
    refine ⟨_, rfl, a, CU, dx, _, _, rfl, h1, B.clU, B.nU _ (by simp), rfl, d, rfl, .inl ⟨_, .inl h2⟩, _, rfl, _, rfl, a, CU, dx, _, _, rfl, h1, B.clU, B.nU _ (by simp), rfl, _, DGet.k (k := Sum.inr x) h2, ?_⟩
    have e0 : (bs.map fun b : Bow => ((Sum.inr b.2.1 : Key), V.ref b.2.2.1)) = (bs.map fun b : Bow => (b.2.1, b.2.2.1)).map fun q => ((Sum.inr q.1 : Key), V.ref q.2) := by rw [List.map_map]; rfl
    rw [e0, valV_rows (fun i : Addr => V.ref i)]
    have nd : ((bs.map fun b : Bow => (b.2.1, b.2.2.1)).map (·.1)).Nodup := by
      have z := slt_nodup uo.so
      rw [← ub, List.map_map] at z
      rw [List.map_map]
      exact z
    cases hl : (bs.map fun b : Bow => (b.2.1, b.2.2.1)).lookup x with
    | none =>
      have n := lookup_none.1 hl
      refine q r ?_
      rw [Tab.at_rest (T := U) (x := x) (fun z => n (by rw [← ub, List.map_map] at z; rw [List.map_map]; exact z))]
      exact hr0
    | some v =>
      obtain ⟨c, hc, ec⟩ := List.mem_map.mp ((lookup_mem nd).1 hl)
      injection ec with ec1 ec2
      refine q v ?_
      have z : U.at x = c.2.2.2 := by
        have y := (uo.mem c.2.1 c.2.2.2).1 (by rw [← ub]; exact List.mem_map.mpr ⟨c, hc, rfl⟩)
        rw [← ec1]
        exact y.1
      rw [z, ← ec2]
      exact (hB c hc).2
/-! ### led_moment, bounds_behind -/
def sp_led_moment (K : PySem.W.Frag) : Sp := fun vs H Q _ => ∃ (p : Addr) (b : Bd) (m : Int), vs = [.ref p, .int m] ∧ BdAt K H p b ∧ Q (.int (ledM b m)) H
theorem sc_led_moment : FnScope ["bounds", "moment", "low", "high", "found"] ["bounds", "moment"] (defScope s_led_moment) := ⟨rfl, rfl, rfl, by decide +kernel, rfl, by decide +kernel, by decide +kernel⟩
theorem ok_led_moment {f : Addr} {fd : FuncData} (F : FD K "led_moment" "led_moment" s_led_moment f fd) (B : Fc K mg CW CT CU) : FnOk P w K mg base CX0 1 f fd ["bounds", "moment"] (sp_led_moment K) := by
  refine F.ok sc_led_moment (fun vs H Q E h => ?_) (fun cdv A outer s H vs Q E hr h => ?_)
  · obtain ⟨p, b, m, rfl, _⟩ := h; rfl
  · obtain ⟨p, b, m, rfl, hb, q⟩ := h
    have okN := sc_led_moment.nd
    refine ⟨_, PSs.nox (pss_cons (ps_asg (pv 0) (pg_tup rfl (pgs_cons (pg_name (i := 2) okN rfl (.inl rfl)) (pgs_cons (pg_name (i := 3) okN rfl (.inl rfl)) pgs_nil))))
      (pss_cons (ps_set (i := 4) okN rfl (.inl rfl) (pe_callB (call_max2 rfl) (by rfl) B.max boot_max_ (pa_cons (pv 2) (pa_cons (pv 1) pa_nil))))
      (pss_one (ps_ret (pe_ifExp (pt_cmpR op_isN (pv 3) pe_non (nomark _)) (pv 4) (pe_callB (call_min2 rfl) (by rfl) B.min boot_min_ (pa_cons (pv 3) (pa_cons (pv 4) pa_nil)))))))), ?_⟩
    obtain ⟨b1, b2⟩ := b
    refine ⟨_, rfl, p, _, rfl, hb, rfl, .int b1, [optV b2], rfl, optV b2, [], rfl, rfl, ?_⟩
    refine ⟨_, rfl, _, rfl, b1, m, rfl, ?_⟩
    cases b2 with
    | none => exact ⟨_, rfl, rfl, _, rfl, iteT ⟨_, rfl, q⟩⟩
    | some z => exact ⟨_, rfl, rfl, _, rfl, iteF ⟨_, rfl, _, rfl, z, _, rfl, q⟩⟩
def sp_bounds_behind (T : List (Addr × Str)) (K : PySem.W.Frag) : Sp := fun vs H Q _ => ∃ (p r : Addr) (a b : Bd), vs = [.ref p, .ref r] ∧ BdAt K H p a ∧ BdAt K H r b ∧ ∀ H1 v, Gr T [] H H1 → BdAt K H1 v (bdBehind a b) → Q (.ref v) H1
theorem sc_bounds_behind : FnScope ["first", "second", "high"] ["first", "second"] (defScope s_bounds_behind) := ⟨rfl, rfl, rfl, by decide +kernel, rfl, by decide +kernel, by decide +kernel⟩
theorem ok_bounds_behind {f : Addr} {fd : FuncData} (F : FD K "bounds_behind" "bounds_behind" s_bounds_behind f fd) (B : Fc K mg CW CT CU) (c1 : Cal P w K mg base 1 "led_moment" (sp_led_moment K) []) : FnOk P w K mg base CX0 2 f fd ["first", "second"] (sp_bounds_behind T K) := by
  refine F.ok sc_bounds_behind (fun vs H Q E h => ?_) (fun cdv A outer s H vs Q E hr h => ?_)
  · obtain ⟨p, r, a, b, rfl, _⟩ := h; rfl
  · obtain ⟨p, r, a, b, rfl, ha, hb, q⟩ := h
    have okN := sc_bounds_behind.nd
    refine ⟨_, PSs.nox (pss_cons (ps_set (i := 2) okN rfl (.inl rfl) (pe_ifExp (pt_cmpR op_isN (pe_ix ix_tup (pv 0) pe_int (fun _ _ => rfl)) pe_non (nomark _)) (pe_ix ix_tup (pv 1) pe_int (fun _ _ => rfl))
        (pe_c c1 hr (Nat.le_refl _) (by rfl) (pa_cons (pv 1) (pa_cons (pe_ix ix_tup (pv 0) pe_int (fun _ _ => rfl)) pa_nil)))))
      (pss_one (ps_ret (pe_tup (pa_cons (pe_c c1 hr (Nat.le_refl _) (by rfl) (pa_cons (pv 1) (pa_cons (pe_ix ix_tup (pv 0) pe_int (fun _ _ => rfl)) pa_nil))) (pa_cons (pv 2) pa_nil)))))), ?_⟩
    obtain ⟨a1, a2⟩ := a
    refine ⟨_, rfl, p, _, 1, optV a2, rfl, rfl, ha, rfl, rfl, _, rfl, ?_⟩
    refine if_to (v := optV (bdBehind (a1, a2) b).2) (fun hc R z => ?_) (fun hc R z => ?_) ?_
    · cases a2 with
      | none => exact ⟨_, rfl, r, _, 1, _, rfl, rfl, hb, rfl, z⟩
      | some h => cases hc
    · cases a2 with
      | none => cases hc
      | some h => exact ⟨_, rfl, _, rfl, p, _, 1, .int h, rfl, rfl, ha, rfl, r, b, h, rfl, hb, z⟩
    refine ⟨_, rfl, _, rfl, p, _, 0, .int a1, rfl, rfl, ha, rfl, r, b, a1, rfl, hb, _, rfl, le_line (by show 2 < 1000; decide), fun t ht => ?_⟩
    exact q _ t ((Gr.refl H).new ht) (SqT.of upd_same)
end
end KD
end

section
set_option Elab.async false
set_option linter.all false
set_option maxRecDepth 100000
set_option maxHeartbeats 4000000
/-! on_want, raising, lowering, behind, all_behind, led -/
namespace KD
open PySem PySem.Spec PyProof.Rows C8 LamX NdefX
open L2 hiding CX0 E0 pass0 Fun
def freeBd : Bd := (0, none)
theorem free_ok : BdOk freeBd := ⟨by decide, fun _ z => nomatch z⟩
theorem BowsAt.snoc {K : PySem.W.Frag} {H : Hp} {es : List Bow} {t D q : Addr} {x : Str} {b : Bd} {xs ys : List V} (h : BowsAt K H es) (hq : BdAt K H q b) (ht : H t = none) (hD : H D = some (.lst xs)) : BowsAt K (upd (upd H t (.tup [.str x, .ref q])) D (.lst ys)) (es ++ [(t, x, q, b)]) := fun c hc => by
  have nD : D ≠ t := ne_of_none hD ht
  have sq : ∀ {a : Addr} {zs : List V}, SqT K H a zs → SqT K (upd (upd H t (.tup [.str x, .ref q])) D (.lst ys)) a zs := fun {a zs} z => by
    rcases z with (z | ⟨ob, z⟩) | z
    · exact .inl (.inl ((upd_ne (fun e => by rw [e, hD] at z; cases z)).trans ((upd_ne (ne_of_none z ht)).trans z)))
    · exact .inl (.inr ⟨ob, (upd_ne (fun e => by rw [e, hD] at z; cases z)).trans ((upd_ne (ne_of_none z ht)).trans z)⟩)
    · exact .inr z
  rcases List.mem_append.mp hc with hc | hc
  · have z := (h c hc).1
    exact ⟨(upd_ne (fun e => by rw [e, hD] at z; cases z)).trans ((upd_ne (ne_of_none z ht)).trans z), sq (h c hc).2⟩
  · rw [List.mem_singleton.mp hc]
    exact ⟨(upd_ne (Ne.symm nD)).trans upd_same, sq hq⟩
section
variable {P : Program} {w : World} {K : PySem.W.Frag} {mg : Str → Option Value} {base : Heap} {CW CT CU : Addr} {T : List (Addr × Str)}
def onW (W : WantD) (b : Bd) (x : Str) : Bd := if W.has x = true then b else freeBd
def sp_on_want (T : List (Addr × Str)) (K : PySem.W.Frag) (CW CU : Addr) : Sp := fun vs H Q _ => ∃ (a q : Addr) (W : WantD) (b : Bd), vs = [.ref a, .ref q] ∧ Tabs T H ∧ WantAt CW H a W ∧ BdAt K H q b ∧ BdOk b ∧ W.names.length ≤ 8 ∧
  ∀ (H1 : Hp) (v : Addr) (U : Tab Bd), Gr T [] H H1 → TurnAt K CU H1 v U → U.rest = (if W.but = true then b else freeBd) → (∀ x, U.at x = onW W b x) → Q (.ref v) H1
theorem sc_on_want : FnScope ["want", "bounds", "name"] ["want", "bounds"] (defScope s_on_want) := ⟨rfl, rfl, rfl, by decide +kernel, rfl, by decide +kernel, by decide +kernel⟩
/-- the row (name, z) for each name -/
theorem row_read {H : Hp} {ns : List Str} {p : Addr} {tl te : TE} {vs : List Nat} {σ : L2.St} {Qd : V → Hp → Prop} {iv : Nat} (zq : Addr) (z : Bd) (htl : ∀ R : V → Hp → Prop, R (.ref p) H → tl σ H R) (hp : SqT K H p (ns.map V.str)) (hz : BdAt K H zq z) (ln : ns.length < 100)
    (hw : ∀ v : V, wipe ((wipe σ vs).set iv (some v)) vs = wipe σ vs) (ht : ∀ (y : Str) (H' : Hp) (R : V → Hp → Prop), Gr T [] H H' → (∀ t, H' t = none → R (.ref t) (upd H' t (.tup [.str y, .ref zq]))) → te ((wipe σ vs).set iv (some (.str y))) H' R)
    (hd : ∀ (D : Addr) (H' : Hp) (es : List Bow), Gr T [] H H' → H' D = some (.lst (es.map fun b => V.ref b.1)) → es.map bowP = (ns.map fun y => (y, z)) → BowsAt K H' es → Qd (.ref D) H') :
    tLc (iSq K tl) (gName iv) tYes te vs σ H Qd := by
  refine htl _ ⟨p, _, rfl, .inr hp, fun J St sq hst D hD => ?_⟩
  refine lc_seq (Qd := fun H' => Qd (.ref D) H') sq (fun i acc H' => ∃ es : List Bow, acc = es.map (fun b => V.ref b.1) ∧ es.map bowP = (ns.take i).map (fun y => (y, z)) ∧ BowsAt K H' es ∧ Gr T [] H H') ⟨[], rfl, rfl, (fun _ z => nomatch z), (Gr.refl H).new hD⟩
    (fun i acc H' _ e => hst T [] H' e.choose_spec.2.2.2 List.not_mem_nil) (fun i v acc H' hv hl hD' ⟨es, ea, ee, hes, g⟩ => ?_) (fun acc H' hD' hl ⟨es, ea, ee, hes, g⟩ => ?_)
  · obtain ⟨y, hy, ev⟩ := strs_item hv
    have li : i < ns.length := (List.getElem?_eq_some_iff.mp hy).1
    rw [ev]
    refine ⟨hw _, yes_if (ht y H' _ g fun t htn => ?_)⟩
    have hDt : (upd H' t (.tup [.str y, .ref zq])) D = some (.lst acc) := (upd_ne (ne_of_none hD' htn)).trans hD'
    refine nx_add hDt hl (lt_line (by omega)) ⟨es ++ [(t, y, zq, z)], by rw [ea, List.map_append]; rfl, ?_, hes.snoc (hz.gr g) htn hD', (g.new htn).put hD hDt free_lst⟩
    rw [List.map_append, ee, List.take_add_one, hy, List.map_append]
    rfl
  · rw [List.length_map, List.take_of_length_le (Nat.le_refl _)] at ee
    exact hd D H' es g (by rw [hD', ea]) ee hes
theorem bowP_fst {es : List Bow} {ys : List Str} {F : Str → Bd} (e : es.map bowP = ys.map fun y => (y, F y)) : (es.map fun b => b.2.1) = ys := by
  have z : (es.map fun b => b.2.1) = (es.map bowP).map (·.1) := by rw [List.map_map]; rfl
  rw [z, e, List.map_map]
  exact List.map_id' ys
theorem bowP_snd {es : List Bow} {ys : List Str} {F : Str → Bd} (e : es.map bowP = ys.map fun y => (y, F y)) : ∀ c ∈ es, c.2.2.2 = F c.2.1 ∧ c.2.1 ∈ ys := fun c hc => by
  have z : bowP c ∈ ys.map fun y => (y, F y) := by rw [← e]; exact List.mem_map.mpr ⟨c, hc, rfl⟩
  obtain ⟨y, hy, ey⟩ := List.mem_map.mp z
  injection ey with e1 e2
  rw [← e1, ← e2]
  exact ⟨rfl, hy⟩
theorem lookup_bows {es : List Bow} {ys : List Str} {F : Str → Bd} (e : es.map bowP = ys.map fun y => (y, F y)) (r : Bd) (cov : ∀ x, x ∉ ys → F x = r) (x : Str) : ((es.map bowP).lookup x).getD r = F x := by
  rw [e]
  exact at_of_names cov x
theorem ok_on_want {f : Addr} {fd : FuncData} (F : FD K "on_want" "on_want" s_on_want f fd) (B : Fc K mg CW CT CU) (c1 : Cal P w K mg base 6 "turn_of" (sp_turn_of T K CU) []) : FnOk P w K mg base CX0 7 f fd ["want", "bounds"] (sp_on_want T K CW CU) := by
  refine F.ok sc_on_want (fun vs H Q E h => ?_) (fun cdv A outer s H vs Q E hr h => ?_)
  · obtain ⟨a, q, W, b, rfl, _⟩ := h; rfl
  · obtain ⟨a, q, W, b, rfl, hT, hW, hb, bo, l8, qq⟩ := h
    obtain ⟨aF, mF, hF⟩ := B.free
    have okN := sc_on_want.nd
    refine ⟨_, PSs.nox (pss_cons (ps_if (pt_val (pe_fld (pv 0) rfl)) (pss_one (ps_ret (pe_c c1 hr (Nat.le_refl _) (by rfl) (pa_cons (pv 1) (pa_cons (pe_lc (own := [("name", 2)]) rfl okN (pi_seq (pe_fld (pv 0) rfl)) (blkOk_by (N := ["want", "bounds", "name"]) (sc := defScope s_on_want) (by decide +kernel))
            (fun _ _ _ _ _ => pg_name (i := 2) okN rfl (.inl rfl)) (fun _ _ _ _ _ => pts_nil) (fun _ _ _ _ _ => pe_tup (pa_cons (pv 2) (pa_cons (pe_gc (v := .ref aF) (by rfl) ⟨_, mF, rfl⟩) pa_nil)))) pa_nil))))) pss_nil)
      (pss_one (ps_ret (pe_c c1 hr (Nat.le_refl _) (by rfl) (pa_cons (pe_gc (v := .ref aF) (by rfl) ⟨_, mF, rfl⟩) (pa_cons (pe_lc (own := [("name", 2)]) rfl okN (pi_seq (pe_fld (pv 0) rfl)) (blkOk_by (N := ["want", "bounds", "name"]) (sc := defScope s_on_want) (by decide +kernel))
            (fun _ _ _ _ _ => pg_name (i := 2) okN rfl (.inl rfl)) (fun _ _ _ _ _ => pts_nil) (fun _ _ _ _ _ => pe_tup (pa_cons (pv 2) (pa_cons (pv 1) pa_nil)))) pa_nil)))))), ?_⟩
    obtain ⟨⟨wo, wn⟩, w64, dy, p2, h4, h5⟩ := id hW
    refine ⟨_, rfl, a, CW, dy, _, _, rfl, h4, B.iW.cl, B.nW _ (by simp), rfl, W.but, rfl, ?_⟩
    cases hbut : W.but with
    | true =>
      refine iteT ⟨_, rfl, ?_⟩
      refine row_read (K := K) (T := T) (p := p2) aF freeBd (fun R z => ⟨_, rfl, a, CW, dy, _, _, rfl, h4, B.iW.cl, B.nW _ (by simp), rfl, z⟩) (SqT.of h5) (hF H) (by omega) ?_ (fun y H' R g k => ?_) fun D H' es g hD' ee hes => ?_
      · exact fun _ => rfl
      · exact ⟨_, rfl, le_line (by show 2 < 1000; decide), fun t ht => k t ht⟩
      have fe := bowP_fst ee
      have se := bowP_snd ee
      refine ⟨q, D, b, es, rfl, g.tabs hT, hb.gr g, bo, .inl hD', hes, fun c hc => wn _ (se c hc).2, fun c hc => by rw [(se c hc).1]; exact free_ok, by rw [fe]; exact slt_nodup wo, by rw [show es.length = W.names.length from by rw [← fe, List.length_map]]; omega, fun H1 v U g1 hU hr0 hat => ?_⟩
      refine qq H1 v U (g.trans g1) hU (by rw [hbut]; exact hr0) fun x => ?_
      rw [hat, ee, lookup_map]
      unfold onW WantD.has
      rw [hbut]
      by_cases hx : x ∈ W.names
      · rw [if_pos hx, decide_eq_true hx]; rfl
      · rw [if_neg hx, decide_eq_false hx]; rfl
    | false =>
      refine iteF ?_
      dsimp only [tNext, tRet, tCall, tCons, tC]
      refine row_read (K := K) (T := T) (p := p2) q b (fun R z => ⟨_, rfl, a, CW, dy, _, _, rfl, h4, B.iW.cl, B.nW _ (by simp), rfl, z⟩) (SqT.of h5) hb (by omega) ?_ (fun y H' R g k => ?_) fun D H' es g hD' ee hes => ?_
      · exact fun _ => rfl
      · exact ⟨_, rfl, _, rfl, le_line (by show 2 < 1000; decide), fun t ht => k t ht⟩
      have fe := bowP_fst ee
      have se := bowP_snd ee
      refine ⟨aF, D, freeBd, es, rfl, g.tabs hT, hF _, free_ok, .inl hD', hes, fun c hc => wn _ (se c hc).2, fun c hc => by rw [(se c hc).1]; exact bo, by rw [fe]; exact slt_nodup wo, by rw [show es.length = W.names.length from by rw [← fe, List.length_map]]; omega, fun H1 v U g1 hU hr0 hat => ?_⟩
      refine qq H1 v U (g.trans g1) hU (by rw [hbut]; exact hr0) fun x => ?_
      rw [hat, ee, lookup_map]
      unfold onW WantD.has
      rw [hbut]
      by_cases hx : x ∈ W.names
      · rw [if_pos hx, decide_eq_true hx]; rfl
      · rw [if_neg hx, decide_eq_false hx]; rfl
def sp_raising (T : List (Addr × Str)) (K : PySem.W.Frag) (CW CU : Addr) (B : Int → Bd) : Sp := fun vs H Q _ => ∃ (a : Addr) (W : WantD) (m : Int), vs = [.ref a, .int m] ∧ Tabs T H ∧ WantAt CW H a W ∧ 0 ≤ m ∧ W.names.length ≤ 8 ∧
  ∀ (H1 : Hp) (v : Addr) (U : Tab Bd), Gr T [] H H1 → TurnAt K CU H1 v U → U.rest = (if W.but = true then B m else freeBd) → (∀ x, U.at x = onW W (B m) x) → Q (.ref v) H1
theorem sc_raising : FnScope ["want", "moment"] ["want", "moment"] (defScope s_raising) := ⟨rfl, rfl, rfl, by decide +kernel, rfl, by decide +kernel, by decide +kernel⟩
theorem sc_lowering : FnScope ["want", "moment"] ["want", "moment"] (defScope s_lowering) := ⟨rfl, rfl, rfl, by decide +kernel, rfl, by decide +kernel, by decide +kernel⟩
theorem ok_raising {f : Addr} {fd : FuncData} (F : FD K "raising" "raising" s_raising f fd) (c1 : Cal P w K mg base 7 "on_want" (sp_on_want T K CW CU) []) : FnOk P w K mg base CX0 8 f fd ["want", "moment"] (sp_raising T K CW CU fun m => (m, none)) := by
  refine F.ok sc_raising (fun vs H Q E h => ?_) (fun cdv A outer s H vs Q E hr h => ?_)
  · obtain ⟨a, W, m, rfl, _⟩ := h; rfl
  · obtain ⟨a, W, m, rfl, hT, hW, m0, l8, qq⟩ := h
    refine ⟨_, PSs.nox (pss_one (ps_ret (pe_c c1 hr (Nat.le_refl _) (by rfl) (pa_cons (pv 0) (pa_cons (pe_tup (pa_cons (pv 1) (pa_cons pe_non pa_nil))) pa_nil))))), ?_⟩
    refine ⟨_, rfl, _, rfl, le_line (by show 2 < 1000; decide), fun t ht => ?_⟩
    have g := (Gr.refl (T := T) (M := []) H).new (o := .tup [.int m, .non]) ht
    exact ⟨a, t, W, (m, none), rfl, g.tabs hT, hW.gr g, SqT.of upd_same, ⟨m0, fun _ z => nomatch z⟩, l8, fun H1 v U g1 hU h1 h2 => qq H1 v U (g.trans g1) hU h1 h2⟩
theorem ok_lowering {f : Addr} {fd : FuncData} (F : FD K "lowering" "lowering" s_lowering f fd) (c1 : Cal P w K mg base 7 "on_want" (sp_on_want T K CW CU) []) : FnOk P w K mg base CX0 8 f fd ["want", "moment"] (sp_raising T K CW CU fun m => (0, some m)) := by
  refine F.ok sc_lowering (fun vs H Q E h => ?_) (fun cdv A outer s H vs Q E hr h => ?_)
  · obtain ⟨a, W, m, rfl, _⟩ := h; rfl
  · obtain ⟨a, W, m, rfl, hT, hW, m0, l8, qq⟩ := h
    refine ⟨_, PSs.nox (pss_one (ps_ret (pe_c c1 hr (Nat.le_refl _) (by rfl) (pa_cons (pv 0) (pa_cons (pe_tup (pa_cons pe_int (pa_cons (pv 1) pa_nil))) pa_nil))))), ?_⟩
    refine ⟨_, rfl, _, rfl, le_line (by show 2 < 1000; decide), fun t ht => ?_⟩
    have g := (Gr.refl (T := T) (M := []) H).new (o := .tup [.int 0, .int m]) ht
    exact ⟨a, t, W, (0, some m), rfl, g.tabs hT, hW.gr g, SqT.of upd_same, ⟨Int.le_refl 0, fun h z => by injection z with z; rw [← z]; exact m0⟩, l8, fun H1 v U g1 hU h1 h2 => qq H1 v U (g.trans g1) hU h1 h2⟩
end
end KD
end

section
set_option Elab.async false
set_option linter.all false
set_option maxRecDepth 100000
set_option maxHeartbeats 4000000
/-! behind, all_behind, led -/
namespace KD
open PySem PySem.Spec PyProof.Rows C8 LamX NdefX
open L2 hiding CX0 E0 pass0 Fun
theorem turn_ok_at {K : PySem.W.Frag} {CU : Addr} {H : Hp} {a : Addr} {U : Tab Bd} (h : TurnAt K CU H a U) (x : Str) : BdOk (U.at x) := by
  obtain ⟨⟨uo, _⟩, _, ⟨o1, o2⟩, _⟩ := h
  by_cases hx : x ∈ U.own.map (·.1)
  · obtain ⟨p, hp, rfl⟩ := List.mem_map.mp hx
    have z := ((uo.mem p.1 p.2).1 hp).1
    rw [z]
    exact o2 p hp
  · rw [Tab.at_rest hx]
    exact o1
theorem bows_names {bs : List Bow} {U : Tab Bd} (ub : bs.map (fun b => (b.2.1, b.2.2.2)) = U.own) : (bs.map fun b => b.2.1) = U.own.map (·.1) := by
  rw [← ub, List.map_map]
  rfl
/-- where all but some names have the rest, the own names are among them -/
theorem own_in {β : Type} [DecidableEq β] {U : Tab β} {NS : List Str} (o : U.Ok) (h : ∀ x, x ∉ NS → U.at x = U.rest) : ∀ p ∈ U.own, p.1 ∈ NS := fun p hp => by
  obtain ⟨z1, z2⟩ := (o.mem p.1 p.2).1 hp
  exact Classical.byContradiction fun n => z2 (z1.symm.trans (h _ n))
theorem own_out {β : Type} [DecidableEq β] {U : Tab β} {NS : List Str} (h : ∀ p ∈ U.own, p.1 ∈ NS) : ∀ x, x ∉ NS → U.at x = U.rest := fun x hx => Tab.at_rest fun z => by
  obtain ⟨p, hp, e⟩ := List.mem_map.mp z
  exact hx (e ▸ h p hp)
theorem sub_len {α : Type} [DecidableEq α] : ∀ {l m : List α}, l.Nodup → (∀ x ∈ l, x ∈ m) → l.length ≤ m.length
  | [], _, _, _ => Nat.zero_le _
  | x :: l, m, d, h => by
    obtain ⟨d1, d2⟩ := List.nodup_cons.mp d
    have hx := h x List.mem_cons_self
    have z := sub_len (m := m.erase x) d2 fun y hy => (List.mem_erase_of_ne (a := y) (b := x) (fun e => by rw [e] at hy; exact d1 hy)).mpr (h y (List.mem_cons_of_mem _ hy))
    rw [List.length_erase_of_mem hx] at z
    have p := List.length_pos_of_mem hx
    rw [List.length_cons]
    omega
theorem own_len {β : Type} [DecidableEq β] {U : Tab β} {NS : List Str} (o : U.Ok) (h : ∀ p ∈ U.own, p.1 ∈ NS) : U.own.length ≤ NS.length := by
  have z := sub_len (l := U.own.map (·.1)) (m := NS) (slt_nodup o.so) fun x hx => by
    obtain ⟨p, hp, e⟩ := List.mem_map.mp hx
    exact e ▸ h p hp
  rw [List.length_map] at z
  exact z
section
variable {P : Program} {w : World} {K : PySem.W.Frag} {mg : Str → Option Value} {base : Heap} {CW CT CU : Addr} {T : List (Addr × Str)}
def sp_behind (T : List (Addr × Str)) (K : PySem.W.Frag) (CU : Addr) : Sp := fun vs H Q _ => ∃ (a b : Addr) (U Z : Tab Bd), vs = [.ref a, .ref b] ∧ Tabs T H ∧ TurnAt K CU H a U ∧ TurnAt K CU H b Z ∧ U.own.length ≤ 8 ∧ Z.own.length ≤ 8 ∧
  ∀ (H1 : Hp) (v : Addr) (Y : Tab Bd), Gr T [] H H1 → TurnAt K CU H1 v Y → Y.rest = bdBehind U.rest Z.rest → (∀ x, Y.at x = bdBehind (U.at x) (Z.at x)) → Q (.ref v) H1
theorem sc_behind : FnScope ["first", "second", "names", "own", "pair", "name"] ["first", "second"] (defScope s_behind) := ⟨rfl, rfl, rfl, by decide +kernel, rfl, by decide +kernel, by decide +kernel⟩
theorem ok_behind {f : Addr} {fd : FuncData} (F : FD K "behind" "behind" s_behind f fd) (B : Fc K mg CW CT CU) (c1 : Cal P w K mg base 6 "turn_of" (sp_turn_of T K CU) []) (c2 : Cal P w K mg base 2 "bounds_behind" (sp_bounds_behind T K) []) (m1 : Met P w K mg base 1 CU "bounds_of" (sp_bounds_of K CU) []) :
    FnOk P w K mg base CX0 7 f fd ["first", "second"] (sp_behind T K CU) := by
  refine F.ok sc_behind (fun vs H Q E h => ?_) (fun cdv A outer s H vs Q E hr h => ?_)
  · obtain ⟨a, b, U, Z, rfl, _⟩ := h; rfl
  · obtain ⟨a, b, U, Z, rfl, hT, hU, hZ, l1, l2, q⟩ := h
    have okN := sc_behind.nd
    have hr1 := hr.mono (show 1 ≤ 6 by decide)
    have hr2 := hr.mono (show 2 ≤ 6 by decide)
    refine ⟨_, PSs.nox (pss_cons (ps_set (i := 2) okN rfl (.inl rfl) (pe_callB (cr_sortS rfl) (by rfl) B.sorted boot_sorted_ (pa_cons (pe_ss (own := [("pair", 4)]) rfl okN (pi_seq (pe_op op_catA (pe_fld (pv 0) rfl) (pe_fld (pv 1) rfl))) (blkOk_by (N := ["first", "second", "names", "own", "pair", "name"]) (sc := defScope s_behind) (by decide +kernel))
        (fun _ _ _ _ _ => pg_name (i := 4) okN rfl (.inl rfl)) (fun _ _ _ _ _ => pe_ix (ix_tupK K rfl) (pv 4) pe_int (fun _ _ => rfl))) pa_nil)))
      (pss_cons (ps_setLc (i := 3) (own := [("name", 5)]) rfl okN rfl rfl rfl (pi_seq (pv 2)) (blkOk_by (N := ["first", "second", "names", "own", "pair", "name"]) (sc := defScope s_behind) (by decide +kernel))
        (fun _ _ _ _ _ => pg_name (i := 5) okN rfl (.inl rfl)) (fun _ _ _ _ _ => pts_nil)
        (fun _ _ _ _ _ => pe_tup (pa_cons (pv 5) (pa_cons (pe_c c2 hr2 (Nat.le_refl _) (by rfl)
          (pa_cons (pe_mt m1 hr1 (Nat.le_refl _) (pv 0) (pa_cons (pv 5) pa_nil)) (pa_cons (pe_mt m1 hr1 (Nat.le_refl _) (pv 1) (pa_cons (pv 5) pa_nil)) pa_nil))) pa_nil))))
      (pss_one (ps_ret (pe_c c1 hr (Nat.le_refl _) (by rfl) (pa_cons (pe_c c2 hr2 (Nat.le_refl _) (by rfl) (pa_cons (pe_fld (pv 0) rfl) (pa_cons (pe_fld (pv 1) rfl) pa_nil))) (pa_cons (pv 3) pa_nil))))))), ?_⟩
    obtain ⟨⟨uo, un⟩, u64, ⟨ur, uw⟩, dx, r1, p, d, bs, ub, hB, hr0, h1, h2, h3⟩ := id hU
    obtain ⟨⟨zo, zn⟩, z64, ⟨zr, zw⟩, dy, r2, p2, d2, cs, zb, hC, hz0, h4, h5, h6⟩ := id hZ
    refine ⟨_, rfl, a, CU, dx, _, _, rfl, h1, B.clU, B.nU _ (by simp), rfl, _, rfl, b, CU, dy, _, _, rfl, h4, B.clU, B.nU _ (by simp), rfl, ?_⟩
    have lb : bs.length = U.own.length := by rw [← ub, List.length_map]
    have lc : cs.length = Z.own.length := by rw [← zb, List.length_map]
    refine cat_read (T := T) (SqT.of h2) (SqT.of h5) (by rw [List.length_map, List.length_map]; omega) fun c H1 g1 hc => ?_
    rw [← List.map_append] at hc
    have hRb : BowsAt K H1 (bs ++ cs) := fun x hx => (List.mem_append.mp hx).elim (fun z => hB.gr g1 x z) fun z => hC.gr g1 x z
    refine ⟨c, _, rfl, .inr hc, fun J St sq hst D hD => ?_⟩
    have lL : ((bs ++ cs).map fun b => b.2.1).length ≤ 16 := by rw [List.length_map, List.length_append]; omega
    refine ss_texts ((bs ++ cs).map fun b => b.2.1) (by rw [List.length_map, List.length_map]) (by omega) sq (fun L => hst T [] _ ((Gr.refl H1).new hD) List.not_mem_nil) (fun j v y L hv hy Pk hk => ?_) ?_
    · obtain ⟨b0, hb0, ev⟩ := refs_item (f := fun b : Bow => b.1) hv
      rw [List.getElem?_map, hb0] at hy
      have ey : b0.2.1 = y := Option.some.inj hy
      have hz := ((Gr.refl (T := T) (M := []) H1).new (o := SetSO w D L) hD).tup (hRb b0 (List.mem_of_getElem? hb0)).1
      exact ⟨rfl, v, rfl, b0.1, _, 0, .str b0.2.1, ev, rfl, SqT.of hz, rfl, by rw [ey]; exact hk⟩
    refine ⟨D, _, rfl, .inr (.inr upd_same), Nat.lt_of_le_of_lt (metS_len0 _) (by omega), fun ys l pm so hl => ?_⟩
    let H4 : Hp := upd (upd H1 D (SetSO w D (metS ((bs ++ cs).map fun b => b.2.1)))) l (.lst (ys.map V.str))
    have g14 : Gr T [] H1 H4 := ((Gr.refl H1).new hD).new hl
    have gH4 : Gr T [] H H4 := g1.trans g14
    have nd : ys.Nodup := (pm.nodup_iff).mpr (metS_nodup _ _ .nil)
    have mem : ∀ x, x ∈ ys ↔ x ∈ U.own.map (·.1) ∨ x ∈ Z.own.map (·.1) := fun x => by
      rw [pm.mem_iff, metS_all, List.map_append, List.mem_append, bows_names ub, bows_names zb]
    have lys : ys.length ≤ 16 := by
      rw [pm.length_eq]
      exact Nat.le_trans (metS_len0 _) lL
    refine ⟨_, rfl, l, _, rfl, .inl upd_same, fun J2 St2 sq2 hst2 D2 hD2 => ?_⟩
    have hst3 : ∀ H', Gr T [] H4 H' → St2 H' := fun H' z => hst2 T [] H' z List.not_mem_nil
    refine lc_seq sq2 (fun i acc H' => ∃ es : List Bow, acc = es.map (fun b => V.ref b.1) ∧ es.map bowP = (ys.take i).map (fun y => (y, bdBehind (U.at y) (Z.at y))) ∧ BowsAt K H' es ∧ Gr T [] H4 H') ⟨[], rfl, rfl, (fun _ z => nomatch z), (Gr.refl H4).new hD2⟩
      (fun i acc H' _ e => hst3 H' e.choose_spec.2.2.2) (fun i v acc H' hv hla hD' ⟨es, ea, ee, hes, g⟩ => ?_) (fun acc H' hD' hla ⟨es, ea, ee, hes, g⟩ => ?_)
    · obtain ⟨y, hy, ev⟩ := strs_item hv
      have li : i < ys.length := (List.getElem?_eq_some_iff.mp hy).1
      have g5 := gH4.trans g
      rw [ev]
      refine ⟨rfl, yes_if ?_⟩
      refine ⟨_, rfl, _, rfl, a, dx, _, rfl, g5.ins h1, rfl, _, rfl, a, U, y, rfl, hU.gr g5, fun q1 hq1 => ⟨_, rfl, b, dy, _, rfl, g5.ins h4, rfl, _, rfl, b, Z, y, rfl, hZ.gr g5, fun q2 hq2 => ?_⟩⟩
      refine ⟨q1, q2, _, _, rfl, hq1, hq2, fun H7 v7 g7 hv7 => ⟨le_line (by show 2 < 1000; decide), fun t ht => ?_⟩⟩
      have hD7 := g7.lst hD' List.not_mem_nil
      have g8 := (g.trans g7).new (o := .tup [.str y, .ref v7]) ht
      have nDt : D2 ≠ t := ne_of_none hD7 ht
      have hD8 : (upd H7 t (.tup [.str y, .ref v7])) D2 = some (.lst acc) := (upd_ne nDt).trans hD7
      refine nx_add hD8 hla (lt_line (by omega)) ⟨es ++ [(t, y, v7, bdBehind (U.at y) (Z.at y))], by rw [ea, List.map_append]; rfl, ?_, (hes.gr g7).snoc hv7 ht hD7, g8.put hD2 hD8 free_lst⟩
      rw [List.map_append, ee, List.take_add_one, hy, List.map_append]
      rfl
    · rw [List.length_map, List.take_of_length_le (Nat.le_refl _)] at ee
      have fe := bowP_fst ee
      have se := bowP_snd ee
      have les : es.length = ys.length := by rw [← fe, List.length_map]
      have g5 := gH4.trans g
      refine ⟨_, rfl, a, CU, dx, _, _, rfl, g5.ins h1, B.clU, B.nU _ (by simp), rfl, _, rfl, b, CU, dy, _, _, rfl, g5.ins h4, B.clU, B.nU _ (by simp), rfl, r1, r2, _, _, rfl, hr0.gr g5, hz0.gr g5, fun H7 v7 g7 hv7 => ?_⟩
      have hD7 := g7.lst hD' List.not_mem_nil
      refine ⟨_, rfl, v7, D2, bdBehind U.rest Z.rest, es, rfl, (g5.trans g7).tabs hT, hv7, bdBehind_ok ur zr, .inl (by rw [hD7, ea]), hes.gr g7, fun c hc => ?_, fun c hc => ?_, by rw [fe]; exact nd, by omega, fun H6 v Y g8 hY hr0 hat => ?_⟩
      · rcases (mem _).1 (se c hc).2 with z | z
        · obtain ⟨c2, hc2, e2⟩ := List.mem_map.mp z
          rw [← e2]
          exact un c2 hc2
        · obtain ⟨c2, hc2, e2⟩ := List.mem_map.mp z
          rw [← e2]
          exact zn c2 hc2
      · rw [(se c hc).1]
        exact bdBehind_ok (turn_ok_at hU _) (turn_ok_at hZ _)
      · refine q H6 v Y ((g5.trans g7).trans g8) hY hr0 fun x => ?_
        rw [hat]
        refine lookup_bows ee _ (fun x hx => ?_) x
        have n1 : x ∉ U.own.map (·.1) := fun z => hx ((mem x).2 (.inl z))
        have n2 : x ∉ Z.own.map (·.1) := fun z => hx ((mem x).2 (.inr z))
        rw [Tab.at_rest n1, Tab.at_rest n2]
def sp_led (T : List (Addr × Str)) (K : PySem.W.Frag) (CT CU : Addr) : Sp := fun vs H Q _ => ∃ (a b : Addr) (U : Tab Bd) (Z : Tab Int), vs = [.ref a, .ref b] ∧ TurnAt K CU H a U ∧ TillAt CT H b Z ∧ U.own.length ≤ 8 ∧ Z.own.length ≤ 8 ∧
  ∀ (H1 : Hp) (v : Addr) (Y : Tab Int), Gr T [] H H1 → TillAt CT H1 v Y → Y.rest = ledM U.rest Z.rest → (∀ x, Y.at x = ledM (U.at x) (Z.at x)) → Q (.ref v) H1
theorem sc_led : FnScope ["turn", "till", "names", "own", "pair", "name"] ["turn", "till"] (defScope s_led) := ⟨rfl, rfl, rfl, by decide +kernel, rfl, by decide +kernel, by decide +kernel⟩
theorem ok_led {f : Addr} {fd : FuncData} (F : FD K "led" "led" s_led f fd) (B : Fc K mg CW CT CU) (c1 : Cal P w K mg base 5 "till_of" (sp_till_of T K CT) []) (c2 : Cal P w K mg base 1 "led_moment" (sp_led_moment K) []) (m1 : Met P w K mg base 1 CU "bounds_of" (sp_bounds_of K CU) []) (m2 : Met P w K mg base 1 CT "moment_of" (sp_moment_of CT) []) :
    FnOk P w K mg base CX0 6 f fd ["turn", "till"] (sp_led T K CT CU) := by
  refine F.ok sc_led (fun vs H Q E h => ?_) (fun cdv A outer s H vs Q E hr h => ?_)
  · obtain ⟨a, b, U, Z, rfl, _⟩ := h; rfl
  · obtain ⟨a, b, U, Z, rfl, hU, hZ, l1, l2, q⟩ := h
    have okN := sc_led.nd
    have hr1 := hr.mono (show 1 ≤ 5 by decide)
    refine ⟨_, PSs.nox (pss_cons (ps_set (i := 2) okN rfl (.inl rfl) (pe_callB (cr_sortS rfl) (by rfl) B.sorted boot_sorted_ (pa_cons (pe_op or_setS
          (pe_ss (own := [("pair", 4)]) rfl okN (pi_seq (pe_fld (pv 0) rfl)) (blkOk_by (N := ["turn", "till", "names", "own", "pair", "name"]) (sc := defScope s_led) (by decide +kernel))
            (fun _ _ _ _ _ => pg_name (i := 4) okN rfl (.inl rfl)) (fun _ _ _ _ _ => pe_ix (ix_tupK K rfl) (pv 4) pe_int (fun _ _ => rfl)))
          (pe_ss (own := [("pair", 4)]) rfl okN (pi_seq (pe_fld (pv 1) rfl)) (blkOk_by (N := ["turn", "till", "names", "own", "pair", "name"]) (sc := defScope s_led) (by decide +kernel))
            (fun _ _ _ _ _ => pg_name (i := 4) okN rfl (.inl rfl)) (fun _ _ _ _ _ => pe_ix (ix_tupK K rfl) (pv 4) pe_int (fun _ _ => rfl)))) pa_nil)))
      (pss_cons (ps_setLc (i := 3) (own := [("name", 5)]) rfl okN rfl rfl rfl (pi_seq (pv 2)) (blkOk_by (N := ["turn", "till", "names", "own", "pair", "name"]) (sc := defScope s_led) (by decide +kernel))
        (fun _ _ _ _ _ => pg_name (i := 5) okN rfl (.inl rfl)) (fun _ _ _ _ _ => pts_nil)
        (fun _ _ _ _ _ => pe_tup (pa_cons (pv 5) (pa_cons (pe_c c2 hr1 (Nat.le_refl _) (by rfl)
          (pa_cons (pe_mt m1 hr1 (Nat.le_refl _) (pv 0) (pa_cons (pv 5) pa_nil)) (pa_cons (pe_mt m2 hr1 (Nat.le_refl _) (pv 1) (pa_cons (pv 5) pa_nil)) pa_nil))) pa_nil))))
      (pss_one (ps_ret (pe_c c1 hr (Nat.le_refl _) (by rfl) (pa_cons (pe_c c2 hr1 (Nat.le_refl _) (by rfl) (pa_cons (pe_fld (pv 0) rfl) (pa_cons (pe_fld (pv 1) rfl) pa_nil))) (pa_cons (pv 3) pa_nil))))))), ?_⟩
    obtain ⟨⟨uo, un⟩, u64, ⟨ur, uw⟩, dx, r1, p, d, bs, ub, hB, hr0, h1, h2, h3⟩ := id hU
    obtain ⟨⟨zo, zn⟩, z64, dy, p2, d2, cs, zb, hC, h4, h5, h6⟩ := id hZ
    have lb : bs.length = U.own.length := by rw [← ub, List.length_map]
    have lc : cs.length = Z.own.length := by rw [← zb, List.length_map]
    have ln : (U.own.map (·.1)).length ≤ 8 := by rw [List.length_map]; exact l1
    have ln2 : (Z.own.map (·.1)).length ≤ 8 := by rw [List.length_map]; exact l2
    refine ⟨_, rfl, a, CU, dx, _, _, rfl, h1, B.clU, B.nU _ (by simp), rfl, p, _, rfl, .inr (SqT.of h2), fun J St sq hst D1 hD1n => ?_⟩
    refine ss_texts (U.own.map (·.1)) (by rw [List.length_map, List.length_map, lb]) (by omega) sq (fun L => hst T [] _ ((Gr.refl H).new hD1n) List.not_mem_nil) (fun j v y L hv hy Pk hk => ?_) ?_
    · obtain ⟨b0, hb0, ev⟩ := refs_item (f := fun b : Bow => b.1) hv
      rw [← bows_names ub, List.getElem?_map, hb0] at hy
      have ey : b0.2.1 = y := Option.some.inj hy
      have hz := ((Gr.refl (T := T) (M := []) H).new (o := SetSO w D1 L) hD1n).tup (hB b0 (List.mem_of_getElem? hb0)).1
      exact ⟨rfl, v, rfl, b0.1, _, 0, .str b0.2.1, ev, rfl, SqT.of hz, rfl, by rw [ey]; exact hk⟩
    let H2 : Hp := upd H D1 (SetSO w D1 (metS (U.own.map (·.1))))
    have g2 : Gr T [] H H2 := (Gr.refl H).new hD1n
    have hs2 : H2 D1 = some (SetSO w D1 (metS (U.own.map (·.1)))) := upd_same
    refine ⟨_, rfl, b, CT, dy, _, _, rfl, g2.ins h4, B.iT.cl, B.nT _ (by simp), rfl, p2, _, rfl, .inr (SqT.of (g2.tup h5)), fun J St sq hst D3 hD3n => ?_⟩
    refine ss_texts (Z.own.map (·.1)) (by rw [List.length_map, List.length_map, lc]) (by omega) sq (fun L => hst T [] _ ((Gr.refl H2).new hD3n) List.not_mem_nil) (fun j v y L hv hy Pk hk => ?_) ?_
    · obtain ⟨b0, hb0, ev⟩ := refs_item (f := fun b : Addr × Str × Int => b.1) hv
      rw [← rows_names (H := H) zb, List.getElem?_map, hb0] at hy
      have ey : b0.2.1 = y := Option.some.inj hy
      have hz := (g2.trans ((Gr.refl (T := T) (M := []) H2).new (o := SetSO w D3 L) hD3n)).tup (hC b0 (List.mem_of_getElem? hb0))
      exact ⟨rfl, v, rfl, b0.1, _, 0, .str b0.2.1, ev, rfl, SqT.of hz, rfl, by rw [ey]; exact hk⟩
    let H3 : Hp := upd H2 D3 (SetSO w D3 (metS (Z.own.map (·.1))))
    have g3 : Gr T [] H2 H3 := (Gr.refl H2).new hD3n
    have n12 : D1 ≠ D3 := ne_of_none hs2 hD3n
    refine ⟨D1, D3, _, _, rfl, rfl, n12, (upd_ne n12).trans hs2, upd_same, Nat.le_trans (metS_len0 _) ln, Nat.le_trans (metS_len0 _) ln2, fun L3 q3 nd3 mem3 len3 hq3 => ?_⟩
    refine ⟨q3, L3, rfl, .inr (.inr upd_same), by omega, fun ys l pm so hl => ?_⟩
    let H4 : Hp := upd (upd H3 q3 (SetSO w q3 L3)) l (.lst (ys.map V.str))
    have g4 : Gr T [] H3 H4 := ((Gr.refl H3).new hq3).new hl
    have gH4 : Gr T [] H H4 := (g2.trans g3).trans g4
    have nd : ys.Nodup := (pm.nodup_iff).mpr nd3
    have mem : ∀ x, x ∈ ys ↔ x ∈ U.own.map (·.1) ∨ x ∈ Z.own.map (·.1) := fun x => by rw [pm.mem_iff, mem3, metS_all, metS_all]
    have lys : ys.length ≤ 16 := by rw [pm.length_eq]; exact len3
    refine ⟨_, rfl, l, _, rfl, .inl upd_same, fun J2 St2 sq2 hst2 D2 hD2 => ?_⟩
    have hst3 : ∀ H', Gr T [] H4 H' → St2 H' := fun H' z => hst2 T [] H' z List.not_mem_nil
    refine lc_seq sq2 (fun i acc H' => ∃ es : List (Addr × Str × Int), acc = es.map (fun b => V.ref b.1) ∧ es.map (·.2) = (ys.take i).map (fun y => (y, ledM (U.at y) (Z.at y))) ∧ RowsAt H' es ∧ Gr T [] H4 H') ⟨[], rfl, rfl, (fun _ z => nomatch z), (Gr.refl H4).new hD2⟩
      (fun i acc H' _ e => hst3 H' e.choose_spec.2.2.2) (fun i v acc H' hv hla hD' ⟨es, ea, ee, hes, g⟩ => ?_) (fun acc H' hD' hla ⟨es, ea, ee, hes, g⟩ => ?_)
    · obtain ⟨y, hy, ev⟩ := strs_item hv
      have li : i < ys.length := (List.getElem?_eq_some_iff.mp hy).1
      have g5 := gH4.trans g
      rw [ev]
      refine ⟨rfl, yes_if ?_⟩
      refine ⟨_, rfl, _, rfl, a, dx, _, rfl, g5.ins h1, rfl, _, rfl, a, U, y, rfl, hU.gr g5, fun q1 hq1 => ⟨_, rfl, b, dy, _, rfl, g5.ins h4, rfl, _, rfl, b, Z, y, rfl, hZ.gr g5, ?_⟩⟩
      refine ⟨q1, _, _, rfl, hq1, le_line (by show 2 < 1000; decide), fun t ht => ?_⟩
      have g7 : Gr T [] H4 (upd H' t (.tup [.str y, .int (ledM (U.at y) (Z.at y))])) := g.new ht
      have nDt : D2 ≠ t := ne_of_none hD' ht
      have hD7 : (upd H' t (.tup [.str y, .int (ledM (U.at y) (Z.at y))])) D2 = some (.lst acc) := (upd_ne nDt).trans hD'
      refine nx_add hD7 hla (lt_line (by omega)) ⟨es ++ [(t, y, ledM (U.at y) (Z.at y))], by rw [ea, List.map_append]; rfl, ?_, hes.snoc ht hD', g7.put hD2 hD7 free_lst⟩
      rw [List.map_append, ee, List.take_add_one, hy, List.map_append]
      rfl
    · rw [List.length_map, List.take_of_length_le (Nat.le_refl _)] at ee
      have fe := rows_fst ee
      have les : es.length = ys.length := by rw [← fe, List.length_map]
      have g5 := gH4.trans g
      refine ⟨_, rfl, a, CU, dx, _, _, rfl, g5.ins h1, B.clU, B.nU _ (by simp), rfl, _, rfl, b, CT, dy, _, _, rfl, g5.ins h4, B.iT.cl, B.nT _ (by simp), rfl, r1, _, _, rfl, hr0.gr g5, ?_⟩
      refine ⟨_, rfl, D2, ledM U.rest Z.rest, es, rfl, .inl (by rw [hD', ea]), hes, fun c hc => ?_, by rw [fe]; exact nd, by omega, fun H6 v Y g7 hY hr0 hat => ?_⟩
      · have z : c.2.1 ∈ ys := by rw [← fe]; exact List.mem_map.mpr ⟨c, hc, rfl⟩
        rcases (mem _).1 z with z | z
        · obtain ⟨c2, hc2, e2⟩ := List.mem_map.mp z
          rw [← e2]
          exact un c2 hc2
        · obtain ⟨c2, hc2, e2⟩ := List.mem_map.mp z
          rw [← e2]
          exact zn c2 hc2
      · refine q H6 v Y (g5.trans g7) hY hr0 fun x => ?_
        rw [hat]
        refine lookup_rows ee _ (fun x hx => ?_) x
        have n1 : x ∉ U.own.map (·.1) := fun z => hx ((mem x).2 (.inl z))
        have n2 : x ∉ Z.own.map (·.1) := fun z => hx ((mem x).2 (.inr z))
        rw [Tab.at_rest n1, Tab.at_rest n2]
/-- turns, one behind the other -/
def AllBehind (L : List (Tab Bd)) (U : Tab Bd) : Prop := U.rest = (L.map (·.rest)).foldl bdBehind freeBd ∧ ∀ x, U.at x = (L.map fun t => t.at x).foldl bdBehind freeBd
def sp_all_behind (T : List (Addr × Str)) (K : PySem.W.Frag) (CU : Addr) : Sp := fun vs H Q _ => ∃ (a : Addr) (L : List (Addr × Tab Bd)) (NS : List Str), vs = [.ref a] ∧ Tabs T H ∧ SqL K H a (L.map fun b => V.ref b.1) ∧ (∀ b ∈ L, TurnAt K CU H b.1 b.2) ∧ (∀ b ∈ L, ∀ p ∈ b.2.own, p.1 ∈ NS) ∧ NS.length ≤ 8 ∧
  ∀ (H1 : Hp) (v : Addr) (U : Tab Bd), Gr T [] H H1 → TurnAt K CU H1 v U → AllBehind (L.map (·.2)) U → (∀ p ∈ U.own, p.1 ∈ NS) → Q (.ref v) H1
theorem sc_all_behind : FnScope ["turns", "found", "turn"] ["turns"] (defScope s_all_behind) := ⟨rfl, rfl, rfl, by decide +kernel, rfl, by decide +kernel, by decide +kernel⟩
theorem ok_all_behind {aF dU : Addr} {f : Addr} {fd : FuncData} (F : FD K "all_behind" "all_behind" s_all_behind f fd) (B : Fc K mg CW CT CU) (hF : ∀ H : Hp, SqT K H aF [.int 0, .non]) (hdU : ∀ H : Hp, SqT K H dU [])
    (c1 : MkK P w K mg base 4 "Turn" CU 0 [] (sp_Turn T K CU) (fun vs _ => vs ++ [.ref aF, .ref dU])) (c2 : Cal P w K mg base 7 "behind" (sp_behind T K CU) []) : FnOk P w K mg base CX0 8 f fd ["turns"] (sp_all_behind T K CU) := by
  refine F.ok sc_all_behind (fun vs H Q E h => ?_) (fun cdv A outer s H vs Q E hr h => ?_)
  · obtain ⟨a, L, NS, rfl, _⟩ := h; rfl
  · obtain ⟨a, L, NS, rfl, hT, hS, hL, hN, l8, q⟩ := h
    have okN := sc_all_behind.nd
    refine ⟨_, PSs.nox (pss_cons (ps_set (i := 1) okN rfl (.inl rfl) (pe_mkK0 c1 hr (by decide) (by rfl) pk_nil))
      (pss_cons (ps_for PassesOwn.never rfl (pi_list (pv 0)) (pg_name (i := 2) okN rfl (.inl rfl)) (pss_one (ps_set (i := 1) okN rfl (.inl rfl) (pe_c c2 hr (Nat.le_refl _) (by rfl) (pa_cons (pv 1) (pa_cons (pv 2) pa_nil))))))
      (pss_one (ps_ret (pv 1))))), ?_⟩
    refine ⟨rfl, rfl, fun x dx hx hdx hne => ?_⟩
    have hx' : upd H dx (.own x) x = none := (upd_ne (Ne.symm hne)).trans hx
    have g0 : Gr T [] H (upd (upd H dx (.own x)) x (.ins CU dx [])) := ((Gr.refl H).new hdx).new hx'
    refine ⟨x, aF, dU, dx, (0, none), rfl, g0.tabs hT, upd_same, hF _, ⟨by decide, fun _ z => nomatch z⟩, hdU _, fun H1 p d g1 hp hd => ⟨rfl, ?_⟩⟩
    have i1 : H1 x = some (.ins CU dx []) := g1.ins upd_same
    have g2 : Gr T [] H (upd H1 x (.ins CU dx (fsU aF p d))) := (g0.trans g1).put hx i1 free_ins
    obtain ⟨o1, o2⟩ := turn_made (K := K) (CU := CU) (cs := []) (L := []) (b := freeBd) i1 hp hd (fun _ z => nomatch z) (hF _) free_ok (fun _ z => nomatch z) (.refl _) .nil .nil (fun _ z => nomatch z) (by decide)
    refine ⟨_, rfl, a, rfl, ⟨_, g2.sqL hS List.not_mem_nil⟩, ?_⟩
    refine for_seq (K := K) (seqIt_list K a (L.map fun b => V.ref b.1)) (fun i σ H' => ∃ (o : Option V) (v : Addr) (U : Tab Bd), σ = [some (.ref a), some (.ref v), o] ∧ TurnAt K CU H' v U ∧ AllBehind ((L.take i).map (·.2)) U ∧ (∀ p ∈ U.own, p.1 ∈ NS) ∧ Gr T [] H H')
      ⟨none, x, _, rfl, o1, ⟨rfl, fun y => rfl⟩, (fun _ z => nomatch z), g2⟩ (fun i σ H' _ e => ?_) (fun i v σ H' hv e => ?_) (fun σ H' e => ?_)
    · obtain ⟨o, v, U, _, _, _, _, g⟩ := e
      exact g.sqL hS List.not_mem_nil
    · obtain ⟨o, u, U, rfl, hU, hA, hn, g⟩ := e
      obtain ⟨b, hb, ev⟩ := refs_item (f := fun b : Addr × Tab Bd => b.1) hv
      have hm := List.mem_of_getElem? hb
      have hZ := (hL b hm).gr g
      rw [ev]
      refine ⟨_, rfl, _, rfl, u, b.1, U, b.2, rfl, g.tabs hT, hU, hZ, Nat.le_trans (own_len hU.1.1 hn) l8, Nat.le_trans (own_len hZ.1.1 (hN b hm)) l8, fun H2 y Y g3 hY hr0 hat => ?_⟩
      have tk : (L.take (i + 1)).map (·.2) = (L.take i).map (·.2) ++ [b.2] := by rw [List.take_add_one, hb, List.map_append]; rfl
      refine ⟨_, y, Y, rfl, hY, ?_, own_in hY.1.1 fun z hz => ?_, g.trans g3⟩
      · rw [tk]
        refine ⟨?_, fun z => ?_⟩
        · rw [List.map_append, List.foldl_append, hr0, hA.1]
          rfl
        · rw [List.map_append, List.foldl_append, hat, hA.2]
          rfl
      · rw [hat, hr0, own_out hn z hz, own_out (hN b hm) z hz]
    · obtain ⟨o, v, U, rfl, hU, hA, hn, g⟩ := e
      rw [List.length_map, List.take_of_length_le (Nat.le_refl _)] at hA
      exact ⟨_, rfl, q H' v U g hU hA hn⟩
end
end KD
end

section
set_option Elab.async false
set_option linter.all false
set_option maxRecDepth 100000
set_option maxHeartbeats 4000000
/-! the law's store and draws -/
namespace KD
open PySem PySem.Spec PyProof.Rows C8 LamX NdefX
open L2 hiding CX0 E0 pass0 Fun
theorem boot_abs_ : bootBuiltins "abs" = some (.builtin "abs") := by decide +kernel
/-- the store: great numbers, the blend, at most k steps, small numbers -/
structure StoreAt (H : Hp) (S G M : Addr) (k : Nat) : Prop where
  ex : ∃ (gs : List Int) (b st : Int) (ms : List Int), H S = some (.lst [.ref G, .int b, .int st, .ref M]) ∧ H G = some (.lst (gs.map V.int)) ∧ H M = some (.lst (ms.map V.int)) ∧ (∀ g ∈ gs, 0 ≤ g) ∧ (0 ≤ b ∧ b < 2147483587) ∧ (0 ≤ st ∧ st ≤ (k : Int)) ∧
    ms ≠ [] ∧ ms.length < 1000 ∧ (∀ m ∈ ms, 0 ≤ m ∧ m < 10 ^ 18)
  sg : S ≠ G
  gm : G ≠ M
  sm : S ≠ M
theorem StoreAt.gr {T : List (Addr × Str)} {L : List Addr} {H H1 : Hp} {S G M : Addr} {k : Nat} (h : StoreAt H S G M k) (g : Gr T L H H1) (n1 : S ∉ L) (n2 : G ∉ L) (n3 : M ∉ L) : StoreAt H1 S G M k := by
  obtain ⟨⟨gs, b, st, ms, h1, h2, h3, h4⟩, a, c, d⟩ := h
  exact ⟨⟨gs, b, st, ms, g.lst h1 n1, g.lst h2 n2, g.lst h3 n3, h4⟩, a, c, d⟩
theorem StoreAt.gr0 {T : List (Addr × Str)} {H H1 : Hp} {S G M : Addr} {k : Nat} (h : StoreAt H S G M k) (g : Gr T [] H H1) : StoreAt H1 S G M k := h.gr g List.not_mem_nil List.not_mem_nil List.not_mem_nil
theorem StoreAt.mono {H : Hp} {S G M : Addr} {k j : Nat} (h : StoreAt H S G M k) (l : k ≤ j) : StoreAt H S G M j := by
  obtain ⟨⟨gs, b, st, ms, h1, h2, h3, h4, h5, ⟨h6, h7⟩, h8⟩, a, c, d⟩ := h
  exact ⟨⟨gs, b, st, ms, h1, h2, h3, h4, h5, ⟨h6, by omega⟩, h8⟩, a, c, d⟩
/-- a for over enumerate(a list that stays) -/
theorem for_enum {K : PySem.W.Frag} {a : Addr} {xs : List V} {g : TG} {tb : TS} {σ : L2.St} {H1 : Hp} {D : Ends} (Pv : Nat → L2.St → Hp → Prop) (h0 : Pv 0 σ H1) (hl : ∀ i σ H, i ≤ xs.length → Pv i σ H → SqL K H a xs)
    (hs : ∀ i x σ H t, xs[i]? = some x → Pv i σ H → H t = none → g (.ref t) σ (upd H t (.tup [.int (i : Nat), x])) fun σ2 H2 => tb { D with nx := Pv (i + 1), ct := Pv (i + 1), bk := D.nx } σ2 H2) (hd : ∀ σ H, Pv xs.length σ H → D.nx σ H) :
    ∃ W : Nat → Nat → L2.St → Hp → Prop, (∃ m, W 0 m σ H1) ∧ ∀ i m σ H, W i m σ H → ((Ite K a).stop i H ∧ D.nx σ H) ∨ ((Ite K a).go i H ∧ ∃ N : L2.St → Hp → Prop, (∀ σ' H', N σ' H' → ∃ m', m' < m ∧ W (i + 1) m' σ' H') ∧ ∀ x H', (Ite K a).yld i H x H' → g x σ H' fun σ2 H2 => tb { D with nx := N, ct := N, bk := D.nx } σ2 H2) := by
  refine ⟨fun i m σ H => m = xs.length - i ∧ i ≤ xs.length ∧ Pv i σ H, ⟨xs.length, by simp, Nat.zero_le _, h0⟩, ?_⟩
  rintro i m σ H ⟨rfl, hi, p⟩
  have q := hl i σ H hi p
  by_cases hlt : i < xs.length
  · refine .inr ⟨⟨xs, xs[i], q, by simp [hlt]⟩, Pv (i + 1), fun σ' H' p' => ⟨xs.length - (i + 1), by omega, rfl, hlt, p'⟩, fun x H' y => ?_⟩
    obtain ⟨t, z, rfl, ht, rfl, hz⟩ := y
    exact hs i z σ H t (hz xs q) p ht
  · have e : i = xs.length := by omega
    subst e
    exact .inl ⟨⟨xs, q, Nat.le_refl _⟩, hd σ H p⟩
theorem cut63 (ns : List Int) : cutV (ns.map V.int) none (some 63) = (ns.take 63).map V.int := by
  unfold cutV
  have e1 : HT.sIx (ns.map V.int).length 0 none = 0 := rfl
  have e2 : HT.sIx (ns.map V.int).length (ns.map V.int).length (some 63) = min 63 (ns.map V.int).length := HT.sIx_nat _ _ 63
  rw [e1, e2, List.drop_zero, Nat.sub_zero, List.map_take]
  by_cases h : 63 ≤ (ns.map V.int).length
  · rw [Nat.min_eq_left h]
  · rw [Nat.min_eq_right (by omega), List.take_of_length_le (Nat.le_refl _), List.take_of_length_le (by omega)]
section
variable {P : Program} {w : World} {K : PySem.W.Frag} {mg : Str → Option Value} {base : Heap} {CW CT CU : Addr} {T : List (Addr × Str)}
def sp_store (T : List (Addr × Str)) (K : PySem.W.Frag) : Sp := fun vs H Q _ => ∃ (a : Addr) (ns : List Int), vs = [.ref a] ∧ SqL K H a (ns.map V.int) ∧ ∀ (H1 : Hp) (S G M : Addr), Gr T [] H H1 → StoreAt H1 S G M 0 → Q (.ref S) H1
theorem sc_store : FnScope ["script", "blend", "place", "cell", "great", "small"] ["script"] (defScope s_law_store) := ⟨rfl, rfl, rfl, by decide +kernel, rfl, by decide +kernel, by decide +kernel⟩
/-- [abs(cell) for cell in row if ..] -/
theorem abs_read {H : Hp} {ns : List Int} {tl te : TE} {tt : TT} {vs : List Nat} {σ : L2.St} {Qd : V → Hp → Prop} {iv : Nat} (f : Int → Bool) (htl : ∀ R : V → Hp → Prop, (∀ p H1, Gr T [] H H1 → H1 p = some (.lst (ns.map V.int)) → R (.ref p) H1) → tl σ H R) (ln : ns.length < 100)
    (hw : ∀ v : V, wipe ((wipe σ vs).set iv (some v)) vs = wipe σ vs) (ht : ∀ (y : Int) (H' : Hp) (R : Bool → Hp → Prop), R (f y) H' → tt ((wipe σ vs).set iv (some (.int y))) H' R)
    (he : ∀ (y : Int) (H' : Hp) (R : V → Hp → Prop), R (.int (if y < 0 then -y else y)) H' → te ((wipe σ vs).set iv (some (.int y))) H' R)
    (hd : ∀ (D : Addr) (H' : Hp), Gr T [] H H' → (∀ b xs, H b = some (.lst xs) → D ≠ b) → H' D = some (.lst (((ns.filter f).map fun y => if y < 0 then -y else y).map V.int)) → Qd (.ref D) H') :
    tLc (iList K tl) (gName iv) tt te vs σ H Qd := by
  refine htl _ fun p H1 g1 hp => ⟨p, rfl, ⟨_, SqL.of hp⟩, fun D hD => ?_⟩
  refine lc_seq (K := K) (Qd := fun H' => Qd (.ref D) H') (seqIt_list K p (ns.map V.int)) (fun i acc H' => acc = (((ns.take i).filter f).map fun y => if y < 0 then -y else y).map V.int ∧ Gr T [] H1 H') ⟨rfl, (Gr.refl H1).new hD⟩
    (fun i acc H' _ e => SqL.of (e.2.lst hp List.not_mem_nil)) (fun i v acc H' hv hl hD' ⟨ea, g⟩ => ?_) (fun acc H' hD' hl ⟨ea, g⟩ => ?_)
  · obtain ⟨y, hy, ev⟩ := ints_item hv
    have li : i < ns.length := (List.getElem?_eq_some_iff.mp hy).1
    have tk : ns.take (i + 1) = ns.take i ++ [y] := by rw [List.take_add_one, hy]; rfl
    rw [ev]
    refine ⟨hw _, ht y H' _ ?_⟩
    cases hf : f y with
    | true =>
      refine iteT (he y H' _ (nx_add hD' hl (lt_line (by omega)) ⟨?_, g.put hD hD' free_lst⟩))
      rw [tk, List.filter_append, List.map_append, List.map_append, ea]
      simp [hf]
    | false =>
      refine iteF ⟨acc, by omega, hD', ?_, g⟩
      rw [tk, List.filter_append, List.map_append, List.map_append, ea]
      simp [hf]
  · rw [List.length_map, List.take_of_length_le (Nat.le_refl _)] at ea
    exact hd D H' (g1.trans g) (fun b xs hb e => by
      have z := g1.lst hb List.not_mem_nil
      rw [← e, hD] at z
      cases z) (by rw [hD', ea])
theorem ok_store {f : Addr} {fd : FuncData} (F : FD K "_law_store" "_law_store" s_law_store f fd) (B : Fc K mg CW CT CU) : FnOk P w K mg base CX0 1 f fd ["script"] (sp_store T K) := by
  refine F.ok sc_store (fun vs H Q E h => ?_) (fun cdv A outer s H vs Q E hr h => ?_)
  · obtain ⟨a, ns, rfl, _⟩ := h; rfl
  · obtain ⟨a, ns, rfl, hS, q⟩ := h
    have okN := sc_store.nd
    refine ⟨_, PSs.nox (pss_cons (ps_set (i := 1) okN rfl (.inl rfl) pe_int)
      (pss_cons (ps_for PassesOwn.never rfl (pi_enum (by rfl) B.enum (pa_cons (pe_slice sl_list (pv 0) po_none (po_some pe_int)) pa_nil)) (pg_tup rfl (pgs_cons (pg_name (i := 2) okN rfl (.inl rfl)) (pgs_cons (pg_name (i := 3) okN rfl (.inl rfl)) pgs_nil)))
        (pss_one (ps_set (i := 1) okN rfl (.inl rfl) (pe_op op_mod (pe_op op_add (pe_op op_add (pe_op op_mul (pv 1) (pv 1)) (pe_op op_mod (pv 3) pe_int)) (pe_op op_mul pe_int (pv 2))) pe_int))))
      (pss_cons (ps_setLc (i := 4) (own := [("cell", 3)]) rfl okN rfl rfl rfl (pi_list (pe_slice sl_list (pv 0) po_none (po_some pe_int))) (blkOk_by (N := ["script", "blend", "place", "cell", "great", "small"]) (sc := defScope s_law_store) (by decide +kernel))
        (fun _ _ _ _ _ => pg_name (i := 3) okN rfl (.inl rfl)) (fun _ _ _ _ _ => pts_one (pt_cmpR op_ge (pe_callB call_abs (by rfl) B.abs boot_abs_ (pa_cons (pv 3) pa_nil)) (pe_op op_pow pe_int pe_int) (nomark _)))
        (fun _ _ _ _ _ => pe_callB call_abs (by rfl) B.abs boot_abs_ (pa_cons (pv 3) pa_nil)))
      (pss_cons (ps_setLc (i := 5) (own := [("cell", 3)]) rfl okN rfl rfl rfl (pi_list (pe_slice sl_list (pv 0) po_none (po_some pe_int))) (blkOk_by (N := ["script", "blend", "place", "cell", "great", "small"]) (sc := defScope s_law_store) (by decide +kernel))
        (fun _ _ _ _ _ => pg_name (i := 3) okN rfl (.inl rfl)) (fun _ _ _ _ _ => pts_one (pt_cmpR op_lt (pe_callB call_abs (by rfl) B.abs boot_abs_ (pa_cons (pv 3) pa_nil)) (pe_op op_pow pe_int pe_int) (nomark _)))
        (fun _ _ _ _ _ => pe_callB call_abs (by rfl) B.abs boot_abs_ (pa_cons (pv 3) pa_nil)))
      (pss_one (ps_ret (pe_lst (pa_cons (pv 4) (pa_cons (pv 1) (pa_cons pe_int (pa_cons (pe_op op_cat (pv 5) (pe_lst (pa_cons pe_int pa_nil))) pa_nil))))))))))), ?_⟩
    have lns : (ns.take 63).length ≤ 63 := List.length_take_le _ _
    refine ⟨_, rfl, _, rfl, a, _, rfl, hS, fun p hp => ?_⟩
    rw [cut63]
    have g1 : Gr T [] H (upd H p (.lst ((ns.take 63).map V.int))) := (Gr.refl H).new hp
    refine ⟨p, _, rfl, SqL.of upd_same, ?_⟩
    have hpl : (upd H p (.lst ((ns.take 63).map V.int))) p = some (.lst ((ns.take 63).map V.int)) := upd_same
    refine for_enum (K := K) (a := p) (xs := (ns.take 63).map V.int) (fun i σ H' => ∃ (b : Int) (o2 o3 : Option V), σ = [some (.ref a), some (.int b), o2, o3, none, none] ∧ (0 ≤ b ∧ b < 2147483587) ∧ Gr T [] (upd H p (.lst ((ns.take 63).map V.int))) H')
      ⟨271, none, none, rfl, by decide, Gr.refl _⟩ (fun i σ H' _ e => ?_) (fun i x σ H' t hx e ht => ?_) (fun σ H' e => ?_)
    · obtain ⟨b, o2, o3, _, _, g⟩ := e
      exact SqL.of (g.lst hpl List.not_mem_nil)
    · obtain ⟨b, o2, o3, rfl, hb, g⟩ := e
      obtain ⟨y, hy, rfl⟩ := ints_item hx
      refine ⟨t, _, rfl, SqT.of upd_same, rfl, .int (i : Nat), [.int y], rfl, .int y, [], rfl, rfl, ?_⟩
      refine ⟨_, rfl, _, rfl, b, b, rfl, rfl, .inl ⟨by omega, by omega⟩, _, rfl, y, 2147483629, rfl, rfl, (by show (0 : Int) < 2147483629; decide), _, _, rfl, rfl, _, rfl, 40009, _, rfl, rfl, .inl ⟨by decide, by decide⟩, _, _, rfl, rfl, _, 2147483587, rfl, rfl, (by show (0 : Int) < 2147483587; decide), ?_⟩
      exact ⟨_, _, _, rfl, ⟨Int.emod_nonneg _ (by decide), Int.emod_lt_of_pos _ (by decide)⟩, g.new ht⟩
    · obtain ⟨b, o2, o3, rfl, hb, g⟩ := e
      have g2 := g1.trans g
      have hsl : ∀ (σ : L2.St) (H' : Hp), σ[0]? = some (some (.ref a)) → Gr T [] H H' → ∀ R : V → Hp → Prop, (∀ p H1, Gr T [] H' H1 → H1 p = some (.lst ((ns.take 63).map V.int)) → R (.ref p) H1) → tSl (rSlL K) (tVar 0) tNoPart (tPart (tC (.int 63))) σ H' R := fun σ H' e0 g0 R k => by
        refine ⟨_, e0, _, rfl, a, _, rfl, g0.sqL hS List.not_mem_nil, fun p2 hp2 => ?_⟩
        rw [cut63]
        exact k p2 _ ((Gr.refl H').new hp2) upd_same
      dsimp only [tSeq, tAsg, gName]
      refine abs_read (K := K) (T := T) (ns := ns.take 63) (fun y => decide ((10 : Int) ^ (18 : Int).toNat ≤ if y < 0 then -y else y)) ?_ (by omega) ?_ (fun y H8 R z => ?_) (fun y H8 R z => ?_) fun G H3 g3 _ hG => ?_
      · exact fun R k => hsl _ _ rfl g2 R k
      · exact fun _ => rfl
      · exact ⟨_, rfl, y, rfl, 10, 18, rfl, rfl, ⟨by decide, by decide, by decide⟩, _, _, rfl, rfl, _, rfl, z⟩
      · exact ⟨_, rfl, y, rfl, z⟩
      have g23 := g2.trans g3
      refine abs_read (K := K) (T := T) (ns := ns.take 63) (fun y => decide ((if y < 0 then -y else y) < (10 : Int) ^ (18 : Int).toNat)) ?_ (by omega) ?_ (fun y H8 R z => ?_) (fun y H8 R z => ?_) fun M0 H4 g4 _ hM0 => ?_
      · exact fun R k => hsl _ _ rfl g23 R k
      · exact fun _ => rfl
      · exact ⟨_, rfl, y, rfl, 10, 18, rfl, rfl, ⟨by decide, by decide, by decide⟩, _, _, rfl, rfl, _, rfl, z⟩
      · exact ⟨_, rfl, y, rfl, z⟩
      have hG4 := g4.lst hG List.not_mem_nil
      have g24 := g23.trans g4
      refine ⟨_, rfl, _, rfl, _, rfl, le_line (by show 1 < 1000; decide), fun c hc => ?_⟩
      have nMc : M0 ≠ c := ne_of_none hM0 hc
      have g5 := g24.new (o := .lst [.int 17]) hc
      have hG5 : (upd H4 c (.lst [.int 17])) G = _ := (upd_ne (ne_of_none hG4 hc)).trans hG4
      have lf : ∀ (f : Int → Bool), (((ns.take 63).filter f).map fun y => if y < 0 then -y else y).length ≤ 63 := fun f => by
        rw [List.length_map]
        exact Nat.le_trans (List.length_filter_le _ _) lns
      refine ⟨M0, c, _, _, rfl, rfl, (upd_ne nMc).trans hM0, upd_same, ?_, fun M hM => ?_⟩
      · rw [List.length_map]
        have z := lf fun y => decide ((if y < 0 then -y else y) < (10 : Int) ^ (18 : Int).toNat)
        rw [sizeLine_eq]
        show _ + 1 ≤ _
        omega
      obtain ⟨ms, ems⟩ : ∃ ms, ms = ((ns.take 63).filter fun y => decide ((if y < 0 then -y else y) < (10 : Int) ^ (18 : Int).toNat)).map fun y => if y < 0 then -y else y := ⟨_, rfl⟩
      have lms : ms.length ≤ 63 := by rw [ems]; exact lf _
      have nGM : G ≠ M := ne_of_none hG5 hM
      have nGS : ∀ S, (upd (upd H4 c (.lst [.int 17])) M (.lst (ms.map V.int ++ [.int 17]))) S = none → G ≠ S := fun S hS => ne_of_none ((upd_ne nGM).trans hG5) hS
      rw [← ems]
      refine ⟨le_line (by show 4 < 1000; decide), fun S hSn => ?_⟩
      have g6 := (g5.new (o := .lst (ms.map V.int ++ [.int 17])) hM).new (o := .lst [.ref G, .int b, .int 0, .ref M]) hSn
      have nGS := nGS S hSn
      have nMS : M ≠ S := ne_of_none upd_same hSn
      refine q _ S G M g6 ⟨⟨_, b, 0, ms ++ [17], upd_same, (upd_ne nGS).trans ((upd_ne nGM).trans hG5), ?_, ?_, hb, by decide, by simp, ?_, ?_⟩, nGS.symm, nGM, nMS.symm⟩
      · rw [upd_ne nMS, upd_same, List.map_append]
        rfl
      · intro x hx
        obtain ⟨y, _, rfl⟩ := List.mem_map.mp hx
        split <;> omega
      · rw [List.length_append]
        show _ + 1 < _
        omega
      · intro x hx
        rcases List.mem_append.mp hx with hx | hx
        · rw [ems] at hx
          obtain ⟨y, hy, rfl⟩ := List.mem_map.mp hx
          have z := of_decide_eq_true (List.mem_filter.mp hy).2
          have e18 : (10 : Int) ^ (18 : Int).toNat = 10 ^ 18 := rfl
          rw [e18] at z
          refine ⟨?_, z⟩
          split <;> omega
        · rw [List.mem_singleton.mp hx]
          decide
end
end KD
end

section
set_option Elab.async false
set_option linter.all false
set_option maxRecDepth 100000
set_option maxHeartbeats 4000000
/-! draws -/
namespace KD
open PySem PySem.Spec PyProof.Rows C8 LamX NdefX
open L2 hiding CX0 E0 pass0 Fun
theorem atI_nat {α : Type} {xs : List α} {i : Int} (h0 : 0 ≤ i) (h1 : i < xs.length) : atI xs i = some (xs[i.toNat]'(by omega)) := by
  unfold atI ixN
  rw [if_pos h0, if_pos h1]
  show xs[i.toNat]? = _
  rw [List.getElem?_eq_getElem]
theorem ixN_zero (n : Nat) : ixN (n + 1) 0 = some 0 := by
  unfold ixN
  rw [if_pos (by omega), if_pos (by omega)]
  rfl
theorem atI_head {α : Type} (x : α) (xs : List α) : atI (x :: xs) 0 = some x := by
  unfold atI
  rw [List.length_cons, ixN_zero]
  rfl
theorem seqIx_zero (n : Nat) : seqIndex? 0 (n + 1) = some 0 := by
  unfold seqIndex?
  simp
def primesV : List V := [.int 2147483563, .int 2147483549, .int 2147483543, .int 2147483497, .int 2147483489]
theorem prime_at {i : Int} (h0 : 0 ≤ i) (h1 : i < 5) : ∃ p : Int, atI primesV i = some (.int p) ∧ 2000000000 < p ∧ p < 2147483564 := by
  have : i = 0 ∨ i = 1 ∨ i = 2 ∨ i = 3 ∨ i = 4 := by omega
  rcases this with e | e | e | e | e <;> subst e <;> exact ⟨_, rfl, by decide, by decide⟩
theorem Gr.put2' {T : List (Addr × Str)} {L : List Addr} {H H1 : Hp} {D : Addr} {xs ys : List V} (a : Gr T L H H1) (hM : D ∈ L) (hD : H1 D = some (.lst xs)) : Gr T L H (upd H1 D (.lst ys)) :=
  ⟨fun b u e n m => by
    by_cases z : b = D
    · exfalso
      rw [z] at e m
      by_cases hl : ∃ zs, u = .lst zs
      · obtain ⟨zs, hz⟩ := hl
        exact m zs hz hM
      · have y := a.keep D u e n fun zs hz => absurd ⟨zs, hz⟩ hl
        rw [hD] at y
        exact hl ⟨xs, (Option.some.inj y).symm⟩
    · exact (upd_ne z).trans (a.keep b u e n m), fun t => tabs_put (a.tabs t) hD free_lst⟩
theorem if_yes {c : Bool} {A B : Prop} (h : c = true) (a : A) : if c = true then A else B := by rw [h]; exact iteT a
theorem if_no {c : Bool} {A B : Prop} (h : c = false) (b : B) : if c = true then A else B := by rw [h]; exact iteF b
/-- the store, its great numbers told -/
def StoreG (H : Hp) (S G M : Addr) (k : Nat) (gs : List Int) : Prop := ∃ (b st : Int) (ms : List Int), H S = some (.lst [.ref G, .int b, .int st, .ref M]) ∧ H G = some (.lst (gs.map V.int)) ∧ H M = some (.lst (ms.map V.int)) ∧ (∀ g ∈ gs, 0 ≤ g) ∧ (0 ≤ b ∧ b < 2147483587) ∧ (0 ≤ st ∧ st ≤ (k : Int)) ∧
    ms ≠ [] ∧ ms.length < 1000 ∧ (∀ m ∈ ms, 0 ≤ m ∧ m < 10 ^ 18)
theorem StoreG.gr {T : List (Addr × Str)} {L : List Addr} {H H1 : Hp} {S G M : Addr} {k : Nat} {gs : List Int} (h : StoreG H S G M k gs) (g : Gr T L H H1) (n1 : S ∉ L) (n2 : G ∉ L) (n3 : M ∉ L) : StoreG H1 S G M k gs := by
  obtain ⟨b, st, ms, h1, h2, h3, h4⟩ := h
  exact ⟨b, st, ms, g.lst h1 n1, g.lst h2 n2, g.lst h3 n3, h4⟩
theorem StoreG.great {H : Hp} {S G M : Addr} {k : Nat} {gs hs : List Int} (h : StoreG H S G M k gs) (sg : S ≠ G) (gm : G ≠ M) (n : ∀ g ∈ hs, 0 ≤ g) : StoreG (upd H G (.lst (hs.map V.int))) S G M k hs := by
  obtain ⟨b, st, ms, h1, h2, h3, h4, h5⟩ := h
  exact ⟨b, st, ms, (upd_ne sg).trans h1, upd_same, (upd_ne (Ne.symm gm)).trans h3, n, h5⟩
theorem StoreG.step {H : Hp} {S G M : Addr} {j : Nat} {gs : List Int} {b st st' : Int} {ms : List Int} (h1 : H S = some (.lst [.ref G, .int b, .int st, .ref M])) (h2 : H G = some (.lst (gs.map V.int))) (h3 : H M = some (.lst (ms.map V.int))) (h4 : ∀ g ∈ gs, 0 ≤ g) (h5 : 0 ≤ b ∧ b < 2147483587) (h6 : 0 ≤ st' ∧ st' ≤ (j : Int)) (h7 : ms ≠ [] ∧ ms.length < 1000 ∧ (∀ m ∈ ms, 0 ≤ m ∧ m < 10 ^ 18)) (sg : S ≠ G) (sm : S ≠ M) : StoreG (upd H S (.lst [.ref G, .int b, .int st', .ref M])) S G M j gs :=
  ⟨b, st', ms, upd_same, (upd_ne (Ne.symm sg)).trans h2, (upd_ne (Ne.symm sm)).trans h3, h4, h5, h6, h7⟩
theorem StoreAt.of {H : Hp} {S G M : Addr} {k : Nat} {gs : List Int} (h : StoreG H S G M k gs) (sg : S ≠ G) (gm : G ≠ M) (sm : S ≠ M) : StoreAt H S G M k := ⟨⟨gs, h⟩, sg, gm, sm⟩
theorem and_to {c d : Bool} {u : TT} {σ : L2.St} {He : Hp} {Qc : Bool → Hp → Prop} (hu : c = true → ∀ R : Bool → Hp → Prop, R d He → u σ He R) (k : Qc (c && d) He) : if c = true then u σ He Qc else Qc false He := by
  cases c with
  | true => exact iteT (hu rfl Qc k)
  | false => exact iteF k
def headZ : List Int → Bool
  | [] => false
  | g :: _ => decide (V.int g = V.int 0)
def ifBody : Stmt → List Stmt
  | .If _ b _ _ => b
  | _ => []
section
variable {P : Program} {w : World} {K : PySem.W.Frag} {mg : Str → Option Value} {base : Heap} {CW CT CU : Addr} {T : List (Addr × Str)}
abbrev N_draw : List Str := ["store", "many", "digit", "found", "turn", "step", "primes", "cell", "one", "two"]
theorem sc_draw : FnScope N_draw ["store", "many"] (defScope s_law_draw) := ⟨rfl, rfl, rfl, by decide +kernel, rfl, by decide +kernel, by decide +kernel⟩
theorem sq_lt {x : Int} (h0 : 0 ≤ x) (h1 : x < 2147483564) : 0 ≤ x * x ∧ x * x < 4611686018427387904 * 2 := by
  have a : 0 ≤ x * x := Int.mul_nonneg h0 h0
  have b : x * x ≤ 2147483564 * 2147483564 := Int.mul_le_mul (by omega) (by omega) h0 (by omega)
  exact ⟨a, by omega⟩
theorem mulOk {x : Int} (h0 : 0 ≤ x) (h1 : x < 2147483564) : -(2 ^ 64) < x ∧ x < 2 ^ 64 := ⟨by omega, by omega⟩
theorem twOk {x b s : Int} (h0 : 0 ≤ x) (h1 : x < 4611686018427387904 * 2) (b0 : 0 ≤ b) (b1 : b < 1000003) (s0 : 0 ≤ s) (s1 : s ≤ 1000000000) : (x + b + (s + 1)).natAbs < 2 ^ 64 := by omega
theorem draw_core {A : Around} {outer : List Env} {s : Shared} {H0 : Hp} {E : XK} {f : Addr} {cdv : Value} {S G M : Addr} {k : Nat} {many : Int} {H : Hp} {Q : VK} {tb : TS} (B : Fc K mg CW CT CU) (hu : A.units + 3 + 64 < cLine)
    (hb : PSs (cxOf CX0 P w K mg base N_draw "_law_draw" (defScope s_law_draw) f cdv A outer s H0 E).nox (ifBody ((defBody s_law_draw).getD 2 (.Pass ⟨0, 0, 0, 0⟩))) tb)
    (hS : StoreAt H S G M k) (hm : 1 ≤ many ∧ many ≤ 10 ^ 15) (hk : k ≤ 1000000000)
    (big : (10 : Int) ^ 6 < many → ∀ (H1 : Hp) (D : Ends), Gr T [S, G] H H1 → StoreAt H1 S G M k → D.rt = Q → tb D (start N_draw [.ref S, .int many]) H1)
    (q : ∀ (H1 : Hp) (d : Int), Gr T [S, G] H H1 → StoreAt H1 S G M (k + 1) → 0 ≤ d → d < many → Q (.int d) H1) :
    ∃ t, PSs (cxOf CX0 P w K mg base N_draw "_law_draw" (defScope s_law_draw) f cdv A outer s H0 E) (defBody s_law_draw) t ∧ t { nx := fun _ H' => Q .non H', rt := Q } (start N_draw [.ref S, .int many]) H := by
  have okN := sc_draw.nd
  have hu0 : A.units + 3 < cLine := by omega
  obtain ⟨⟨gs0, hg0⟩, sg, gm, sm⟩ := hS
  have mS : S ∈ [S, G] := List.mem_cons_self
  have mG : G ∈ [S, G] := List.mem_cons_of_mem _ List.mem_cons_self
  refine ⟨_, PSs.nox (pss_cons (ps_while PassesOwn.never (pw_and (pt_cmpR (op_neNil hu0) (pe_ix ix_list (pv 0) pe_int (fun _ _ => rfl)) (pe_lst pa_nil) (nomark _)) (pw_and1 (pt_cmpR op_eq (pe_ix ix_list (pe_ix ix_list (pv 0) pe_int (fun _ _ => rfl)) pe_int (fun _ _ => rfl)) pe_int (nomark _)))).pt
        (pss_one (ps_expr (pe_bm PySem.F.plainAttrs_list PySem.F.slot_list_pop PySem.F.type_list_pop mt_popAt (pe_ix ix_list (pv 0) pe_int (fun _ _ => rfl)) (pa_cons pe_int pa_nil)))))
    (pss_cons (ps_if (pt_cmpR (op_neNil hu0) (pe_ix ix_list (pv 0) pe_int (fun _ _ => rfl)) (pe_lst pa_nil) (nomark _))
        (pss_cons (ps_set (i := 2) okN rfl (.inl rfl) (pe_op op_mod (pe_ix ix_list (pe_ix ix_list (pv 0) pe_int (fun _ _ => rfl)) pe_int (fun _ _ => rfl)) (pv 1)))
        (pss_cons (ps_asg (pe_op op_fdivW (pe_ix ix_list (pe_ix ix_list (pv 0) pe_int (fun _ _ => rfl)) pe_int (fun _ _ => rfl)) (pv 1)) (pg_sub (pe_ix ix_list (pv 0) pe_int (fun _ _ => rfl)) pe_int set_list))
        (pss_one (ps_ret (pv 2))))) pss_nil)
    (pss_cons (ps_if (pt_cmpR op_gt (pv 1) (pe_op op_pow pe_int pe_int) (nomark _)) hb pss_nil)
    (pss_cons (ps_set (i := 5) okN rfl (.inl rfl) (pe_op op_add (pe_ix ix_list (pv 0) pe_int (fun _ _ => rfl)) pe_int))
    (pss_cons (ps_asg (pv 5) (pg_sub (pv 0) pe_int set_list))
    (pss_cons (ps_set (i := 6) okN rfl (.inl rfl) (pe_lst (pa_cons pe_int (pa_cons pe_int (pa_cons pe_int (pa_cons pe_int (pa_cons pe_int pa_nil)))))))
    (pss_cons (ps_set (i := 7) okN rfl (.inl rfl) (pe_ix ix_list (pe_ix ix_list (pv 0) pe_int (fun _ _ => rfl)) (pe_op op_mod (pv 5) (pe_callB call_len (by rfl) B.len boot_len_ (pa_cons (pe_ix ix_list (pv 0) pe_int (fun _ _ => rfl)) pa_nil))) (fun _ _ => rfl)))
    (pss_cons (ps_set (i := 8) okN rfl (.inl rfl) (pe_op op_mod (pe_op op_pow (pe_op op_add (pe_op op_add (pe_op op_add (pe_ix ix_list (pv 0) pe_int (fun _ _ => rfl)) (pv 7)) (pe_op op_mul pe_int (pv 5))) pe_int) pe_int) (pe_ix ix_list (pv 6) (pe_op op_mod (pv 5) pe_int) (fun _ _ => rfl))))
    (pss_cons (ps_set (i := 9) okN rfl (.inl rfl) (pe_op op_add (pe_op op_add (pe_op op_mul (pv 8) (pv 8)) (pe_op op_mod (pe_ix ix_list (pv 0) pe_int (fun _ _ => rfl)) pe_int)) (pv 5)))
    (pss_one (ps_ret (pe_op op_mod (pe_op op_fdivW (pe_op op_mod (pe_op op_pow (pv 9) pe_int) (pe_ix ix_list (pv 6) (pe_op op_mod (pe_op op_add (pv 5) pe_int) pe_int) (fun _ _ => rfl))) pe_int) (pv 1))))))))))))), ?_⟩
  refine ⟨fun n σ H' => ∃ gs : List Int, gs.length = n ∧ σ = start N_draw [.ref S, .int many] ∧ StoreG H' S G M k gs ∧ Gr T [S, G] H H', ⟨_, gs0, rfl, rfl, hg0, Gr.refl H⟩, ?_⟩
  rintro n σ H1 ⟨gs, rfl, rfl, hg, g⟩
  obtain ⟨b, st, ms, h1, h2, h3, hn, h5, h6, h7⟩ := id hg
  refine ⟨_, rfl, S, _, 0, .ref G, rfl, rfl, SqL.of h1, rfl, le_line (by decide), fun e he => ?_⟩
  let He : Hp := upd H1 e (.lst [])
  have ge : Gr T [] H1 He := (Gr.refl H1).new he
  have h2e := ge.lst h2 List.not_mem_nil
  have h1e := ge.lst h1 List.not_mem_nil
  have h3e := ge.lst h3 List.not_mem_nil
  refine ⟨G, e, _, rfl, rfl, SqL.of h2e, SqL.of upd_same, _, rfl, ?_⟩
  refine and_to (d := headZ gs) (fun hc R z => ?_) ?_
  · cases gs with
    | nil => cases hc
    | cons g0 gs' => exact ⟨_, rfl, S, _, 0, .ref G, rfl, rfl, SqL.of h1e, rfl, G, _, 0, .int g0, rfl, rfl, SqL.of h2e, atI_head _ _, rfl, _, rfl, z⟩
  have gg : Gr T [S, G] H He := g.trans ge.mono
  cases hcd : (!(gs.map V.int).isEmpty && headZ gs) with
  | true =>
    refine iteT ⟨_, fun σ' H' p => ⟨gs.length - 1, ?_, p⟩, ?_⟩
    · cases gs with
      | nil => cases hcd
      | cons g0 gs' => show gs'.length < gs'.length + 1; omega
    · cases gs with
      | nil => cases hcd
      | cons g0 gs' =>
        refine ⟨_, rfl, S, _, 0, .ref G, rfl, rfl, SqL.of h1e, rfl, .inl ⟨rfl, _, SqL.of h2e⟩, G, _, 0, 0, .int g0, rfl, rfl, h2e, by decide, by decide, seqIx_zero _, rfl, ?_⟩
        have hn' : ∀ g ∈ gs', 0 ≤ g := fun y hy => hn y (List.mem_cons_of_mem _ hy)
        exact ⟨gs', rfl, rfl, StoreG.great (hg.gr ge List.not_mem_nil List.not_mem_nil List.not_mem_nil) sg gm hn', gg.put2' mG h2e⟩
  | false =>
    refine iteF ?_
    refine ⟨_, rfl, S, _, 0, .ref G, rfl, rfl, SqL.of h1e, rfl, le_line (by decide), fun e2 he2 => ?_⟩
    let H2 : Hp := upd He e2 (.lst [])
    have ge2 : Gr T [] He H2 := (Gr.refl He).new he2
    have k1 := ge2.lst h1e List.not_mem_nil
    have k2 := ge2.lst h2e List.not_mem_nil
    have k3 := ge2.lst h3e List.not_mem_nil
    have g2 : Gr T [S, G] H H2 := gg.trans ge2.mono
    have hg2 : StoreG H2 S G M k gs := ⟨b, st, ms, k1, k2, k3, hn, h5, h6, h7⟩
    refine ⟨G, e2, _, rfl, rfl, SqL.of k2, SqL.of upd_same, _, rfl, ?_⟩
    cases gs with
    | cons g0 gs' =>
      refine iteT ⟨_, rfl, S, _, 0, .ref G, rfl, rfl, SqL.of k1, rfl, G, _, 0, .int g0, rfl, rfl, SqL.of k2, atI_head _ _, _, rfl, g0, many, rfl, rfl, by show 0 < many; omega, ?_⟩
      refine ⟨_, rfl, S, _, 0, .ref G, rfl, rfl, SqL.of k1, rfl, G, _, 0, .int g0, rfl, rfl, SqL.of k2, atI_head _ _, _, rfl, g0, many, rfl, rfl, ⟨by omega, ?_⟩, ?_⟩
      · have z : many.natAbs < 2 ^ 64 := by omega
        have := log_small z
        omega
      refine ⟨_, rfl, S, _, 0, .ref G, rfl, rfl, SqL.of k1, rfl, G, _, 0, 0, rfl, rfl, k2, ixN_zero _, _, rfl, ?_⟩
      have n0 : 0 ≤ g0 := hn g0 List.mem_cons_self
      have hn' : ∀ g ∈ (g0 / many) :: gs', 0 ≤ g := fun y hy => by
        rcases List.mem_cons.mp hy with z | z
        · rw [z]; exact Int.ediv_nonneg n0 (by omega)
        · exact hn y (List.mem_cons_of_mem _ z)
      exact q _ _ (g2.put2' mG k2) ((StoreAt.of (hg2.great sg gm hn') sg gm sm).mono (Nat.le_succ _)) (Int.emod_nonneg _ (by omega)) (Int.emod_lt_of_pos _ (by omega))
    | nil =>
      refine iteF ?_
      refine ⟨_, rfl, 10, 6, rfl, rfl, ⟨by decide, by decide, by decide⟩, many, _, rfl, rfl, _, rfl, ?_⟩
      by_cases hbig : (10 : Int) ^ 6 < many
      · exact if_yes (decide_eq_true hbig) (big hbig _ _ g2 (StoreAt.of hg2 sg gm sm) rfl)
      · refine if_no (decide_eq_false hbig) ?_
        refine ⟨_, rfl, S, _, 2, .int st, rfl, rfl, SqL.of k1, rfl, st, 1, rfl, rfl, ?_⟩
        refine ⟨_, rfl, _, rfl, S, _, 2, 2, rfl, rfl, k1, rfl, ?_⟩
        let H3 : Hp := upd H2 S (.lst [.ref G, .int b, .int (st + 1), .ref M])
        have hg3 : StoreG H3 S G M (k + 1) [] := StoreG.step (st' := st + 1) k1 k2 k3 hn h5 ⟨by omega, by omega⟩ h7 sg sm
        have g3 : Gr T [S, G] H H3 := g2.put2' mS k1
        have s1 : H3 S = some (.lst [.ref G, .int b, .int (st + 1), .ref M]) := upd_same
        have s3 : H3 M = some (.lst (ms.map V.int)) := (upd_ne (Ne.symm sm)).trans k3
        refine ⟨le_line (by show 5 < 1000; decide), fun p hp => ?_⟩
        let H4 : Hp := upd H3 p (.lst primesV)
        have ge4 : Gr T [] H3 H4 := (Gr.refl H3).new hp
        have g4 : Gr T [S, G] H H4 := g3.trans ge4.mono
        have hg4 : StoreG H4 S G M (k + 1) [] := hg3.gr ge4 List.not_mem_nil List.not_mem_nil List.not_mem_nil
        have t1 := ge4.lst s1 List.not_mem_nil
        have t3 := ge4.lst s3 List.not_mem_nil
        have tp : H4 p = some (.lst primesV) := upd_same
        obtain ⟨m0, m1, m2⟩ := h7
        have lm : 0 < (ms.length : Int) := by
          have := List.length_pos_iff.mpr m0
          omega
        have i0 : 0 ≤ (st + 1) % (ms.length : Int) := Int.emod_nonneg _ (by omega)
        have i1 : (st + 1) % (ms.length : Int) < (ms.length : Int) := Int.emod_lt_of_pos _ lm
        have i2 : ((st + 1) % (ms.length : Int)).toNat < ms.length := by omega
        obtain ⟨c, ec⟩ : ∃ c, c = ms[((st + 1) % (ms.length : Int)).toNat] := ⟨_, rfl⟩
        have hc : 0 ≤ c ∧ c < 10 ^ 18 := by rw [ec]; exact m2 _ (List.getElem_mem i2)
        have hat : atI (ms.map V.int) ((st + 1) % (ms.length : Int)) = some (.int c) := by
          rw [atI_nat i0 (by rw [List.length_map]; exact i1), List.getElem_map, ec]
        refine ⟨_, rfl, S, _, 3, .ref M, rfl, rfl, SqL.of t1, rfl, _, rfl, _, rfl, S, _, 3, .ref M, rfl, rfl, SqL.of t1, rfl, _, ms.length, rfl, .inl ⟨_, SqL.of t3, by rw [List.length_map]⟩, st + 1, _, rfl, rfl, lm, M, _, _, .int c, rfl, rfl, SqL.of t3, hat, ?_⟩
        obtain ⟨p1, e1, a1, b1⟩ := prime_at (i := (st + 1) % 5) (Int.emod_nonneg _ (by decide)) (Int.emod_lt_of_pos _ (by decide))
        obtain ⟨p2, e2', a2, b2⟩ := prime_at (i := (st + 1 + 2) % 5) (Int.emod_nonneg _ (by decide)) (Int.emod_lt_of_pos _ (by decide))
        obtain ⟨st0, st1⟩ := h6
        obtain ⟨hc0, hc1⟩ := hc
        have hc1' : c < 1000000000000000000 := hc1
        refine ⟨_, rfl, S, _, 1, .int b, rfl, rfl, SqL.of t1, rfl, _, rfl, b, c, rfl, rfl, _, rfl, 104729, st + 1, rfl, rfl, .inl ⟨by decide, by decide⟩, _, _, rfl, rfl, _, 13, rfl, rfl, _, 3, rfl, rfl, ⟨by decide, by decide, by show (b + c + 104729 * (st + 1) + 13).natAbs < 2 ^ 64; omega⟩, _, rfl, _, rfl, _, 5, rfl, rfl, by show (0 : Int) < 5; decide, p, primesV, _, .int p1, rfl, rfl, SqL.of tp, e1, _, _, rfl, rfl, by show 0 < p1; omega, ?_⟩
        have np1 : p1 ≠ 0 := by omega
        have pp1 : 0 < p1 := by omega
        have on0 := Int.emod_nonneg ((b + c + 104729 * (st + 1) + 13) ^ (3 : Int).toNat) np1
        have on1 : (b + c + 104729 * (st + 1) + 13) ^ (3 : Int).toNat % p1 < 2147483564 := Int.lt_trans (Int.emod_lt_of_pos ((b + c + 104729 * (st + 1) + 13) ^ (3 : Int).toNat) pp1) b1
        obtain ⟨sq0, sq1⟩ := sq_lt on0 on1
        let on : Int := (b + c + 104729 * (st + 1) + 13) ^ (3 : Int).toNat % p1
        have on0' : 0 ≤ on := on0
        have on1' : on < 2147483564 := on1
        have sq0' : 0 ≤ on * on := sq0
        have sq1' : on * on < 4611686018427387904 * 2 := sq1
        refine ⟨_, rfl, _, rfl, on, on, rfl, rfl, .inl (mulOk on0 on1), _, rfl, S, _, 1, .int b, rfl, rfl, SqL.of t1, rfl, b, 1000003, rfl, rfl, by show (0 : Int) < 1000003; decide, _, _, rfl, rfl, _, rfl, _, _, rfl, rfl, ?_⟩
        have bm0 : 0 ≤ b % 1000003 := Int.emod_nonneg _ (by decide)
        have bm1 : b % 1000003 < 1000003 := Int.emod_lt_of_pos _ (by decide)
        refine ⟨_, rfl, on * on + b % 1000003 + (st + 1), 5, rfl, rfl, ⟨by decide, by decide, twOk sq0 sq1 bm0 bm1 st0 (by omega)⟩, _, rfl, _, rfl, _, 2, rfl, rfl, _, 5, rfl, rfl, by show (0 : Int) < 5; decide, p, primesV, _, .int p2, rfl, rfl, SqL.of tp, e2', _, _, rfl, rfl, by show 0 < p2; omega, _, 16, rfl, rfl, ⟨by decide, by decide⟩, _, rfl, _, many, rfl, rfl, by show 0 < many; omega, ?_⟩
        exact q _ _ g4 (StoreAt.of hg4 sg gm sm) (Int.emod_nonneg _ (by omega)) (Int.emod_lt_of_pos _ (by omega))
end
end KD
end

section
set_option Elab.async false
set_option linter.all false
set_option maxRecDepth 100000
set_option maxHeartbeats 4000000
/-! draws, promised; some; moments -/
namespace KD
open PySem PySem.Spec PyProof.Rows C8 LamX NdefX
open L2 hiding CX0 E0 pass0 Fun
/-- a for over range(..) -/
theorem for_rng {lo : Int} {n : Nat} {g : TG} {tb : TS} {σ : L2.St} {H1 : Hp} {D : Ends} (Pv : Nat → L2.St → Hp → Prop) (h0 : Pv 0 σ H1)
    (hs : ∀ (i : Nat) σ H, i < n → Pv i σ H → g (.int (lo + (i : Nat))) σ H fun σ2 H2 => tb { D with nx := Pv (i + 1), ct := Pv (i + 1), bk := D.nx } σ2 H2) (hd : ∀ σ H, Pv n σ H → D.nx σ H) :
    ∃ W : Nat → Nat → L2.St → Hp → Prop, (∃ m, W 0 m σ H1) ∧ ∀ i m σ H, W i m σ H → ((Itr lo n).stop i H ∧ D.nx σ H) ∨ ((Itr lo n).go i H ∧ ∃ N : L2.St → Hp → Prop, (∀ σ' H', N σ' H' → ∃ m', m' < m ∧ W (i + 1) m' σ' H') ∧ ∀ x H', (Itr lo n).yld i H x H' → g x σ H' fun σ2 H2 => tb { D with nx := N, ct := N, bk := D.nx } σ2 H2) := by
  refine ⟨fun i m σ H => m = n - i ∧ i ≤ n ∧ Pv i σ H, ⟨n, by simp, Nat.zero_le _, h0⟩, ?_⟩
  rintro i m σ H ⟨rfl, hi, p⟩
  by_cases hlt : i < n
  · refine .inr ⟨hlt, Pv (i + 1), fun σ' H' p' => ⟨n - (i + 1), by omega, rfl, hlt, p'⟩, fun x H' y => ?_⟩
    obtain ⟨rfl, rfl⟩ := y
    exact hs i σ H' hlt p
  · have e : i = n := by omega
    subst e
    exact .inl ⟨Nat.le_refl _, hd σ H p⟩
/-- [.. for .. in range(..)] -/
theorem lc_rng {lo : Int} {n : Nat} {g : TG} {tt : TT} {te : TE} {vs : List Nat} {σ : L2.St} {H1 : Hp} {D : Addr} {Qd : Hp → Prop} (Pv : Nat → List V → Hp → Prop)
    (h0 : Pv 0 [] (upd H1 D (.lst [])))
    (hs : ∀ (i : Nat) acc H, i < n → acc.length ≤ i → H D = some (.lst acc) → Pv i acc H → g (.int (lo + (i : Nat))) (wipe σ vs) H fun σ2 H2 => wipe σ2 vs = wipe σ vs ∧ tt σ2 H2 fun b H3 =>
      if b = true then te σ2 H3 fun y H4 => ∃ acc, H4 D = some (.lst acc) ∧ acc.length < sizeLine ∧ NxL D Pv (i + 1) (upd H4 D (.lst (acc ++ [y]))) else NxL D Pv (i + 1) H3)
    (hd : ∀ acc H, H D = some (.lst acc) → acc.length ≤ n → Pv n acc H → Qd H) :
    ∃ W : Nat → Nat → Hp → Prop, (∃ m, W 0 m (upd H1 D (.lst []))) ∧ ∀ i m H, W i m H →
      ((Itr lo n).stop i H ∧ Qd H) ∨ ((Itr lo n).go i H ∧ ∃ Nx : Hp → Prop, (∀ H', Nx H' → ∃ m', m' < m ∧ W (i + 1) m' H') ∧ ∀ x H', (Itr lo n).yld i H x H' → g x (wipe σ vs) H' fun σ2 H2 => wipe σ2 vs = wipe σ vs ∧ tt σ2 H2 fun b H3 =>
        if b = true then te σ2 H3 fun y H4 => ∃ acc, H4 D = some (.lst acc) ∧ acc.length < sizeLine ∧ Nx (upd H4 D (.lst (acc ++ [y]))) else Nx H3) := by
  refine ⟨fun i m H => m = n - i ∧ i ≤ n ∧ NxL D Pv i H, ⟨n, by simp, Nat.zero_le _, [], Nat.le_refl _, upd_same, h0⟩, ?_⟩
  rintro i m H ⟨rfl, hi, acc, ha, hD, p⟩
  by_cases hlt : i < n
  · refine .inr ⟨hlt, NxL D Pv (i + 1), fun H' p' => ⟨n - (i + 1), by omega, rfl, hlt, p'⟩, fun x H' y => ?_⟩
    obtain ⟨rfl, rfl⟩ := y
    exact hs i acc _ hlt ha hD p
  · have e : i = n := by omega
    subst e
    exact .inl ⟨Nat.le_refl _, hd acc H hD ha p⟩
section
variable {P : Program} {w : World} {K : PySem.W.Frag} {mg : Str → Option Value} {base : Heap} {CW CT CU : Addr} {T : List (Addr × Str)}
def sp_draw (T : List (Addr × Str)) (most : Int) (c : Nat) : Sp := fun vs H Q _ => ∃ (S G M : Addr) (k : Nat) (many : Int), vs = [.ref S, .int many] ∧ StoreAt H S G M k ∧ (1 ≤ many ∧ many ≤ most) ∧ k + c ≤ 1000000000 ∧
  ∀ (H1 : Hp) (d : Int), Gr T [S, G] H H1 → StoreAt H1 S G M (k + c) → 0 ≤ d → d < many → Q (.int d) H1
theorem ok_draw1 {f : Addr} {fd : FuncData} (F : FD K "_law_draw" "_law_draw" s_law_draw f fd) (B : Fc K mg CW CT CU) : FnOk P w K mg base CX0 1 f fd ["store", "many"] (sp_draw T (10 ^ 6) 1) := by
  refine F.ok sc_draw (fun vs H Q E h => ?_) (fun cdv A outer s H vs Q E hr h => ?_)
  · obtain ⟨S, G, M, k, many, rfl, _⟩ := h; rfl
  · obtain ⟨S, G, M, k, many, rfl, hS, hm, hk, q⟩ := h
    exact draw_core B (by have := hr.un; simp only [Around.deeper] at this; omega) pss_never hS ⟨hm.1, by omega⟩ (by omega) (fun z => absurd hm.2 (by omega)) q
theorem ok_draw {f : Addr} {fd : FuncData} (F : FD K "_law_draw" "_law_draw" s_law_draw f fd) (B : Fc K mg CW CT CU) (c1 : Cal P w K mg base 1 "_law_draw" (sp_draw T (10 ^ 6) 1) []) : FnOk P w K mg base CX0 2 f fd ["store", "many"] (sp_draw T (10 ^ 15) 3) := by
  refine F.ok sc_draw (fun vs H Q E h => ?_) (fun cdv A outer s H vs Q E hr h => ?_)
  · obtain ⟨S, G, M, k, many, rfl, _⟩ := h; rfl
  · obtain ⟨S, G, M, k, many, rfl, hS, hm, hk, q⟩ := h
    have okN := sc_draw.nd
    have hb : PSs (cxOf CX0 P w K mg base N_draw "_law_draw" (defScope s_law_draw) f cdv A outer s H E).nox (ifBody ((defBody s_law_draw).getD 2 (.Pass ⟨0, 0, 0, 0⟩))) _ :=
      pss_cons (ps_set (i := 3) okN rfl (.inl rfl) pe_int)
      (pss_cons (ps_for PassesOwn.never rfl (pi_range1 (by rfl) B.range (pa_cons (pe_op op_add pe_int (pe_op op_fdiv (pe_callB call_len (by rfl) B.len boot_len_ (pa_cons (pe_callTy call_str_int (by rfl) B.str boot_str_ (pa_cons (pv 1) pa_nil)) pa_nil)) pe_int)) pa_nil)) (pg_name (i := 4) okN rfl (.inl rfl))
        (pss_one (ps_set (i := 3) okN rfl (.inl rfl) (pe_op op_add (pe_op op_mul (pv 3) (pe_op op_pow pe_int pe_int)) (pe_c c1 hr (Nat.le_refl _) (by rfl) (pa_cons (pv 0) (pa_cons (pe_op op_pow pe_int pe_int) pa_nil)))))))
      (pss_one (ps_ret (pe_op op_mod (pv 3) (pv 1)))))
    refine draw_core B (by have := hr.un; simp only [Around.deeper] at this; omega) hb hS hm (by omega) (fun hbig H1 D g1 hS1 hD => ?_) (fun H1 d g1 hS1 => q H1 d g1 (hS1.mono (by omega)))
    have hlen : (toString many : Str).length ≤ 16 := toString_length_le (by omega) (by decide) (by omega)
    refine ⟨_, rfl, many, rfl, by have := log_small (n := many.natAbs) (by omega); omega, _, _, rfl, ⟨by rw [sizeLine_eq]; omega, rfl⟩, _, 6, rfl, rfl, ⟨by decide, by decide⟩, 1, _, rfl, rfl, _, rfl, by omega, by omega, ?_⟩
    obtain ⟨n, en⟩ : ∃ n, n = (1 + ((toString many : Str).length : Int) / 6).toNat := ⟨_, rfl⟩
    have ln : n ≤ 3 := by omega
    refine for_rng (fun i σ H' => ∃ (z : Int) (o4 : Option V), σ = [some (.ref S), some (.int many), none, some (.int z), o4, none, none, none, none, none] ∧ Gr T [S, G] H1 H' ∧ StoreAt H' S G M (k + i)) ⟨0, none, rfl, Gr.refl _, hS1⟩ (fun i σ H' hi e => ?_) (fun σ H' e => ?_)
    · obtain ⟨z, o4, rfl, g, hs⟩ := e
      have hi : i < n := by rw [en]; exact hi
      refine ⟨_, rfl, 10, 6, rfl, rfl, ⟨by decide, by decide, by decide⟩, z, _, rfl, rfl, .inr ⟨by decide, by decide⟩, _, rfl, 10, 6, rfl, rfl, ⟨by decide, by decide, by decide⟩, S, G, M, k + i, (10 : Int) ^ (6 : Int).toNat, rfl, hs, ⟨by decide, by decide⟩, by omega, fun H2 d g2 hs2 _ _ => ?_⟩
      exact ⟨_, _, rfl, rfl, _, _, rfl, g.trans g2, hs2⟩
    · obtain ⟨z, o4, rfl, g, hs⟩ := e
      have hs : StoreAt H' S G M (k + n) := by rw [en]; exact hs
      refine ⟨_, rfl, _, rfl, z, many, rfl, rfl, by show 0 < many; omega, ?_⟩
      rw [hD]
      exact (q H' _ (g1.trans g) (hs.mono (by omega)) (Int.emod_nonneg _ (by omega)) (Int.emod_lt_of_pos _ (by omega)))
end
end KD
end

section
set_option Elab.async false
set_option linter.all false
set_option maxRecDepth 100000
set_option maxHeartbeats 4000000
/-! some; moments; wants -/
namespace KD
open PySem PySem.Spec PyProof.Rows C8 LamX NdefX
open L2 hiding CX0 E0 pass0 Fun
theorem erase_perm {α : Type} : ∀ {l : List α} {i : Nat} (h : i < l.length), (l[i] :: l.eraseIdx i).Perm l
  | x :: l, 0, _ => .refl _
  | x :: l, i + 1, h => by
    have h' : i < l.length := Nat.lt_of_succ_lt_succ h
    have z := erase_perm (l := l) (i := i) h'
    show (l[i] :: x :: l.eraseIdx i).Perm (x :: l)
    exact (List.Perm.swap x l[i] _).trans (z.cons x)
theorem map_erase {α β : Type} (f : α → β) : ∀ (l : List α) (i : Nat), (l.map f).eraseIdx i = (l.eraseIdx i).map f
  | [], _ => rfl
  | x :: l, 0 => rfl
  | x :: l, i + 1 => congrArg (f x :: ·) (map_erase f l i)
theorem notSG {b S G : Addr} (h1 : b ≠ S) (h2 : b ≠ G) : b ∉ [S, G] := fun z => by
  rcases List.mem_cons.mp z with e | e
  · exact h1 e
  · exact h2 (List.mem_singleton.mp e)
theorem StoreAt.fresh {H : Hp} {S G M D : Addr} {k : Nat} (h : StoreAt H S G M k) (n : H D = none) : D ≠ S ∧ D ≠ G ∧ D ≠ M := by
  obtain ⟨⟨gs, b, st, ms, h1, h2, h3, _⟩, _⟩ := h
  exact ⟨(ne_of_none h1 n).symm, (ne_of_none h2 n).symm, (ne_of_none h3 n).symm⟩
theorem pe_bmK {X : Cx} {o e : Expr} {es : List Expr} {to : TE} {t : TA} {name : Str} {apos cpos : Pos} {T id : String} {r : V → List V → Hp → VK → Prop} (K : PySem.W.Frag) (eK : X.K = K) (pa : PlainAttrs T) (slot : Slot T name id) (hty : typeOf (.builtin id) = pure (.type "method_descriptor")) (hm : MtR X id r) (ho : PE X o to) (ha : PA X (e :: es) t)
    (hbase : attributeBase o name X.env (eval o X.env) = eval o X.env := by rfl)
    (hfew : ((backTo cpos (starEach (e :: es) X.env)).all (fun x => !x.1) && (backToKw cpos (keywordEach [] X.env)).all (fun x => x.1.isSome)
      && decide ((e :: es).length + ([] : List Keyword).length + (if ([] : List Keyword).isEmpty then 0 else 1) < 30)) = true := by rfl)
    (hline : (apos.endLine == cpos.line) = true := by rfl) (hs : starEach (e :: es) X.env = (false, eval e X.env) :: starEach es X.env := by rfl) (hplain : (backTo cpos (starEach es X.env)).any (·.1) = false := by rfl) :
    PE X (.Call (.Attribute o name apos) (e :: es) [] cpos) (tBM K T r to t) := by
  subst eK
  exact pe_bm pa slot hty hm ho ha hbase hfew hline hs hplain
/-- a list written that is none of the store's -/
theorem StoreAt.put {H : Hp} {S G M D : Addr} {k : Nat} {o : HO} (h : StoreAt H S G M k) (n : D ≠ S ∧ D ≠ G ∧ D ≠ M) : StoreAt (upd H D o) S G M k := by
  obtain ⟨⟨gs, b, st, ms, h1, h2, h3, h4⟩, a, c, d⟩ := h
  exact ⟨⟨gs, b, st, ms, (upd_ne n.1.symm).trans h1, (upd_ne n.2.1.symm).trans h2, (upd_ne n.2.2.symm).trans h3, h4⟩, a, c, d⟩
section
variable {P : Program} {w : World} {K : PySem.W.Frag} {mg : Str → Option Value} {base : Heap} {CW CT CU : Addr} {T : List (Addr × Str)}
def sp_some (T : List (Addr × Str)) : Sp := fun vs H Q _ => ∃ (S G M : Addr) (k : Nat) (NA : Addr) (ns : List Str), vs = [.ref S, .ref NA] ∧ StoreAt H S G M k ∧ H NA = some (.lst (ns.map V.str)) ∧ NA ≠ S ∧ NA ≠ G ∧ ns.length ≤ 8 ∧ k + 48 ≤ 1000000000 ∧
  ∀ (H1 : Hp) (R : Addr) (xs ls : List Str), Gr T [S, G] H H1 → StoreAt H1 S G M (k + 48) → H1 R = some (.lst (xs.map V.str)) → R ≠ S → R ≠ G → xs.Perm ls → ls.Sublist ns → Q (.ref R) H1
theorem sc_some : FnScope ["store", "names", "left", "name"] ["store", "names"] (defScope s_law_some) := ⟨rfl, rfl, rfl, by decide +kernel, rfl, by decide +kernel, by decide +kernel⟩
theorem seqIx_in {i : Int} {n : Nat} (h0 : 0 ≤ i) (h1 : i < n) : seqIndex? i n = some i.toNat := by
  unfold seqIndex?
  simp only [if_neg (show ¬ i < 0 by omega)]
  simp [h0, h1]
theorem ok_some {f : Addr} {fd : FuncData} (F : FD K "_law_some" "_law_some" s_law_some f fd) (B : Fc K mg CW CT CU) (c1 : Cal P w K mg base 2 "_law_draw" (sp_draw T (10 ^ 15) 3) []) : FnOk P w K mg base CX0 3 f fd ["store", "names"] (sp_some T) := by
  refine F.ok sc_some (fun vs H Q E h => ?_) (fun cdv A outer s H vs Q E hr h => ?_)
  · obtain ⟨S, G, M, k, NA, ns, rfl, _⟩ := h; rfl
  · obtain ⟨S, G, M, k, NA, ns, rfl, hS, hN, n1, n2, l8, hk, q⟩ := h
    have okN := sc_some.nd
    refine ⟨_, PSs.nox (pss_cons (ps_set (i := 2) okN rfl (.inr rfl) (pe_lc (own := [("name", 3)]) rfl okN (pi_seq (pv 1)) (blkOk_by (N := ["store", "names", "left", "name"]) (sc := defScope s_law_some) (by decide +kernel))
        (fun _ _ _ _ _ => pg_name (i := 3) okN rfl (.inl rfl)) (fun _ _ _ _ _ => pts_one (pt_cmpR op_eq (pe_c c1 hr (Nat.le_refl _) (by rfl) (pa_cons (pv 0) (pa_cons pe_int pa_nil))) pe_int (nomark _))) (fun _ _ _ _ _ => pv 3)))
      (pss_one (ps_ret (pe_lc (own := [("name", 3)]) rfl okN (pi_range1 (by rfl) B.range (pa_cons (pe_callB call_len (by rfl) B.len boot_len_ (pa_cons (pv 2) pa_nil)) pa_nil)) (blkOk_by (N := ["store", "names", "left", "name"]) (sc := defScope s_law_some) (by decide +kernel))
        (fun _ _ _ _ _ => pg_name (i := 3) okN rfl (.inl rfl)) (fun _ _ _ _ _ => pts_nil)
        (fun _ _ _ _ _ => pe_bmK K rfl PySem.F.plainAttrs_list PySem.F.slot_list_pop PySem.F.type_list_pop mt_popAt (pv 2) (pa_cons (pe_c c1 hr (Nat.le_refl _) (by rfl) (pa_cons (pv 0) (pa_cons (pe_callB (cr_lenK K rfl) (by rfl) B.len boot_len_ (pa_cons (pv 2) pa_nil)) pa_nil))) pa_nil)))))), ?_⟩
    refine ⟨_, rfl, NA, _, rfl, .inl hN, fun J St sq hst D hD => ?_⟩
    obtain ⟨f1, f2, f3⟩ := hS.fresh hD
    have fD : D ∉ [S, G] := notSG f1 f2
    refine lc_seq sq (fun i acc H' => ∃ xs : List Str, acc = xs.map V.str ∧ xs.Sublist (ns.take i) ∧ Gr T [S, G] H H' ∧ StoreAt H' S G M (k + 3 * i)) ⟨[], rfl, .slnil, (Gr.refl H).new hD, hS.put ⟨f1, f2, f3⟩⟩
      (fun i acc H' _ e => hst T [S, G] H' e.choose_spec.2.2.1 (notSG n1 n2)) (fun i v acc H' hv hl hD' ⟨xs, ea, es, g, hs⟩ => ?_) (fun acc H' hD' hl ⟨ls0, ea, es, g, hs⟩ => ?_)
    · obtain ⟨y, hy, ev⟩ := strs_item hv
      have li : i < ns.length := (List.getElem?_eq_some_iff.mp hy).1
      have tk : ns.take (i + 1) = ns.take i ++ [y] := by rw [List.take_add_one, hy]; rfl
      rw [ev]
      refine ⟨rfl, _, rfl, S, G, M, k + 3 * i, 2, rfl, hs, ⟨by decide, by decide⟩, by omega, fun H2 d g2 hs2 _ _ => ⟨rfl, _, rfl, ?_⟩⟩
      have hD2 := g2.lst hD' fD
      cases hd : decide (V.int d = V.int 0) with
      | true =>
        refine iteT ⟨_, rfl, nx_add hD2 hl (lt_line (by omega)) ⟨xs ++ [y], by rw [ea, List.map_append]; rfl, ?_, (g.trans g2).put hD hD2 free_lst, (hs2.put ⟨f1, f2, f3⟩).mono (by omega)⟩⟩
        rw [tk]
        exact es.append (.refl _)
      | false =>
        refine iteF ⟨acc, by omega, hD2, xs, ea, ?_, g.trans g2, hs2.mono (by omega)⟩
        rw [tk]
        exact es.trans (List.sublist_append_left _ _)
    · rw [List.length_map] at es hs hl
      rw [List.take_of_length_le (Nat.le_refl _)] at es
      rw [ea] at hD'
      have lls : ls0.length ≤ ns.length := es.length_le
      refine ⟨_, rfl, _, ls0.length, rfl, .inl ⟨_, SqL.of hD', by rw [List.length_map]⟩, _, rfl, by omega, by omega, fun R hR => ?_⟩
      have nDR : D ≠ R := ne_of_none hD' hR
      obtain ⟨r1, r2, r3⟩ := hs.fresh hR
      have fR : R ∉ [S, G] := notSG r1 r2
      refine lc_rng (fun i acc H2 => ∃ xs ls : List Str, acc = xs.map V.str ∧ (xs ++ ls).Perm ls0 ∧ ls.length + i = ls0.length ∧ H2 D = some (.lst (ls.map V.str)) ∧ Gr T [S, G] H H2 ∧ StoreAt H2 S G M (k + 3 * ns.length + 3 * i)) ⟨[], ls0, rfl, .refl _, rfl, (upd_ne nDR).trans hD', g.new hR, hs.put ⟨r1, r2, r3⟩⟩
        (fun i acc H2 hi hla hR2 ⟨xs, ls, ex, px, lx, hDx, gx, sx⟩ => ?_) (fun acc H2 hR2 hla ⟨xs, ls, ex, px, lx, hDx, gx, sx⟩ => ?_)
      · have hi : i < ls0.length := hi
        have lp : 0 < ls.length := by omega
        refine ⟨rfl, yes_if ?_⟩
        refine ⟨_, rfl, .inl ⟨rfl, _, SqL.of hDx⟩, _, rfl, _, rfl, _, ls.length, rfl, .inl ⟨_, SqL.of hDx, by rw [List.length_map]⟩, S, G, M, k + 3 * ns.length + 3 * i, ls.length, rfl, sx, ⟨by omega, by omega⟩, by omega, fun H3 d g3 hs3 d0 d1 => ?_⟩
        have hD3 := g3.lst hDx fD
        have hR3 := g3.lst hR2 fR
        have d2 : d.toNat < ls.length := by omega
        refine ⟨D, _, d, d.toNat, .str ls[d.toNat], rfl, rfl, hD3, by omega, by omega, by rw [List.length_map]; exact seqIx_in d0 d1, by rw [List.getElem?_map, List.getElem?_eq_getElem d2]; rfl, ?_⟩
        have g4 : Gr T [S, G] H (upd H3 D (.lst ((ls.map V.str).eraseIdx d.toNat))) := (gx.trans g3).put hD hD3 free_lst
        have hR4 : (upd H3 D (.lst ((ls.map V.str).eraseIdx d.toNat))) R = some (.lst acc) := (upd_ne (Ne.symm nDR)).trans hR3
        refine nx_add hR4 hla (lt_line (by omega)) ⟨xs ++ [ls[d.toNat]], ls.eraseIdx d.toNat, by rw [ex, List.map_append]; rfl, ?_, ?_, ?_, gr_put2 g hR g4 hR4 free_lst, ((hs3.put ⟨f1, f2, f3⟩).put ⟨r1, r2, r3⟩).mono (by omega)⟩
        · refine List.Perm.trans ?_ px
          rw [List.append_assoc]
          exact (erase_perm d2).append_left xs
        · rw [List.length_eraseIdx_of_lt d2]
          omega
        · rw [upd_ne nDR, upd_same, map_erase]
      · have hla : acc.length ≤ ls0.length := hla
        have l0 : ls = [] := by
          have lx : ls.length + ls0.length = ls0.length := lx
          exact List.length_eq_zero_iff.mp (by omega)
        rw [l0, List.append_nil] at px
        have sx : StoreAt H2 S G M (k + 3 * ns.length + 3 * ls0.length) := sx
        exact q H2 R xs ls0 gx (sx.mono (by omega)) (by rw [hR2, ex]) r1 r2 px es
end
end KD
end

section
set_option Elab.async false
set_option linter.all false
set_option maxRecDepth 100000
set_option maxHeartbeats 4000000
/-! the law's wants, moments, tills -/
namespace KD
open PySem PySem.Spec PyProof.Rows C8 LamX NdefX
open L2 hiding CX0 E0 pass0 Fun
/-- the law's names -/
structure NamesAt (H : Hp) (NA S G : Addr) (ns : List Str) : Prop where
  at_ : H NA = some (.lst (ns.map V.str))
  ns_ : NA ≠ S
  ng_ : NA ≠ G
  nm : ∀ x ∈ ns, Nm x
  nd : ns.Nodup
  pos : 1 ≤ ns.length
  le8 : ns.length ≤ 8
theorem NamesAt.gr {T : List (Addr × Str)} {H H1 : Hp} {NA S G : Addr} {ns : List Str} (h : NamesAt H NA S G ns) (g : Gr T [S, G] H H1) : NamesAt H1 NA S G ns :=
  ⟨g.lst h.at_ (notSG h.ns_ h.ng_), h.ns_, h.ng_, h.nm, h.nd, h.pos, h.le8⟩
def MomOk (i : Int) : Prop := 0 ≤ i ∧ i < 4611686018427387904
section
variable {P : Program} {w : World} {K : PySem.W.Frag} {mg : Str → Option Value} {base : Heap} {CW CT CU : Addr} {T : List (Addr × Str)}
def sp_lwant (T : List (Addr × Str)) (CW : Addr) : Sp := fun vs H Q _ => ∃ (S G M : Addr) (k : Nat) (NA : Addr) (ns : List Str), vs = [.ref S, .ref NA] ∧ StoreAt H S G M k ∧ NamesAt H NA S G ns ∧ k + 60 ≤ 1000000000 ∧
  ∀ (H1 : Hp) (v : Addr) (W : WantD), Gr T [S, G] H H1 → StoreAt H1 S G M (k + 60) → WantAt CW H1 v W → (∀ x ∈ W.names, x ∈ ns) → Q (.ref v) H1
theorem sc_lwant : FnScope ["store", "names", "way", "some"] ["store", "names"] (defScope s_law_want) := ⟨rfl, rfl, rfl, by decide +kernel, rfl, by decide +kernel, by decide +kernel⟩
theorem ok_lwant {f : Addr} {fd : FuncData} (F : FD K "_law_want" "_law_want" s_law_want f fd) (B : Fc K mg CW CT CU) (c1 : Cal P w K mg base 2 "_law_draw" (sp_draw T (10 ^ 15) 3) []) (c2 : Cal P w K mg base 3 "_law_some" (sp_some T) []) (c3 : MkK P w K mg base 3 "Want" CW 1 ["all_but"] (sp_Want T K CW) (fun vs zs => vs ++ zs)) :
    FnOk P w K mg base CX0 5 f fd ["store", "names"] (sp_lwant T CW) := by
  refine F.ok sc_lwant (fun vs H Q E h => ?_) (fun cdv A outer s H vs Q E hr h => ?_)
  · obtain ⟨S, G, M, k, NA, ns, rfl, _⟩ := h; rfl
  · obtain ⟨S, G, M, k, NA, ns, rfl, hS, hN, hk, q⟩ := h
    have okN := sc_lwant.nd
    refine ⟨_, PSs.nox (pss_cons (ps_set (i := 2) okN rfl (.inl rfl) (pe_c c1 hr (by decide) (by rfl) (pa_cons (pv 0) (pa_cons pe_int pa_nil))))
      (pss_cons (ps_set (i := 3) okN rfl (.inl rfl) (pe_ifExp (pt_cmpR op_gt (pv 2) pe_int (nomark _)) (pe_c c2 hr (by decide) (by rfl) (pa_cons (pv 0) (pa_cons (pv 1) pa_nil))) (pe_lst pa_nil)))
      (pss_one (ps_ret (pe_mkK c3 hr (by decide) (by rfl) (pa_cons (pv 3) pa_nil) (pk_cons (pe_cmpR op_eq (pe_op op_mod (pv 2) pe_int) pe_int (nomark _)) pk_nil)))))), ?_⟩
    refine ⟨_, rfl, S, G, M, k, 8, rfl, hS, ⟨by decide, by decide⟩, by omega, fun H1 d g1 hs1 d0 d1 => ?_⟩
    refine ⟨_, rfl, d, 1, rfl, rfl, _, rfl, ?_⟩
    refine if_to2 (fun y Hy => ∃ (R : Addr) (xs : List Str), y = .ref R ∧ Gr T [S, G] H Hy ∧ StoreAt Hy S G M (k + 51) ∧ Hy R = some (.lst (xs.map V.str)) ∧ xs.Nodup ∧ (∀ x ∈ xs, x ∈ ns) ∧ xs.length ≤ 8) (fun hc R z => ?_) (fun hc R z => ?_) ?_
    · have hN1 := hN.gr g1
      refine ⟨_, rfl, _, rfl, S, G, M, k + 3, NA, ns, rfl, hs1, hN1.at_, hN1.ns_, hN1.ng_, hN1.le8, by omega, fun H2 R2 xs ls g2 hs2 hR _ _ px sl => z _ _ ⟨R2, xs, rfl, g1.trans g2, hs2.mono (by omega), hR, px.nodup_iff.mpr (hN.nd.sublist sl), fun x hx => sl.subset (px.mem_iff.mp hx), ?_⟩⟩
      rw [px.length_eq]
      exact Nat.le_trans sl.length_le hN.le8
    · refine ⟨le_line (by decide), fun p hp => z _ _ ⟨p, [], rfl, g1.new hp, (hs1.put (hs1.fresh hp)).mono (by omega), upd_same, .nil, (fun _ z => nomatch z), by decide⟩⟩
    · rintro y Hy ⟨R, xs, rfl, g2, hs2, hR, nx, sx, lx⟩
      refine ⟨_, rfl, _, rfl, d, 2, rfl, rfl, by show (0 : Int) < 2; decide, rfl, rfl, rfl, fun x dx hx hdx hne => ?_⟩
      have hx' : upd Hy dx (.own x) x = none := (upd_ne (Ne.symm hne)).trans hx
      have g0 : Gr T [] Hy (upd (upd Hy dx (.own x)) x (.ins CW dx [])) := ((Gr.refl Hy).new hdx).new hx'
      have nms : ∀ y ∈ xs, Nm y := fun y hy => hN.nm y (sx y hy)
      refine ⟨x, R, dx, _, xs, rfl, upd_same, .inl (g0.lst hR List.not_mem_nil), nms, nx, by omega, fun H3 p cs g3 hp pm so => ⟨rfl, ?_⟩⟩
      have i3 : H3 x = some (.ins CW dx []) := g3.ins upd_same
      have g03 : Gr T [] Hy (upd H3 x (.ins CW dx (fsW p (decide (V.int (d % 2) = V.int 1))))) := (g0.trans g3).put hx i3 free_ins
      exact q _ x ⟨cs, decide (V.int (d % 2) = V.int 1)⟩ (g2.trans g03.mono) ((hs2.gr0 g03).mono (by omega)) (want_made (T := T) (H := H) i3 hp pm so nms (by omega)) fun y hy => sx y (pm.mem_iff.mp hy)
def sp_lmom (T : List (Addr × Str)) : Sp := fun vs H Q _ => ∃ (S G M : Addr) (k : Nat), vs = [.ref S] ∧ StoreAt H S G M k ∧ k + 18 ≤ 1000000000 ∧
  ∀ (H1 : Hp) (m : Int), Gr T [S, G] H H1 → StoreAt H1 S G M (k + 18) → MomOk m → Q (.int m) H1
theorem sc_lmom : FnScope ["store", "size"] ["store"] (defScope s_law_moment) := ⟨rfl, rfl, rfl, by decide +kernel, rfl, by decide +kernel, by decide +kernel⟩
theorem ok_lmom {f : Addr} {fd : FuncData} (F : FD K "_law_moment" "_law_moment" s_law_moment f fd) (B : Fc K mg CW CT CU) (c1 : Cal P w K mg base 2 "_law_draw" (sp_draw T (10 ^ 15) 3) []) : FnOk P w K mg base CX0 3 f fd ["store"] (sp_lmom T) := by
  refine F.ok sc_lmom (fun vs H Q E h => ?_) (fun cdv A outer s H vs Q E hr h => ?_)
  · obtain ⟨S, G, M, k, rfl, _⟩ := h; rfl
  · obtain ⟨S, G, M, k, rfl, hS, hk, q⟩ := h
    have okN := sc_lmom.nd
    refine ⟨_, PSs.nox (pss_cons (ps_set (i := 1) okN rfl (.inl rfl) (pe_c c1 hr (Nat.le_refl _) (by rfl) (pa_cons (pv 0) (pa_cons pe_int pa_nil))))
      (pss_one (ps_ret (pe_ix ix_list (pe_lst (pa_cons pe_int (pa_cons (pe_c c1 hr (Nat.le_refl _) (by rfl) (pa_cons (pv 0) (pa_cons pe_int pa_nil)))
        (pa_cons (pe_c c1 hr (Nat.le_refl _) (by rfl) (pa_cons (pv 0) (pa_cons pe_int pa_nil))) (pa_cons (pe_c c1 hr (Nat.le_refl _) (by rfl) (pa_cons (pv 0) (pa_cons pe_int pa_nil)))
        (pa_cons (pe_op op_sub (pe_op op_sub (pe_op op_pow pe_int pe_int) pe_int) (pe_c c1 hr (Nat.le_refl _) (by rfl) (pa_cons (pv 0) (pa_cons pe_int pa_nil))))
        (pa_cons (pe_c c1 hr (Nat.le_refl _) (by rfl) (pa_cons (pv 0) (pa_cons (pe_op op_pow pe_int pe_int) pa_nil))) pa_nil))))))) (pv 1) (fun _ _ => rfl))))), ?_⟩
    refine ⟨_, rfl, S, G, M, k, 6, rfl, hS, ⟨by decide, by decide⟩, by omega, fun H1 d g1 hs1 d0 d1 => ?_⟩
    refine ⟨_, rfl, S, G, M, k + 3, 6, rfl, hs1, ⟨by decide, by decide⟩, by omega, fun H2 e1 g2 hs2 e10 e11 => ?_⟩
    refine ⟨_, rfl, S, G, M, k + 3 + 3, 12, rfl, hs2, ⟨by decide, by decide⟩, by omega, fun H3 e2 g3 hs3 e20 e21 => ?_⟩
    refine ⟨_, rfl, S, G, M, k + 3 + 3 + 3, 60, rfl, hs3, ⟨by decide, by decide⟩, by omega, fun H4 e3 g4 hs4 e30 e31 => ?_⟩
    refine ⟨10, 15, rfl, rfl, ⟨by decide, by decide, by decide⟩, _, 1, rfl, rfl, _, rfl, S, G, M, k + 3 + 3 + 3 + 3, 3, rfl, hs4, ⟨by decide, by decide⟩, by omega, fun H5 e4 g5 hs5 e40 e41 => ?_⟩
    refine ⟨_, e4, rfl, rfl, _, rfl, 10, 15, rfl, rfl, ⟨by decide, by decide, by decide⟩, S, G, M, k + 3 + 3 + 3 + 3 + 3, (10 : Int) ^ (15 : Int).toNat, rfl, hs5, ⟨by decide, by decide⟩, by omega, fun H6 e5 g6 hs6 e50 e51 => ?_⟩
    refine ⟨le_line (by show 6 < 1000; decide), fun p hp => ⟨_, rfl, ?_⟩⟩
    have e51 : e5 < 10 ^ 15 := e51
    have hz : ∃ m, MomOk m ∧ atI [V.int 0, V.int e1, V.int e2, V.int e3, V.int (10 ^ (15 : Int).toNat - 1 - e4), V.int e5] d = some (.int m) := by
      have e15 : (10 : Int) ^ (15 : Int).toNat = 10 ^ 15 := rfl
      have : d = 0 ∨ d = 1 ∨ d = 2 ∨ d = 3 ∨ d = 4 ∨ d = 5 := by omega
      rcases this with z | z | z | z | z | z <;> subst z
      · exact ⟨0, by unfold MomOk; omega, rfl⟩
      · exact ⟨e1, by unfold MomOk; omega, rfl⟩
      · exact ⟨e2, by unfold MomOk; omega, rfl⟩
      · exact ⟨e3, by unfold MomOk; omega, rfl⟩
      · exact ⟨_, by unfold MomOk; rw [e15]; omega, rfl⟩
      · exact ⟨e5, by unfold MomOk; omega, rfl⟩
    obtain ⟨m, hm, hat⟩ := hz
    refine ⟨p, _, d, .int m, rfl, rfl, SqL.of upd_same, hat, ?_⟩
    exact q _ m (((((g1.trans g2).trans g3).trans g4).trans g5).trans g6 |>.new hp) ((hs6.put (hs6.fresh hp)).mono (by omega)) hm
end
end KD
end

section
set_option Elab.async false
set_option linter.all false
set_option maxRecDepth 100000
set_option maxHeartbeats 4000000
/-! the law's tills, deeds -/
namespace KD
open PySem PySem.Spec PyProof.Rows C8 LamX NdefX
open L2 hiding CX0 E0 pass0 Fun
section
variable {P : Program} {w : World} {K : PySem.W.Frag} {mg : Str → Option Value} {base : Heap} {CW CT CU : Addr} {T : List (Addr × Str)}
def sp_lown (T : List (Addr × Str)) : Sp := fun vs H Q _ => ∃ (S G M : Addr) (k : Nat) (NA : Addr) (ns : List Str), vs = [.ref S, .ref NA] ∧ StoreAt H S G M k ∧ NamesAt H NA S G ns ∧ k + 200 ≤ 1000000000 ∧
  ∀ (H1 : Hp) (R : Addr) (L : List (Addr × Str × Int)), Gr T [S, G] H H1 → StoreAt H1 S G M (k + 200) → H1 R = some (.lst (L.map fun b => V.ref b.1)) → RowsAt H1 L → (∀ b ∈ L, b.2.1 ∈ ns) → (∀ b ∈ L, MomOk b.2.2) → (L.map fun b => b.2.1).Nodup → L.length ≤ 8 → Q (.ref R) H1
theorem sc_lown : FnScope ["store", "names", "name"] ["store", "names"] (defScope s_law_own) := ⟨rfl, rfl, rfl, by decide +kernel, rfl, by decide +kernel, by decide +kernel⟩
theorem ok_lown {f : Addr} {fd : FuncData} (F : FD K "_law_own" "_law_own" s_law_own f fd) (B : Fc K mg CW CT CU) (c1 : Cal P w K mg base 3 "_law_some" (sp_some T) []) (c2 : Cal P w K mg base 3 "_law_moment" (sp_lmom T) []) : FnOk P w K mg base CX0 4 f fd ["store", "names"] (sp_lown T) := by
  refine F.ok sc_lown (fun vs H Q E h => ?_) (fun cdv A outer s H vs Q E hr h => ?_)
  · obtain ⟨S, G, M, k, NA, ns, rfl, _⟩ := h; rfl
  · obtain ⟨S, G, M, k, NA, ns, rfl, hS, hN, hk, q⟩ := h
    have okN := sc_lown.nd
    refine ⟨_, PSs.nox (pss_one (ps_ret (pe_lc (own := [("name", 2)]) rfl okN (pi_seq (pe_c c1 hr (Nat.le_refl _) (by rfl) (pa_cons (pv 0) (pa_cons (pv 1) pa_nil)))) (blkOk_by (N := ["store", "names", "name"]) (sc := defScope s_law_own) (by decide +kernel))
        (fun _ _ _ _ _ => pg_name (i := 2) okN rfl (.inl rfl)) (fun _ _ _ _ _ => pts_nil) (fun _ _ _ _ _ => pe_tup (pa_cons (pv 2) (pa_cons (pe_c c2 hr (Nat.le_refl _) (by rfl) (pa_cons (pv 0) pa_nil)) pa_nil)))))), ?_⟩
    refine ⟨_, rfl, _, rfl, S, G, M, k, NA, ns, rfl, hS, hN.at_, hN.ns_, hN.ng_, hN.le8, by omega, fun H1 X xs ls g1 hs1 hX x1 x2 px sl => ?_⟩
    refine ⟨X, _, rfl, .inl hX, fun J St sq hst D hD => ?_⟩
    obtain ⟨f1, f2, f3⟩ := hs1.fresh hD
    have fD : D ∉ [S, G] := notSG f1 f2
    have lxs : xs.length ≤ 8 := by rw [px.length_eq]; exact Nat.le_trans sl.length_le hN.le8
    refine lc_seq sq (fun i acc H' => ∃ es : List (Addr × Str × Int), acc = es.map (fun b => V.ref b.1) ∧ (es.map fun b => b.2.1) = xs.take i ∧ RowsAt H' es ∧ (∀ b ∈ es, MomOk b.2.2) ∧ Gr T [S, G] H1 H' ∧ StoreAt H' S G M (k + 48 + 18 * i)) ⟨[], rfl, rfl, (fun _ z => nomatch z), (fun _ z => nomatch z), (Gr.refl H1).new hD, hs1.put ⟨f1, f2, f3⟩⟩
      (fun i acc H' _ e => hst T [S, G] H' e.choose_spec.2.2.2.2.1 (notSG x1 x2)) (fun i v acc H' hv hl hD' ⟨es, ea, ee, hes, me, g, hs⟩ => ?_) (fun acc H' hD' hl ⟨es, ea, ee, hes, me, g, hs⟩ => ?_)
    · obtain ⟨y, hy, ev⟩ := strs_item hv
      have li : i < xs.length := (List.getElem?_eq_some_iff.mp hy).1
      rw [ev]
      refine ⟨rfl, yes_if ⟨_, rfl, _, rfl, S, G, M, k + 48 + 18 * i, rfl, hs, by omega, fun H2 m g2 hs2 hm => ⟨le_line (by show 2 < 1000; decide), fun t ht => ?_⟩⟩⟩
      have hD2 := g2.lst hD' fD
      have g3 := (g.trans g2).new (o := .tup [.str y, .int m]) ht
      have hD3 : (upd H2 t (.tup [.str y, .int m])) D = some (.lst acc) := (upd_ne (ne_of_none hD2 ht)).trans hD2
      refine nx_add hD3 hl (lt_line (by omega)) ⟨es ++ [(t, y, m)], by rw [ea, List.map_append]; rfl, ?_, (hes.gr g2).snoc ht hD2, fun b hb => ?_, g3.put hD hD3 free_lst, ((hs2.put (hs2.fresh ht)).put ⟨f1, f2, f3⟩).mono (by omega)⟩
      · rw [List.map_append, ee, List.take_add_one, hy]
        rfl
      · rcases List.mem_append.mp hb with hb | hb
        · exact me b hb
        · rw [List.mem_singleton.mp hb]; exact hm
    · rw [List.length_map] at ee hs
      rw [List.take_of_length_le (Nat.le_refl _)] at ee
      refine q H' D es (g1.trans g) (hs.mono (by omega)) (by rw [hD', ea]) hes (fun b hb => ?_) me (by rw [ee]; exact px.nodup_iff.mpr (hN.nd.sublist sl)) (by rw [show es.length = xs.length from by rw [← ee, List.length_map]]; exact lxs)
      have z : b.2.1 ∈ xs := by rw [← ee]; exact List.mem_map.mpr ⟨b, hb, rfl⟩
      exact sl.subset (px.mem_iff.mp z)
/-- a till of the law: names, sizes -/
structure LTill (U : Tab Int) (ns : List Str) : Prop where
  sub : ∀ p ∈ U.own, p.1 ∈ ns
  rest : MomOk U.rest
  all : ∀ x, MomOk (U.at x)
def sp_ltill (T : List (Addr × Str)) (CT : Addr) : Sp := fun vs H Q _ => ∃ (S G M : Addr) (k : Nat) (NA : Addr) (ns : List Str), vs = [.ref S, .ref NA] ∧ StoreAt H S G M k ∧ NamesAt H NA S G ns ∧ k + 230 ≤ 1000000000 ∧
  ∀ (H1 : Hp) (v : Addr) (U : Tab Int), Gr T [S, G] H H1 → StoreAt H1 S G M (k + 230) → TillAt CT H1 v U → LTill U ns → Q (.ref v) H1
theorem sc_ltill : FnScope ["store", "names"] ["store", "names"] (defScope s_law_till) := ⟨rfl, rfl, rfl, by decide +kernel, rfl, by decide +kernel, by decide +kernel⟩
theorem ok_ltill {f : Addr} {fd : FuncData} (F : FD K "_law_till" "_law_till" s_law_till f fd) (B : Fc K mg CW CT CU) (c1 : Cal P w K mg base 2 "_law_draw" (sp_draw T (10 ^ 15) 3) []) (c2 : Cal P w K mg base 3 "_law_moment" (sp_lmom T) []) (c3 : Cal P w K mg base 4 "_law_own" (sp_lown T) [])
    (c4 : MkK P w K mg base 3 "Till" CT 1 ["own"] (sp_Till T K CT) (fun vs zs => vs ++ zs)) : FnOk P w K mg base CX0 5 f fd ["store", "names"] (sp_ltill T CT) := by
  refine F.ok sc_ltill (fun vs H Q E h => ?_) (fun cdv A outer s H vs Q E hr h => ?_)
  · obtain ⟨S, G, M, k, NA, ns, rfl, _⟩ := h; rfl
  · obtain ⟨S, G, M, k, NA, ns, rfl, hS, hN, hk, q⟩ := h
    refine ⟨_, PSs.nox (pss_one (ps_ret (pe_mkK c4 hr (by decide) (by rfl) (pa_cons (pe_ix ix_list (pe_lst (pa_cons pe_int (pa_cons (pe_c c2 hr (by decide) (by rfl) (pa_cons (pv 0) pa_nil)) pa_nil))) (pe_c c1 hr (by decide) (by rfl) (pa_cons (pv 0) (pa_cons pe_int pa_nil))) (fun _ _ => rfl)) pa_nil)
      (pk_cons (pe_c c3 hr (by decide) (by rfl) (pa_cons (pv 0) (pa_cons (pv 1) pa_nil))) pk_nil)))), ?_⟩
    refine ⟨_, rfl, S, G, M, k, rfl, hS, by omega, fun H1 m g1 hs1 hm => ⟨le_line (by show 2 < 1000; decide), fun p hp => ?_⟩⟩
    have hs2 := hs1.put (o := .lst [.int 0, .int m]) (hs1.fresh hp)
    obtain ⟨p1, p2, p3⟩ := hs1.fresh hp
    refine ⟨_, rfl, S, G, M, k + 18, 2, rfl, hs2, ⟨by decide, by decide⟩, by omega, fun H2 d g2 hs3 d0 d1 => ?_⟩
    have hp2 := g2.lst (upd_same (H := H1) (a := p) (o := .lst [.int 0, .int m])) (notSG p1 p2)
    have g12 : Gr T [S, G] H H2 := (g1.new hp).trans g2
    have hz : ∃ r, MomOk r ∧ atI [V.int 0, V.int m] d = some (.int r) := by
      have : d = 0 ∨ d = 1 := by omega
      rcases this with z | z <;> subst z
      · exact ⟨0, by unfold MomOk; omega, rfl⟩
      · exact ⟨m, hm, rfl⟩
    obtain ⟨r, hr0, hat⟩ := hz
    refine ⟨p, _, d, .int r, rfl, rfl, SqL.of hp2, hat, _, rfl, _, rfl, S, G, M, k + 18 + 3, NA, ns, rfl, hs3, hN.gr g12, by omega, fun H3 R L g3 hs4 hR hL sL mL nL lL => ?_⟩
    refine ⟨rfl, rfl, fun x dx hx hdx hne => ?_⟩
    have hx' : upd H3 dx (.own x) x = none := (upd_ne (Ne.symm hne)).trans hx
    have g0 : Gr T [] H3 (upd (upd H3 dx (.own x)) x (.ins CT dx [])) := ((Gr.refl H3).new hdx).new hx'
    refine ⟨x, R, dx, r, L, rfl, hr0.1, upd_same, .inl (g0.lst hR List.not_mem_nil), hL.gr g0, fun b hb => hN.nm _ (sL b hb), fun b hb => (mL b hb).1, nL, by omega, fun H4 p' d' cs g4 hp' hd' hc pm so => ⟨rfl, ?_⟩⟩
    have i4 : H4 x = some (.ins CT dx []) := g4.ins upd_same
    have g04 : Gr T [] H3 (upd H4 x (.ins CT dx (fsT r p' d'))) := (g0.trans g4).put hx i4 free_ins
    obtain ⟨o1, o2⟩ := till_made i4 hp' hd' hc pm so nL (fun b hb => hN.nm _ (sL b hb)) (by omega)
    refine q _ x _ ((g12.trans g3).trans g04.mono) ((hs4.gr0 g04).mono (by omega)) o1 ⟨fun z hz => ?_, hr0, fun y => ?_⟩
    · have z2 := (List.mem_filter.mp (pm.mem_iff.mp hz)).1
      obtain ⟨b, hb, rfl⟩ := List.mem_map.mp z2
      exact sL b hb
    · rw [o2]
      cases hl : (L.map (·.2)).lookup y with
      | none => exact hr0
      | some v =>
        have nd2 : ((L.map (·.2)).map (·.1)).Nodup := by rw [List.map_map]; exact nL
        obtain ⟨b, hb, eb⟩ := List.mem_map.mp ((lookup_mem nd2).1 hl)
        have z := mL b hb
        rw [eb] at z
        exact z
/-! ### deeds -/
structure Deed where
  at_ : Addr
  up : Bool
  wa : Addr
  W : WantD
  spot : Int
def DeedsAt (CW : Addr) (H : Hp) (ds : List Deed) : Prop := ∀ d ∈ ds, H d.at_ = some (.tup [.bl d.up, .ref d.wa, .int d.spot]) ∧ WantAt CW H d.wa d.W
theorem DeedsAt.gr {CW : Addr} {T : List (Addr × Str)} {L : List Addr} {H H1 : Hp} {ds : List Deed} (h : DeedsAt CW H ds) (g : Gr T L H H1) : DeedsAt CW H1 ds := fun d hd => ⟨g.tup (h d hd).1, (h d hd).2.gr g⟩
def DeedOk (ns : List Str) (d : Deed) : Prop := (∀ x ∈ d.W.names, x ∈ ns) ∧ MomOk d.spot
/-- the list of deeds at R -/
structure DeedL (CW : Addr) (H : Hp) (R S G : Addr) (ns : List Str) (ds : List Deed) : Prop where
  at_ : H R = some (.lst (ds.map fun d => V.ref d.at_))
  rs : R ≠ S
  rg : R ≠ G
  row : DeedsAt CW H ds
  ok : ∀ d ∈ ds, DeedOk ns d
  pos : 1 ≤ ds.length
  le : ds.length ≤ 60
theorem DeedL.gr {CW : Addr} {T : List (Addr × Str)} {H H1 : Hp} {R S G : Addr} {ns : List Str} {ds : List Deed} (h : DeedL CW H R S G ns ds) (g : Gr T [S, G] H H1) : DeedL CW H1 R S G ns ds :=
  ⟨g.lst h.at_ (notSG h.rs h.rg), h.rs, h.rg, h.row.gr g, h.ok, h.pos, h.le⟩
def sp_ldeeds (T : List (Addr × Str)) (CW : Addr) : Sp := fun vs H Q _ => ∃ (S G M : Addr) (k : Nat) (NA : Addr) (ns : List Str), vs = [.ref S, .ref NA] ∧ StoreAt H S G M k ∧ NamesAt H NA S G ns ∧ k + 1000 ≤ 1000000000 ∧
  ∀ (H1 : Hp) (R : Addr) (ds : List Deed), Gr T [S, G] H H1 → StoreAt H1 S G M (k + 1000) → DeedL CW H1 R S G ns ds → Q (.ref R) H1
theorem sc_ldeeds : FnScope ["store", "names", "found", "k"] ["store", "names"] (defScope s_law_deeds) := ⟨rfl, rfl, rfl, by decide +kernel, rfl, by decide +kernel, by decide +kernel⟩
theorem ok_ldeeds {f : Addr} {fd : FuncData} (F : FD K "_law_deeds" "_law_deeds" s_law_deeds f fd) (B : Fc K mg CW CT CU) (c1 : Cal P w K mg base 2 "_law_draw" (sp_draw T (10 ^ 15) 3) []) (c2 : Cal P w K mg base 3 "_law_moment" (sp_lmom T) []) (c3 : Cal P w K mg base 5 "_law_want" (sp_lwant T CW) []) :
    FnOk P w K mg base CX0 6 f fd ["store", "names"] (sp_ldeeds T CW) := by
  refine F.ok sc_ldeeds (fun vs H Q E h => ?_) (fun cdv A outer s H vs Q E hr h => ?_)
  · obtain ⟨S, G, M, k, NA, ns, rfl, _⟩ := h; rfl
  · obtain ⟨S, G, M, k, NA, ns, rfl, hS, hN, hk, q⟩ := h
    have okN := sc_ldeeds.nd
    refine ⟨_, PSs.nox (pss_cons (ps_set (i := 2) okN rfl (.inl rfl) (pe_lst pa_nil))
      (pss_cons (ps_for PassesOwn.never rfl (pi_range1 (by rfl) B.range (pa_cons (pe_op op_add pe_int (pe_c c1 hr (by decide) (by rfl) (pa_cons (pv 0) (pa_cons pe_int pa_nil)))) pa_nil)) (pg_name (i := 3) okN rfl (.inl rfl))
        (pss_one (ps_expr (pe_bm PySem.F.plainAttrs_list PySem.F.slot_list_append PySem.F.type_list_append mt_append (pv 2) (pa_cons (pe_tup (pa_cons (pe_cmpR op_gt (pe_c c1 hr (by decide) (by rfl) (pa_cons (pv 0) (pa_cons pe_int pa_nil))) pe_int (nomark _))
          (pa_cons (pe_c c3 hr (by decide) (by rfl) (pa_cons (pv 0) (pa_cons (pv 1) pa_nil))) (pa_cons (pe_c c2 hr (by decide) (by rfl) (pa_cons (pv 0) pa_nil)) pa_nil)))) pa_nil)))))
      (pss_one (ps_ret (pv 2))))), ?_⟩
    refine ⟨le_line (by decide), fun D hD => ?_⟩
    obtain ⟨f1, f2, f3⟩ := hS.fresh hD
    have fD : D ∉ [S, G] := notSG f1 f2
    have g0 : Gr T [S, G] H (upd H D (.lst [])) := (Gr.refl H).new hD
    refine ⟨_, rfl, S, G, M, k, 12, rfl, hS.put ⟨f1, f2, f3⟩, ⟨by decide, by decide⟩, by omega, fun H1 d g1 hs1 d0 d1 => ?_⟩
    refine ⟨1, d, rfl, rfl, _, rfl, by omega, by omega, ?_⟩
    obtain ⟨n, en⟩ : ∃ n, n = (1 + d).toNat := ⟨_, rfl⟩
    refine for_rng (fun i σ H' => ∃ (o3 : Option V) (ds : List Deed), σ = [some (.ref S), some (.ref NA), some (.ref D), o3] ∧ H' D = some (.lst (ds.map fun d => V.ref d.at_)) ∧ ds.length = i ∧ DeedsAt CW H' ds ∧ (∀ d ∈ ds, DeedOk ns d) ∧ Gr T [S, G] H H' ∧ StoreAt H' S G M (k + 3 + 81 * i))
      ⟨none, [], rfl, g1.lst upd_same fD, rfl, (fun _ z => nomatch z), (fun _ z => nomatch z), g0.trans g1, hs1⟩ (fun i σ H' hi e => ?_) (fun σ H' e => ?_)
    · obtain ⟨o3, ds, rfl, hD', ld, hds, ok, g, hs⟩ := e
      have hi : i < n := by rw [en]; exact hi
      refine ⟨_, rfl, .inl ⟨rfl, _, SqL.of hD'⟩, ?_⟩
      refine ⟨_, rfl, S, G, M, k + 3 + 81 * i, 3, rfl, hs, ⟨by decide, by decide⟩, by omega, fun H2 e g2 hs2 _ _ => ?_⟩
      refine ⟨_, 0, rfl, rfl, _, rfl, _, rfl, S, G, M, k + 3 + 81 * i + 3, NA, ns, rfl, hs2, (hN.gr g).gr g2, by omega, fun H3 v W g3 hs3 hW sW => ?_⟩
      refine ⟨_, rfl, S, G, M, k + 3 + 81 * i + 3 + 60, rfl, hs3, by omega, fun H4 m g4 hs4 hm => ⟨le_line (by show 3 < 1000; decide), fun t ht => ?_⟩⟩
      have g24 := (g2.trans g3).trans g4
      have hD4 := g24.lst hD' fD
      have g5 := (g.trans g24).new (o := .tup [.bl (decide ((0 : Int) < e)), .ref v, .int m]) ht
      have g6 : Gr T [] H4 (upd H4 t (.tup [.bl (decide ((0 : Int) < e)), .ref v, .int m])) := (Gr.refl H4).new ht
      have nDt : D ≠ t := ne_of_none hD4 ht
      have hD5 := g6.lst hD4 List.not_mem_nil
      have g7 : Gr T [D] H4 (upd (upd H4 t (.tup [.bl (decide ((0 : Int) < e)), .ref v, .int m])) D (.lst (ds.map (fun d => V.ref d.at_) ++ [.ref t]))) := (g6.mono).putM (List.mem_singleton.mpr rfl) hD5 ⟨_, hD4⟩
      refine ⟨D, _, _, rfl, rfl, hD5, lt_line (by rw [List.length_map]; omega), ?_⟩
      refine ⟨_, ds ++ [⟨t, decide ((0 : Int) < e), v, W, m⟩], rfl, by rw [upd_same, List.map_append]; rfl, by rw [List.length_append, ld]; rfl, fun y hy => ?_, fun y hy => ?_, g5.put hD hD5 free_lst, ((hs4.put (hs4.fresh ht)).put ⟨f1, f2, f3⟩).mono (by omega)⟩
      · rcases List.mem_append.mp hy with hy | hy
        · exact ((hds.gr g24).gr g7) y hy
        · rw [List.mem_singleton.mp hy]
          exact ⟨(upd_ne (Ne.symm nDt)).trans upd_same, (hW.gr g4).gr g7⟩
      · rcases List.mem_append.mp hy with hy | hy
        · exact ok y hy
        · rw [List.mem_singleton.mp hy]
          exact ⟨sW, hm⟩
    · obtain ⟨o3, ds, rfl, hD', ld, hds, ok, g, hs⟩ := e
      have ld : ds.length = n := by rw [en]; exact ld
      have hs : StoreAt H' S G M (k + 3 + 81 * n) := by rw [en]; exact hs
      exact ⟨_, rfl, q H' D ds g (hs.mono (by omega)) ⟨hD', f1, f2, hds, ok, by omega, by omega⟩⟩
end
end KD
end

section
set_option Elab.async false
set_option linter.all false
set_option maxRecDepth 100000
set_option maxHeartbeats 4000000
/-! many deeds; a strange name; deeds done -/
namespace KD
open PySem PySem.Spec PyProof.Rows C8 LamX NdefX
open L2 hiding CX0 E0 pass0 Fun
def rep8 (c : Nat) : Str := ⟨#[c, c, c, c, c, c, c, c]⟩
def rMul8 : R2 := fun x y H Q => ∃ c : Nat, x = .str ⟨#[c]⟩ ∧ y = .int 8 ∧ Q (.str (rep8 c)) H
theorem op_mul8 {X : Cx} : OpR X (binaryOp .Mult) rMul8 := by
  intro pins s σ H x y v u Q I rx ry h
  obtain ⟨c, rfl, rfl, q⟩ := h
  obtain ⟨t, rfl⟩ := rx
  obtain ⟨tk, rfl⟩ := ry
  refine P.mul_str (by decide) (fun _ _ => by show ¬ ((1 : Int) > (2 ^ 63 - 1) / 8); decide) (fun _ _ => by show Builtin.Str.tooLong (1 * 8) = false; decide) ?_
  exact ⟨by show 8 ≤ sizeLine; rw [sizeLine_eq]; decide, .str (rep8 c), H, I.tok _, ⟨_, rfl⟩, q⟩
/-- many names at hand, one is not among few -/
theorem out_of {ws ns : List Str} (nd : ws.Nodup) (l : ns.length < ws.length) : ∃ x xs, ws.filter (fun y => decide (y ∉ ns)) = x :: xs ∧ x ∉ ns := by
  cases h : ws.filter (fun y => decide (y ∉ ns)) with
  | nil =>
    exfalso
    have z : ∀ x ∈ ws, x ∈ ns := fun x hx => Classical.byContradiction fun n => by
      have m : x ∈ ws.filter (fun y => decide (y ∉ ns)) := List.mem_filter.mpr ⟨hx, decide_eq_true n⟩
      rw [h] at m
      cases m
    have := sub_len nd z
    omega
  | cons x xs =>
    have m : x ∈ ws.filter (fun y => decide (y ∉ ns)) := by rw [h]; exact List.mem_cons_self
    exact ⟨x, xs, rfl, of_decide_eq_true (List.mem_filter.mp m).2⟩
/-- one deed's step -/
def stepD (d : Deed) (up : Bool) (h : Int) : Int := if up = true then (if d.up = true then maxI d.spot h else minI d.spot h) else h
def steppedA (ds : List Deed) (x : Str) (h : Int) : Int := ds.foldl (fun h d => stepD d (d.W.has x) h) h
def steppedR (ds : List Deed) (h : Int) : Int := ds.foldl (fun h d => stepD d d.W.but h) h
theorem step_mom {d : Deed} {ns : List Str} {b : Bool} {h : Int} (o : DeedOk ns d) (m : MomOk h) : MomOk (stepD d b h) := by
  obtain ⟨_, o1, o2⟩ := o
  obtain ⟨m1, m2⟩ := m
  unfold stepD maxI minI MomOk
  repeat' split
  all_goals omega
theorem stepped_mom {ns : List Str} {x : Str} : ∀ {ds : List Deed} {h : Int}, (∀ d ∈ ds, DeedOk ns d) → MomOk h → MomOk (steppedA ds x h)
  | [], _, _, m => m
  | d :: ds, h, o, m => stepped_mom (ds := ds) (fun y hy => o y (List.mem_cons_of_mem _ hy)) (step_mom (o d List.mem_cons_self) m)
theorem stepped_out {ns : List Str} {x : Str} (hx : x ∉ ns) : ∀ {ds : List Deed} {h : Int}, (∀ d ∈ ds, DeedOk ns d) → steppedA ds x h = steppedR ds h
  | [], _, _ => rfl
  | d :: ds, h, o => by
    have z : d.W.has x = d.W.but := has_out fun y => hx ((o d List.mem_cons_self).1 x y)
    show steppedA ds x (stepD d (d.W.has x) h) = steppedR ds (stepD d d.W.but h)
    rw [z]
    exact stepped_out hx fun y hy => o y (List.mem_cons_of_mem _ hy)
section
variable {P : Program} {w : World} {K : PySem.W.Frag} {mg : Str → Option Value} {base : Heap} {CW CT CU : Addr} {T : List (Addr × Str)}
theorem sc_lmany : FnScope ["store", "names", "found", "k"] ["store", "names"] (defScope s_law_many_deeds) := ⟨rfl, rfl, rfl, by decide +kernel, rfl, by decide +kernel, by decide +kernel⟩
theorem ok_lmany {f : Addr} {fd : FuncData} (F : FD K "_law_many_deeds" "_law_many_deeds" s_law_many_deeds f fd) (B : Fc K mg CW CT CU) (c1 : Cal P w K mg base 2 "_law_draw" (sp_draw T (10 ^ 15) 3) []) (c3 : MkK P w K mg base 3 "Want" CW 1 [] (sp_Want T K CW) (fun vs _ => vs ++ [.bl false])) :
    FnOk P w K mg base CX0 6 f fd ["store", "names"] (sp_ldeeds T CW) := by
  refine F.ok sc_lmany (fun vs H Q E h => ?_) (fun cdv A outer s H vs Q E hr h => ?_)
  · obtain ⟨S, G, M, k, NA, ns, rfl, _⟩ := h; rfl
  · obtain ⟨S, G, M, k, NA, ns, rfl, hS, hN, hk, q⟩ := h
    have okN := sc_lmany.nd
    refine ⟨_, PSs.nox (pss_cons (ps_set (i := 2) okN rfl (.inl rfl) (pe_lst pa_nil))
      (pss_cons (ps_for PassesOwn.never rfl (pi_range1 (by rfl) B.range (pa_cons pe_int pa_nil)) (pg_name (i := 3) okN rfl (.inl rfl))
        (pss_one (ps_expr (pe_bm PySem.F.plainAttrs_list PySem.F.slot_list_append PySem.F.type_list_append mt_append (pv 2) (pa_cons (pe_tup (pa_cons (pe_cmpR op_gt (pe_op op_mod (pv 3) pe_int) pe_int (nomark _))
          (pa_cons (pe_mkK c3 hr (by decide) (by rfl) (pa_cons (pe_tup (pa_cons (pe_ix ix_list (pv 1) (pe_op op_mod (pv 3) (pe_callB call_len (by rfl) B.len boot_len_ (pa_cons (pv 1) pa_nil))) (fun _ _ => rfl)) pa_nil)) pa_nil) pk_nil)
          (pa_cons (pe_op op_mod (pe_op op_mul (pv 3) pe_int) (pe_op op_add pe_int (pe_c c1 hr (by decide) (by rfl) (pa_cons (pv 0) (pa_cons pe_int pa_nil))))) pa_nil)))) pa_nil)))))
      (pss_one (ps_ret (pv 2))))), ?_⟩
    refine ⟨le_line (by decide), fun D hD => ?_⟩
    obtain ⟨f1, f2, f3⟩ := hS.fresh hD
    have fD : D ∉ [S, G] := notSG f1 f2
    have g0 : Gr T [S, G] H (upd H D (.lst [])) := (Gr.refl H).new hD
    refine ⟨60, rfl, by decide, by decide, ?_⟩
    refine for_rng (fun i σ H' => ∃ (o3 : Option V) (ds : List Deed), σ = [some (.ref S), some (.ref NA), some (.ref D), o3] ∧ H' D = some (.lst (ds.map fun d => V.ref d.at_)) ∧ ds.length = i ∧ DeedsAt CW H' ds ∧ (∀ d ∈ ds, DeedOk ns d) ∧ Gr T [S, G] H H' ∧ StoreAt H' S G M (k + 3 * i))
      ⟨none, [], rfl, upd_same, rfl, (fun _ z => nomatch z), (fun _ z => nomatch z), g0, hS.put ⟨f1, f2, f3⟩⟩ (fun i σ H' hi e => ?_) (fun σ H' e => ?_)
    · obtain ⟨o3, ds, rfl, hD', ld, hds, ok, g, hs⟩ := e
      have hi : i < 60 := hi
      have hN1 := hN.gr g
      have lp : 0 < (ns.length : Int) := by have := hN.pos; omega
      obtain ⟨j, ej⟩ : ∃ j, j = (0 + (i : Nat) : Int) % (ns.length : Int) := ⟨_, rfl⟩
      have j0 : 0 ≤ j := by rw [ej]; exact Int.emod_nonneg _ (by omega)
      have j1 : j < (ns.length : Int) := by rw [ej]; exact Int.emod_lt_of_pos _ lp
      have j2 : j.toNat < ns.length := by omega
      have hat : atI (ns.map V.str) ((0 + (i : Nat) : Int) % (ns.length : Int)) = some (.str ns[j.toNat]) := by
        rw [← ej, atI_nat j0 (by rw [List.length_map]; exact j1), List.getElem_map]
      have mem : ns[j.toNat] ∈ ns := List.getElem_mem j2
      refine ⟨_, rfl, .inl ⟨rfl, _, SqL.of hD'⟩, ?_⟩
      refine ⟨_, rfl, _, 3, rfl, rfl, by show (0 : Int) < 3; decide, _, 0, rfl, rfl, ?_⟩
      refine ⟨_, rfl, _, rfl, _, rfl, _, ns.length, rfl, .inl ⟨_, SqL.of hN1.at_, by rw [List.length_map]⟩, _, _, rfl, rfl, lp, NA, _, _, .str ns[j.toNat], rfl, rfl, SqL.of hN1.at_, hat, le_line (by show 1 < 1000; decide), fun tp htp => ?_⟩
      have ga : Gr T [] H' (upd H' tp (.tup [.str ns[j.toNat]])) := (Gr.refl H').new htp
      refine ⟨rfl, rfl, fun x dx hx hdx hne => ?_⟩
      have hx' : upd (upd H' tp (.tup [.str ns[j.toNat]])) dx (.own x) x = none := (upd_ne (Ne.symm hne)).trans hx
      have gb : Gr T [] H' (upd (upd (upd H' tp (.tup [.str ns[j.toNat]])) dx (.own x)) x (.ins CW dx [])) := (ga.new hdx).new hx'
      have tpk : (upd (upd (upd H' tp (.tup [.str ns[j.toNat]])) dx (.own x)) x (.ins CW dx [])) tp = some (.tup [.str ns[j.toNat]]) := (((Gr.refl (T := T) (M := []) _).new hdx).new hx').tup upd_same
      have nms : ∀ y ∈ [ns[j.toNat]], Nm y := fun y hy => by rw [List.mem_singleton.mp hy]; exact hN.nm _ mem
      have ndy : [ns[j.toNat]].Nodup := List.nodup_cons.mpr ⟨List.not_mem_nil, .nil⟩
      refine ⟨x, tp, dx, false, [ns[j.toNat]], rfl, upd_same, .inr (SqT.of tpk), nms, ndy, by show 1 < 61; decide, fun H3 p cs g3 hp pm so => ⟨rfl, ?_⟩⟩
      have i3 : H3 x = some (.ins CW dx []) := g3.ins upd_same
      have hxH : H' x = none := by
        cases q0 : H' x with
        | none => rfl
        | some o =>
          exfalso
          by_cases e : x = tp
          · rw [e, htp] at q0; cases q0
          · rw [upd_ne e] at hx
            rw [hx] at q0; cases q0
      have g03 : Gr T [] H' (upd H3 x (.ins CW dx (fsW p false))) := (gb.trans g3).put hxH i3 free_ins
      have hW := want_made (T := T) (H := H) (CW := CW) (b := false) i3 hp pm so nms (by show 1 < 64; decide)
      refine ⟨_, rfl, _, 7, rfl, rfl, .inl ⟨by omega, by omega⟩, _, rfl, S, G, M, k + 3 * i, 9, rfl, hs.gr0 g03, ⟨by decide, by decide⟩, by omega, fun H4 e g4 hs4 e0 e1 => ?_⟩
      refine ⟨11, e, rfl, rfl, _, _, rfl, rfl, by show 0 < 11 + e; omega, le_line (by show 3 < 1000; decide), fun t ht => ?_⟩
      obtain ⟨m, em⟩ : ∃ m, m = (0 + (i : Nat) : Int) * 7 % (11 + e) := ⟨_, rfl⟩
      have hm : MomOk m := ⟨by rw [em]; exact Int.emod_nonneg _ (by omega), by
        have : m < 11 + e := by rw [em]; exact Int.emod_lt_of_pos _ (by omega)
        omega⟩
      have g04 : Gr T [S, G] H' H4 := g03.mono.trans g4
      have hD4 := g04.lst hD' fD
      let up : Bool := decide ((0 : Int) < (0 + (i : Nat) : Int) % 3)
      let tv : HO := .tup [.bl up, .ref x, .int ((0 + (i : Nat) : Int) * 7 % (11 + e))]
      have g5 := (g.trans g04).new (o := tv) ht
      have g6 : Gr T [] H4 (upd H4 t tv) := (Gr.refl H4).new ht
      have nDt : D ≠ t := ne_of_none hD4 ht
      have hD5 := g6.lst hD4 List.not_mem_nil
      have g7 : Gr T [D] H4 (upd (upd H4 t tv) D (.lst (ds.map (fun d => V.ref d.at_) ++ [.ref t]))) := (g6.mono).putM (List.mem_singleton.mpr rfl) hD5 ⟨_, hD4⟩
      refine ⟨D, _, _, rfl, rfl, hD5, lt_line (by rw [List.length_map]; omega), ?_⟩
      refine ⟨_, ds ++ [⟨t, up, x, ⟨cs, false⟩, (0 + (i : Nat) : Int) * 7 % (11 + e)⟩], rfl, by rw [upd_same, List.map_append]; rfl, by rw [List.length_append, ld]; rfl, fun y hy => ?_, fun y hy => ?_, g5.put hD hD5 free_lst, ((hs4.put (hs4.fresh ht)).put ⟨f1, f2, f3⟩).mono (by omega)⟩
      · rcases List.mem_append.mp hy with hy | hy
        · exact ((hds.gr g04).gr g7) y hy
        · rw [List.mem_singleton.mp hy]
          exact ⟨(upd_ne (Ne.symm nDt)).trans upd_same, (hW.gr g4).gr g7⟩
      · rcases List.mem_append.mp hy with hy | hy
        · exact ok y hy
        · rw [List.mem_singleton.mp hy]
          refine ⟨fun z hz => ?_, by rw [← em]; exact hm⟩
          have z2 := pm.mem_iff.mp hz
          rw [List.mem_singleton.mp z2]
          exact mem
    · obtain ⟨o3, ds, rfl, hD', ld, hds, ok, g, hs⟩ := e
      have ld : ds.length = 60 := ld
      have hs : StoreAt H' S G M (k + 3 * 60) := hs
      exact ⟨_, rfl, q H' D ds g (hs.mono (by omega)) ⟨hD', f1, f2, hds, ok, by omega, by omega⟩⟩
end
end KD
end

section
set_option Elab.async false
set_option linter.all false
set_option maxRecDepth 100000
set_option maxHeartbeats 4000000
/-! a strange name; deeds stepped, done -/
namespace KD
open PySem PySem.Spec PyProof.Rows C8 LamX NdefX
open L2 hiding CX0 E0 pass0 Fun
theorem op_notInK {X : Cx} (K : PySem.W.Frag) (e : X.K = K) : OpR X (compareOp .NotIn) (rIn K true) := by
  subst e
  exact op_notIn_seq
section
variable {P : Program} {w : World} {K : PySem.W.Frag} {mg : Str → Option Value} {base : Heap} {CW CT CU : Addr} {T : List (Addr × Str)}
def sp_strange (T : List (Addr × Str)) (K : PySem.W.Frag) : Sp := fun vs H Q _ => ∃ (NA : Addr) (ns : List Str), vs = [.ref NA] ∧ SqL K H NA (ns.map V.str) ∧ H NA = some (.lst (ns.map V.str)) ∧ ns.length ≤ 8 ∧ ∀ (H1 : Hp) (x : Str), Gr T [] H H1 → x ∉ ns → Q (.str x) H1
theorem sc_strange : FnScope ["names", "words", "letter", "word"] ["names"] (defScope s_law_strange) := ⟨rfl, rfl, rfl, by decide +kernel, rfl, by decide +kernel, by decide +kernel⟩
def nine : List Str := (Str.ofString "zyxwvutsr").cps.toList.map rep8
theorem nine_nd : nine.Nodup := by decide +kernel
theorem ok_strange {f : Addr} {fd : FuncData} (F : FD K "_law_strange" "_law_strange" s_law_strange f fd) (B : Fc K mg CW CT CU) : FnOk P w K mg base CX0 1 f fd ["names"] (sp_strange T K) := by
  refine F.ok sc_strange (fun vs H Q E h => ?_) (fun cdv A outer s H vs Q E hr h => ?_)
  · obtain ⟨NA, ns, rfl, _⟩ := h; rfl
  · obtain ⟨NA, ns, rfl, _, hN, l8, q⟩ := h
    have okN := sc_strange.nd
    refine ⟨_, PSs.nox (pss_cons (ps_setLc (i := 1) (own := [("letter", 2)]) rfl okN rfl rfl rfl (pi_str pe_str) (blkOk_by (N := ["names", "words", "letter", "word"]) (sc := defScope s_law_strange) (by decide +kernel))
        (fun _ _ _ _ _ => pg_name (i := 2) okN rfl (.inl rfl)) (fun _ _ _ _ _ => pts_nil) (fun _ _ _ _ _ => pe_op op_mul8 (pv 2) pe_int))
      (pss_one (ps_ret (pe_ix ix_list (pe_lc (own := [("word", 3)]) rfl okN (pi_seq (pv 1)) (blkOk_by (N := ["names", "words", "letter", "word"]) (sc := defScope s_law_strange) (by decide +kernel))
        (fun _ _ _ _ _ => pg_name (i := 3) okN rfl (.inl rfl)) (fun _ _ _ _ _ => pts_one (pt_cmpR (op_notInK K rfl) (pv 3) (pv 0) (by rfl))) (fun _ _ _ _ _ => pv 3)) pe_int (fun _ _ => rfl))))), ?_⟩
    refine ⟨_, rfl, fun D hD => ?_⟩
    refine lc_seq (K := K) (seqIt_str K (Str.ofString "zyxwvutsr")) (fun i acc H' => acc = (((Str.ofString "zyxwvutsr").cps.toList.take i).map rep8).map V.str ∧ Gr T [] H H') ⟨rfl, (Gr.refl H).new hD⟩ (fun _ _ _ _ _ => trivial) (fun i v acc H' hv hl hD' ⟨e, g⟩ => ?_) (fun acc H' hD' hl ⟨e, g⟩ => ?_)
    · rw [List.getElem?_map] at hv
      obtain ⟨c, hc, ev⟩ := Option.map_eq_some_iff.mp hv
      have li : i < 9 := (List.getElem?_eq_some_iff.mp hc).1
      refine ⟨rfl, yes_if ⟨v, rfl, c, ev.symm, rfl, nx_add hD' hl (lt_line (by omega)) ⟨?_, g.put hD hD' free_lst⟩⟩⟩
      rw [List.take_add_one, hc, List.map_append, List.map_append, e]
      rfl
    · rw [List.length_map, List.take_of_length_le (Nat.le_refl _)] at e
      have e : acc = nine.map V.str := e
      rw [e] at hD'
      refine ⟨_, rfl, D, _, rfl, .inl hD', fun J St sq hst R hR => ?_⟩
      refine lc_seq sq (fun i acc H2 => acc = ((nine.take i).filter fun y => decide (y ∉ ns)).map V.str ∧ Gr T [] H' H2) ⟨rfl, (Gr.refl H').new hR⟩ (fun i acc H2 _ e => hst T [] H2 e.2 List.not_mem_nil) (fun i v acc H2 hv hl2 hR2 ⟨e2, g2⟩ => ?_) (fun acc H2 hR2 hl2 ⟨e2, g2⟩ => ?_)
      · obtain ⟨y, hy, ev⟩ := strs_item hv
        have li : i < 9 := (List.getElem?_eq_some_iff.mp hy).1
        have tk : nine.take (i + 1) = nine.take i ++ [y] := by rw [List.take_add_one, hy]; rfl
        rw [ev]
        refine ⟨rfl, _, rfl, _, rfl, NA, ns.map V.str, rfl, .inl (SqL.of ((g.trans g2).lst hN List.not_mem_nil)), rfl, flat_strs _, _, rfl, ?_⟩
        rw [in_strs]
        have ex : (if true = true then !decide (y ∈ ns) else decide (y ∈ ns)) = decide (y ∉ ns) := by
          by_cases h : y ∈ ns <;> simp [h]
        rw [ex]
        cases hx : decide (y ∉ ns) with
        | true =>
          refine iteT ⟨_, rfl, nx_add hR2 hl2 (lt_line (by omega)) ⟨?_, g2.put hR hR2 free_lst⟩⟩
          rw [tk, List.filter_append, List.map_append, e2]
          simp only [List.filter_cons, hx, if_true, List.filter_nil, List.map_cons, List.map_nil]
        | false =>
          refine iteF ⟨acc, by omega, hR2, ?_, g2⟩
          rw [tk, List.filter_append, List.map_append, e2]
          simp only [List.filter_cons, hx, Bool.false_eq_true, if_false, List.filter_nil, List.map_nil, List.append_nil]
      · rw [List.length_map, List.take_of_length_le (Nat.le_refl _)] at e2
        obtain ⟨x, xs, ef, hx⟩ := out_of (ws := nine) (ns := ns) nine_nd (by show ns.length < 9; omega)
        rw [ef] at e2
        rw [e2] at hR2
        exact ⟨R, _, 0, .str x, rfl, rfl, SqL.of hR2, atI_head _ _, q H2 x (g.trans g2) hx⟩
def sp_stepped (CW CT : Addr) : Sp := fun vs H Q _ => ∃ (a R : Addr) (x : Str) (U : Tab Int) (ds : List Deed), vs = [.ref a, .ref R, .str x] ∧ TillAt CT H a U ∧ H R = some (.lst (ds.map fun d => V.ref d.at_)) ∧ DeedsAt CW H ds ∧ Q (.int (steppedA ds x (U.at x))) H
theorem sc_stepped : FnScope ["till", "deeds", "name", "here", "up", "want", "spot"] ["till", "deeds", "name"] (defScope s_law_stepped) := ⟨rfl, rfl, rfl, by decide +kernel, rfl, by decide +kernel, by decide +kernel⟩
theorem steppedA_snoc (ds : List Deed) (d : Deed) (x : Str) (h : Int) : steppedA (ds ++ [d]) x h = stepD d (d.W.has x) (steppedA ds x h) := by
  unfold steppedA
  rw [List.foldl_append]
  rfl
theorem steppedR_snoc (ds : List Deed) (d : Deed) (h : Int) : steppedR (ds ++ [d]) h = stepD d d.W.but (steppedR ds h) := by
  unfold steppedR
  rw [List.foldl_append]
  rfl
theorem ok_stepped {f : Addr} {fd : FuncData} (F : FD K "_law_stepped" "_law_stepped" s_law_stepped f fd) (B : Fc K mg CW CT CU) (m1 : Met P w K mg base 1 CT "moment_of" (sp_moment_of CT) []) (m2 : Met P w K mg base 1 CW "has" (sp_has CW) []) : FnOk P w K mg base CX0 2 f fd ["till", "deeds", "name"] (sp_stepped CW CT) := by
  refine F.ok sc_stepped (fun vs H Q E h => ?_) (fun cdv A outer s H vs Q E hr h => ?_)
  · obtain ⟨a, R, x, U, ds, rfl, _⟩ := h; rfl
  · obtain ⟨a, R, x, U, ds, rfl, hU, hR, hD, q⟩ := h
    have okN := sc_stepped.nd
    refine ⟨_, PSs.nox (pss_cons (ps_set (i := 3) okN rfl (.inl rfl) (pe_mt m1 hr (Nat.le_refl _) (pv 0) (pa_cons (pv 2) pa_nil)))
      (pss_cons (ps_for PassesOwn.never rfl (pi_list (pv 1)) (pg_tup rfl (pgs_cons (pg_name (i := 4) okN rfl (.inl rfl)) (pgs_cons (pg_name (i := 5) okN rfl (.inl rfl)) (pgs_cons (pg_name (i := 6) okN rfl (.inl rfl)) pgs_nil))))
        (pss_one (ps_if (pt_val (pe_mt m2 hr (Nat.le_refl _) (pv 5) (pa_cons (pv 2) pa_nil))) (pss_one (ps_set (i := 3) okN rfl (.inl rfl) (pe_ifExp (pt_val (pv 4)) (pe_callB (call_max2 rfl) (by rfl) B.max boot_max_ (pa_cons (pv 3) (pa_cons (pv 6) pa_nil)))
          (pe_callB (call_min2 rfl) (by rfl) B.min boot_min_ (pa_cons (pv 3) (pa_cons (pv 6) pa_nil)))))) pss_nil)))
      (pss_one (ps_ret (pv 3))))), ?_⟩
    obtain ⟨_, _, dx, p, d, bs, _, _, h1, _, _⟩ := id hU
    refine ⟨_, rfl, a, dx, _, rfl, h1, rfl, _, rfl, a, U, x, rfl, hU, ?_⟩
    refine ⟨_, rfl, R, rfl, ⟨_, SqL.of hR⟩, ?_⟩
    refine for_seq (K := K) (seqIt_list K R (ds.map fun d => V.ref d.at_)) (fun i σ H' => H' = H ∧ ∃ o4 o5 o6 : Option V, σ = [some (.ref a), some (.ref R), some (.str x), some (.int (steppedA (ds.take i) x (U.at x))), o4, o5, o6]) ⟨rfl, none, none, none, rfl⟩ (fun i σ H' _ e => ?_) (fun i v σ H' hv e => ?_) (fun σ H' e => ?_)
    · rw [e.1]; exact SqL.of hR
    · obtain ⟨rfl, o4, o5, o6, rfl⟩ := e
      obtain ⟨d, hd, ev⟩ := refs_item (f := fun d : Deed => d.at_) hv
      obtain ⟨k1, k2⟩ := hD d (List.mem_of_getElem? hd)
      have tk : ds.take (i + 1) = ds.take i ++ [d] := by rw [List.take_add_one, hd]; rfl
      refine ⟨d.at_, _, ev, SqT.of k1, rfl, .bl d.up, [.ref d.wa, .int d.spot], rfl, .ref d.wa, [.int d.spot], rfl, .int d.spot, [], rfl, rfl, ?_⟩
      obtain ⟨_, _, dy, p2, w1, _⟩ := id k2
      refine ⟨_, rfl, d.wa, dy, _, rfl, w1, rfl, _, rfl, d.wa, d.W, x, rfl, k2, d.W.has x, rfl, ?_⟩
      cases hb : d.W.has x with
      | false =>
        refine iteF ⟨rfl, some (.bl d.up), some (.ref d.wa), some (.int d.spot), ?_⟩
        rw [tk, steppedA_snoc, hb]
        rfl
      | true =>
        refine iteT ⟨_, rfl, d.up, rfl, ?_⟩
        refine if_to (v := .int (stepD d true (steppedA (ds.take i) x (U.at x)))) (fun hu R z => ?_) (fun hu R z => ?_) ?_
        · have e : stepD d true (steppedA (ds.take i) x (U.at x)) = maxI d.spot (steppedA (ds.take i) x (U.at x)) := by unfold stepD; rw [if_pos rfl, if_pos hu]
          rw [e] at z
          exact ⟨_, rfl, _, rfl, _, d.spot, rfl, z⟩
        · have e : stepD d true (steppedA (ds.take i) x (U.at x)) = minI d.spot (steppedA (ds.take i) x (U.at x)) := by unfold stepD; rw [if_pos rfl, if_neg (by rw [hu]; exact Bool.false_ne_true)]
          rw [e] at z
          exact ⟨_, rfl, _, rfl, _, d.spot, rfl, z⟩
        refine ⟨rfl, some (.bl d.up), some (.ref d.wa), some (.int d.spot), ?_⟩
        rw [tk, steppedA_snoc, hb]
        rfl
    · obtain ⟨rfl, o4, o5, o6, rfl⟩ := e
      rw [List.length_map, List.take_of_length_le (Nat.le_refl _)]
      exact ⟨_, rfl, q⟩
theorem chg_step {d : Deed} {U : Tab Int} {x : Str} : chg d.W (if d.up = true then maxI d.spot else minI d.spot) U x = stepD d (d.W.has x) (U.at x) := by
  unfold chg stepD
  cases d.up <;> cases d.W.has x <;> rfl
theorem want_len {CW : Addr} {H : Hp} {a : Addr} {W : WantD} {ns : List Str} (h : WantAt CW H a W) (s : ∀ x ∈ W.names, x ∈ ns) (l : ns.length ≤ 8) : W.names.length ≤ 8 := Nat.le_trans (sub_len (slt_nodup h.1.1) s) l
theorem chg_sub {W : WantD} {h : Int → Int} {U Z : Tab Int} {ns : List Str} (o : Z.Ok) (sU : ∀ p ∈ U.own, p.1 ∈ ns) (sW : ∀ x ∈ W.names, x ∈ ns) (hr : Z.rest = if W.but = true then h U.rest else U.rest) (ha : ∀ x, Z.at x = chg W h U x) : ∀ p ∈ Z.own, p.1 ∈ ns := own_in o fun x hx => by
  rw [ha, hr]
  unfold chg
  rw [has_out fun z => hx (sW x z), own_out sU x hx]
def sp_done (T : List (Addr × Str)) (CW CT : Addr) : Sp := fun vs H Q _ => ∃ (a R : Addr) (U : Tab Int) (ds : List Deed) (ns : List Str), vs = [.ref a, .ref R] ∧ Tabs T H ∧ TillAt CT H a U ∧ (∀ p ∈ U.own, p.1 ∈ ns) ∧ ns.length ≤ 8 ∧ H R = some (.lst (ds.map fun d => V.ref d.at_)) ∧ DeedsAt CW H ds ∧ (∀ d ∈ ds, DeedOk ns d) ∧
  ∀ (H1 : Hp) (v : Addr) (Z : Tab Int), Gr T [] H H1 → TillAt CT H1 v Z → Z.rest = steppedR ds U.rest → (∀ x, Z.at x = steppedA ds x (U.at x)) → (∀ p ∈ Z.own, p.1 ∈ ns) → Q (.ref v) H1
theorem sc_done : FnScope ["till", "deeds", "up", "want", "spot"] ["till", "deeds"] (defScope s_law_done) := ⟨rfl, rfl, rfl, by decide +kernel, rfl, by decide +kernel, by decide +kernel⟩
theorem ok_done {f : Addr} {fd : FuncData} (F : FD K "_law_done" "_law_done" s_law_done f fd) (B : Fc K mg CW CT CU) (c1 : Cal P w K mg base 7 "raised" (sp_onwant T CW CT maxI) []) (c2 : Cal P w K mg base 7 "lowered" (sp_onwant T CW CT minI) []) : FnOk P w K mg base CX0 8 f fd ["till", "deeds"] (sp_done T CW CT) := by
  refine F.ok sc_done (fun vs H Q E h => ?_) (fun cdv A outer s H vs Q E hr h => ?_)
  · obtain ⟨a, R, U, ds, ns, rfl, _⟩ := h; rfl
  · obtain ⟨a, R, U, ds, ns, rfl, hT, hU, sU, l8, hR, hD, ok, q⟩ := h
    have okN := sc_done.nd
    refine ⟨_, PSs.nox (pss_cons (ps_for PassesOwn.never rfl (pi_list (pv 1)) (pg_tup rfl (pgs_cons (pg_name (i := 2) okN rfl (.inl rfl)) (pgs_cons (pg_name (i := 3) okN rfl (.inl rfl)) (pgs_cons (pg_name (i := 4) okN rfl (.inl rfl)) pgs_nil))))
        (pss_one (ps_set (i := 0) okN rfl (.inl rfl) (pe_ifExp (pt_val (pv 2)) (pe_c c1 hr (Nat.le_refl _) (by rfl) (pa_cons (pv 0) (pa_cons (pv 3) (pa_cons (pv 4) pa_nil)))) (pe_c c2 hr (Nat.le_refl _) (by rfl) (pa_cons (pv 0) (pa_cons (pv 3) (pa_cons (pv 4) pa_nil))))))))
      (pss_one (ps_ret (pv 0)))), ?_⟩
    refine ⟨_, rfl, R, rfl, ⟨_, SqL.of hR⟩, ?_⟩
    refine for_seq (K := K) (seqIt_list K R (ds.map fun d => V.ref d.at_)) (fun i σ H' => ∃ (v : Addr) (Z : Tab Int) (o2 o3 o4 : Option V), σ = [some (.ref v), some (.ref R), o2, o3, o4] ∧ TillAt CT H' v Z ∧ Z.rest = steppedR (ds.take i) U.rest ∧ (∀ x, Z.at x = steppedA (ds.take i) x (U.at x)) ∧ (∀ p ∈ Z.own, p.1 ∈ ns) ∧ Gr T [] H H')
      ⟨a, U, none, none, none, rfl, hU, rfl, fun _ => rfl, sU, Gr.refl _⟩ (fun i σ H' _ e => ?_) (fun i v σ H' hv e => ?_) (fun σ H' e => ?_)
    · obtain ⟨_, _, _, _, _, _, _, _, _, _, g⟩ := e
      exact SqL.of (g.lst hR List.not_mem_nil)
    · obtain ⟨u, Z, o2, o3, o4, rfl, hZ, zr, za, zs, g⟩ := e
      obtain ⟨d, hd, ev⟩ := refs_item (f := fun d : Deed => d.at_) hv
      have hm := List.mem_of_getElem? hd
      obtain ⟨k1, k2⟩ := hD d hm
      obtain ⟨sW, mW⟩ := ok d hm
      have tk : ds.take (i + 1) = ds.take i ++ [d] := by rw [List.take_add_one, hd]; rfl
      refine ⟨d.at_, _, ev, SqT.of (g.tup k1), rfl, .bl d.up, [.ref d.wa, .int d.spot], rfl, .ref d.wa, [.int d.spot], rfl, .int d.spot, [], rfl, rfl, ?_⟩
      refine ⟨_, rfl, d.up, rfl, ?_⟩
      refine if_to2 (fun y Hy => ∃ (v : Addr) (Y : Tab Int), y = .ref v ∧ Gr T [] H' Hy ∧ TillAt CT Hy v Y ∧ Y.rest = (if d.W.but = true then (if d.up = true then maxI d.spot else minI d.spot) Z.rest else Z.rest) ∧ ∀ x, Y.at x = chg d.W (if d.up = true then maxI d.spot else minI d.spot) Z x) (fun hu R z => ?_) (fun hu R z => ?_) ?_
      · rw [show (if d.up = true then maxI d.spot else minI d.spot) = maxI d.spot from if_pos hu] at z
        exact ⟨_, rfl, _, rfl, _, rfl, u, d.wa, Z, d.W, d.spot, rfl, g.tabs hT, hZ, k2.gr g, Nat.le_trans (own_len hZ.1.1 zs) l8, want_len k2 sW l8, fun H2 v2 Y g2 hY hr0 hat => z _ _ ⟨v2, Y, rfl, g2, hY, hr0, hat⟩⟩
      · rw [show (if d.up = true then maxI d.spot else minI d.spot) = minI d.spot from if_neg (by rw [hu]; exact Bool.false_ne_true)] at z
        exact ⟨_, rfl, _, rfl, _, rfl, u, d.wa, Z, d.W, d.spot, rfl, g.tabs hT, hZ, k2.gr g, Nat.le_trans (own_len hZ.1.1 zs) l8, want_len k2 sW l8, fun H2 v2 Y g2 hY hr0 hat => z _ _ ⟨v2, Y, rfl, g2, hY, hr0, hat⟩⟩
      · rintro y Hy ⟨v2, Y, rfl, g2, hY, hr0, hat⟩
        refine ⟨v2, Y, _, _, _, rfl, hY, ?_, fun x => ?_, chg_sub hY.1.1 zs sW hr0 hat, g.trans g2⟩
        · rw [hr0, tk, steppedR_snoc, ← zr]
          unfold stepD
          cases d.up <;> cases d.W.but <;> rfl
        · rw [hat, chg_step, tk, steppedA_snoc, za]
    · obtain ⟨u, Z, o2, o3, o4, rfl, hZ, zr, za, zs, g⟩ := e
      rw [List.length_map, List.take_of_length_le (Nat.le_refl _)] at zr za
      exact ⟨_, rfl, q H' u Z g hZ zr za zs⟩
end
end KD
end

section
set_option Elab.async false
set_option linter.all false
set_option maxRecDepth 100000
set_option maxHeartbeats 4000000
/-! the pairs of deeds -/
namespace KD
open PySem PySem.Spec PyProof.Rows C8 LamX NdefX
open L2 hiding CX0 E0 pass0 Fun
theorem max_max (a b x : Int) : maxI b (maxI a x) = maxI (maxI b a) x := by
  unfold maxI
  repeat' split
  all_goals omega
theorem min_min (a b x : Int) : minI b (minI a x) = minI (minI b a) x := by
  unfold minI
  repeat' split
  all_goals omega
theorem max_up (a x : Int) : maxI x (maxI a x) = maxI a x := by
  unfold maxI
  repeat' split
  all_goals omega
theorem min_down (a x : Int) : minI x (minI a x) = minI a x := by
  unfold minI
  repeat' split
  all_goals omega
theorem max_ud (a x : Int) : maxI (minI a x) (maxI a x) = maxI a x := by
  unfold maxI minI
  repeat' split
  all_goals omega
theorem min_ud (a x : Int) : minI (minI a x) (maxI a x) = minI a x := by
  unfold maxI minI
  repeat' split
  all_goals omega
/-- Z is U, h done on W -/
structure Chg (W : WantD) (h : Int → Int) (U Z : Tab Int) (ns : List Str) : Prop where
  rest : Z.rest = if W.but = true then h U.rest else U.rest
  all : ∀ x, Z.at x = chg W h U x
  sub : ∀ p ∈ Z.own, p.1 ∈ ns
/-- two tills, equal -/
theorem till_same {CT : Addr} {H H1 : Hp} {a b : Addr} {U Z : Tab Int} (h : TillAt CT H a U) (g : TillAt CT H1 b Z) (r : U.rest = Z.rest) (q : ∀ x, U.at x = Z.at x) : U = Z := tab_ext h.1.1 g.1.1 r q
section
variable {P : Program} {w : World} {K : PySem.W.Frag} {mg : Str → Option Value} {base : Heap} {CW CT CU : Addr} {T : List (Addr × Str)}
def sp_pairs_right (T : List (Addr × Str)) (CW CT : Addr) : Sp := fun vs H Q _ => ∃ (a b : Addr) (U : Tab Int) (W : WantD) (ns : List Str) (i j : Int), vs = [.ref a, .ref b, .int i, .int j] ∧ Tabs T H ∧ TillAt CT H a U ∧ WantAt CW H b W ∧ (∀ p ∈ U.own, p.1 ∈ ns) ∧ (∀ x ∈ W.names, x ∈ ns) ∧ ns.length ≤ 8 ∧
  ∀ H1, Gr T [] H H1 → Q (.bl true) H1
theorem sc_pairs_right : FnScope ["till", "want", "one", "other", "up", "down"] ["till", "want", "one", "other"] (defScope s_law_pairs_right) := ⟨rfl, rfl, rfl, by decide +kernel, rfl, by decide +kernel, by decide +kernel⟩
/-- what a call of raised, lowered asks, told for these tills -/
theorem onwant_read {H : Hp} {a b : Addr} {U : Tab Int} {W : WantD} {ns : List Str} {m : Int} {h : Int → Int → Int} {Q : VK} (hT : Tabs T H) (hU : TillAt CT H a U) (hW : WantAt CW H b W) (sU : ∀ p ∈ U.own, p.1 ∈ ns) (sW : ∀ x ∈ W.names, x ∈ ns) (l8 : ns.length ≤ 8)
    (q : ∀ (H1 : Hp) (v : Addr) (Z : Tab Int), Gr T [] H H1 → TillAt CT H1 v Z → Chg W (h m) U Z ns → Q (.ref v) H1) : sp_onwant T CW CT h [.ref a, .ref b, .int m] H Q E0 :=
  ⟨a, b, U, W, m, rfl, hT, hU, hW, Nat.le_trans (own_len hU.1.1 sU) l8, want_len hW sW l8, fun H1 v Z g hZ hr ha => q H1 v Z g hZ ⟨hr, ha, chg_sub hZ.1.1 sU sW hr ha⟩⟩
theorem mk_chg {H1 : Hp} {v : Addr} {U Z : Tab Int} {W : WantD} {ns : List Str} {h : Int → Int} (hZ : TillAt CT H1 v Z) (sU : ∀ p ∈ U.own, p.1 ∈ ns) (sW : ∀ x ∈ W.names, x ∈ ns) (hr : Z.rest = if W.but = true then h U.rest else U.rest) (ha : ∀ x, Z.at x = chg W h U x) : Chg W h U Z ns := ⟨hr, ha, chg_sub hZ.1.1 sU sW hr ha⟩
theorem ne_read {H : Hp} {a b : Addr} {U Z : Tab Int} {Q : VK} (hU : TillAt CT H a U) (hZ : TillAt CT H b Z) (e : U = Z) (q : Q (.bl false) H) : rEqO CT (sp_teq CT) true (.ref a) (.ref b) H Q := by
  obtain ⟨_, _, dx, _, _, _, _, _, h1, _⟩ := id hU
  obtain ⟨_, _, dy, _, _, _, _, _, h2, _⟩ := id hZ
  refine ⟨a, b, dx, dy, _, _, rfl, rfl, h1, h2, a, b, U, Z, rfl, hU, hZ, fun k hk => ⟨k, rfl, ?_⟩⟩
  rw [hk.2 e]
  exact q
theorem eq_read {H : Hp} {a b : Addr} {U Z : Tab Int} {Q : VK} (hU : TillAt CT H a U) (hZ : TillAt CT H b Z) (e : U = Z) (q : Q (.bl true) H) : rEqO CT (sp_teq CT) false (.ref a) (.ref b) H Q := by
  obtain ⟨_, _, dx, _, _, _, _, _, h1, _⟩ := id hU
  obtain ⟨_, _, dy, _, _, _, _, _, h2, _⟩ := id hZ
  refine ⟨a, b, dx, dy, _, _, rfl, rfl, h1, h2, a, b, U, Z, rfl, hU, hZ, fun k hk => ⟨k, rfl, ?_⟩⟩
  rw [hk.2 e]
  exact q
theorem ok_pairs_right {f : Addr} {fd : FuncData} (F : FD K "_law_pairs_right" "_law_pairs_right" s_law_pairs_right f fd) (B : Fc K mg CW CT CU) (c1 : Cal P w K mg base 7 "raised" (sp_onwant T CW CT maxI) []) (c2 : Cal P w K mg base 7 "lowered" (sp_onwant T CW CT minI) []) (c3 : Cal P w K mg base 6 "others" (sp_others T CW) [])
    (c4 : Cal P w K mg base 7 "higher" (sp_highlow T CT fun i j => maxI j i) []) (c5 : Cal P w K mg base 7 "lower" (sp_highlow T CT fun i j => minI j i) []) (m1 : Met P w K mg base 1 CT "__eq__" (sp_teq CT) []) : FnOk P w K mg base CX0 8 f fd ["till", "want", "one", "other"] (sp_pairs_right T CW CT) := by
  refine F.ok sc_pairs_right (fun vs H Q E h => ?_) (fun cdv A outer s H vs Q E hr h => ?_)
  · obtain ⟨a, b, U, W, ns, i, j, rfl, _⟩ := h; rfl
  · obtain ⟨a, b, U, W, ns, i, j, rfl, hT, hU, hW, sU, sW, l8, q⟩ := h
    have okN := sc_pairs_right.nd
    refine ⟨_, PSs.nox (pss_cons (ps_if (pt_cmpR (op_neO m1 B.neT hr (by decide)) (pe_c c1 hr (Nat.le_refl _) (by rfl) (pa_cons (pe_c c1 hr (Nat.le_refl _) (by rfl) (pa_cons (pv 0) (pa_cons (pv 1) (pa_cons (pv 2) pa_nil)))) (pa_cons (pv 1) (pa_cons (pv 3) pa_nil))))
          (pe_c c1 hr (Nat.le_refl _) (by rfl) (pa_cons (pv 0) (pa_cons (pv 1) (pa_cons (pe_callB (call_max2 rfl) (by rfl) B.max boot_max_ (pa_cons (pv 2) (pa_cons (pv 3) pa_nil))) pa_nil)))) (nomark _)) pss_never pss_nil)
      (pss_cons (ps_if (pt_cmpR (op_neO m1 B.neT hr (by decide)) (pe_c c2 hr (Nat.le_refl _) (by rfl) (pa_cons (pe_c c2 hr (Nat.le_refl _) (by rfl) (pa_cons (pv 0) (pa_cons (pv 1) (pa_cons (pv 2) pa_nil)))) (pa_cons (pv 1) (pa_cons (pv 3) pa_nil))))
          (pe_c c2 hr (Nat.le_refl _) (by rfl) (pa_cons (pv 0) (pa_cons (pv 1) (pa_cons (pe_callB (call_min2 rfl) (by rfl) B.min boot_min_ (pa_cons (pv 2) (pa_cons (pv 3) pa_nil))) pa_nil)))) (nomark _)) pss_never pss_nil)
      (pss_cons (ps_if (pt_cmpR (op_neO m1 B.neT hr (by decide)) (pe_c c2 hr (Nat.le_refl _) (by rfl) (pa_cons (pe_c c1 hr (Nat.le_refl _) (by rfl) (pa_cons (pv 0) (pa_cons (pv 1) (pa_cons (pv 2) pa_nil)))) (pa_cons (pe_c c3 hr (by decide) (by rfl) (pa_cons (pv 1) pa_nil)) (pa_cons (pv 3) pa_nil))))
          (pe_c c1 hr (Nat.le_refl _) (by rfl) (pa_cons (pe_c c2 hr (Nat.le_refl _) (by rfl) (pa_cons (pv 0) (pa_cons (pe_c c3 hr (by decide) (by rfl) (pa_cons (pv 1) pa_nil)) (pa_cons (pv 3) pa_nil)))) (pa_cons (pv 1) (pa_cons (pv 2) pa_nil)))) (nomark _)) pss_never pss_nil)
      (pss_cons (ps_par (i := 4) (j := 5) rfl okN rfl rfl (by decide) rfl rfl (pa_cons (pe_c c1 hr (Nat.le_refl _) (by rfl) (pa_cons (pv 0) (pa_cons (pv 1) (pa_cons (pv 2) pa_nil)))) (pa_cons (pe_c c2 hr (Nat.le_refl _) (by rfl) (pa_cons (pv 0) (pa_cons (pv 1) (pa_cons (pv 2) pa_nil)))) pa_nil)) rfl)
      (pss_one (ps_ret (pe_and (pe_cmpR (op_eqO m1 hr (by decide)) (pe_c c4 hr (Nat.le_refl _) (by rfl) (pa_cons (pv 4) (pa_cons (pv 0) pa_nil))) (pv 4) (nomark _))
        (pe_and (pe_cmpR (op_eqO m1 hr (by decide)) (pe_c c5 hr (Nat.le_refl _) (by rfl) (pa_cons (pv 5) (pa_cons (pv 0) pa_nil))) (pv 5) (nomark _))
        (pe_and (pe_cmpR (op_eqO m1 hr (by decide)) (pe_c c4 hr (Nat.le_refl _) (by rfl) (pa_cons (pv 4) (pa_cons (pv 5) pa_nil))) (pv 4) (nomark _))
        (pe_one (pe_cmpR (op_eqO m1 hr (by decide)) (pe_c c5 hr (Nat.le_refl _) (by rfl) (pa_cons (pv 4) (pa_cons (pv 5) pa_nil))) (pv 5) (nomark _)))))))))))), ?_⟩
    -- raised, raised
    refine ⟨_, rfl, _, rfl, _, rfl, ⟨_, _, _, _, _, rfl, hT, hU, hW, Nat.le_trans (own_len hU.1.1 sU) l8, want_len hW sW l8, fun H1 v1 Z1 g1 h1 rd1 ad1 => ?_⟩⟩
    have d1 := mk_chg h1 sU sW rd1 ad1
    refine ⟨_, rfl, _, rfl, ⟨_, _, _, _, _, rfl, (g1.tabs hT), h1, (hW.gr g1), Nat.le_trans (own_len h1.1.1 d1.sub) l8, want_len (hW.gr g1) sW l8, fun H2 v2 Z2 g2 h2 rd2 ad2 => ?_⟩⟩
    have d2 := mk_chg h2 d1.sub sW rd2 ad2
    have g12 := g1.trans g2
    refine ⟨_, rfl, _, rfl, _, rfl, _, rfl, i, j, rfl, ⟨_, _, _, _, _, rfl, (g12.tabs hT), (hU.gr g12), (hW.gr g12), Nat.le_trans (own_len (hU.gr g12).1.1 sU) l8, want_len (hW.gr g12) sW l8, fun H3 v3 Z3 g3 h3 rd3 ad3 => ?_⟩⟩
    have d3 := mk_chg h3 sU sW rd3 ad3
    refine ne_read (h2.gr g3) h3 (till_same h2 h3 ?_ fun x => ?_) ⟨_, rfl, iteF ?_⟩
    · rw [d2.rest, d1.rest, d3.rest]
      cases W.but with
      | true => exact max_max i j _
      | false => rfl
    · rw [d2.all, d3.all]
      unfold chg
      rw [d1.all]
      unfold chg
      cases W.has x with
      | true => exact max_max i j _
      | false => rfl
    have g13 := g12.trans g3
    -- lowered, lowered
    refine ⟨_, rfl, _, rfl, _, rfl, ⟨_, _, _, _, _, rfl, (g13.tabs hT), (hU.gr g13), (hW.gr g13), Nat.le_trans (own_len (hU.gr g13).1.1 sU) l8, want_len (hW.gr g13) sW l8, fun H4 v4 Z4 g4 h4 rd4 ad4 => ?_⟩⟩
    have d4 := mk_chg h4 sU sW rd4 ad4
    refine ⟨_, rfl, _, rfl, ⟨_, _, _, _, _, rfl, ((g13.trans g4).tabs hT), h4, (hW.gr (g13.trans g4)), Nat.le_trans (own_len h4.1.1 d4.sub) l8, want_len (hW.gr (g13.trans g4)) sW l8, fun H5 v5 Z5 g5 h5 rd5 ad5 => ?_⟩⟩
    have d5 := mk_chg h5 d4.sub sW rd5 ad5
    have g15 := (g13.trans g4).trans g5
    refine ⟨_, rfl, _, rfl, _, rfl, _, rfl, i, j, rfl, ⟨_, _, _, _, _, rfl, (g15.tabs hT), (hU.gr g15), (hW.gr g15), Nat.le_trans (own_len (hU.gr g15).1.1 sU) l8, want_len (hW.gr g15) sW l8, fun H6 v6 Z6 g6 h6 rd6 ad6 => ?_⟩⟩
    have d6 := mk_chg h6 sU sW rd6 ad6
    refine ne_read (h5.gr g6) h6 (till_same h5 h6 ?_ fun x => ?_) ⟨_, rfl, iteF ?_⟩
    · rw [d5.rest, d4.rest, d6.rest]
      cases W.but with
      | true => exact min_min i j _
      | false => rfl
    · rw [d5.all, d6.all]
      unfold chg
      rw [d4.all]
      unfold chg
      cases W.has x with
      | true => exact min_min i j _
      | false => rfl
    have g16 := g15.trans g6
    -- one and the others
    refine ⟨_, rfl, _, rfl, _, rfl, ⟨_, _, _, _, _, rfl, (g16.tabs hT), (hU.gr g16), (hW.gr g16), Nat.le_trans (own_len (hU.gr g16).1.1 sU) l8, want_len (hW.gr g16) sW l8, fun H7 v7 Z7 g7 h7 rd7 ad7 => ?_⟩⟩
    have d7 := mk_chg h7 sU sW rd7 ad7
    have g17 := g16.trans g7
    refine ⟨_, rfl, b, W, rfl, hW.gr g17, fun H8 v8 W8 g8 hW8 en8 eb8 => ?_⟩
    have g18 := g17.trans g8
    have has8 : ∀ x, W8.has x = !W.has x := fun x => by
      unfold WantD.has
      rw [en8, eb8]
      cases decide (x ∈ W.names) <;> cases W.but <;> rfl
    have s8 : ∀ x ∈ W8.names, x ∈ ns := fun x hx => sW x (by rw [← en8]; exact hx)
    refine ⟨_, rfl, ⟨_, _, _, _, _, rfl, (g18.tabs hT), (h7.gr g8), hW8, Nat.le_trans (own_len (h7.gr g8).1.1 d7.sub) l8, want_len hW8 s8 l8, fun H9 v9 Z9 g9 h9 rd9 ad9 => ?_⟩⟩
    have d9 := mk_chg h9 d7.sub s8 rd9 ad9
    have g19 := g18.trans g9
    refine ⟨_, rfl, _, rfl, b, W, rfl, hW.gr g19, fun Ha va Wa ga hWa ena eba => ?_⟩
    have g1a := g19.trans ga
    have hasa : ∀ x, Wa.has x = !W.has x := fun x => by
      unfold WantD.has
      rw [ena, eba]
      cases decide (x ∈ W.names) <;> cases W.but <;> rfl
    have sa : ∀ x ∈ Wa.names, x ∈ ns := fun x hx => sW x (by rw [← ena]; exact hx)
    refine ⟨_, rfl, ⟨_, _, _, _, _, rfl, (g1a.tabs hT), (hU.gr g1a), hWa, Nat.le_trans (own_len (hU.gr g1a).1.1 sU) l8, want_len hWa sa l8, fun Hb vb Zb gb hb rdb adb => ?_⟩⟩
    have db := mk_chg hb sU sa rdb adb
    have g1b := g1a.trans gb
    refine ⟨_, rfl, _, rfl, ⟨_, _, _, _, _, rfl, (g1b.tabs hT), hb, (hW.gr g1b), Nat.le_trans (own_len hb.1.1 db.sub) l8, want_len (hW.gr g1b) sW l8, fun Hc vc Zc gc hc rdc adc => ?_⟩⟩
    have dc := mk_chg hc db.sub sW rdc adc
    have g1c := g1b.trans gc
    refine ne_read (((h9.gr ga).gr gb).gr gc) hc (till_same h9 hc ?_ fun x => ?_) ⟨_, rfl, iteF ?_⟩
    · rw [d9.rest, d7.rest, dc.rest, db.rest, eb8, eba]
      cases W.but <;> rfl
    · rw [d9.all, dc.all]
      unfold chg
      rw [d7.all, db.all]
      unfold chg
      rw [has8, hasa]
      cases W.has x <;> rfl
    -- up, down
    refine ⟨_, rfl, _, rfl, _, rfl, ⟨_, _, _, _, _, rfl, (g1c.tabs hT), (hU.gr g1c), (hW.gr g1c), Nat.le_trans (own_len (hU.gr g1c).1.1 sU) l8, want_len (hW.gr g1c) sW l8, fun Hd vd Zd gd hd rdd add => ?_⟩⟩
    have dd := mk_chg hd sU sW rdd add
    have g1d := g1c.trans gd
    refine ⟨_, rfl, _, rfl, _, rfl, ⟨_, _, _, _, _, rfl, (g1d.tabs hT), (hU.gr g1d), (hW.gr g1d), Nat.le_trans (own_len (hU.gr g1d).1.1 sU) l8, want_len (hW.gr g1d) sW l8, fun He ve Ze ge he rde ade => ?_⟩⟩
    have de := mk_chg he sU sW rde ade
    have g1e := g1d.trans ge
    have hd' := hd.gr ge
    have len : ∀ {H : Hp} {v : Addr} {Z : Tab Int}, TillAt CT H v Z → (∀ p ∈ Z.own, p.1 ∈ ns) → Z.own.length ≤ 8 := fun h s => Nat.le_trans (own_len h.1.1 s) l8
    refine ⟨_, _, rfl, ?_⟩
    refine ⟨_, rfl, _, rfl, vd, a, Zd, U, rfl, g1e.tabs hT, hd', hU.gr g1e, len hd dd.sub, len hU sU, fun Hf vf Zf gf hf rf af => ?_⟩
    have g1f := g1e.trans gf
    refine ⟨_, rfl, eq_read hf (hd'.gr gf) (till_same hf hd' ?_ fun x => ?_) ⟨true, rfl, iteT ?_⟩⟩
    · rw [rf, dd.rest]
      cases W.but with
      | true => exact max_up i _
      | false => show maxI U.rest U.rest = _; unfold maxI; split <;> rfl
    · rw [af, dd.all]
      unfold chg
      cases W.has x with
      | true => exact max_up i _
      | false => show maxI (U.at x) (U.at x) = _; unfold maxI; split <;> rfl
    refine ⟨_, rfl, _, rfl, ve, a, Ze, U, rfl, g1f.tabs hT, he.gr gf, hU.gr g1f, len he de.sub, len hU sU, fun Hg vg Zg gg hg rg ag => ?_⟩
    have g1g := g1f.trans gg
    refine ⟨_, rfl, eq_read hg ((he.gr gf).gr gg) (till_same hg he ?_ fun x => ?_) ⟨true, rfl, iteT ?_⟩⟩
    · rw [rg, de.rest]
      cases W.but with
      | true => exact min_down i _
      | false => show minI U.rest U.rest = _; unfold minI; split <;> rfl
    · rw [ag, de.all]
      unfold chg
      cases W.has x with
      | true => exact min_down i _
      | false => show minI (U.at x) (U.at x) = _; unfold minI; split <;> rfl
    refine ⟨_, rfl, _, rfl, vd, ve, Zd, Ze, rfl, g1g.tabs hT, (hd'.gr gf).gr gg, (he.gr gf).gr gg, len hd dd.sub, len he de.sub, fun Hh vh Zh gh hh rh ah => ?_⟩
    have g1h := g1g.trans gh
    refine ⟨_, rfl, eq_read hh (((hd'.gr gf).gr gg).gr gh) (till_same hh hd' ?_ fun x => ?_) ⟨true, rfl, iteT ?_⟩⟩
    · rw [rh, dd.rest, de.rest]
      cases W.but with
      | true => exact max_ud i _
      | false => show maxI U.rest U.rest = _; unfold maxI; split <;> rfl
    · rw [ah, dd.all, de.all]
      unfold chg
      cases W.has x with
      | true => exact max_ud i _
      | false => show maxI (U.at x) (U.at x) = _; unfold maxI; split <;> rfl
    refine ⟨_, rfl, _, rfl, vd, ve, Zd, Ze, rfl, g1h.tabs hT, ((hd'.gr gf).gr gg).gr gh, ((he.gr gf).gr gg).gr gh, len hd dd.sub, len he de.sub, fun Hi vi Zi gi hi ri ai => ?_⟩
    refine ⟨_, rfl, eq_read hi ((((he.gr gf).gr gg).gr gh).gr gi) (till_same hi he ?_ fun x => ?_) (q _ (g1h.trans gi))⟩
    · rw [ri, dd.rest, de.rest]
      cases W.but with
      | true => exact min_ud i _
      | false => show minI U.rest U.rest = _; unfold minI; split <;> rfl
    · rw [ai, dd.all, de.all]
      unfold chg
      cases W.has x with
      | true => exact min_ud i _
      | false => show minI (U.at x) (U.at x) = _; unfold minI; split <;> rfl
end
end KD
end

section
set_option Elab.async false
set_option linter.all false
set_option maxRecDepth 100000
set_option maxHeartbeats 4000000
/-! the law's normal form, its question -/
namespace KD
open PySem PySem.Spec PyProof.Rows C8 LamX NdefX
open L2 hiding CX0 E0 pass0 Fun
def dataT (b : Int) (l : List (Str × Int)) : PyData := .tuple [.int b, .tuple (l.map rowD)]
theorem rows_show : ∀ {l : List (Str × Int)}, (∀ q ∈ l, MomOk q.2) → PyData.showableAll (l.map rowD) = true
  | [], _ => by simp [PyData.showableAll]
  | q :: l, h => by
    have z := log_small (n := q.2.natAbs) (by have := h q List.mem_cons_self; unfold MomOk at this; omega)
    simp only [List.map_cons, PyData.showableAll, rowD, PyData.showable, Bool.true_and, Bool.and_true, Bool.and_eq_true, decide_eq_true_eq]
    exact ⟨by omega, rows_show fun y hy => h y (List.mem_cons_of_mem _ hy)⟩
theorem int_short {i : Int} (h : MomOk i) : (PyData.shown (.int i)).length ≤ 101 := by
  rw [PyData.shown]
  exact text_small (log_small (by unfold MomOk at h; omega))
theorem rows_short : ∀ {l : List (Str × Int)}, (∀ q ∈ l, MomOk q.2) → PyData.intsShortAll 101 (l.map rowD) = true
  | [], _ => by simp [PyData.intsShortAll]
  | q :: l, h => by
    have z := int_short (h q List.mem_cons_self)
    simp only [List.map_cons, PyData.intsShortAll, rowD, PyData.intsShort, Bool.true_and, Bool.and_true, Bool.and_eq_true, decide_eq_true_eq]
    exact ⟨z, rows_short fun y hy => h y (List.mem_cons_of_mem _ hy)⟩
theorem int_weight {i : Int} (h : MomOk i) : PyData.weight (.int i) ≤ 101 := by
  rw [PyData.weight]
  have z := log_small (n := i.natAbs) (by unfold MomOk at h; omega)
  split <;> omega
theorem rows_weight : ∀ {l : List (Str × Int)}, (∀ q ∈ l, MomOk q.2) → (∀ q ∈ l, Nm q.1) → PyData.weightAll (l.map rowD) ≤ 200 * l.length
  | [], _, _ => by simp [PyData.weightAll]
  | q :: l, h, n => by
    have z := int_weight (h q List.mem_cons_self)
    have y : PyData.weight (.str q.1) ≤ 8 := by
      rw [PyData.weight]
      exact (n q List.mem_cons_self).2.1
    have ih := rows_weight (fun y hy => h y (List.mem_cons_of_mem _ hy)) fun y hy => n y (List.mem_cons_of_mem _ hy)
    rw [List.map_cons, PyData.weightAll, rowD, PyData.weight, PyData.weightAll, PyData.weightAll, PyData.weightAll, List.length_cons]
    omega
theorem dataT_ok {b : Int} {l : List (Str × Int)} (hb : MomOk b) (h : ∀ q ∈ l, MomOk q.2) (n : ∀ q ∈ l, Nm q.1) (l8 : l.length ≤ 8) : (dataT b l).showable = true ∧ (dataT b l).hasDict = false ∧ (dataT b l).depth ≤ 8 ∧ (dataT b l).shown.length ≤ sizeLine := by
  have cl : (dataT b l).canLay0 = true := by
    unfold dataT
    rw [PyData.canLay0, PyData.canLayAll0, PyData.canLayAll0, PyData.canLayAll0, PyData.canLay0, PyData.canLay0, lay_rows n]
    rfl
  have zb := log_small (n := b.natAbs) (by unfold MomOk at hb; omega)
  refine ⟨?_, PyData.hasDict_of_canLay _ cl, ?_, ?_⟩
  · unfold dataT
    rw [PyData.showable, PyData.showableAll, PyData.showableAll, PyData.showableAll, PyData.showable, PyData.showable, rows_show h, decide_eq_true (by omega)]
    rfl
  · have := depth_rows l
    unfold dataT
    rw [PyData.depth, PyData.depthAll, PyData.depthAll, PyData.depthAll, PyData.depth, PyData.depth]
    omega
  · have sh : (dataT b l).intsShort 101 = true := by
      unfold dataT
      rw [PyData.intsShort, PyData.intsShortAll, PyData.intsShortAll, PyData.intsShortAll, PyData.intsShort, PyData.intsShort, rows_short h, decide_eq_true (int_short hb)]
      rfl
    have z := PyData.shown_le 101 (by decide) (dataT b l) (PyData.leavesShort_of_canLay0 101 _ cl sh)
    have wt : (dataT b l).weight ≤ 2000 := by
      unfold dataT
      have w1 := int_weight hb
      have w2 := rows_weight h n
      rw [PyData.weight, PyData.weightAll, PyData.weightAll, PyData.weightAll, PyData.weight.eq_def (.tuple _)]
      simp only
      omega
    rw [sizeLine_eq]
    omega
section
variable {P : Program} {w : World} {K : PySem.W.Frag} {mg : Str → Option Value} {base : Heap} {CW CT CU : Addr} {T : List (Addr × Str)}
/-- a dict by names -/
def DctAt (H : Hp) (D : Addr) (ks : List Str) (h : Str → Int) : Prop := H D = some (.dK (ks.map fun y => ((Sum.inr y : Key), V.int (h y))))
theorem DctAt.gr {L : List Addr} {H H1 : Hp} {D : Addr} {ks : List Str} {h : Str → Int} (d : DctAt H D ks h) (g : Gr T L H H1) : DctAt H1 D ks h := g.dK d
theorem dct_get {ks : List Str} {h : Str → Int} (x : Str) : valV (ks.map fun y => ((Sum.inr y : Key), V.int (h y))) (Sum.inr x) = if x ∈ ks then some (V.int (h x)) else none := by
  have e : (ks.map fun y => ((Sum.inr y : Key), V.int (h y))) = (ks.map fun y => (y, h y)).map fun q => ((Sum.inr q.1 : Key), V.int q.2) := by rw [List.map_map]; rfl
  rw [e, valV_rows (fun i : Int => V.int i), lookup_map]
  split <;> rfl
def sp_normal (T : List (Addr × Str)) : Sp := fun vs H Q _ => ∃ (b : Int) (D : Addr) (ks : List Str) (h : Str → Int), vs = [.int b, .ref D] ∧ DctAt H D ks h ∧ ks.Nodup ∧ ks.length ≤ 8 ∧
  ∀ (H1 : Hp) (v : Addr) (es : List (Addr × Str × Int)), Gr T [] H H1 → H1 v = some (.tup (es.map fun b => V.ref b.1)) → RowsAt H1 es → (Tab.mk b (es.map (·.2))).Ok → (∀ x, (Tab.mk b (es.map (·.2))).at x = if x ∈ ks then h x else b) → Q (.ref v) H1
theorem sc_normal : FnScope ["base", "known", "name"] ["base", "known"] (defScope s_law_normal) := ⟨rfl, rfl, rfl, by decide +kernel, rfl, by decide +kernel, by decide +kernel⟩
theorem ok_normal {f : Addr} {fd : FuncData} (F : FD K "_law_normal" "_law_normal" s_law_normal f fd) (B : Fc K mg CW CT CU) : FnOk P w K mg base CX0 1 f fd ["base", "known"] (sp_normal T) := by
  refine F.ok sc_normal (fun vs H Q E h => ?_) (fun cdv A outer s H vs Q E hr h => ?_)
  · obtain ⟨b, D, ks, h, rfl, _⟩ := h; rfl
  · obtain ⟨b, D, ks, h, rfl, hD, nk, l8, q⟩ := h
    have okN := sc_normal.nd
    have hu : A.units + 3 + 1 < cLine := by have := hr.un; simp only [Around.deeper] at this; omega
    refine ⟨_, PSs.nox (pss_one (ps_ret (pe_callTy call_tuple_of (by rfl) B.tuple boot_tuple_ (pa_cons (pe_lc (own := [("name", 2)]) rfl okN (pi_seq (pe_callB (call_sortedD rfl) (by rfl) B.sorted boot_sorted_ (pa_cons (pv 1) pa_nil))) (blkOk_by (N := ["base", "known", "name"]) (sc := defScope s_law_normal) (by decide +kernel))
        (fun _ _ _ _ _ => pg_name (i := 2) okN rfl (.inl rfl)) (fun _ _ _ _ _ => pts_one (pt_cmpR op_ne (pe_dget hu (pv 1) (pv 2) (fun _ _ => rfl)) (pv 0) (nomark _)))
        (fun _ _ _ _ _ => pe_tup (pa_cons (pv 2) (pa_cons (pe_dget hu (pv 1) (pv 2) (fun _ _ => rfl)) pa_nil)))) pa_nil)))), ?_⟩
    refine ⟨_, rfl, D, _, ks, rfl, .inl hD, by rw [List.map_map]; rfl, by omega, fun ys l pm so hl => ?_⟩
    have nd : ys.Nodup := pm.nodup_iff.mpr nk
    have lys : ys.length ≤ 8 := by rw [pm.length_eq]; exact l8
    let H1 : Hp := upd H l (.lst (ys.map V.str))
    have g1 : Gr T [] H H1 := (Gr.refl H).new hl
    refine ⟨l, _, rfl, .inl upd_same, fun J St sq hst R hR => ?_⟩
    refine lc_seq sq (fun i acc H' => ∃ es : List (Addr × Str × Int), acc = es.map (fun b => V.ref b.1) ∧ es.map (·.2) = ((ys.take i).map fun y => (y, h y)).filter (fun q => decide (q.2 ≠ b)) ∧ RowsAt H' es ∧ Gr T [] H1 H') ⟨[], rfl, rfl, (fun _ z => nomatch z), (Gr.refl H1).new hR⟩
      (fun i acc H' _ e => hst T [] H' e.choose_spec.2.2.2 List.not_mem_nil) (fun i v acc H' hv hla hR' ⟨es, ea, ee, hes, g⟩ => ?_) (fun acc H' hR' hla ⟨es, ea, ee, hes, g⟩ => ?_)
    · obtain ⟨y, hy, ev⟩ := strs_item hv
      have li : i < ys.length := (List.getElem?_eq_some_iff.mp hy).1
      have hm : y ∈ ks := pm.mem_iff.mp (List.mem_of_getElem? hy)
      have hDx := hD.gr (g1.trans g)
      have get : DGet H' D (.str y) (some (.int (h y))) := by
        have z := DGet.k (k := Sum.inr y) hDx
        rw [dct_get, if_pos hm] at z
        exact z
      have tk : (ys.take (i + 1)).map (fun y => (y, h y)) = (ys.take i).map (fun y => (y, h y)) ++ [(y, h y)] := by rw [List.take_add_one, hy, List.map_append]; rfl
      rw [ev]
      refine ⟨rfl, _, rfl, _, rfl, D, _, rfl, get, _, rfl, rfl, _, rfl, ?_⟩
      by_cases hn : h y = b
      · rw [show (!decide (V.int (h y) = V.int b)) = false from by rw [hn]; simp]
        refine iteF ⟨acc, by omega, hR', es, ea, ?_, hes, g⟩
        rw [tk, List.filter_append, ee]
        simp [hn]
      · rw [show (!decide (V.int (h y) = V.int b)) = true from by simp [hn]]
        refine iteT ⟨_, rfl, _, rfl, _, rfl, D, _, rfl, get, le_line (by show 2 < 1000; decide), fun t ht => ?_⟩
        have g2 := g.new (o := .tup [.str y, .int (h y)]) ht
        have hR2 : (upd H' t (.tup [.str y, .int (h y)])) R = some (.lst acc) := (upd_ne (ne_of_none hR' ht)).trans hR'
        refine nx_add hR2 hla (lt_line (by omega)) ⟨es ++ [(t, y, h y)], by rw [ea, List.map_append]; rfl, ?_, hes.snoc ht hR', g2.put hR hR2 free_lst⟩
        rw [tk, List.filter_append, List.map_append, ee]
        simp [hn]
    · rw [List.length_map, List.take_of_length_le (Nat.le_refl _)] at ee
      refine ⟨R, _, rfl, .inl ⟨SqL.of hR', fun t ht => ?_⟩⟩
      have fst : (ys.map fun y => (y, h y)).map (·.1) = ys := by rw [List.map_map]; exact List.map_id' ys
      have soE : ((es.map (·.2)).map (·.1)).Pairwise SLt := by
        rw [ee]
        have z : (((ys.map fun y => (y, h y)).filter fun q => decide (q.2 ≠ b)).map (·.1)).Sublist ys := by
          have z2 := (List.filter_sublist (p := fun q : Str × Int => decide (q.2 ≠ b)) (l := ys.map fun y => (y, h y))).map (·.1)
          rw [fst] at z2
          exact z2
        exact (sortedS_lt so nd).sublist z
      obtain ⟨o1, o2⟩ := tab_made (L := ys.map fun y => (y, h y)) (cs := es.map (·.2)) (r := b) (by rw [fst]; exact nd) (by rw [ee]) soE
      refine q _ t es ((g1.trans g).new ht) (by rw [upd_same, ea]) (hes.gr ((Gr.refl (T := T) (M := []) H').new ht)) o1 fun x => ?_
      rw [o2, lookup_map]
      by_cases hx : x ∈ ys
      · rw [if_pos hx, if_pos (pm.mem_iff.mp hx)]; rfl
      · rw [if_neg hx, if_neg (fun z => hx (pm.mem_iff.mpr z))]; rfl
end
end KD
end

section
set_option Elab.async false
set_option linter.all false
set_option maxRecDepth 100000
set_option maxHeartbeats 4000000
/-! is it the till -/
namespace KD
open PySem PySem.Spec PyProof.Rows C8 LamX NdefX
open L2 hiding CX0 E0 pass0 Fun
theorem boot_repr_ : bootBuiltins "repr" = some (.builtin "repr") := by decide +kernel
section
variable {P : Program} {w : World} {K : PySem.W.Frag} {mg : Str → Option Value} {base : Heap} {CW CT CU : Addr} {T : List (Addr × Str)}
def sp_is_till (T : List (Addr × Str)) (CT : Addr) : Sp := fun vs H Q _ => ∃ (a D NA : Addr) (b : Int) (U : Tab Int) (ns : List Str) (h : Str → Int), vs = [.ref a, .int b, .ref D, .ref NA] ∧ TillAt CT H a U ∧ DctAt H D ns h ∧ H NA = some (.lst (ns.map V.str)) ∧ ns.Nodup ∧ ns.length ≤ 8 ∧ U.rest = b ∧ (∀ x, U.at x = if x ∈ ns then h x else b) ∧ MomOk b ∧ (∀ x, MomOk (U.at x)) ∧
  ∀ H1, Gr T [] H H1 → Q (.bl true) H1
theorem sc_is_till : FnScope ["found", "base", "known", "names", "name"] ["found", "base", "known", "names"] (defScope s_law_is_till) := ⟨rfl, rfl, rfl, by decide +kernel, rfl, by decide +kernel, by decide +kernel⟩
theorem ok_is_till {f : Addr} {fd : FuncData} (F : FD K "_law_is_till" "_law_is_till" s_law_is_till f fd) (B : Fc K mg CW CT CU) (c1 : Cal P w K mg base 1 "_law_normal" (sp_normal T) []) (m1 : Met P w K mg base 1 CT "moment_of" (sp_moment_of CT) []) (m2 : Met P w K mg base 1 CT "__len__" (sp_tlen CT) []) (m3 : Met P w K mg base 1 CT "__repr__" (sp_trepr CT) []) :
    FnOkG P w K mg base 3 f fd ["found", "base", "known", "names"] (sp_is_till T CT) := by
  refine okG F sc_is_till (fun vs H Q E h => ?_) (fun cdv A outer s H vs Q hgd hr h => ?_)
  · obtain ⟨a, D, NA, b, U, ns, h, rfl, _⟩ := h; rfl
  · obtain ⟨a, D, NA, b, U, ns, h, rfl, hU, hD, hN, nd, l8, hb, hat, mb, ma, q⟩ := h
    have okN := sc_is_till.nd
    have hu : A.units + 3 + 16 < cLine := by have := hr.un; simp only [Around.deeper] at this; omega
    have hu1 : A.units + 3 + 1 < cLine := by omega
    refine ⟨_, PSs.nox (pss_cons (ps_if (pw_or (pt_not (pt_val (pe_callB (call_isC B.iT) (by rfl) B.isi boot_isi (pa_cons (pv 0) (pa_cons (pe_gc (v := .ref CT) (by rfl) ⟨_, B.gT, rfl⟩) pa_nil)))))
        (pw_or1 (pt_cmpR op_ne (pe_callB (cr_reprD hgd hu) (by rfl) B.repr boot_repr_ (pa_cons (pe_tup (pa_cons (pe_fld (pv 0) rfl) (pa_cons (pe_fld (pv 0) rfl) pa_nil))) pa_nil))
          (pe_callB (cr_reprD hgd hu) (by rfl) B.repr boot_repr_ (pa_cons (pe_tup (pa_cons (pv 1) (pa_cons (pe_c c1 hr (by decide) (by rfl) (pa_cons (pv 1) (pa_cons (pv 2) pa_nil))) pa_nil))) pa_nil)) (nomark _)))).pt pss_never pss_nil)
      (pss_cons (ps_for PassesOwn.never rfl (pi_seq (pe_op op_cat (pe_callTy call_list_of (by rfl) B.list boot_list_ (pa_cons (pv 3) pa_nil)) (pe_lst (pa_cons pe_str (pa_cons pe_str pa_nil))))) (pg_name (i := 4) okN rfl (.inl rfl))
        (pss_one (ps_if (pt_cmpR op_ne (pe_mt m1 hr (by decide) (pv 0) (pa_cons (pv 4) pa_nil)) (pe_dget2 hu1 (pv 2) (pv 4) (pv 1) (m2_get rfl)) (nomark _)) pss_never pss_nil)))
      (pss_one (ps_ret (pe_and (pe_cmpR op_eq (pe_callB (cr_lenO m2 hr (by decide)) (by rfl) B.len boot_len_ (pa_cons (pv 0) pa_nil)) (pe_callB call_len (by rfl) B.len boot_len_ (pa_cons (pe_c c1 hr (by decide) (by rfl) (pa_cons (pv 1) (pa_cons (pv 2) pa_nil))) pa_nil)) (nomark _))
        (pe_one (pe_cmpR op_eq (pe_callB (cr_reprO m3 hr (by decide)) (by rfl) B.repr boot_repr_ (pa_cons (pv 0) pa_nil))
          (pe_joined (.cons pe_str (.cons (pe_fmt (pv 1)) (.cons pe_str (.cons (pe_fmt (pe_callB (cr_lenO m2 hr (by decide)) (by rfl) B.len boot_len_ (pa_cons (pv 0) pa_nil))) (.cons pe_str .nil)))))) (nomark _)))))))), ?_⟩
    obtain ⟨⟨uo, un⟩, u64, dx, p, d, bs, ub, hB, h1, h2, h3⟩ := id hU
    have sub : ∀ q ∈ U.own, q.1 ∈ ns := own_in uo fun x hx => by rw [hat, if_neg hx, hb]
    have lo : U.own.length ≤ 8 := Nat.le_trans (own_len uo sub) l8
    have mo : ∀ q ∈ U.own, MomOk q.2 := fun q hq => by
      have z := ((uo.mem q.1 q.2).1 hq).1
      rw [← z]
      exact ma _
    obtain ⟨s1, s2, s3, s4⟩ := dataT_ok mb mo un lo
    refine ⟨_, rfl, a, dx, _, rfl, h1, true, rfl, iteF ?_⟩
    refine ⟨_, rfl, a, CT, dx, _, _, rfl, h1, B.iT.cl, B.nT _ (by simp), rfl, _, rfl, a, CT, dx, _, _, rfl, h1, B.iT.cl, B.nT _ (by simp), rfl, le_line (by show 2 < 1000; decide), fun t ht => ?_⟩
    have g1 : Gr T [] H (upd H t (.tup [.int U.rest, .ref p])) := (Gr.refl H).new ht
    have dp1 : Dp K (upd H t (.tup [.int U.rest, .ref p])) (.ref t) (dataT b U.own) := by
      rw [← hb, ← ub]
      exact .tup (SqT.of upd_same) (.cons (.int _) (.cons (.tup (SqT.of (g1.tup h2)) (dp_rows (hB.gr g1))) .nil))
    refine ⟨t, _, rfl, dp1, s1, s2, s3, s4, _, rfl, _, rfl, _, rfl, b, D, ns, h, rfl, hD.gr g1, nd, l8, fun H2 v es g2 hv hes oes aes => ?_⟩
    have eU : Tab.mk b (es.map (·.2)) = U := tab_ext oes uo hb.symm fun x => by rw [aes, hat]
    have eO : es.map (·.2) = U.own := congrArg Tab.own eU
    have g12 := g1.trans g2
    refine ⟨le_line (by show 2 < 1000; decide), fun t2 ht2 => ?_⟩
    have g3 : Gr T [] H2 (upd H2 t2 (.tup [.int b, .ref v])) := (Gr.refl H2).new ht2
    have dp2 : Dp K (upd H2 t2 (.tup [.int b, .ref v])) (.ref t2) (dataT b U.own) := by
      rw [← eO]
      exact .tup (SqT.of upd_same) (.cons (.int _) (.cons (.tup (SqT.of (g3.tup hv)) (dp_rows (hes.gr g3))) .nil))
    refine ⟨t2, _, rfl, dp2, s1, s2, s3, s4, rfl, false, ?_, iteF ?_⟩
    · simp
    have g13 := g12.trans g3
    have hN3 := g13.lst hN List.not_mem_nil
    refine ⟨_, rfl, NA, _, rfl, .inl (SqL.of hN3), fun c hc => ⟨le_line (by show 2 < 1000; decide), fun e he => ?_⟩⟩
    let H3 : Hp := upd H2 t2 (.tup [.int b, .ref v])
    have gc : Gr T [] H3 (upd H3 c (.lst (ns.map V.str))) := (Gr.refl H3).new hc
    have hce := ((Gr.refl (T := T) (M := []) (upd H3 c (.lst (ns.map V.str)))).new (o := .lst [.str "zzzzzzzz", .str "aaaaaaab"]) he).lst upd_same List.not_mem_nil
    refine ⟨c, e, _, _, rfl, rfl, hce, upd_same, by rw [List.length_map]; exact le_line (by show ns.length + 2 < 1000; omega), fun lf hlf => ?_⟩
    let H5 : Hp := upd (upd (upd H3 c (.lst (ns.map V.str))) e (.lst [.str "zzzzzzzz", .str "aaaaaaab"])) lf (.lst (ns.map V.str ++ [.str "zzzzzzzz", .str "aaaaaaab"]))
    have g5 : Gr T [] H H5 := ((g13.trans gc).new he).new hlf
    refine ⟨lf, ((ns ++ [Str.ofString "zzzzzzzz", Str.ofString "aaaaaaab"]).map V.str), rfl, .inl (by rw [List.map_append]; exact upd_same), fun J St sq hst => ?_⟩
    refine for_seq sq (fun i σ H' => H' = H5 ∧ ∃ o4 : Option V, σ = [some (.ref a), some (.int b), some (.ref D), some (.ref NA), o4]) ⟨rfl, none, rfl⟩ (fun i σ H' _ e => ?_) (fun i v σ H' hv e => ?_) (fun σ H' e => ?_)
    · rw [e.1]; exact hst T [] _ (Gr.refl _) List.not_mem_nil
    · obtain ⟨rfl, o4, rfl⟩ := e
      obtain ⟨y, hy, ev⟩ := strs_item hv
      rw [ev]
      refine ⟨_, rfl, a, dx, _, rfl, g5.ins h1, rfl, _, rfl, a, U, y, rfl, hU.gr g5, ?_⟩
      refine ⟨_, rfl, D, rfl, .inl ⟨_, .inl (hD.gr g5)⟩, _, rfl, _, rfl, _, DGet.k (k := Sum.inr y) (hD.gr g5), ?_⟩
      rw [dct_get]
      have ez : (if y ∈ ns then some (V.int (h y)) else none).getD (V.int b) = V.int (U.at y) := by
        rw [hat]
        split <;> rfl
      rw [ez]
      refine ⟨rfl, false, ?_, iteF ⟨rfl, _, rfl⟩⟩
      simp
    · obtain ⟨rfl, o4, rfl⟩ := e
      have hU5 := hU.gr g5
      obtain ⟨_, _, dx5, p5, d5, bs5, ub5, hB5, i1, i2, i3⟩ := id hU5
      refine ⟨_, rfl, a, dx5, _, rfl, i1, a, U, rfl, hU5, .int U.own.length, ⟨U.own.length, rfl, rfl, by omega, by omega⟩, ?_⟩
      refine ⟨_, rfl, _, rfl, b, D, ns, h, rfl, hD.gr g5, nd, l8, fun H6 v6 es6 g6 hv6 hes6 oes6 aes6 => ?_⟩
      have eU6 : Tab.mk b (es6.map (·.2)) = U := tab_ext oes6 uo hb.symm fun x => by rw [aes6, hat]
      have eO6 : es6.map (·.2) = U.own := congrArg Tab.own eU6
      have g56 := g5.trans g6
      refine ⟨_, U.own.length, rfl, .inr ⟨_, SqT.of hv6, by rw [← eO6, List.length_map, List.length_map]⟩, rfl, true, by simp, iteT ?_⟩
      have hU6 := hU.gr g56
      obtain ⟨_, _, dx6, p6, d6, bs6, ub6, hB6, j1, j2, j3⟩ := id hU6
      refine ⟨_, rfl, a, dx6, _, rfl, j1, a, U, rfl, hU6, by rw [hb]; unfold MomOk at mb; omega, .str (tillText U.rest U.own.length), ⟨_, rfl, rfl⟩, ?_⟩
      refine js_till (n := U.own.length) (r := b) (by unfold MomOk at mb; omega) (by omega) (fun R z => ?_) (fun R z => ?_) ?_
      · exact ⟨_, rfl, .inr ⟨b, rfl, by have := log_small (n := b.natAbs) (by unfold MomOk at mb; omega); omega, z⟩⟩
      · exact ⟨_, rfl, a, dx6, _, rfl, j1, a, U, rfl, hU6, .int U.own.length, ⟨U.own.length, rfl, rfl, by omega, by omega⟩, .inr ⟨(U.own.length : Int), rfl, by have := log_small (n := U.own.length) (by omega); rw [Int.natAbs_natCast]; omega, z⟩⟩
      · refine ⟨rfl, ?_⟩
        rw [hb, decide_eq_true rfl]
        exact q _ g56
end
end KD
end

section
set_option Elab.async false
set_option linter.all false
set_option maxRecDepth 100000
set_option maxHeartbeats 4000000
/-! the law's names -/
namespace KD
open PySem PySem.Spec PyProof.Rows C8 LamX NdefX
open L2 hiding CX0 E0 pass0 Fun
def L26 : Str := "abcdefghijklmnopqrstuvwxyz"
theorem l26_in : ∀ c ∈ L26.cps.toList, 97 ≤ c ∧ c ≤ 122 := by decide +kernel
theorem l26_nd : L26.cps.toList.Nodup := by decide +kernel
theorem l26_len : L26.cps.toList.length = 26 := by decide +kernel
def sgn (c : Nat) : Str := ⟨#[c]⟩
theorem join_signs (sep : Str) (hs : sep.cps.toList = []) : ∀ cs : List Nat, (Str.join sep (cs.map sgn)).cps.toList = cs
  | [] => rfl
  | [c] => rfl
  | c :: d :: r => by
    have ih := join_signs sep hs (d :: r)
    show (sgn c ++ sep ++ Str.join sep ((d :: r).map sgn)).cps.toList = _
    rw [Str.cps_append, Str.cps_append, Array.toList_append, Array.toList_append, hs, ih]
    rfl
theorem sum_signs : ∀ cs : List Nat, ((cs.map sgn).map (·.length)).sum = cs.length
  | [] => rfl
  | c :: cs => by
    rw [List.map_cons, List.map_cons, List.sum_cons, sum_signs cs, List.length_cons]
    show 1 + _ = _
    omega
theorem nm_join {cs : List Nat} (h0 : 1 ≤ cs.length) (h1 : cs.length ≤ 8) (h : ∀ c ∈ cs, 97 ≤ c ∧ c ≤ 122) : Nm (Txt.join "" (cs.map sgn)) := by
  rw [TL.join_eq]
  have z := join_signs "" rfl cs
  have l : (Str.join "" (cs.map sgn)).length = cs.length := by
    show (Str.join "" (cs.map sgn)).cps.size = _
    rw [← Array.length_toList, z]
  exact ⟨by rw [l]; exact h0, by rw [l]; exact h1, fun c hc => h c (by rw [z] at hc; exact hc)⟩
theorem cut_take (z : Str) (k : Nat) : (cutS z none (some (k : Int))).cps.toList = z.cps.toList.take k := by
  unfold cutS
  rw [HT.sIx_none, HT.sIx_nat, List.drop_zero, Nat.sub_zero]
  show z.cps.toList.take (min k z.length) = _
  by_cases h : k ≤ z.length
  · rw [Nat.min_eq_left h]
  · have l : z.cps.toList.length = z.length := Array.length_toList
    rw [Nat.min_eq_right (by omega), List.take_of_length_le (by omega), List.take_of_length_le (by omega)]
theorem str_len (z : Str) : z.length = z.cps.toList.length := (Array.length_toList).symm
theorem nm_cut {z : Str} {k : Nat} (h : Nm z) (hk : 1 ≤ k) : Nm (cutS z none (some (k : Int))) := by
  obtain ⟨h0, h1, h2⟩ := h
  rw [str_len] at h0 h1
  refine ⟨?_, ?_, fun c hc => ?_⟩
  · rw [str_len, cut_take, List.length_take]; omega
  · rw [str_len, cut_take, List.length_take]; omega
  · rw [cut_take] at hc
    exact h2 c (List.mem_of_mem_take hc)
theorem app_list (a b : Str) : (a ++ b).cps.toList = a.cps.toList ++ b.cps.toList := by rw [Str.cps_append, Array.toList_append]
theorem nm_end {z : Str} {c : Nat} (h : Nm z) (hc : 97 ≤ c ∧ c ≤ 122) : Nm (cutS z none (some 7) ++ sgn c) := by
  obtain ⟨h0, h1, h2⟩ := h
  have e := cut_take z 7
  rw [str_len] at h0 h1
  refine ⟨?_, ?_, fun d hd => ?_⟩
  · rw [str_len, app_list, List.length_append]
    show 1 ≤ _ + 1
    omega
  · rw [str_len, app_list, List.length_append]
    have e2 : (cutS z none (some 7)).cps.toList.length ≤ 7 := by
      have : (cutS z none (some 7)).cps.toList = z.cps.toList.take 7 := e
      rw [this, List.length_take]; omega
    show _ + 1 ≤ 8
    omega
  · rw [app_list] at hd
    rcases List.mem_append.mp hd with hd | hd
    · have : (cutS z none (some 7)).cps.toList = z.cps.toList.take 7 := e
      rw [this] at hd
      exact h2 d (List.mem_of_mem_take hd)
    · rw [List.mem_singleton.mp hd]; exact hc
theorem nm_front {z : Str} {c : Nat} (h : Nm z) (hc : 97 ≤ c ∧ c ≤ 122) : Nm (sgn c ++ cutS z none (some 7)) := by
  obtain ⟨h0, h1, h2⟩ := h
  have e : (cutS z none (some 7)).cps.toList = z.cps.toList.take 7 := cut_take z 7
  rw [str_len] at h0 h1
  refine ⟨?_, ?_, fun d hd => ?_⟩
  · rw [str_len, app_list, List.length_append]
    show 1 ≤ 1 + _
    omega
  · rw [str_len, app_list, List.length_append, e, List.length_take]
    show 1 + _ ≤ 8
    omega
  · rw [app_list] at hd
    rcases List.mem_append.mp hd with hd | hd
    · rw [List.mem_singleton.mp hd]; exact hc
    · rw [e] at hd
      exact h2 d (List.mem_of_mem_take hd)
theorem ends_nd (p : Str) : (L26.cps.toList.map fun c => p ++ sgn c).Nodup := by
  refine List.pairwise_map.mpr (List.Pairwise.imp (fun {a b} n e => n ?_) l26_nd)
  have z := congrArg (fun s : Str => s.cps.toList) e
  simp only [app_list] at z
  have y := List.append_cancel_left z
  exact (List.cons.inj y).1
section
variable {P : Program} {w : World} {K : PySem.W.Frag} {mg : Str → Option Value} {base : Heap} {CW CT CU : Addr} {T : List (Addr × Str)}
/-- [.. for letter in letters] -/
theorem let_read (K0 : PySem.W.Frag) {H : Hp} {tl te : TE} {vs : List Nat} {σ : L2.St} {Qd : V → Hp → Prop} {iv : Nat} (f : Nat → Str) (htl : ∀ R : V → Hp → Prop, R (.str L26) H → tl σ H R)
    (hw : ∀ v : V, wipe ((wipe σ vs).set iv (some v)) vs = wipe σ vs) (he : ∀ (c : Nat) (H' : Hp) (R : V → Hp → Prop), R (.str (f c)) H' → te ((wipe σ vs).set iv (some (.str (sgn c)))) H' R)
    (hd : ∀ (D : Addr) (H' : Hp), Gr T [] H H' → H' D = some (.lst ((L26.cps.toList.map f).map V.str)) → Qd (.ref D) H') :
    tLc (iStr tl) (gName iv) tYes te vs σ H Qd := by
  refine htl _ ⟨L26, rfl, fun D hD => ?_⟩
  refine lc_seq (K := K0) (Qd := fun H' => Qd (.ref D) H') (seqIt_str K0 L26) (fun i acc H' => acc = ((L26.cps.toList.take i).map f).map V.str ∧ Gr T [] H H') ⟨rfl, (Gr.refl H).new hD⟩ (fun _ _ _ _ _ => trivial) (fun i v acc H' hv hl hD' ⟨e, g⟩ => ?_) (fun acc H' hD' hl ⟨e, g⟩ => ?_)
  · rw [List.getElem?_map] at hv
    obtain ⟨c, hc, ev⟩ := Option.map_eq_some_iff.mp hv
    have li : i < L26.cps.toList.length := (List.getElem?_eq_some_iff.mp hc).1
    rw [l26_len] at li
    rw [← ev]
    refine ⟨hw _, yes_if (he c H' _ (nx_add hD' hl (lt_line (by omega)) ⟨?_, g.put hD hD' free_lst⟩))⟩
    rw [List.take_add_one, hc, List.map_append, List.map_append, e]
    rfl
  · rw [List.length_map, List.take_of_length_le (Nat.le_refl _)] at e
    exact hd D H' g (by rw [hD', e])
theorem out_of2 {ws all ns : List Str} (nd : ws.Nodup) (l : ns.length < ws.length) (s : ∀ x ∈ ws, x ∈ all) : ∃ x xs, all.filter (fun y => decide (y ∉ ns)) = x :: xs ∧ x ∉ ns ∧ x ∈ all := by
  obtain ⟨x, xs, e, hx⟩ := out_of nd l
  have m : x ∈ ws.filter (fun y => decide (y ∉ ns)) := by rw [e]; exact List.mem_cons_self
  have m2 : x ∈ all.filter (fun y => decide (y ∉ ns)) := List.mem_filter.mpr ⟨s x (List.mem_filter.mp m).1, decide_eq_true hx⟩
  cases h : all.filter (fun y => decide (y ∉ ns)) with
  | nil => rw [h] at m2; cases m2
  | cons y ys =>
    have m3 : y ∈ all.filter (fun y => decide (y ∉ ns)) := by rw [h]; exact List.mem_cons_self
    exact ⟨y, ys, rfl, of_decide_eq_true (List.mem_filter.mp m3).2, (List.mem_filter.mp m3).1⟩
def sp_names (T : List (Addr × Str)) : Sp := fun vs H Q _ => ∃ (S G M : Addr) (k : Nat) (many : Int), vs = [.ref S, .int many] ∧ StoreAt H S G M k ∧ (1 ≤ many ∧ many ≤ 8) ∧ k + 300 ≤ 1000000000 ∧
  ∀ (H1 : Hp) (NA : Addr) (ns : List Str), Gr T [S, G] H H1 → StoreAt H1 S G M (k + 300) → NamesAt H1 NA S G ns → Q (.ref NA) H1
abbrev N_names : List Str := ["store", "many", "letters", "found", "k", "word", "some", "turn", "letter", "one"]
theorem sc_names : FnScope N_names ["store", "many"] (defScope s_law_names) := ⟨rfl, rfl, rfl, by decide +kernel, rfl, by decide +kernel, by decide +kernel⟩
theorem ok_names {f : Addr} {fd : FuncData} (F : FD K "_law_names" "_law_names" s_law_names f fd) (B : Fc K mg CW CT CU) (c1 : Cal P w K mg base 2 "_law_draw" (sp_draw T (10 ^ 15) 3) []) : FnOk P w K mg base CX0 3 f fd ["store", "many"] (sp_names T) := by
  refine F.ok sc_names (fun vs H Q E h => ?_) (fun cdv A outer s H vs Q E hr h => ?_)
  · obtain ⟨S, G, M, k, many, rfl, _⟩ := h; rfl
  · obtain ⟨S, G, M, k, many, rfl, hS, hm, hk, q⟩ := h
    have okN := sc_names.nd
    have hu0 : A.units + 3 < cLine := by have := hr.un; simp only [Around.deeper] at this; omega
    refine ⟨_, PSs.nox (pss_cons (ps_set (i := 2) okN rfl (.inr rfl) pe_str)
      (pss_cons (ps_set (i := 3) okN rfl (.inr rfl) (pe_lst pa_nil))
      (pss_cons (ps_for PassesOwn.never rfl (pi_range1 (by rfl) B.range (pa_cons (pv 1) pa_nil)) (pg_name (i := 4) okN rfl (.inl rfl))
        (pss_cons (ps_set (i := 5) okN rfl (.inr rfl) (pe_join pe_str (pe_lc (own := [("turn", 7)]) rfl okN (pi_range1 (by rfl) B.range (pa_cons (pe_op op_add pe_int (pe_c c1 hr (Nat.le_refl _) (by rfl) (pa_cons (pv 0) (pa_cons pe_int pa_nil)))) pa_nil)) (blkOk_by (N := N_names) (sc := defScope s_law_names) (by decide +kernel))
            (fun _ _ _ _ _ => pg_name (i := 7) okN rfl (.inl rfl)) (fun _ _ _ _ _ => pts_nil) (fun _ _ _ _ _ => pe_ix ix_str (pv 2) (pe_c c1 hr (Nat.le_refl _) (by rfl) (pa_cons (pv 0) (pa_cons pe_int pa_nil))) (fun _ _ => rfl)))))
        (pss_cut (ps_if (pw_and (pt_cmpR (op_neNil hu0) (pv 3) (pe_lst pa_nil) (nomark _)) (pw_and1 (pt_cmpR op_eq (pe_c c1 hr (Nat.le_refl _) (by rfl) (pa_cons (pv 0) (pa_cons pe_int pa_nil))) pe_int (nomark _)))).pt
            (pss_one (ps_set (i := 5) okN rfl (.inr rfl) (pe_slice sl_str (pe_ix ix_list (pv 3) (pe_un un_neg pe_int) (fun _ _ => rfl)) po_none (po_some (pe_op op_add pe_int (pe_c c1 hr (Nat.le_refl _) (by rfl) (pa_cons (pv 0) (pa_cons pe_int pa_nil)))))))) pss_nil)
        (pss_cons (ps_set (i := 6) okN rfl (.inl rfl) (pe_op op_cat (pe_op op_cat (pe_lst (pa_cons (pv 5) pa_nil))
            (pe_lc (own := [("letter", 8)]) rfl okN (pi_str (pv 2)) (blkOk_by (N := N_names) (sc := defScope s_law_names) (by decide +kernel)) (fun _ _ _ _ _ => pg_name (i := 8) okN rfl (.inl rfl)) (fun _ _ _ _ _ => pts_nil) (fun _ _ _ _ _ => pe_op op_add_str (pe_slice sl_str (pv 5) po_none (po_some pe_int)) (pv 8))))
            (pe_lc (own := [("letter", 8)]) rfl okN (pi_str (pv 2)) (blkOk_by (N := N_names) (sc := defScope s_law_names) (by decide +kernel)) (fun _ _ _ _ _ => pg_name (i := 8) okN rfl (.inl rfl)) (fun _ _ _ _ _ => pts_nil) (fun _ _ _ _ _ => pe_op op_add_str (pv 8) (pe_slice sl_str (pv 5) po_none (po_some pe_int))))))
        (pss_one (ps_expr (pe_bm PySem.F.plainAttrs_list PySem.F.slot_list_append PySem.F.type_list_append mt_append (pv 3) (pa_cons (pe_ix ix_list (pe_lc (own := [("one", 9)]) rfl okN (pi_seq (pv 6)) (blkOk_by (N := N_names) (sc := defScope s_law_names) (by decide +kernel))
            (fun _ _ _ _ _ => pg_name (i := 9) okN rfl (.inl rfl)) (fun _ _ _ _ _ => pts_one (pt_cmpR (op_notInK K rfl) (pv 9) (pv 3) (by rfl))) (fun _ _ _ _ _ => pv 9)) pe_int (fun _ _ => rfl)) pa_nil))))))))
      (pss_one (ps_ret (pv 3)))))), ?_⟩
    refine ⟨le_line (by decide), fun Fl hF => ?_⟩
    obtain ⟨f1, f2, f3⟩ := hS.fresh hF
    have fF : Fl ∉ [S, G] := notSG f1 f2
    have g0 : Gr T [S, G] H (upd H Fl (.lst [])) := (Gr.refl H).new hF
    refine ⟨_, rfl, many, rfl, by omega, by omega, ?_⟩
    obtain ⟨n, en⟩ : ∃ n, n = many.toNat := ⟨_, rfl⟩
    refine for_rng (fun i σ H' => ∃ (o4 o5 o6 : Option V) (xs : List Str), σ = [some (.ref S), some (.int many), some (.str L26), some (.ref Fl), o4, o5, o6, none, none, none] ∧ H' Fl = some (.lst (xs.map V.str)) ∧ xs.length = i ∧ (∀ x ∈ xs, Nm x) ∧ xs.Nodup ∧ Gr T [S, G] H H' ∧ StoreAt H' S G M (k + 33 * i))
      ⟨none, none, none, [], rfl, upd_same, rfl, (fun _ z => nomatch z), .nil, g0, hS.put ⟨f1, f2, f3⟩⟩ (fun i σ H' hi e => ?_) (fun σ H' e => ?_)
    · obtain ⟨o4, o5, o6, xs, rfl, hF', lx, nx, ndx, g, hs⟩ := e
      have hi : i < n := by rw [en]; exact hi
      refine ⟨⟨_, rfl⟩, ?_⟩
      refine ⟨_, rfl, S, G, M, k + 33 * i, 8, rfl, hs, ⟨by decide, by decide⟩, by omega, fun H1 d g1 hs1 d0 d1 => ?_⟩
      refine ⟨1, d, rfl, rfl, _, rfl, by omega, by omega, fun D hD => ?_⟩
      obtain ⟨m, em⟩ : ∃ m, m = (1 + d).toNat := ⟨_, rfl⟩
      obtain ⟨d1', d2', d3'⟩ := hs1.fresh hD
      have fD : D ∉ [S, G] := notSG d1' d2'
      have hF1 := g1.lst hF' fF
      refine lc_rng (fun j acc H2 => ∃ cs : List Nat, acc = (cs.map sgn).map V.str ∧ cs.length = j ∧ (∀ c ∈ cs, 97 ≤ c ∧ c ≤ 122) ∧ Gr T [S, G] H1 H2 ∧ StoreAt H2 S G M (k + 33 * i + 3 + 3 * j)) ⟨[], rfl, rfl, (fun _ z => nomatch z), (Gr.refl H1).new hD, hs1.put ⟨d1', d2', d3'⟩⟩
        (fun j acc H2 hj hla hD2 ⟨cs, ea, lc, hc, g2, hs2⟩ => ?_) (fun acc H2 hD2 hla ⟨cs, ea, lc, hc, g2, hs2⟩ => ?_)
      · have hj : j < m := by rw [em]; exact hj
        refine ⟨rfl, yes_if ⟨_, rfl, _, rfl, S, G, M, k + 33 * i + 3 + 3 * j, 26, rfl, hs2, ⟨by decide, by decide⟩, by omega, fun H3 e g3 hs3 e0 e1 => ?_⟩⟩
        have e2 : e.toNat < L26.cps.toList.length := by rw [l26_len]; omega
        refine ⟨L26, e, L26.cps.toList[e.toNat], rfl, rfl, le_line (by show L26.cps.size < 1000; rw [← Array.length_toList, l26_len]; decide), atI_nat e0 (by rw [l26_len]; omega), ?_⟩
        have hD3 := g3.lst hD2 fD
        refine nx_add hD3 hla (lt_line (by omega)) ⟨cs ++ [L26.cps.toList[e.toNat]], by rw [ea, List.map_append, List.map_append]; rfl, by rw [List.length_append, lc]; rfl, fun c hcm => ?_, (g2.trans g3).put hD hD3 free_lst, (hs3.put ⟨d1', d2', d3'⟩).mono (by omega)⟩
        rcases List.mem_append.mp hcm with hcm | hcm
        · exact hc c hcm
        · rw [List.mem_singleton.mp hcm]; exact l26_in _ (List.getElem_mem e2)
      have lc : cs.length = m := by rw [em]; exact lc
      have hs2 : StoreAt H2 S G M (k + 33 * i + 3 + 3 * m) := by rw [em]; exact hs2
      refine ⟨"", D, cs.map sgn, rfl, rfl, .inl (SqL.of (by rw [hD2, ea])), ?_, ?_⟩
      · rw [sum_signs, List.length_map]
        show cs.length + cs.length * 0 ≤ _
        omega
      have nw : Nm (Txt.join "" (cs.map sgn)) := nm_join (by omega) (by omega) hc
      have g12 := (g.trans g1).trans g2
      have hF2 := g2.lst hF1 fF
      refine ⟨fun σ' Hx => ∃ wd : Str, σ' = [some (.ref S), some (.int many), some (.str L26), some (.ref Fl), some (.int (0 + (i : Nat))), some (.str wd), o6, none, none, none] ∧ Nm wd ∧ Gr T [S, G] H Hx ∧ StoreAt Hx S G M (k + 33 * i + 33) ∧ Hx Fl = some (.lst (xs.map V.str)), ?_, ?_⟩
      · refine ⟨_, rfl, le_line (by decide), fun e he => ?_⟩
        have ge : Gr T [] H2 (upd H2 e (.lst [])) := (Gr.refl H2).new he
        have hFe := ge.lst hF2 List.not_mem_nil
        refine ⟨Fl, e, _, rfl, rfl, SqL.of hFe, SqL.of upd_same, _, rfl, ?_⟩
        cases hx : (!(xs.map V.str).isEmpty) with
        | false => exact iteF (iteF ⟨_, rfl, nw, g12.trans ge.mono, (hs2.gr0 ge).mono (by omega), hFe⟩)
        | true =>
          refine iteT ⟨_, rfl, S, G, M, k + 33 * i + 3 + 3 * m, 4, rfl, hs2.gr0 ge, ⟨by decide, by decide⟩, by omega, fun H3 c g3 hs3 _ _ => ⟨rfl, _, rfl, ?_⟩⟩
          have hF3 := g3.lst hFe fF
          have g13 := (g12.trans ge.mono).trans g3
          cases hc0 : decide (V.int c = V.int 0) with
          | false => exact iteF ⟨_, rfl, nw, g13, hs3.mono (by omega), hF3⟩
          | true =>
            refine iteT ?_
            rcases List.eq_nil_or_concat xs with z | ⟨ys, y, z⟩
            · rw [z] at hx; cases hx
            · have hy : y ∈ xs := by rw [z]; simp
              refine ⟨_, rfl, 1, rfl, Fl, _, -1, .str y, rfl, rfl, SqL.of hF3, ?_, _, rfl, S, G, M, k + 33 * i + 3 + 3 * m + 3, 7, rfl, hs3, ⟨by decide, by decide⟩, by omega, fun H4 e2 g4 hs4 e20 e21 => ?_⟩
              · rw [z, List.concat_eq_append, List.map_append]
                exact atI_last _ _
              · have ny := nx y hy
                have l1 := ny.2.1
                refine ⟨1, e2, rfl, rfl, _, rfl, y, rfl, le_line (by omega), _, rfl, ?_, g13.trans g4, hs4.mono (by omega), g4.lst hF3 fF⟩
                have ez : 1 + e2 = (((1 + e2).toNat : Nat) : Int) := by omega
                show Nm (cutS y none (some (1 + e2)))
                rw [ez]
                exact nm_cut ny (by omega)
      · rintro σ' Hx ⟨wd, rfl, nwd, gx, hsx, hFx⟩
        have l1 := nwd.2.1
        have lcut : (cutS wd none (some 7)).length ≤ 8 := Nat.le_trans (cutS_length wd none (some 7)) nwd.2.1
        refine ⟨_, rfl, le_line (by show 1 < 1000; decide), fun p1 hp1 => ?_⟩
        have ga : Gr T [] Hx (upd Hx p1 (.lst [.str wd])) := (Gr.refl Hx).new hp1
        refine let_read K (T := T) (fun c => cutS wd none (some 7) ++ sgn c) (fun R z => ⟨_, rfl, z⟩) ?_ (fun c H3 R z => ?_) fun D1 H3 g3 hD1 => ?_
        · exact fun _ => rfl
        · exact ⟨_, rfl, _, rfl, wd, rfl, le_line (by omega), _, rfl, _, sgn c, rfl, rfl, le_line (by show _ + 1 < 1000; omega), z⟩
        have p13 := g3.lst (upd_same (H := Hx) (a := p1) (o := .lst [.str wd])) List.not_mem_nil
        have len1 : ((L26.cps.toList.map fun c => cutS wd none (some 7) ++ sgn c).map V.str).length = 26 := by rw [List.length_map, List.length_map, l26_len]
        refine ⟨p1, D1, _, _, rfl, rfl, p13, hD1, by rw [len1]; exact le_line (by show 1 + 26 < 1000; decide), fun p2 hp2 => ?_⟩
        have gb : Gr T [] Hx (upd H3 p2 (.lst ([.str wd] ++ (L26.cps.toList.map fun c => cutS wd none (some 7) ++ sgn c).map V.str))) := (ga.trans g3).new hp2
        refine let_read K (T := T) (fun c => sgn c ++ cutS wd none (some 7)) (fun R z => ⟨_, rfl, z⟩) ?_ (fun c H4 R z => ?_) fun D2 H4 g4 hD2 => ?_
        · exact fun _ => rfl
        · exact ⟨_, rfl, _, rfl, _, rfl, wd, rfl, le_line (by omega), sgn c, _, rfl, rfl, le_line (by show 1 + _ < 1000; omega), z⟩
        have p24 := g4.lst (upd_same (H := H3) (a := p2) (o := .lst ([.str wd] ++ (L26.cps.toList.map fun c => cutS wd none (some 7) ++ sgn c).map V.str))) List.not_mem_nil
        have len2 : ((L26.cps.toList.map fun c => sgn c ++ cutS wd none (some 7)).map V.str).length = 26 := by rw [List.length_map, List.length_map, l26_len]
        refine ⟨p2, D2, _, _, rfl, rfl, p24, hD2, by rw [len2, List.length_append, len1]; exact le_line (by show 1 + 26 + 26 < 1000; decide), fun p3 hp3 => ?_⟩
        obtain ⟨all, eall⟩ : ∃ all : List Str, all = [wd] ++ (L26.cps.toList.map fun c => cutS wd none (some 7) ++ sgn c) ++ L26.cps.toList.map fun c => sgn c ++ cutS wd none (some 7) := ⟨_, rfl⟩
        have elst : [V.str wd] ++ (L26.cps.toList.map fun c => cutS wd none (some 7) ++ sgn c).map V.str ++ (L26.cps.toList.map fun c => sgn c ++ cutS wd none (some 7)).map V.str = all.map V.str := by rw [eall, List.map_append, List.map_append]; rfl
        have lall : all.length = 53 := by rw [eall, List.length_append, List.length_append, List.length_map, List.length_map, l26_len]; rfl
        have nall : ∀ x ∈ all, Nm x := fun x hx => by
          rw [eall] at hx
          rcases List.mem_append.mp hx with hx | hx
          · rcases List.mem_append.mp hx with hx | hx
            · rw [List.mem_singleton.mp hx]; exact nwd
            · obtain ⟨c, hc, rfl⟩ := List.mem_map.mp hx
              exact nm_end nwd (l26_in c hc)
          · obtain ⟨c, hc, rfl⟩ := List.mem_map.mp hx
            exact nm_front nwd (l26_in c hc)
        rw [elst]
        have gc : Gr T [] Hx (upd H4 p3 (.lst (all.map V.str))) := (gb.trans g4).new hp3
        have hFc := gc.lst hFx List.not_mem_nil
        refine ⟨_, rfl, .inl ⟨rfl, _, SqL.of hFc⟩, ?_⟩
        refine ⟨_, rfl, p3, _, rfl, .inl upd_same, fun J St sq hst R hR => ?_⟩
        refine lc_seq sq (fun j acc H5 => acc = ((all.take j).filter fun y => decide (y ∉ xs)).map V.str ∧ Gr T [] (upd H4 p3 (.lst (all.map V.str))) H5) ⟨rfl, (Gr.refl _).new hR⟩ (fun j acc H5 _ e => hst T [] H5 e.2 List.not_mem_nil) (fun j v acc H5 hv hla hR5 ⟨e5, g5⟩ => ?_) (fun acc H5 hR5 hla ⟨e5, g5⟩ => ?_)
        · obtain ⟨y, hy, ev⟩ := strs_item hv
          have lj : j < all.length := (List.getElem?_eq_some_iff.mp hy).1
          have tk : all.take (j + 1) = all.take j ++ [y] := by rw [List.take_add_one, hy]; rfl
          rw [ev]
          refine ⟨rfl, _, rfl, _, rfl, Fl, xs.map V.str, rfl, .inl (SqL.of (g5.lst hFc List.not_mem_nil)), rfl, flat_strs _, _, rfl, ?_⟩
          rw [in_strs]
          have ex : (if true = true then !decide (y ∈ xs) else decide (y ∈ xs)) = decide (y ∉ xs) := by
            by_cases h : y ∈ xs <;> simp [h]
          rw [ex]
          cases hxx : decide (y ∉ xs) with
          | true =>
            refine iteT ⟨_, rfl, nx_add hR5 hla (lt_line (by omega)) ⟨?_, g5.put hR hR5 free_lst⟩⟩
            rw [tk, List.filter_append, List.map_append, e5]
            simp only [List.filter_cons, hxx, if_true, List.filter_nil, List.map_cons, List.map_nil]
          | false =>
            refine iteF ⟨acc, by omega, hR5, ?_, g5⟩
            rw [tk, List.filter_append, List.map_append, e5]
            simp only [List.filter_cons, hxx, Bool.false_eq_true, if_false, List.filter_nil, List.map_nil, List.append_nil]
        · rw [List.length_map, List.take_of_length_le (Nat.le_refl _)] at e5
          obtain ⟨x, rs, ef, hx, hxa⟩ := out_of2 (ws := L26.cps.toList.map fun c => cutS wd none (some 7) ++ sgn c) (all := all) (ns := xs) (ends_nd _) (by rw [List.length_map, l26_len]; omega) (fun y hy => by rw [eall]; exact List.mem_append.mpr (.inl (List.mem_append.mpr (.inr hy))))
          rw [ef] at e5
          rw [e5] at hR5
          have hF5 := g5.lst hFc List.not_mem_nil
          have gxf := gx.trans (gc.trans g5).mono
          refine ⟨R, _, 0, .str x, rfl, rfl, SqL.of hR5, atI_head _ _, Fl, _, _, rfl, rfl, hF5, lt_line (by rw [List.length_map]; omega), ?_⟩
          refine ⟨_, _, _, xs ++ [x], rfl, by rw [upd_same, List.map_append]; rfl, by rw [List.length_append, lx]; rfl, fun y hy => ?_, ?_, gxf.put hF hF5 free_lst, ((hsx.gr0 (gc.trans g5)).put ⟨f1, f2, f3⟩).mono (by omega)⟩
          · rcases List.mem_append.mp hy with hy | hy
            · exact nx y hy
            · rw [List.mem_singleton.mp hy]; exact nall x hxa
          · exact List.nodup_append.mpr ⟨ndx, List.nodup_cons.mpr ⟨List.not_mem_nil, .nil⟩, fun a ha b hb => by rw [List.mem_singleton.mp hb]; exact fun z => hx (z ▸ ha)⟩
    · obtain ⟨o4, o5, o6, xs, rfl, hF', lx, nx, ndx, g, hs⟩ := e
      have lx : xs.length = n := by rw [en]; exact lx
      have hs : StoreAt H' S G M (k + 33 * n) := by rw [en]; exact hs
      exact ⟨_, rfl, q H' Fl xs g (hs.mono (by omega)) ⟨hF', f1, f2, nx, ndx, by omega, by omega⟩⟩
end
end KD
end

section
set_option Elab.async false
set_option linter.all false
set_option maxRecDepth 100000
set_option maxHeartbeats 8000000
/-! the law -/
namespace KD
open PySem PySem.Spec PyProof.Rows C8 LamX NdefX
open L2 hiding CX0 E0 pass0 Fun
theorem boot_dict_ : bootBuiltins "dict" = some (.type "dict") := by decide +kernel
/-! ### deeds as turns -/
def dB (d : Deed) : Bd := if d.up = true then (d.spot, none) else (0, some d.spot)
theorem dB_ok {d : Deed} (h : 0 ≤ d.spot) : BdOk (dB d) := by
  unfold dB
  split
  · exact ⟨h, fun _ z => nomatch z⟩
  · exact ⟨Int.le_refl 0, fun y z => by injection z with z; rw [← z]; exact h⟩
theorem led_free {m : Int} (h : 0 ≤ m) : ledM freeBd m = m := by
  unfold ledM freeBd
  simp only
  split <;> omega
theorem led_deed {d : Deed} {b : Bool} {m : Int} (h : 0 ≤ m) (hs : 0 ≤ d.spot) : ledM (if b = true then dB d else freeBd) m = stepD d b m := by
  cases b with
  | false => exact led_free h
  | true =>
    show ledM (dB d) m = stepD d true m
    unfold dB stepD ledM maxI minI
    cases d.up with
    | true => simp only [if_true]; repeat' split
              all_goals omega
    | false => simp only [Bool.false_eq_true, if_false, if_true]; repeat' split
               all_goals omega
theorem step_nonneg {d : Deed} {b : Bool} {m : Int} (h : 0 ≤ m) (hs : 0 ≤ d.spot) : 0 ≤ stepD d b m := by
  unfold stepD maxI minI
  repeat' split
  all_goals omega
theorem fold_ok : ∀ {bs : List Bd} {a : Bd}, BdOk a → (∀ b ∈ bs, BdOk b) → BdOk (bs.foldl bdBehind a)
  | [], _, h, _ => h
  | b :: bs, a, h, o => fold_ok (bs := bs) (bdBehind_ok h (o b List.mem_cons_self)) fun y hy => o y (List.mem_cons_of_mem _ hy)
theorem led_fold : ∀ {bs : List Bd} {a : Bd} (m : Int), BdOk a → (∀ b ∈ bs, BdOk b) → ledM (bs.foldl bdBehind a) m = bs.foldl (fun x b => ledM b x) (ledM a m)
  | [], _, _, _, _ => rfl
  | b :: bs, a, m, h, o => by
    rw [List.foldl_cons, List.foldl_cons, led_fold (bs := bs) m (bdBehind_ok h (o b List.mem_cons_self)) fun y hy => o y (List.mem_cons_of_mem _ hy), led_behind h (o b List.mem_cons_self)]
/-- turns led by deeds: the steps -/
theorem led_steps {β : Deed → Bool} : ∀ {ds : List Deed} {m : Int}, 0 ≤ m → (∀ d ∈ ds, 0 ≤ d.spot) → (ds.map fun d => if β d = true then dB d else freeBd).foldl (fun x b => ledM b x) m = ds.foldl (fun x d => stepD d (β d) x) m
  | [], _, _, _ => rfl
  | d :: ds, m, h, o => by
    have hs := o d List.mem_cons_self
    rw [List.map_cons, List.foldl_cons, List.foldl_cons, led_deed h hs]
    exact led_steps (step_nonneg h hs) fun y hy => o y (List.mem_cons_of_mem _ hy)
theorem led_all {β : Deed → Bool} {ds : List Deed} {m : Int} (h : 0 ≤ m) (o : ∀ d ∈ ds, 0 ≤ d.spot) : ledM ((ds.map fun d => if β d = true then dB d else freeBd).foldl bdBehind freeBd) m = ds.foldl (fun x d => stepD d (β d) x) m := by
  rw [led_fold m free_ok fun b hb => ?_, led_free h]
  · exact led_steps h o
  · obtain ⟨d, hd, rfl⟩ := List.mem_map.mp hb
    split
    · exact dB_ok (o d hd)
    · exact free_ok
theorem merge_new : ∀ {more acc : List (Key × V)}, ((acc ++ more).map (·.1)).Nodup → mergeK acc more = acc ++ more
  | [], acc, _ => (List.append_nil acc).symm
  | kv :: more, acc, h => by
    have nk : kv.1 ∉ acc.map (·.1) := fun z => by
      rw [List.map_append, List.map_cons] at h
      exact (List.nodup_append.mp h).2.2 kv.1 z kv.1 List.mem_cons_self rfl
    show mergeK (putK acc kv.1 kv.2) more = _
    rw [putK_new nk, merge_new (by rw [List.append_assoc]; exact h), List.append_assoc]
    rfl
theorem empty_want {W : WantD} (o : W.Ok) (b : W.but = false) (h : ∀ x, W.has x = false) : W = ⟨[], false⟩ := want_ext o .nil b fun x => (h x).trans rfl
/-- the moments of a till, by size: but one list -/
theorem lapMs_one : ∀ {l m : List Int}, l.Pairwise (· < ·) → m.Pairwise (· < ·) → (∀ x, x ∈ l ↔ x ∈ m) → l = m
  | [], [], _, _, _ => rfl
  | [], y :: m, _, _, h => absurd ((h y).2 List.mem_cons_self) (by simp)
  | x :: l, [], _, _, h => absurd ((h x).1 List.mem_cons_self) (by simp)
  | x :: l, y :: m, hl, hm, h => by
    obtain ⟨l1, l2⟩ := List.pairwise_cons.mp hl
    obtain ⟨m1, m2⟩ := List.pairwise_cons.mp hm
    have e : x = y := by
      rcases List.mem_cons.mp ((h x).1 List.mem_cons_self) with z | z
      · exact z
      · rcases List.mem_cons.mp ((h y).2 List.mem_cons_self) with z2 | z2
        · exact z2.symm
        · have a := l1 y z2
          have b := m1 x z
          omega
    subst e
    refine congrArg _ (lapMs_one l2 m2 fun z => ⟨fun q => ?_, fun q => ?_⟩)
    · rcases List.mem_cons.mp ((h z).1 (List.mem_cons_of_mem _ q)) with w | w
      · have a := l1 z q; omega
      · exact w
    · rcases List.mem_cons.mp ((h z).2 (List.mem_cons_of_mem _ q)) with w | w
      · have a := m1 z q; omega
      · exact w
section
variable {P : Program} {w : World} {K : PySem.W.Frag} {mg : Str → Option Value} {base : Heap} {CW CT CU : Addr} {T : List (Addr × Str)}
/-- rows (moment, want), equal -/
def DW (CW : Addr) : Eqv := DIns CW fun a b H => ∃ W, WantAt CW H a W ∧ WantAt CW H b W
def DRow (K : PySem.W.Frag) (CW : Addr) : Eqv := DTup K fun x y H => DFlat x y H ∨ DW CW x y H
theorem want_ext' {H H' : Hp} {a : Addr} {W : WantD} (e : L2.Ext H H') (h : WantAt CW H a W) : WantAt CW H' a W := h.gr (T := []) (M := []) (Gr.of_ext e)
theorem mon_row : Mon (DRow K CW) := mon_tup (mon_flat.or (mon_ins fun a b H H' e ⟨W, h1, h2⟩ => ⟨W, want_ext' e h1, want_ext' e h2⟩))
theorem eqG_row {X : Cx} (m1 : Met X.prog X.w X.K X.mg X.base 1 CW "__eq__" (sp_weq CW) []) : EqG X 2 (DRow X.K CW) := by
  obtain ⟨f, fd, ps, F, b, hs, hf⟩ := met_fn m1
  have F2 : FnOk X.prog X.w X.K X.mg X.base CX0 1 f fd ps (spEq fun a b H => ∃ W, WantAt CW H a W ∧ WantAt CW H b W) := F.imp fun vs H Q E ⟨a, b, e, ⟨W, h1, h2⟩, q⟩ => ⟨a, b, W, W, e, h1, h2, fun k hk => by
    have : k = true := hk.2 rfl
    rw [this]
    exact q H (fun _ _ z => z)⟩
  exact eqG_tup (mon_flat.or (mon_ins fun a b H H' e ⟨W, h1, h2⟩ => ⟨W, want_ext' e h1, want_ext' e h2⟩)) ((eqG_flat.mono (by decide)).or (eqG_ins (E := E0) F2 hs hf b pass0))
abbrev N_law : List Str := ["script", "store", "turn", "names", "till", "deeds", "told", "known", "up", "want", "spot", "one", "name"]
theorem sc_law : FnScope N_law ["script"] (defScope s_law) := ⟨rfl, rfl, rfl, by decide +kernel, rfl, by decide +kernel, by decide +kernel⟩
def sp_law (T : List (Addr × Str)) (K : PySem.W.Frag) : Sp := fun vs H Q _ => ∃ (a : Addr) (ns : List Int), vs = [.ref a] ∧ Tabs T H ∧ SqL K H a (ns.map V.int) ∧ ns.length ≤ 63 ∧ ∀ H1, Q (.bl true) H1
theorem wne_read {H : Hp} {a b : Addr} {U Z : WantD} {Q : VK} (hU : WantAt CW H a U) (hZ : WantAt CW H b Z) (e : U = Z) (q : Q (.bl false) H) : rEqO CW (sp_weq CW) true (.ref a) (.ref b) H Q := by
  obtain ⟨_, _, dx, _, h1, _⟩ := id hU
  obtain ⟨_, _, dy, _, h2, _⟩ := id hZ
  refine ⟨a, b, dx, dy, _, _, rfl, rfl, h1, h2, a, b, U, Z, rfl, hU, hZ, fun k hk => ⟨k, rfl, ?_⟩⟩
  rw [hk.2 e]
  exact q
theorem paired_rows {H : Hp} : ∀ {es : List (Addr × Str × Int)}, RowsAt H es → Paired (fun p (kv : Key × V) => SqT K H p [kV kv.1, kv.2]) (es.map (·.1)) (es.map fun b => (Sum.inr b.2.1, V.int b.2.2))
  | [], _ => .nil
  | e :: es, h => .cons (SqT.of (h e List.mem_cons_self)) (paired_rows fun b hb => h b (List.mem_cons_of_mem _ hb))
theorem row_same {H : Hp} {r r2 : Addr × Int × Addr × WantD} (h : H r.1 = some (.tup [.int r.2.1, .ref r.2.2.1]) ∧ WantAt CW H r.2.2.1 r.2.2.2) (h2 : H r2.1 = some (.tup [.int r2.2.1, .ref r2.2.2.1]) ∧ WantAt CW H r2.2.2.1 r2.2.2.2) (e : (r.2.1, r.2.2.2) = (r2.2.1, r2.2.2.2)) : DRow K CW (.ref r.1) (.ref r2.1) H := by
  injection e with e1 e2
  obtain ⟨_, _, dx, _, i1, _⟩ := id h.2
  obtain ⟨_, _, dy, _, i2, _⟩ := id h2.2
  refine ⟨r.1, r2.1, _, _, rfl, rfl, SqT.of h.1, SqT.of h2.1, .cons (.inl ?_) (.cons (.inr ⟨_, _, dx, dy, _, _, rfl, rfl, i1, i2, r.2.2.2, h.2, ?_⟩) .nil)⟩
  · rw [e1]
    exact ⟨rfl, rfl, by show (r2.2.1 == r2.2.1) = true; simp⟩
  · rw [e2]; exact h2.2
theorem rows_same {H : Hp} {a b : Addr} {rs rs2 : List (Addr × Int × Addr × WantD)} (ha : SqT K H a (rs.map fun r => V.ref r.1)) (hb : SqT K H b (rs2.map fun r => V.ref r.1)) (h : LapsAt CW H rs) (h2 : LapsAt CW H rs2) (e : rs.map (fun r => (r.2.1, r.2.2.2)) = rs2.map (fun r => (r.2.1, r.2.2.2))) : DTup K (DRow K CW) (.ref a) (.ref b) H := by
  have l : rs.length = rs2.length := by
    have z := congrArg List.length e
    rw [List.length_map, List.length_map] at z
    exact z
  refine ⟨a, b, _, _, rfl, rfl, ha, hb, by rw [List.length_map, List.length_map, l], fun i x y hx hy => ?_⟩
  obtain ⟨r, hr, rfl⟩ := refs_item (f := fun r : Addr × Int × Addr × WantD => r.1) hx
  obtain ⟨r2, hr2, rfl⟩ := refs_item (f := fun r : Addr × Int × Addr × WantD => r.1) hy
  have z1 : (rs.map (fun r => (r.2.1, r.2.2.2)))[i]? = some (r.2.1, r.2.2.2) := by rw [List.getElem?_map, hr]; rfl
  have z2 : (rs2.map (fun r => (r.2.1, r.2.2.2)))[i]? = some (r2.2.1, r2.2.2.2) := by rw [List.getElem?_map, hr2]; rfl
  rw [e, z2] at z1
  exact row_same (h r (List.mem_of_getElem? hr)) (h2 r2 (List.mem_of_getElem? hr2)) (Option.some.inj z1).symm
structure LawCs (P : Program) (w : World) (K : PySem.W.Frag) (mg : Str → Option Value) (base : Heap) (CW CT CU dW : Addr) (T : List (Addr × Str)) : Prop where
  store : Cal P w K mg base 1 "_law_store" (sp_store T K) []
  draw : Cal P w K mg base 2 "_law_draw" (sp_draw T (10 ^ 15) 3) []
  names : Cal P w K mg base 3 "_law_names" (sp_names T) []
  till : Cal P w K mg base 5 "_law_till" (sp_ltill T CT) []
  deeds : Cal P w K mg base 6 "_law_deeds" (sp_ldeeds T CW) []
  many : Cal P w K mg base 6 "_law_many_deeds" (sp_ldeeds T CW) []
  done : Cal P w K mg base 8 "_law_done" (sp_done T CW CT) []
  stepped : Cal P w K mg base 2 "_law_stepped" (sp_stepped CW CT) []
  strange : Cal P w K mg base 1 "_law_strange" (sp_strange T K) []
  is_till : CalG P w K mg base 3 "_law_is_till" (sp_is_till T CT)
  all_behind : Cal P w K mg base 8 "all_behind" (sp_all_behind T K CU) []
  raising : Cal P w K mg base 8 "raising" (sp_raising T K CW CU fun m => (m, none)) []
  lowering : Cal P w K mg base 8 "lowering" (sp_raising T K CW CU fun m => (0, some m)) []
  led : Cal P w K mg base 6 "led" (sp_led T K CT CU) []
  lapse : Cal P w K mg base 7 "lapse" (sp_lapse T K CW CT) [.int 0]
  both : Cal P w K mg base 7 "both" (sp_both T CW) []
  wanted_at : Cal P w K mg base 6 "wanted_at" (sp_wanted_at T CW CT) []
  lowered : Cal P w K mg base 7 "lowered" (sp_onwant T CW CT minI) []
  want : MkK P w K mg base 3 "Want" CW 0 [] (sp_Want T K CW) (fun vs _ => vs ++ [.ref dW, .bl false])
  pairs : Cal P w K mg base 8 "_law_pairs_right" (sp_pairs_right T CW CT) []
  moment : Cal P w K mg base 3 "_law_moment" (sp_lmom T) []
  teq : Met P w K mg base 1 CT "__eq__" (sp_teq CT) []
  weq : Met P w K mg base 1 CW "__eq__" (sp_weq CW) []
theorem ok_law {dW : Addr} {f : Addr} {fd : FuncData} (F : FD K "law" "law" s_law f fd) (B : Fc K mg CW CT CU) (hdW : ∀ H : Hp, SqT K H dW []) (c : LawCs P w K mg base CW CT CU dW T) : FnOkG P w K mg base 9 f fd ["script"] (sp_law T K) := by
  refine okG F sc_law (fun vs H Q E h => ?_) (fun cdv A outer s H vs Q hgd hr h => ?_)
  · obtain ⟨a, ns, rfl, _⟩ := h; rfl
  · obtain ⟨a, ns, rfl, hT, hS, l63, q⟩ := h
    have okN := sc_law.nd
    have hu : A.units + 3 + 1 < cLine := by have := hr.un; simp only [Around.deeper] at this; omega
    refine ⟨_, PSs.nox (pss_cons (ps_set (i := 1) okN rfl (.inl rfl) (pe_c c.store hr (by decide) (by rfl) (pa_cons (pv 0) pa_nil)))
      (pss_cons (ps_for PassesOwn.never rfl (pi_range1 (by rfl) B.range (pa_cons (pe_op op_add pe_int (pe_callB (call_min2 rfl) (by rfl) B.min boot_min_ (pa_cons pe_int (pa_cons (pe_callB call_len (by rfl) B.len boot_len_ (pa_cons (pv 0) pa_nil)) pa_nil)))) pa_nil)) (pg_name (i := 2) okN rfl (.inl rfl))
        (pss_cons (ps_set (i := 3) okN rfl (.inl rfl) (pe_c c.names hr (by decide) (by rfl) (pa_cons (pv 1) (pa_cons (pe_op op_add pe_int (pe_c c.draw hr (by decide) (by rfl) (pa_cons (pv 1) (pa_cons pe_int pa_nil)))) pa_nil))))
        (pss_cons (ps_set (i := 4) okN rfl (.inr rfl) (pe_c c.till hr (by decide) (by rfl) (pa_cons (pv 1) (pa_cons (pv 3) pa_nil))))
        (pss_cons (ps_set (i := 5) okN rfl (.inr rfl) (pe_c c.deeds hr (by decide) (by rfl) (pa_cons (pv 1) (pa_cons (pv 3) pa_nil))))
        (pss_cut (ps_if (pw_and (pt_cmpR op_eq (pv 2) pe_int (nomark _)) (pw_and1 (pt_cmpR op_eq (pe_c c.draw hr (by decide) (by rfl) (pa_cons (pv 1) (pa_cons pe_int pa_nil))) pe_int (nomark _)))).pt
            (pss_one (ps_set (i := 5) okN rfl (.inr rfl) (pe_c c.many hr (by decide) (by rfl) (pa_cons (pv 1) (pa_cons (pv 3) pa_nil))))) pss_nil)
        (pss_cons (ps_set (i := 6) okN rfl (.inl rfl) (pe_c c.done hr (by decide) (by rfl) (pa_cons (pv 4) (pa_cons (pv 5) pa_nil))))
        (pss_cons (ps_set (i := 7) okN rfl (.inl rfl) (pe_callTy (call_dictP rfl) (by rfl) B.dict boot_dict_ (pa_cons (pe_lc (own := [("name", 12)]) rfl okN (pi_seq (pv 3)) (blkOk_by (N := N_law) (sc := defScope s_law) (by decide +kernel))
            (fun _ _ _ _ _ => pg_name (i := 12) okN rfl (.inl rfl)) (fun _ _ _ _ _ => pts_nil) (fun _ _ _ _ _ => pe_tup (pa_cons (pv 12) (pa_cons (pe_c c.stepped hr (by decide) (by rfl) (pa_cons (pv 4) (pa_cons (pv 5) (pa_cons (pv 12) pa_nil)))) pa_nil)))) pa_nil)))
        (pss_cons (ps_if (pt_not (pt_val (pe_cG c.is_till hgd hr (by decide) (by rfl) (pa_cons (pv 6) (pa_cons (pe_c c.stepped hr (by decide) (by rfl) (pa_cons (pv 4) (pa_cons (pv 5) (pa_cons (pe_c c.strange hr (by decide) (by rfl) (pa_cons (pv 3) pa_nil)) pa_nil)))) (pa_cons (pv 7) (pa_cons (pv 3) pa_nil))))))) pss_never pss_nil)
        (pss_cons (ps_set (i := 11) okN rfl (.inl rfl) (pe_c c.all_behind hr (by decide) (by rfl) (pa_cons (pe_lc (own := [("up", 8), ("want", 9), ("spot", 10)]) rfl okN (pi_seq (pv 5)) (blkOk_by (N := N_law) (sc := defScope s_law) (by decide +kernel))
            (fun _ _ _ _ _ => pg_tupK K 3 rfl rfl (pgs_cons (pg_name (i := 8) okN rfl (.inl rfl)) (pgs_cons (pg_name (i := 9) okN rfl (.inl rfl)) (pgs_cons (pg_name (i := 10) okN rfl (.inl rfl)) pgs_nil)))) (fun _ _ _ _ _ => pts_nil)
            (fun _ _ _ _ _ => pe_ifExp (pt_val (pv 8)) (pe_c c.raising hr (by decide) (by rfl) (pa_cons (pv 9) (pa_cons (pv 10) pa_nil))) (pe_c c.lowering hr (by decide) (by rfl) (pa_cons (pv 9) (pa_cons (pv 10) pa_nil))))) pa_nil)))
        (pss_cons (ps_if (pw_or (pt_cmpR (op_neO c.teq B.neT hr (by decide)) (pe_c c.led hr (by decide) (by rfl) (pa_cons (pv 11) (pa_cons (pv 4) pa_nil))) (pv 6) (nomark _))
            (pw_or1 (pt_cmpR (op_neT mon_row (eqG_row c.weq) (hr.mono (by decide))) (pe_c c.lapse hr (by decide) (by rfl) (pa_cons (pe_c c.led hr (by decide) (by rfl) (pa_cons (pv 11) (pa_cons (pv 4) pa_nil))) pa_nil)) (pe_c c.lapse hr (by decide) (by rfl) (pa_cons (pv 6) pa_nil)) (nomark _)))).pt pss_never pss_nil)
        (pss_cons (ps_asg (pe_ix ix_list (pv 5) (pe_c c.draw hr (by decide) (by rfl) (pa_cons (pv 1) (pa_cons (pe_callB call_len (by rfl) B.len boot_len_ (pa_cons (pv 5) pa_nil)) pa_nil))) (fun _ _ => rfl)) (pg_tup rfl (pgs_cons (pg_name (i := 8) okN rfl (.inl rfl)) (pgs_cons (pg_name (i := 9) okN rfl (.inl rfl)) (pgs_cons (pg_name (i := 10) okN rfl (.inl rfl)) pgs_nil)))))
        (pss_cons (ps_if (pt_cmpR (op_neO c.weq B.neW hr (by decide)) (pe_c c.both hr (by decide) (by rfl) (pa_cons (pe_c c.wanted_at hr (by decide) (by rfl) (pa_cons (pe_c c.lowered hr (by decide) (by rfl) (pa_cons (pv 6) (pa_cons (pv 9) (pa_cons (pv 10) pa_nil)))) (pa_cons (pv 10) pa_nil))) (pa_cons (pv 9) pa_nil)))
            (pe_mkK0 c.want hr (by decide) (by rfl) pk_nil) (nomark _)) pss_never pss_nil)
        (pss_one (ps_if (pt_not (pt_val (pe_c c.pairs hr (by decide) (by rfl) (pa_cons (pv 6) (pa_cons (pv 9) (pa_cons (pv 10) (pa_cons (pe_c c.moment hr (by decide) (by rfl) (pa_cons (pv 1) pa_nil)) pa_nil))))))) pss_never pss_nil))))))))))))))
      (pss_one (ps_ret pe_bl)))), ?_⟩
    refine ⟨_, rfl, a, ns, rfl, hS, fun H0 S G M g0 hs0 => ?_⟩
    have hT0 := g0.tabs hT
    refine ⟨_, rfl, _, ns.length, rfl, .inl ⟨_, g0.sqL hS List.not_mem_nil, by rw [List.length_map]⟩, 18, _, rfl, 6, _, rfl, rfl, _, rfl, by split <;> omega, by split <;> omega, ?_⟩
    obtain ⟨n, en⟩ : ∃ n, n = (6 + (if (ns.length : Int) < 18 then (ns.length : Int) else 18)).toNat := ⟨_, rfl⟩
    have ln : n ≤ 24 := by rw [en]; split <;> omega
    refine for_rng (fun i σ H' => ∃ (o2 o3 o4 o5 o6 o7 o8 o9 o10 o11 : Option V), σ = [some (.ref a), some (.ref S), o2, o3, o4, o5, o6, o7, o8, o9, o10, o11, none] ∧ Gr T [S, G] H0 H' ∧ StoreAt H' S G M (4000 * i)) ⟨none, none, none, none, none, none, none, none, none, none, rfl, Gr.refl _, hs0⟩ (fun i σ H' hi e => ?_) (fun σ H' e => q H')
    obtain ⟨o2, o3, o4, o5, o6, o7, o8, o9, o10, o11, rfl, g, hs⟩ := e
    have hi : i < n := by rw [en]; exact hi
    refine ⟨_, rfl, _, rfl, S, G, M, 4000 * i, 8, rfl, hs, ⟨by decide, by decide⟩, by omega, fun H1 d g1 hs1 d0 d1 => ⟨1, d, rfl, rfl, S, G, M, 4000 * i + 3, 1 + d, rfl, hs1, ⟨by omega, by omega⟩, by omega, fun H2 NA nl g2 hs2 hN => ?_⟩⟩
    refine ⟨_, rfl, _, rfl, S, G, M, 4000 * i + 3 + 300, NA, nl, rfl, hs2, hN, by omega, fun H3 tv U g3 hs3 hU lU => ?_⟩
    have hN3 := hN.gr g3
    refine ⟨_, rfl, _, rfl, S, G, M, 4000 * i + 3 + 300 + 230, NA, nl, rfl, hs3, hN3, by omega, fun H4 R0 ds0 g4 hs4 hR0 => ?_⟩
    have g04 : Gr T [S, G] H0 H4 := (((g.trans g1).trans g2).trans g3).trans g4
    refine ⟨fun σ' Hx => ∃ (R : Addr) (ds : List Deed), σ' = [some (.ref a), some (.ref S), some (.int (0 + (i : Nat))), some (.ref NA), some (.ref tv), some (.ref R), o6, o7, o8, o9, o10, o11, none] ∧ DeedL CW Hx R S G nl ds ∧ Gr T [S, G] H4 Hx ∧ StoreAt Hx S G M (4000 * i + 3000), ?_, ?_⟩
    · refine ⟨_, rfl, rfl, _, rfl, ?_⟩
      cases hz : decide (V.int (0 + (i : Nat)) = V.int 0) with
      | false => exact iteF (iteF ⟨R0, ds0, rfl, hR0, Gr.refl _, hs4.mono (by omega)⟩)
      | true =>
        refine iteT ⟨_, rfl, S, G, M, 4000 * i + 3 + 300 + 230 + 1000, 3, rfl, hs4, ⟨by decide, by decide⟩, by omega, fun H5 e g5 hs5 _ _ => ⟨rfl, _, rfl, ?_⟩⟩
        cases hz2 : decide (V.int e = V.int 0) with
        | false => exact iteF ⟨R0, ds0, rfl, hR0.gr g5, g5, hs5.mono (by omega)⟩
        | true => exact iteT ⟨_, rfl, _, rfl, S, G, M, 4000 * i + 3 + 300 + 230 + 1000 + 3, NA, nl, rfl, hs5, (hN3.gr g4).gr g5, by omega, fun H6 R2 ds2 g6 hs6 hR2 => ⟨R2, ds2, rfl, hR2, g5.trans g6, hs6.mono (by omega)⟩⟩
    rintro σ' Hx ⟨R, ds, rfl, hR, gx, hsx⟩
    have g0x := g04.trans gx
    have hTx := g0x.tabs hT0
    have hNx := (hN3.gr g4).gr gx
    have hUx := (hU.gr g4).gr gx
    have l8 := hN.le8
    have spots : ∀ d ∈ ds, 0 ≤ d.spot := fun d hd => (hR.ok d hd).2.1
    -- told
    refine ⟨_, rfl, _, rfl, tv, R, U, ds, nl, rfl, hTx, hUx, lU.sub, l8, hR.at_, hR.row, hR.ok, fun H7 zv Z g7 hZ zr za zs => ?_⟩
    have hN7 := hNx.gr g7.mono
    have hR7 := hR.gr g7.mono
    have hU7 := hUx.gr g7
    -- known
    refine ⟨_, rfl, NA, _, rfl, .inl hN7.at_, fun J St sq hst D hD => ?_⟩
    refine lc_seq sq (fun i acc H' => ∃ es : List (Addr × Str × Int), acc = es.map (fun b => V.ref b.1) ∧ es.map (·.2) = (nl.take i).map (fun y => (y, steppedA ds y (U.at y))) ∧ RowsAt H' es ∧ Gr T [] H7 H') ⟨[], rfl, rfl, (fun _ z => nomatch z), (Gr.refl H7).new hD⟩
      (fun i acc H' _ e => hst T [] H' e.choose_spec.2.2.2 List.not_mem_nil) (fun i v acc H' hv hla hD' ⟨es, ea, ee, hes, g⟩ => ?_) (fun acc H8 hD8 hla ⟨es, ea, ee, hes, g8⟩ => ?_)
    · obtain ⟨y, hy, ev⟩ := strs_item hv
      have li : i < nl.length := (List.getElem?_eq_some_iff.mp hy).1
      rw [ev]
      refine ⟨rfl, yes_if ⟨_, rfl, _, rfl, _, rfl, _, rfl, tv, R, y, U, ds, rfl, hU7.gr g, (hR7.gr g.mono).at_, (hR7.gr g.mono).row, le_line (by show 2 < 1000; decide), fun t ht => ?_⟩⟩
      have g9 := g.new (o := .tup [.str y, .int (steppedA ds y (U.at y))]) ht
      have hD9 : (upd H' t (.tup [.str y, .int (steppedA ds y (U.at y))])) D = some (.lst acc) := (upd_ne (ne_of_none hD' ht)).trans hD'
      refine nx_add hD9 hla (lt_line (by omega)) ⟨es ++ [(t, y, steppedA ds y (U.at y))], by rw [ea, List.map_append]; rfl, ?_, hes.snoc ht hD', g9.put hD hD9 free_lst⟩
      rw [List.map_append, ee, List.take_add_one, hy, List.map_append]
      rfl
    rw [List.length_map, List.take_of_length_le (Nat.le_refl _)] at ee
    refine ⟨D, es.map (·.1), es.map fun b => (Sum.inr b.2.1, V.int b.2.2), rfl, SqL.of (by rw [hD8, ea, List.map_map]; rfl), paired_rows hes, fun kd hkd => ?_⟩
    have ekv : (es.map fun b => ((Sum.inr b.2.1 : Key), V.int b.2.2)) = nl.map fun y => ((Sum.inr y : Key), V.int (steppedA ds y (U.at y))) := by
      have z : (es.map fun b => ((Sum.inr b.2.1 : Key), V.int b.2.2)) = (es.map (·.2)).map fun q => ((Sum.inr q.1 : Key), V.int q.2) := by rw [List.map_map]; rfl
      rw [z, ee, List.map_map]
      rfl
    have emk : mergeK [] (es.map fun b => ((Sum.inr b.2.1 : Key), V.int b.2.2)) = nl.map fun y => ((Sum.inr y : Key), V.int (steppedA ds y (U.at y))) := by
      rw [merge_new, List.nil_append, ekv]
      rw [List.nil_append, ekv, List.map_map]
      exact List.pairwise_map.mpr (hN.nd.imp fun {a b} n e => n (by injection e))
    rw [emk]
    let Ha : Hp := upd H8 kd (.dK (nl.map fun y => ((Sum.inr y : Key), V.int (steppedA ds y (U.at y)))))
    have ga : Gr T [] Hx Ha := (g7.trans g8).new hkd
    have g7a : Gr T [] H7 Ha := g8.new hkd
    have hka : DctAt Ha kd nl (fun y => steppedA ds y (U.at y)) := upd_same
    have hNa := hNx.gr ga.mono
    have hRa := hR.gr ga.mono
    have hUa := hUx.gr ga
    have hZa := hZ.gr g7a
    have hTa := ga.tabs hTx
    -- is it the till
    refine ⟨_, rfl, _, rfl, _, rfl, _, rfl, NA, nl, rfl, SqL.of hNa.at_, hNa.at_, l8, fun Hb x gb hx => ?_⟩
    have eb : steppedA ds x (U.at x) = Z.rest := by
      rw [zr, stepped_out hx hR.ok, own_out lU.sub x hx]
    refine ⟨tv, R, x, U, ds, rfl, hUa.gr gb, (hRa.gr gb.mono).at_, (hRa.gr gb.mono).row, _, rfl, _, rfl, zv, kd, NA, _, Z, nl, fun y => steppedA ds y (U.at y), rfl, hZa.gr gb, hka.gr gb, (hNa.gr gb.mono).at_, hN.nd, l8, eb.symm, fun y => ?_, ?_, fun y => ?_, fun Hc gc => ⟨true, rfl, iteF ?_⟩⟩
    · by_cases hy : y ∈ nl
      · rw [if_pos hy, za]
      · rw [if_neg hy, eb, own_out zs y hy]
    · rw [eb, zr]
      have hm := stepped_mom (x := x) hR.ok (lU.all x)
      rw [stepped_out hx hR.ok, own_out lU.sub x hx] at hm
      exact hm
    · rw [za]
      exact stepped_mom hR.ok (lU.all y)
    have gxc := (ga.trans gb).trans gc
    have hRc := hR.gr gxc.mono
    have hTc := gxc.tabs hTx
    have hUc := hUx.gr gxc
    have hZc := (hZa.gr gb).gr gc
    -- one
    refine ⟨_, rfl, R, _, rfl, .inl hRc.at_, fun J St sq hst D2 hD2 => ?_⟩
    refine lc_seq sq (fun i acc H' => ∃ L : List (Addr × Tab Bd), acc = L.map (fun b => V.ref b.1) ∧ (∀ b ∈ L, TurnAt K CU H' b.1 b.2) ∧ (∀ b ∈ L, ∀ p ∈ b.2.own, p.1 ∈ nl) ∧ L.map (fun b => b.2.rest) = (ds.take i).map (fun d => if d.W.but = true then dB d else freeBd) ∧ (∀ x, L.map (fun b => b.2.at x) = (ds.take i).map fun d => if d.W.has x = true then dB d else freeBd) ∧ Gr T [] Hc H')
      ⟨[], rfl, (fun _ z => nomatch z), (fun _ z => nomatch z), rfl, fun _ => rfl, (Gr.refl Hc).new hD2⟩ (fun i acc H' _ e => hst T [] H' e.choose_spec.2.2.2.2.2 List.not_mem_nil) (fun i v acc H' hv hla hD' ⟨L, ea, tL, sL, rL, aL, g⟩ => ?_) (fun acc Hd hDd hla ⟨L, ea, tL, sL, rL, aL, gd⟩ => ?_)
    · obtain ⟨dd, hdd, ev⟩ := refs_item (f := fun d : Deed => d.at_) hv
      have hm := List.mem_of_getElem? hdd
      have li : i < ds.length := (List.getElem?_eq_some_iff.mp hdd).1
      have l60 := hR.le
      obtain ⟨k1, k2⟩ := (hRc.row.gr g) dd hm
      obtain ⟨sW, mW⟩ := hR.ok dd hm
      have tk : ds.take (i + 1) = ds.take i ++ [dd] := by rw [List.take_add_one, hdd]; rfl
      refine ⟨dd.at_, _, ev, SqT.of k1, rfl, .bl dd.up, [.ref dd.wa, .int dd.spot], rfl, .ref dd.wa, [.int dd.spot], rfl, .int dd.spot, [], rfl, rfl, rfl, yes_if ?_⟩
      refine ⟨_, rfl, dd.up, rfl, ?_⟩
      refine if_to2 (fun y Hy => ∃ (v : Addr) (O : Tab Bd), y = .ref v ∧ Gr T [] H' Hy ∧ TurnAt K CU Hy v O ∧ O.rest = (if dd.W.but = true then dB dd else freeBd) ∧ ∀ x, O.at x = if dd.W.has x = true then dB dd else freeBd) (fun hu R z => ?_) (fun hu R z => ?_) ?_
      · have eB : dB dd = (dd.spot, none) := if_pos hu
        rw [eB] at z
        exact ⟨_, rfl, _, rfl, dd.wa, dd.W, dd.spot, rfl, g.tabs hTc, k2, mW.1, want_len k2 sW l8, fun H1 v O g1 hO hr0 hat => z _ _ ⟨v, O, rfl, g1, hO, hr0, hat⟩⟩
      · have eB : dB dd = (0, some dd.spot) := if_neg (by rw [hu]; exact Bool.false_ne_true)
        rw [eB] at z
        exact ⟨_, rfl, _, rfl, dd.wa, dd.W, dd.spot, rfl, g.tabs hTc, k2, mW.1, want_len k2 sW l8, fun H1 v O g1 hO hr0 hat => z _ _ ⟨v, O, rfl, g1, hO, hr0, hat⟩⟩
      · rintro y Hy ⟨v, O, rfl, gy, hO, or, oa⟩
        have hDy := gy.lst hD' List.not_mem_nil
        have gz := (g.trans gy).put hD2 hDy (o' := .lst (acc ++ [.ref v])) free_lst
        have gq : Gr T [D2] Hy (upd Hy D2 (.lst (acc ++ [.ref v]))) := (Gr.refl Hy).putM (List.mem_singleton.mpr rfl) hDy ⟨_, hDy⟩
        refine nx_add hDy hla (lt_line (by omega)) ⟨L ++ [(v, O)], by rw [ea, List.map_append]; rfl, fun b hb => ?_, fun b hb => ?_, ?_, fun x => ?_, gz⟩
        · rcases List.mem_append.mp hb with hb | hb
          · exact ((tL b hb).gr gy).gr gq
          · rw [List.mem_singleton.mp hb]; exact hO.gr gq
        · rcases List.mem_append.mp hb with hb | hb
          · exact sL b hb
          · rw [List.mem_singleton.mp hb]
            exact own_in hO.1.1 fun x hx => by rw [oa, or, has_out fun z => hx (sW x z)]
        · rw [List.map_append, rL, tk, List.map_append, List.map_cons, or]
          rfl
        · rw [List.map_append, aL, tk, List.map_append, List.map_cons, oa]
          rfl
    rw [List.length_map, List.take_of_length_le (Nat.le_refl _)] at rL aL
    have hTd := gd.tabs hTc
    refine ⟨D2, L, nl, rfl, hTd, SqL.of (by rw [hDd, ea]), tL, sL, l8, fun He ov O ge hO aO sO => ?_⟩
    have gxe := (gxc.trans gd).trans ge
    have hUe := hUx.gr gxe
    have hZe := (hZc.gr gd).gr ge
    have same : ∀ {Y : Tab Int}, Y.Ok → Y.rest = ledM O.rest U.rest → (∀ x, Y.at x = ledM (O.at x) (U.at x)) → Y = Z := fun {Y} o yr ya => by
      refine tab_ext o hZ.1.1 ?_ fun x => ?_
      · rw [yr, zr, aO.1, List.map_map]
        have e2 : (L.map ((fun t => t.rest) ∘ fun b => b.2)) = L.map fun b => b.2.rest := rfl
        rw [e2, rL, led_all lU.rest.1 spots]
        rfl
      · rw [ya, za, aO.2 x, List.map_map]
        have e2 : (L.map ((fun t => t.at x) ∘ fun b => b.2)) = L.map fun b => b.2.at x := rfl
        rw [e2, aL x, led_all (lU.all x).1 spots]
        rfl
    have lO : O.own.length ≤ 8 := Nat.le_trans (own_len hO.1.1 sO) l8
    have lUo : U.own.length ≤ 8 := Nat.le_trans (own_len hU.1.1 lU.sub) l8
    have lZ : Z.own.length ≤ 8 := Nat.le_trans (own_len hZ.1.1 zs) l8
    refine ⟨_, rfl, _, rfl, ov, tv, O, U, rfl, hO, hUe, lO, lUo, fun Hf yv Y gf hY yr ya => ⟨_, rfl, ne_read hY (hZe.gr gf) (same hY.1.1 yr ya) ⟨_, rfl, iteF ?_⟩⟩⟩
    have gxf := gxe.trans gf
    refine ⟨_, rfl, _, rfl, ov, tv, O, U, rfl, hO.gr gf, hUe.gr gf, lO, lUo, fun Hg yv2 Y2 gg hY2 yr2 ya2 => ?_⟩
    have eY2 := same hY2.1.1 yr2 ya2
    refine ⟨yv2, Y2, rfl, hY2, by rw [eY2]; exact lZ, fun Hh lv rs ms gh hl hrs er hms => ?_⟩
    have gxh := (gxf.trans gg).trans gh
    have hZh := ((hZe.gr gf).gr gg).gr gh
    refine ⟨_, rfl, zv, Z, rfl, hZh, lZ, fun Hi lv2 rs2 ms2 gi hl2 hrs2 er2 hms2 => ⟨rows_same (gi.sqT hl) hl2 (hrs.gr gi) hrs2 ?_, fun Hj ej => ⟨false, rfl, iteF ?_⟩⟩⟩
    · have em : ms = ms2 := lapMs_one hms.1 hms2.1 fun x => by rw [hms.2, hms2.2, eY2]
      rw [er, er2, eY2, em]
    have gij : Gr T [] Hi Hj := Gr.of_ext ej
    have gxj := (gxh.trans gi).trans gij
    have hRj := hR.gr gxj.mono
    have hZj := (hZh.gr gi).gr gij
    have hTj := gxj.tabs hTx
    have hsj := hsx.gr0 gxj
    have l60 := hR.le
    have l1 := hR.pos
    refine ⟨_, rfl, _, rfl, _, rfl, _, ds.length, rfl, .inl ⟨_, SqL.of hRj.at_, by rw [List.length_map]⟩, S, G, M, 4000 * i + 3000, ds.length, rfl, hsj, ⟨by omega, by omega⟩, by omega, fun Hk e gk hsk e0 e1 => ?_⟩
    have e2 : e.toNat < ds.length := by omega
    obtain ⟨dd, edd⟩ : ∃ dd, dd = ds[e.toNat] := ⟨_, rfl⟩
    have hm : dd ∈ ds := by rw [edd]; exact List.getElem_mem e2
    have hRk := hRj.gr gk
    obtain ⟨k1, k2⟩ := hRk.row dd hm
    obtain ⟨sW, mW⟩ := hR.ok dd hm
    have hZk := hZj.gr gk
    have hTk := gk.tabs hTj
    refine ⟨R, _, e, .ref dd.at_, rfl, rfl, SqL.of hRk.at_, by rw [atI_nat e0 (by rw [List.length_map]; exact e1), List.getElem_map, edd], dd.at_, _, rfl, SqT.of k1, rfl, .bl dd.up, [.ref dd.wa, .int dd.spot], rfl, .ref dd.wa, [.int dd.spot], rfl, .int dd.spot, [], rfl, rfl, ?_⟩
    -- both
    refine ⟨_, rfl, _, rfl, _, rfl, zv, dd.wa, Z, dd.W, dd.spot, rfl, hTk, hZk, k2, lZ, want_len k2 sW l8, fun Hl lo Lo gl hLo lr la => ?_⟩
    have sLo := chg_sub hLo.1.1 zs sW lr la
    refine ⟨_, rfl, lo, dd.spot, Lo, rfl, hLo, fun Hm wv Wa gm hWa wb wh wn => ?_⟩
    have glm := gl.trans gm
    refine ⟨_, rfl, wv, dd.wa, Wa, dd.W, rfl, glm.tabs hTk, hWa, k2.gr glm, want_len hWa (fun x hx => by
      obtain ⟨p, hp, ep⟩ := List.mem_map.mp (wn x hx)
      exact ep ▸ sLo p hp) l8, want_len k2 sW l8, fun Hn bv Bo gn hBo bb bh => ?_⟩
    have gkn := glm.trans gn
    have eBo : Bo = ⟨[], false⟩ := by
      refine empty_want hBo.1.1 ?_ fun x => ?_
      · rw [bb, wb, lr]
        cases dd.W.but with
        | false => rw [Bool.and_false]
        | true =>
          rw [Bool.and_true]
          show decide (dd.spot < minI dd.spot Z.rest) = false
          refine decide_eq_false ?_
          unfold minI
          split <;> omega
      · rw [bh, wh, la]
        unfold chg
        cases dd.W.has x with
        | false => rw [Bool.and_false]
        | true =>
          rw [Bool.and_true]
          show decide (dd.spot < minI dd.spot (Z.at x)) = false
          refine decide_eq_false ?_
          unfold minI
          split <;> omega
    refine ⟨rfl, rfl, fun x dx hx hdx hne => ?_⟩
    have hx' : upd Hn dx (.own x) x = none := (upd_ne (Ne.symm hne)).trans hx
    have gn0 : Gr T [] Hn (upd (upd Hn dx (.own x)) x (.ins CW dx [])) := ((Gr.refl Hn).new hdx).new hx'
    refine ⟨x, dW, dx, false, [], rfl, upd_same, .inr (hdW _), (fun _ z => nomatch z), .nil, by decide, fun Ho p cs go hp pm so => ⟨rfl, ?_⟩⟩
    have i1 : Ho x = some (.ins CW dx []) := go.ins upd_same
    have gnp : Gr T [] Hn (upd Ho x (.ins CW dx (fsW p false))) := (gn0.trans go).put hx i1 free_ins
    have hWe := want_made (T := T) (H := H) (CW := CW) (b := false) i1 hp pm so (fun _ z => nomatch z) (by decide)
    have ecs : cs = [] := pm.eq_nil
    refine wne_read (hBo.gr gnp) hWe (by rw [eBo, ecs]) ⟨_, rfl, iteF ?_⟩
    have gkp := gkn.trans gnp
    -- pairs
    refine ⟨_, rfl, _, rfl, _, rfl, _, rfl, S, G, M, 4000 * i + 3000 + 3, rfl, hsk.gr0 gkp, by omega, fun Hq m gq hsq hm2 => ?_⟩
    refine ⟨zv, dd.wa, Z, dd.W, nl, dd.spot, m, rfl, gq.tabs (gkp.tabs hTk), (hZk.gr gkp).gr gq, (k2.gr gkp).gr gq, zs, sW, l8, fun Hr gr' => ⟨true, rfl, iteF ?_⟩⟩
    exact ⟨_, _, _, _, _, _, _, _, _, _, rfl, ((((g0x.trans gxj.mono).trans gk).trans gkp.mono).trans gq).trans gr'.mono, (hsq.gr0 gr').mono (by omega)⟩
end
end KD
end

section
set_option Elab.async false
set_option linter.all false
set_option maxRecDepth 100000
set_option maxHeartbeats 4000000
/-! the head's facts, put into the walks -/
namespace KD
open PySem PySem.Spec PyProof.Rows C8 LamX NdefX
open L2 hiding CX0 E0 pass0 Fun
section
variable {K : PySem.W.Frag} {f dW dT aF dU : Addr} {fd : FuncData}
theorem b_lapse (F : FunD K "lapse" "lapse" (defArgs s_lapse) (defBody s_lapse) (defScope s_lapse) [] [("begin", .int 0)] f fd) : ∃ ds, Vals [.int 0] ds ∧ L2.Binds K fd ["till", "begin"] ds :=
  F.binds0 (ps := ["till", "begin"]) 1 (by simp) rfl fun D doc pm an cdv ct us ks hl hk => match us, hl, ks, hk with
    | [u], _, [v], _ => ⟨_, _, _, _, _, _, rfl, rfl, rfl⟩
theorem b_Want0 (F : FunD K "__init__" "Want.__init__" (defArgs s_Want_init) (defBody s_Want_init) (defScope s_Want_init) [.ref dW] [("all_but", .bl false)] f fd) : ∃ g, KBn K fd ["self", "names", "all_but"] 1 [] g (fun vs zs => vs ++ [.ref dW, .bl false]) := by
  obtain ⟨its, mv, h⟩ := F.kbinds (ps := ["self", "names", "all_but"]) 1 [] [("all_but", .bl false)] (fun us its mv ws => us ++ (its ++ mv)) (by simp) (by simp) (fun q hq => hq) (fun r1 r2 r3 r4 => r1.append (r2.append r3)) fun T D doc pm an cdv ct us its mv ws h1 h2 h3 h4 => match us, h1, its, h2, mv, h3, ws, h4 with
    | [u], _, [x], _, [y], _, [], _ => ⟨_, rfl, _, _, _, _, _, _, rfl, rfl, rfl⟩
  exact ⟨_, h⟩
theorem b_Want1 (F : FunD K "__init__" "Want.__init__" (defArgs s_Want_init) (defBody s_Want_init) (defScope s_Want_init) [.ref dW] [("all_but", .bl false)] f fd) : ∃ g, KBn K fd ["self", "names", "all_but"] 2 ["all_but"] g (fun vs zs => vs ++ zs) := by
  obtain ⟨its, mv, h⟩ := F.kbinds (ps := ["self", "names", "all_but"]) 2 ["all_but"] [] (fun us its mv ws => us ++ ws) (by simp) (by simp) (fun q hq => nomatch hq) (fun r1 r2 r3 r4 => r1.append r4) fun T D doc pm an cdv ct us its mv ws h1 h2 h3 h4 => match us, h1, its, h2, mv, h3, ws, h4 with
    | [u, v], _, [x], _, [], _, [z], _ => ⟨_, rfl, rfl⟩
  exact ⟨_, h⟩
theorem b_WantP (F : FunD K "__init__" "Want.__init__" (defArgs s_Want_init) (defBody s_Want_init) (defScope s_Want_init) [.ref dW] [("all_but", .bl false)] f fd) : ∃ g, KBn K fd ["self", "names", "all_but"] 2 [] g (fun vs zs => vs ++ [.bl false]) := by
  obtain ⟨its, mv, h⟩ := F.kbinds (ps := ["self", "names", "all_but"]) 2 [] [("all_but", .bl false)] (fun us its mv ws => us ++ mv) (by simp) (by simp) (fun q hq => hq) (fun r1 r2 r3 r4 => r1.append r3) fun T D doc pm an cdv ct us its mv ws h1 h2 h3 h4 => match us, h1, its, h2, mv, h3, ws, h4 with
    | [u, v], _, [x], _, [y], _, [], _ => ⟨_, rfl, _, _, _, _, _, _, rfl, rfl, rfl⟩
  exact ⟨_, h⟩
theorem b_Till0 (F : FunD K "__init__" "Till.__init__" (defArgs s_Till_init) (defBody s_Till_init) (defScope s_Till_init) [.int 0] [("own", .ref dT)] f fd) : ∃ g, KBn K fd ["self", "rest", "own"] 1 [] g (fun vs zs => vs ++ [.int 0, .ref dT]) := by
  obtain ⟨its, mv, h⟩ := F.kbinds (ps := ["self", "rest", "own"]) 1 [] [("own", .ref dT)] (fun us its mv ws => us ++ (its ++ mv)) (by simp) (by simp) (fun q hq => hq) (fun r1 r2 r3 r4 => r1.append (r2.append r3)) fun T D doc pm an cdv ct us its mv ws h1 h2 h3 h4 => match us, h1, its, h2, mv, h3, ws, h4 with
    | [u], _, [x], _, [y], _, [], _ => ⟨_, rfl, _, _, _, _, _, _, rfl, rfl, rfl⟩
  exact ⟨_, h⟩
theorem b_Till1 (F : FunD K "__init__" "Till.__init__" (defArgs s_Till_init) (defBody s_Till_init) (defScope s_Till_init) [.int 0] [("own", .ref dT)] f fd) : ∃ g, KBn K fd ["self", "rest", "own"] 2 ["own"] g (fun vs zs => vs ++ zs) := by
  obtain ⟨its, mv, h⟩ := F.kbinds (ps := ["self", "rest", "own"]) 2 ["own"] [] (fun us its mv ws => us ++ ws) (by simp) (by simp) (fun q hq => nomatch hq) (fun r1 r2 r3 r4 => r1.append r4) fun T D doc pm an cdv ct us its mv ws h1 h2 h3 h4 => match us, h1, its, h2, mv, h3, ws, h4 with
    | [u, v], _, [x], _, [], _, [z], _ => ⟨_, rfl, rfl⟩
  exact ⟨_, h⟩
theorem b_Turn0 (F : FunD K "__init__" "Turn.__init__" (defArgs s_Turn_init) (defBody s_Turn_init) (defScope s_Turn_init) [.ref aF] [("own", .ref dU)] f fd) : ∃ g, KBn K fd ["self", "rest", "own"] 1 [] g (fun vs zs => vs ++ [.ref aF, .ref dU]) := by
  obtain ⟨its, mv, h⟩ := F.kbinds (ps := ["self", "rest", "own"]) 1 [] [("own", .ref dU)] (fun us its mv ws => us ++ (its ++ mv)) (by simp) (by simp) (fun q hq => hq) (fun r1 r2 r3 r4 => r1.append (r2.append r3)) fun T D doc pm an cdv ct us its mv ws h1 h2 h3 h4 => match us, h1, its, h2, mv, h3, ws, h4 with
    | [u], _, [x], _, [y], _, [], _ => ⟨_, rfl, _, _, _, _, _, _, rfl, rfl, rfl⟩
  exact ⟨_, h⟩
end
theorem tupAt_ok {K : PySem.W.Frag} {a : Addr} {vs : List V} (h : tupAt K a vs = true) (H : Hp) : SqT K H a vs := by
  unfold tupAt at h
  cases q : K.lookup a with
  | none => rw [q] at h; cases h
  | some o =>
    obtain ⟨oc, od, dt, osl⟩ := o
    rw [q] at h
    cases oc with
    | type c =>
      cases dt with
      | seq its n =>
        obtain ⟨h1, h2⟩ := Bool.and_eq_true_iff.mp (show (decide (c = "tuple") && (decide (its.size ≤ sizeLine) && He.relAll vs its.toList)) = true from h)
        obtain ⟨h3, h4⟩ := Bool.and_eq_true_iff.mp h2
        exact .inr ⟨_, its, n, q, congrArg Value.type (of_decide_eq_true h1), rfl, of_decide_eq_true h3, He.relAll_ok h4⟩
      | _ => cases h
    | _ => cases h
theorem tab_mem {β : Type} {x : Nat} {v : β} : ∀ {l : List (Nat × β)}, (l.map (·.1)).Nodup → (l.lookup x = some v ↔ (x, v) ∈ l)
  | [], _ => by simp
  | (y, u) :: l, d => by
    rw [List.map_cons] at d
    obtain ⟨d1, d2⟩ := List.nodup_cons.mp d
    rw [List.lookup_cons, List.mem_cons]
    by_cases h : x = y
    · subst h
      simp only [beq_self_eq_true]
      constructor
      · intro e; exact .inl (by rw [Option.some.inj e])
      · rintro (e | e)
        · rw [(Prod.mk.inj e).2]
        · exact absurd (List.mem_map.mpr ⟨(x, v), e, rfl⟩) d1
    · rw [show (x == y) = false from beq_false_of_ne h]
      simp only
      rw [tab_mem d2]
      exact ⟨.inr, fun z => z.elim (fun e => absurd (Prod.mk.inj e).1 h) id⟩
theorem lamT_of {K : PySem.W.Frag} {mg : Str → Option Value} {base : Heap} {T : List (Addr × Str)} {x q : Str} {pa : Arguments} {bo : List Stmt} {sc : Scope} {dv : List V} {kw : List (Str × V)} {p : He.Defn} {fd : FuncData} (F : FunD K x q pa bo sc dv kw (He.fAd K p) fd)
    (TB : TabB base mg (He.cT K p).1 (He.cT K p).2) (hm : ((He.cT K p).2, q ++ ".<locals>." ++ "<lambda>") ∈ T) (nd : (T.map (·.1)).Nodup) : LamT mg base T q fd := by
  obtain ⟨oc, od, dV, kV, doc, pm, an, cdv, ct, osl, rfl, lk, hcd, _, _⟩ := F.ex
  refine ⟨_, _, TB, hm, fun y hy e => ?_, fun c e => (He.codeOf_eq lk e).symm⟩
  have z1 : (y.1, y.2) ∈ T := hy
  rw [e] at z1
  exact Option.some.inj (((tab_mem nd).2 z1).symm.trans ((tab_mem nd).2 hm))
theorem bands {a b : Bool} (h : (a && b) = true) : a = true ∧ b = true := Bool.and_eq_true_iff.mp h
theorem isiB_ok {K : PySem.W.Frag} {x : Str} (h : isiB K x = true) (c : Cls K (He.ga K x)) : InsC K (He.ga K x) := by
  obtain ⟨h1, h⟩ := bands h
  obtain ⟨h2, h⟩ := bands h
  obtain ⟨h3, h⟩ := bands h
  obtain ⟨h4, h5⟩ := bands h
  exact ⟨c, He.eqO_ok h1, He.eqO_ok h2, of_decide_eq_true h3, of_decide_eq_true h4, of_decide_eq_true h5⟩
def tT (K : PySem.W.Frag) : List (Addr × Str) := [((He.cT K ("both", none)).2, "both" ++ ".<locals>." ++ "<lambda>"), ((He.cT K ("raised", none)).2, "raised" ++ ".<locals>." ++ "<lambda>"), ((He.cT K ("lowered", none)).2, "lowered" ++ ".<locals>." ++ "<lambda>"),
  ((He.cT K ("higher", none)).2, "higher" ++ ".<locals>." ++ "<lambda>"), ((He.cT K ("lower", none)).2, "lower" ++ ".<locals>." ++ "<lambda>"), ((He.cT K ("Turn", some "set_turn")).2, "Turn.set_turn" ++ ".<locals>." ++ "<lambda>")]
theorem law_at {P : Program} {w : World} {K : PySem.W.Frag} {h : Heap} {mg : Str → Option Value} (X : K.In h) (G : h.Ns mainGlobals mg) (c : He.SaysX fa fn [] tf ex w h K) :
    ∃ fd : FuncData, (∀ (s : Shared) (u : Value), BindsTo s fd ⟨[u], []⟩ [("script", u)]) ∧ ∀ base : Heap, K.In base → base.Ns mainGlobals mg → (∀ p ∈ tf, TabB base mg (He.cT K p).1 (He.cT K p).2) → FnOkG P w K mg base 9 (He.ga K "law") fd ["script"] (sp_law (tT K) K) := by
  have d := c.t.d
  have e0 := c.more
  unfold ex at e0
  obtain ⟨e1, e0⟩ := bands e0
  obtain ⟨e2, e0⟩ := bands e0
  obtain ⟨e3, e0⟩ := bands e0
  obtain ⟨e4, e0⟩ := bands e0
  obtain ⟨e5, e0⟩ := bands e0
  obtain ⟨e6, e0⟩ := bands e0
  obtain ⟨e7, e0⟩ := bands e0
  obtain ⟨e8, e9⟩ := bands e0
  have nd : ((tT K).map (·.1)).Nodup := of_decide_eq_true e9
  have cW : Cls K (He.ga K "Want") := He.cls_ok (d.fact 69 (f := .cls "Want") rfl)
  have cT : Cls K (He.ga K "Till") := He.cls_ok (d.fact 70 (f := .cls "Till") rfl)
  have cU : Cls K (He.ga K "Turn") := He.cls_ok (d.fact 71 (f := .cls "Turn") rfl)
  have iW := isiB_ok e5 cW
  have iT := isiB_ok e6 cT
  have B : Fc K mg (He.ga K "Want") (He.ga K "Till") (He.ga K "Turn") := {
    isi := (He.free_ok X G (d.fact 49 (f := .free "isinstance") rfl))
    int := (He.free_ok X G (d.fact 50 (f := .free "int") rfl))
    bool := (He.free_ok X G (d.fact 51 (f := .free "bool") rfl))
    str := (He.free_ok X G (d.fact 52 (f := .free "str") rfl))
    len := (He.free_ok X G (d.fact 53 (f := .free "len") rfl))
    all := (He.free_ok X G (d.fact 54 (f := .free "all") rfl))
    tuple := (He.free_ok X G (d.fact 55 (f := .free "tuple") rfl))
    list := (He.free_ok X G (d.fact 56 (f := .free "list") rfl))
    sorted := (He.free_ok X G (d.fact 57 (f := .free "sorted") rfl))
    set := (He.free_ok X G (d.fact 58 (f := .free "set") rfl))
    max := (He.free_ok X G (d.fact 59 (f := .free "max") rfl))
    min := (He.free_ok X G (d.fact 60 (f := .free "min") rfl))
    range := (He.free_ok X G (d.fact 61 (f := .free "range") rfl))
    repr := (He.free_ok X G (d.fact 62 (f := .free "repr") rfl))
    dict := (He.free_ok X G (d.fact 63 (f := .free "dict") rfl))
    enum := (He.free_ok X G (d.fact 64 (f := .free "enumerate") rfl))
    abs := (He.free_ok X G (d.fact 65 (f := .free "abs") rfl))
    ml := He.int_ok X G (d.fact 66 (f := .int "MOST_LETTERS" 8) rfl)
    mn := He.int_ok X G (d.fact 67 (f := .int "MOST_NAMES" 60) rfl)
    lt := He.str_ok X G (d.fact 68 (f := .str "LETTERS" "abcdefghijklmnopqrstuvwxyz") rfl)
    gW := (He.glo_ok X G (d.fact 45 (f := .glo "Want") rfl))
    gT := (He.glo_ok X G (d.fact 46 (f := .glo "Till") rfl))
    gU := (He.glo_ok X G (d.fact 47 (f := .glo "Turn") rfl))
    iW := iW
    iT := iT
    neW := ⟨He.eqO_ok e7, iW.hm⟩
    neT := ⟨He.eqO_ok e8, iT.hm⟩
    clU := cU
    nW := fun f hf => by
      rcases List.mem_cons.mp hf with e | hf
      · rw [e]; exact He.noat_ok (d.fact 75 (f := .noat "Want" "names") rfl)
      rcases List.mem_cons.mp hf with e | hf
      · rw [e]; exact He.noat_ok (d.fact 76 (f := .noat "Want" "all_but") rfl)
      cases hf
    nT := fun f hf => by
      rcases List.mem_cons.mp hf with e | hf
      · rw [e]; exact He.noat_ok (d.fact 77 (f := .noat "Till" "rest") rfl)
      rcases List.mem_cons.mp hf with e | hf
      · rw [e]; exact He.noat_ok (d.fact 78 (f := .noat "Till" "own") rfl)
      rcases List.mem_cons.mp hf with e | hf
      · rw [e]; exact He.noat_ok (d.fact 79 (f := .noat "Till" "known") rfl)
      cases hf
    nU := fun f hf => by
      rcases List.mem_cons.mp hf with e | hf
      · rw [e]; exact He.noat_ok (d.fact 80 (f := .noat "Turn" "rest") rfl)
      rcases List.mem_cons.mp hf with e | hf
      · rw [e]; exact He.noat_ok (d.fact 81 (f := .noat "Turn" "own") rfl)
      rcases List.mem_cons.mp hf with e | hf
      · rw [e]; exact He.noat_ok (d.fact 82 (f := .noat "Turn" "known") rfl)
      cases hf
    free := ⟨_, (He.glo_ok X G (d.fact 48 (f := .glo "FREE") rfl)), tupAt_ok e4⟩ }
  have hdW : ∀ H : Hp, SqT K H (at_WI K) [] := tupAt_ok e1
  have hdT : ∀ H : Hp, SqT K H (at_TI K) [] := tupAt_ok e2
  have hdU : ∀ H : Hp, SqT K H (at_UI K) [] := tupAt_ok e3
  have hF : ∀ H : Hp, SqT K H (He.ga K "FREE") [.int 0, .non] := tupAt_ok e4
  obtain ⟨fd_is_whole, F_is_whole⟩ := d.def_ 0 (d := d_is_whole) rfl
  obtain ⟨fd_is_moment, F_is_moment⟩ := d.def_ 1 (d := d_is_moment) rfl
  obtain ⟨fd_is_name, F_is_name⟩ := d.def_ 2 (d := d_is_name) rfl
  obtain ⟨fd_are_unlike_names, F_are_unlike_names⟩ := d.def_ 3 (d := d_are_unlike_names) rfl
  obtain ⟨fd_want_of, F_want_of⟩ := d.def_ 4 (d := d_want_of) rfl
  obtain ⟨fd_mingled, F_mingled⟩ := d.def_ 5 (d := d_mingled) rfl
  obtain ⟨fd_both, F_both⟩ := d.def_ 6 (d := d_both) rfl
  obtain ⟨fd_others, F_others⟩ := d.def_ 7 (d := d_others) rfl
  obtain ⟨fd_are_pairs, F_are_pairs⟩ := d.def_ 8 (d := d_are_pairs) rfl
  obtain ⟨fd_till_of, F_till_of⟩ := d.def_ 9 (d := d_till_of) rfl
  obtain ⟨fd_changed_on, F_changed_on⟩ := d.def_ 10 (d := d_changed_on) rfl
  obtain ⟨fd_raised, F_raised⟩ := d.def_ 11 (d := d_raised) rfl
  obtain ⟨fd_lowered, F_lowered⟩ := d.def_ 12 (d := d_lowered) rfl
  obtain ⟨fd_mixed, F_mixed⟩ := d.def_ 13 (d := d_mixed) rfl
  obtain ⟨fd_higher, F_higher⟩ := d.def_ 14 (d := d_higher) rfl
  obtain ⟨fd_lower, F_lower⟩ := d.def_ 15 (d := d_lower) rfl
  obtain ⟨fd_wanted_at, F_wanted_at⟩ := d.def_ 16 (d := d_wanted_at) rfl
  obtain ⟨fd_lapse, F_lapse⟩ := d.def_ 17 (d := d_lapse) rfl
  obtain ⟨fd_is_bounds, F_is_bounds⟩ := d.def_ 18 (d := d_is_bounds) rfl
  obtain ⟨fd_turn_of, F_turn_of⟩ := d.def_ 19 (d := d_turn_of) rfl
  obtain ⟨fd_on_want, F_on_want⟩ := d.def_ 20 (d := d_on_want) rfl
  obtain ⟨fd_raising, F_raising⟩ := d.def_ 21 (d := d_raising) rfl
  obtain ⟨fd_lowering, F_lowering⟩ := d.def_ 22 (d := d_lowering) rfl
  obtain ⟨fd_led_moment, F_led_moment⟩ := d.def_ 23 (d := d_led_moment) rfl
  obtain ⟨fd_bounds_behind, F_bounds_behind⟩ := d.def_ 24 (d := d_bounds_behind) rfl
  obtain ⟨fd_behind, F_behind⟩ := d.def_ 25 (d := d_behind) rfl
  obtain ⟨fd_all_behind, F_all_behind⟩ := d.def_ 26 (d := d_all_behind) rfl
  obtain ⟨fd_led, F_led⟩ := d.def_ 27 (d := d_led) rfl
  obtain ⟨fd_law_store, F_law_store⟩ := d.def_ 28 (d := d_law_store) rfl
  obtain ⟨fd_law_draw, F_law_draw⟩ := d.def_ 29 (d := d_law_draw) rfl
  obtain ⟨fd_law_names, F_law_names⟩ := d.def_ 30 (d := d_law_names) rfl
  obtain ⟨fd_law_some, F_law_some⟩ := d.def_ 31 (d := d_law_some) rfl
  obtain ⟨fd_law_want, F_law_want⟩ := d.def_ 32 (d := d_law_want) rfl
  obtain ⟨fd_law_moment, F_law_moment⟩ := d.def_ 33 (d := d_law_moment) rfl
  obtain ⟨fd_law_own, F_law_own⟩ := d.def_ 34 (d := d_law_own) rfl
  obtain ⟨fd_law_till, F_law_till⟩ := d.def_ 35 (d := d_law_till) rfl
  obtain ⟨fd_law_normal, F_law_normal⟩ := d.def_ 36 (d := d_law_normal) rfl
  obtain ⟨fd_law_is_till, F_law_is_till⟩ := d.def_ 37 (d := d_law_is_till) rfl
  obtain ⟨fd_law_deeds, F_law_deeds⟩ := d.def_ 38 (d := d_law_deeds) rfl
  obtain ⟨fd_law_many_deeds, F_law_many_deeds⟩ := d.def_ 39 (d := d_law_many_deeds) rfl
  obtain ⟨fd_law_strange, F_law_strange⟩ := d.def_ 40 (d := d_law_strange) rfl
  obtain ⟨fd_law_stepped, F_law_stepped⟩ := d.def_ 41 (d := d_law_stepped) rfl
  obtain ⟨fd_law_done, F_law_done⟩ := d.def_ 42 (d := d_law_done) rfl
  obtain ⟨fd_law_pairs_right, F_law_pairs_right⟩ := d.def_ 43 (d := d_law_pairs_right) rfl
  obtain ⟨fd_law, F_law⟩ := d.def_ 44 (d := d_law) rfl
  obtain ⟨fd_Want_init, F_Want_init⟩ := d.def_ 45 (d := d_Want_init) rfl
  obtain ⟨fd_Want_set_names, F_Want_set_names⟩ := d.def_ 46 (d := d_Want_set_names) rfl
  obtain ⟨fd_Want_has, F_Want_has⟩ := d.def_ 47 (d := d_Want_has) rfl
  obtain ⟨fd_Want_eq, F_Want_eq⟩ := d.def_ 48 (d := d_Want_eq) rfl
  obtain ⟨fd_Till_init, F_Till_init⟩ := d.def_ 49 (d := d_Till_init) rfl
  obtain ⟨fd_Till_set_till, F_Till_set_till⟩ := d.def_ 50 (d := d_Till_set_till) rfl
  obtain ⟨fd_Till_moment_of, F_Till_moment_of⟩ := d.def_ 51 (d := d_Till_moment_of) rfl
  obtain ⟨fd_Till_eq, F_Till_eq⟩ := d.def_ 52 (d := d_Till_eq) rfl
  obtain ⟨fd_Till_len, F_Till_len⟩ := d.def_ 53 (d := d_Till_len) rfl
  obtain ⟨fd_Till_repr, F_Till_repr⟩ := d.def_ 54 (d := d_Till_repr) rfl
  obtain ⟨fd_Turn_init, F_Turn_init⟩ := d.def_ 55 (d := d_Turn_init) rfl
  obtain ⟨fd_Turn_set_turn, F_Turn_set_turn⟩ := d.def_ 56 (d := d_Turn_set_turn) rfl
  obtain ⟨fd_Turn_bounds_of, F_Turn_bounds_of⟩ := d.def_ 57 (d := d_Turn_bounds_of) rfl
  refine ⟨fd_law, fun s u => FunD.bindsA (ps := ["script"]) F_law (fun _ _ _ _ _ _ us hl => match us, hl with | [_], _ => rfl) s [u] rfl, fun base KB GB TB => ?_⟩
  have T0 : ∀ {p : He.Defn} {x : Str}, p ∈ tf → TabB base mg (He.cT K p).1 (He.cT K p).2 := fun {p x} hp => TB p hp
  have c_is_whole : Cal P w K mg base 1 "is_whole" (sp_is_whole) [] := ⟨_, _, _, _, ok_is_whole F_is_whole B, (He.glo_ok X G (d.fact 0 (f := .glo "is_whole") rfl)), F_is_whole.kp, (F_is_whole.bindsN (ps := ["thing"]) fun _ _ _ _ _ _ us hl => match us, hl with | [_], _ => rfl), .nil⟩
  have c_is_moment : Cal P w K mg base 2 "is_moment" (sp_is_moment) [] := ⟨_, _, _, _, ok_is_moment F_is_moment c_is_whole, (He.glo_ok X G (d.fact 1 (f := .glo "is_moment") rfl)), F_is_moment.kp, (F_is_moment.bindsN (ps := ["thing"]) fun _ _ _ _ _ _ us hl => match us, hl with | [_], _ => rfl), .nil⟩
  have c_is_name : Cal P w K mg base 1 "is_name" (sp_is_name (tT K)) [] := ⟨_, _, _, _, ok_is_name F_is_name B, (He.glo_ok X G (d.fact 2 (f := .glo "is_name") rfl)), F_is_name.kp, (F_is_name.bindsN (ps := ["thing"]) fun _ _ _ _ _ _ us hl => match us, hl with | [_], _ => rfl), .nil⟩
  have c_are_unlike_names : Cal P w K mg base 2 "are_unlike_names" (sp_unlike (tT K) K) [] := ⟨_, _, _, _, ok_unlike F_are_unlike_names B c_is_name, (He.glo_ok X G (d.fact 3 (f := .glo "are_unlike_names") rfl)), F_are_unlike_names.kp, (F_are_unlike_names.bindsN (ps := ["thing"]) fun _ _ _ _ _ _ us hl => match us, hl with | [_], _ => rfl), .nil⟩
  have m_set_names : Met P w K mg base 1 (He.ga K "Want") "set_names" (sp_set_names (tT K) K (He.ga K "Want")) [] := ⟨_, _, _, _, cW, He.meth_ok (d.fact 83 (f := .meth "Want" "set_names") rfl), ok_set_names F_Want_set_names B, (F_Want_set_names.bindsN (ps := ["self", "names", "all_but"]) fun _ _ _ _ _ _ us hl => match us, hl with | [_, _, _], _ => rfl), .nil⟩
  have k_Want0 : MkK P w K mg base 3 "Want" (He.ga K "Want") 0 [] (sp_Want (tT K) K (He.ga K "Want")) (fun vs _ => vs ++ [.ref (at_WI K), .bl false]) := by
    obtain ⟨g, hg⟩ := b_Want0 F_Want_init
    exact ⟨_, _, _, g, He.mkr_ok (d.fact 72 (f := .mkr "Want") rfl), ok_Want F_Want_init B c_are_unlike_names m_set_names, (He.glo_ok X G (d.fact 45 (f := .glo "Want") rfl)), hg⟩
  have k_Want1 : MkK P w K mg base 3 "Want" (He.ga K "Want") 1 ["all_but"] (sp_Want (tT K) K (He.ga K "Want")) (fun vs zs => vs ++ zs) := by
    obtain ⟨g, hg⟩ := b_Want1 F_Want_init
    exact ⟨_, _, _, g, He.mkr_ok (d.fact 72 (f := .mkr "Want") rfl), ok_Want F_Want_init B c_are_unlike_names m_set_names, (He.glo_ok X G (d.fact 45 (f := .glo "Want") rfl)), hg⟩
  have k_WantP : MkK P w K mg base 3 "Want" (He.ga K "Want") 1 [] (sp_Want (tT K) K (He.ga K "Want")) (fun vs _ => vs ++ [.bl false]) := by
    obtain ⟨g, hg⟩ := b_WantP F_Want_init
    exact ⟨_, _, _, g, He.mkr_ok (d.fact 72 (f := .mkr "Want") rfl), ok_Want F_Want_init B c_are_unlike_names m_set_names, (He.glo_ok X G (d.fact 45 (f := .glo "Want") rfl)), hg⟩
  have c_want_of : Cal P w K mg base 5 "want_of" (sp_want_of (tT K) K (He.ga K "Want")) [] := ⟨_, _, _, _, ok_want_of F_want_of B hdW k_Want0 m_set_names, (He.glo_ok X G (d.fact 4 (f := .glo "want_of") rfl)), F_want_of.kp, (F_want_of.bindsN (ps := ["names", "all_but"]) fun _ _ _ _ _ _ us hl => match us, hl with | [_, _], _ => rfl), .nil⟩
  have m_has : Met P w K mg base 1 (He.ga K "Want") "has" (sp_has (He.ga K "Want")) [] := ⟨_, _, _, _, cW, He.meth_ok (d.fact 84 (f := .meth "Want" "has") rfl), ok_has F_Want_has B, (F_Want_has.bindsN (ps := ["self", "sender"]) fun _ _ _ _ _ _ us hl => match us, hl with | [_, _], _ => rfl), .nil⟩
  have m_weq : Met P w K mg base 1 (He.ga K "Want") "__eq__" (sp_weq (He.ga K "Want")) [] := ⟨_, _, _, _, cW, He.meth_ok (d.fact 85 (f := .meth "Want" "__eq__") rfl), ok_weq F_Want_eq B, (F_Want_eq.bindsN (ps := ["self", "other"]) fun _ _ _ _ _ _ us hl => match us, hl with | [_, _], _ => rfl), .nil⟩
  have c_mingled : Cal P w K mg base 6 "mingled" (sp_mingled P w K mg base 1 (tT K) (He.ga K "Want")) [] := ⟨_, _, _, _, ok_mingled F_mingled B c_want_of m_has, (He.glo_ok X G (d.fact 5 (f := .glo "mingled") rfl)), F_mingled.kp, (F_mingled.bindsN (ps := ["one", "other", "rule"]) fun _ _ _ _ _ _ us hl => match us, hl with | [_, _, _], _ => rfl), .nil⟩
  have c_both : Cal P w K mg base 7 "both" (sp_both (tT K) (He.ga K "Want")) [] := ⟨_, _, _, _, ok_both F_both (lamT_of (T := tT K) (p := ("both", none)) F_both (TB _ (List.mem_of_getElem? (i := 0) rfl)) (List.mem_of_getElem? (i := 0) rfl) nd) c_mingled, (He.glo_ok X G (d.fact 6 (f := .glo "both") rfl)), F_both.kp, (F_both.bindsN (ps := ["one", "other"]) fun _ _ _ _ _ _ us hl => match us, hl with | [_, _], _ => rfl), .nil⟩
  have c_others : Cal P w K mg base 6 "others" (sp_others (tT K) (He.ga K "Want")) [] := ⟨_, _, _, _, ok_others F_others B c_want_of, (He.glo_ok X G (d.fact 7 (f := .glo "others") rfl)), F_others.kp, (F_others.bindsN (ps := ["want"]) fun _ _ _ _ _ _ us hl => match us, hl with | [_], _ => rfl), .nil⟩
  have c_are_pairs : Cal P w K mg base 2 "are_pairs" (sp_are_pairs (tT K) K) [] := ⟨_, _, _, _, ok_are_pairs F_are_pairs B c_is_name, (He.glo_ok X G (d.fact 8 (f := .glo "are_pairs") rfl)), F_are_pairs.kp, (F_are_pairs.bindsN (ps := ["thing"]) fun _ _ _ _ _ _ us hl => match us, hl with | [_], _ => rfl), .nil⟩
  have m_set_till : Met P w K mg base 1 (He.ga K "Till") "set_till" (sp_set_till (tT K) K (He.ga K "Till")) [] := ⟨_, _, _, _, cT, He.meth_ok (d.fact 86 (f := .meth "Till" "set_till") rfl), ok_set_till F_Till_set_till B, (F_Till_set_till.bindsN (ps := ["self", "rest", "own"]) fun _ _ _ _ _ _ us hl => match us, hl with | [_, _, _], _ => rfl), .nil⟩
  have k_Till0 : MkK P w K mg base 3 "Till" (He.ga K "Till") 0 [] (sp_Till (tT K) K (He.ga K "Till")) (fun vs _ => vs ++ [.int 0, .ref (at_TI K)]) := by
    obtain ⟨g, hg⟩ := b_Till0 F_Till_init
    exact ⟨_, _, _, g, He.mkr_ok (d.fact 73 (f := .mkr "Till") rfl), ok_Till F_Till_init B c_is_moment c_are_pairs m_set_till, (He.glo_ok X G (d.fact 46 (f := .glo "Till") rfl)), hg⟩
  have k_Till1 : MkK P w K mg base 3 "Till" (He.ga K "Till") 1 ["own"] (sp_Till (tT K) K (He.ga K "Till")) (fun vs zs => vs ++ zs) := by
    obtain ⟨g, hg⟩ := b_Till1 F_Till_init
    exact ⟨_, _, _, g, He.mkr_ok (d.fact 73 (f := .mkr "Till") rfl), ok_Till F_Till_init B c_is_moment c_are_pairs m_set_till, (He.glo_ok X G (d.fact 46 (f := .glo "Till") rfl)), hg⟩
  have c_till_of : Cal P w K mg base 5 "till_of" (sp_till_of (tT K) K (He.ga K "Till")) [] := ⟨_, _, _, _, ok_till_of F_till_of B hdT k_Till0 m_set_till, (He.glo_ok X G (d.fact 9 (f := .glo "till_of") rfl)), F_till_of.kp, (F_till_of.bindsN (ps := ["rest", "own"]) fun _ _ _ _ _ _ us hl => match us, hl with | [_, _], _ => rfl), .nil⟩
  have m_moment_of : Met P w K mg base 1 (He.ga K "Till") "moment_of" (sp_moment_of (He.ga K "Till")) [] := ⟨_, _, _, _, cT, He.meth_ok (d.fact 87 (f := .meth "Till" "moment_of") rfl), ok_moment_of F_Till_moment_of B, (F_Till_moment_of.bindsN (ps := ["self", "sender"]) fun _ _ _ _ _ _ us hl => match us, hl with | [_, _], _ => rfl), .nil⟩
  have m_teq : Met P w K mg base 1 (He.ga K "Till") "__eq__" (sp_teq (He.ga K "Till")) [] := ⟨_, _, _, _, cT, He.meth_ok (d.fact 88 (f := .meth "Till" "__eq__") rfl), ok_teq F_Till_eq B, (F_Till_eq.bindsN (ps := ["self", "other"]) fun _ _ _ _ _ _ us hl => match us, hl with | [_, _], _ => rfl), .nil⟩
  have m_tlen : Met P w K mg base 1 (He.ga K "Till") "__len__" (sp_tlen (He.ga K "Till")) [] := ⟨_, _, _, _, cT, He.meth_ok (d.fact 89 (f := .meth "Till" "__len__") rfl), ok_tlen F_Till_len B, (F_Till_len.bindsN (ps := ["self"]) fun _ _ _ _ _ _ us hl => match us, hl with | [_], _ => rfl), .nil⟩
  have m_trepr : Met P w K mg base 1 (He.ga K "Till") "__repr__" (sp_trepr (He.ga K "Till")) [] := ⟨_, _, _, _, cT, He.meth_ok (d.fact 90 (f := .meth "Till" "__repr__") rfl), ok_trepr F_Till_repr B, (F_Till_repr.bindsN (ps := ["self"]) fun _ _ _ _ _ _ us hl => match us, hl with | [_], _ => rfl), .nil⟩
  have c_changed_on : Cal P w K mg base 6 "changed_on" (sp_changed_on P w K mg base 1 (tT K) (He.ga K "Want") (He.ga K "Till")) [] := ⟨_, _, _, _, ok_changed_on F_changed_on B c_till_of m_moment_of m_has, (He.glo_ok X G (d.fact 10 (f := .glo "changed_on") rfl)), F_changed_on.kp, (F_changed_on.bindsN (ps := ["till", "want", "rule"]) fun _ _ _ _ _ _ us hl => match us, hl with | [_, _, _], _ => rfl), .nil⟩
  have c_raised : Cal P w K mg base 7 "raised" (sp_onwant (tT K) (He.ga K "Want") (He.ga K "Till") maxI) [] := ⟨_, _, _, _, ok_raised F_raised (lamT_of (T := tT K) (p := ("raised", none)) F_raised (TB _ (List.mem_of_getElem? (i := 1) rfl)) (List.mem_of_getElem? (i := 1) rfl) nd) B c_changed_on, (He.glo_ok X G (d.fact 11 (f := .glo "raised") rfl)), F_raised.kp, (F_raised.bindsN (ps := ["till", "want", "moment"]) fun _ _ _ _ _ _ us hl => match us, hl with | [_, _, _], _ => rfl), .nil⟩
  have c_lowered : Cal P w K mg base 7 "lowered" (sp_onwant (tT K) (He.ga K "Want") (He.ga K "Till") minI) [] := ⟨_, _, _, _, ok_lowered F_lowered (lamT_of (T := tT K) (p := ("lowered", none)) F_lowered (TB _ (List.mem_of_getElem? (i := 2) rfl)) (List.mem_of_getElem? (i := 2) rfl) nd) B c_changed_on, (He.glo_ok X G (d.fact 12 (f := .glo "lowered") rfl)), F_lowered.kp, (F_lowered.bindsN (ps := ["till", "want", "moment"]) fun _ _ _ _ _ _ us hl => match us, hl with | [_, _, _], _ => rfl), .nil⟩
  have c_mixed : Cal P w K mg base 6 "mixed" (sp_mixed P w K mg base 1 (tT K) (He.ga K "Till")) [] := ⟨_, _, _, _, ok_mixed F_mixed B c_till_of m_moment_of, (He.glo_ok X G (d.fact 13 (f := .glo "mixed") rfl)), F_mixed.kp, (F_mixed.bindsN (ps := ["one", "other", "rule"]) fun _ _ _ _ _ _ us hl => match us, hl with | [_, _, _], _ => rfl), .nil⟩
  have c_higher : Cal P w K mg base 7 "higher" (sp_highlow (tT K) (He.ga K "Till") fun i j => maxI j i) [] := ⟨_, _, _, _, ok_higher F_higher (lamT_of (T := tT K) (p := ("higher", none)) F_higher (TB _ (List.mem_of_getElem? (i := 3) rfl)) (List.mem_of_getElem? (i := 3) rfl) nd) B c_mixed, (He.glo_ok X G (d.fact 14 (f := .glo "higher") rfl)), F_higher.kp, (F_higher.bindsN (ps := ["one", "other"]) fun _ _ _ _ _ _ us hl => match us, hl with | [_, _], _ => rfl), .nil⟩
  have c_lower : Cal P w K mg base 7 "lower" (sp_highlow (tT K) (He.ga K "Till") fun i j => minI j i) [] := ⟨_, _, _, _, ok_lower F_lower (lamT_of (T := tT K) (p := ("lower", none)) F_lower (TB _ (List.mem_of_getElem? (i := 4) rfl)) (List.mem_of_getElem? (i := 4) rfl) nd) B c_mixed, (He.glo_ok X G (d.fact 15 (f := .glo "lower") rfl)), F_lower.kp, (F_lower.bindsN (ps := ["one", "other"]) fun _ _ _ _ _ _ us hl => match us, hl with | [_, _], _ => rfl), .nil⟩
  have c_wanted_at : Cal P w K mg base 6 "wanted_at" (sp_wanted_at (tT K) (He.ga K "Want") (He.ga K "Till")) [] := ⟨_, _, _, _, ok_wanted_at F_wanted_at B c_want_of, (He.glo_ok X G (d.fact 16 (f := .glo "wanted_at") rfl)), F_wanted_at.kp, (F_wanted_at.bindsN (ps := ["till", "moment"]) fun _ _ _ _ _ _ us hl => match us, hl with | [_, _], _ => rfl), .nil⟩
  have c_lapse : Cal P w K mg base 7 "lapse" (sp_lapse (tT K) K (He.ga K "Want") (He.ga K "Till")) [.int 0] := by
    obtain ⟨ds, h1, h2⟩ := b_lapse F_lapse
    exact ⟨_, _, _, ds, ok_lapse F_lapse B c_wanted_at c_want_of m_weq, (He.glo_ok X G (d.fact 17 (f := .glo "lapse") rfl)), F_lapse.kp, h2, h1⟩
  have c_is_bounds : Cal P w K mg base 3 "is_bounds" (sp_is_bounds K) [] := ⟨_, _, _, _, ok_is_bounds F_is_bounds B c_is_moment, (He.glo_ok X G (d.fact 18 (f := .glo "is_bounds") rfl)), F_is_bounds.kp, (F_is_bounds.bindsN (ps := ["thing"]) fun _ _ _ _ _ _ us hl => match us, hl with | [_], _ => rfl), .nil⟩
  have m_set_turn : Met P w K mg base 1 (He.ga K "Turn") "set_turn" (sp_set_turn (tT K) K (He.ga K "Turn")) [] := ⟨_, _, _, _, cU, He.meth_ok (d.fact 91 (f := .meth "Turn" "set_turn") rfl), ok_set_turn F_Turn_set_turn (lamT_of (T := tT K) (p := ("Turn", some "set_turn")) F_Turn_set_turn (TB _ (List.mem_of_getElem? (i := 5) rfl)) (List.mem_of_getElem? (i := 5) rfl) nd) B, (F_Turn_set_turn.bindsN (ps := ["self", "rest", "own"]) fun _ _ _ _ _ _ us hl => match us, hl with | [_, _, _], _ => rfl), .nil⟩
  have k_Turn0 : MkK P w K mg base 4 "Turn" (He.ga K "Turn") 0 [] (sp_Turn (tT K) K (He.ga K "Turn")) (fun vs _ => vs ++ [.ref (He.ga K "FREE"), .ref (at_UI K)]) := by
    obtain ⟨g, hg⟩ := b_Turn0 F_Turn_init
    exact ⟨_, _, _, g, He.mkr_ok (d.fact 74 (f := .mkr "Turn") rfl), ok_Turn F_Turn_init B c_is_bounds c_are_pairs m_set_turn, (He.glo_ok X G (d.fact 47 (f := .glo "Turn") rfl)), hg⟩
  have c_turn_of : Cal P w K mg base 6 "turn_of" (sp_turn_of (tT K) K (He.ga K "Turn")) [] := ⟨_, _, _, _, ok_turn_of F_turn_of B hF hdU k_Turn0 m_set_turn, (He.glo_ok X G (d.fact 19 (f := .glo "turn_of") rfl)), F_turn_of.kp, (F_turn_of.bindsN (ps := ["rest", "own"]) fun _ _ _ _ _ _ us hl => match us, hl with | [_, _], _ => rfl), .nil⟩
  have m_bounds_of : Met P w K mg base 1 (He.ga K "Turn") "bounds_of" (sp_bounds_of K (He.ga K "Turn")) [] := ⟨_, _, _, _, cU, He.meth_ok (d.fact 92 (f := .meth "Turn" "bounds_of") rfl), ok_bounds_of F_Turn_bounds_of B, (F_Turn_bounds_of.bindsN (ps := ["self", "sender"]) fun _ _ _ _ _ _ us hl => match us, hl with | [_, _], _ => rfl), .nil⟩
  have c_led_moment : Cal P w K mg base 1 "led_moment" (sp_led_moment K) [] := ⟨_, _, _, _, ok_led_moment F_led_moment B, (He.glo_ok X G (d.fact 23 (f := .glo "led_moment") rfl)), F_led_moment.kp, (F_led_moment.bindsN (ps := ["bounds", "moment"]) fun _ _ _ _ _ _ us hl => match us, hl with | [_, _], _ => rfl), .nil⟩
  have c_bounds_behind : Cal P w K mg base 2 "bounds_behind" (sp_bounds_behind (tT K) K) [] := ⟨_, _, _, _, ok_bounds_behind F_bounds_behind B c_led_moment, (He.glo_ok X G (d.fact 24 (f := .glo "bounds_behind") rfl)), F_bounds_behind.kp, (F_bounds_behind.bindsN (ps := ["first", "second"]) fun _ _ _ _ _ _ us hl => match us, hl with | [_, _], _ => rfl), .nil⟩
  have c_on_want : Cal P w K mg base 7 "on_want" (sp_on_want (tT K) K (He.ga K "Want") (He.ga K "Turn")) [] := ⟨_, _, _, _, ok_on_want F_on_want B c_turn_of, (He.glo_ok X G (d.fact 20 (f := .glo "on_want") rfl)), F_on_want.kp, (F_on_want.bindsN (ps := ["want", "bounds"]) fun _ _ _ _ _ _ us hl => match us, hl with | [_, _], _ => rfl), .nil⟩
  have c_raising : Cal P w K mg base 8 "raising" (sp_raising (tT K) K (He.ga K "Want") (He.ga K "Turn") fun m => (m, none)) [] := ⟨_, _, _, _, ok_raising F_raising c_on_want, (He.glo_ok X G (d.fact 21 (f := .glo "raising") rfl)), F_raising.kp, (F_raising.bindsN (ps := ["want", "moment"]) fun _ _ _ _ _ _ us hl => match us, hl with | [_, _], _ => rfl), .nil⟩
  have c_lowering : Cal P w K mg base 8 "lowering" (sp_raising (tT K) K (He.ga K "Want") (He.ga K "Turn") fun m => (0, some m)) [] := ⟨_, _, _, _, ok_lowering F_lowering c_on_want, (He.glo_ok X G (d.fact 22 (f := .glo "lowering") rfl)), F_lowering.kp, (F_lowering.bindsN (ps := ["want", "moment"]) fun _ _ _ _ _ _ us hl => match us, hl with | [_, _], _ => rfl), .nil⟩
  have c_behind : Cal P w K mg base 7 "behind" (sp_behind (tT K) K (He.ga K "Turn")) [] := ⟨_, _, _, _, ok_behind F_behind B c_turn_of c_bounds_behind m_bounds_of, (He.glo_ok X G (d.fact 25 (f := .glo "behind") rfl)), F_behind.kp, (F_behind.bindsN (ps := ["first", "second"]) fun _ _ _ _ _ _ us hl => match us, hl with | [_, _], _ => rfl), .nil⟩
  have c_led : Cal P w K mg base 6 "led" (sp_led (tT K) K (He.ga K "Till") (He.ga K "Turn")) [] := ⟨_, _, _, _, ok_led F_led B c_till_of c_led_moment m_bounds_of m_moment_of, (He.glo_ok X G (d.fact 27 (f := .glo "led") rfl)), F_led.kp, (F_led.bindsN (ps := ["turn", "till"]) fun _ _ _ _ _ _ us hl => match us, hl with | [_, _], _ => rfl), .nil⟩
  have c_all_behind : Cal P w K mg base 8 "all_behind" (sp_all_behind (tT K) K (He.ga K "Turn")) [] := ⟨_, _, _, _, ok_all_behind F_all_behind B hF hdU k_Turn0 c_behind, (He.glo_ok X G (d.fact 26 (f := .glo "all_behind") rfl)), F_all_behind.kp, (F_all_behind.bindsN (ps := ["turns"]) fun _ _ _ _ _ _ us hl => match us, hl with | [_], _ => rfl), .nil⟩
  have c_law_store : Cal P w K mg base 1 "_law_store" (sp_store (tT K) K) [] := ⟨_, _, _, _, ok_store F_law_store B, (He.glo_ok X G (d.fact 28 (f := .glo "_law_store") rfl)), F_law_store.kp, (F_law_store.bindsN (ps := ["script"]) fun _ _ _ _ _ _ us hl => match us, hl with | [_], _ => rfl), .nil⟩
  have c_draw1 : Cal P w K mg base 1 "_law_draw" (sp_draw (tT K) (10 ^ 6) 1) [] := ⟨_, _, _, _, ok_draw1 F_law_draw B, (He.glo_ok X G (d.fact 29 (f := .glo "_law_draw") rfl)), F_law_draw.kp, (F_law_draw.bindsN (ps := ["store", "many"]) fun _ _ _ _ _ _ us hl => match us, hl with | [_, _], _ => rfl), .nil⟩
  have c_law_draw : Cal P w K mg base 2 "_law_draw" (sp_draw (tT K) (10 ^ 15) 3) [] := ⟨_, _, _, _, ok_draw F_law_draw B c_draw1, (He.glo_ok X G (d.fact 29 (f := .glo "_law_draw") rfl)), F_law_draw.kp, (F_law_draw.bindsN (ps := ["store", "many"]) fun _ _ _ _ _ _ us hl => match us, hl with | [_, _], _ => rfl), .nil⟩
  have c_law_names : Cal P w K mg base 3 "_law_names" (sp_names (tT K)) [] := ⟨_, _, _, _, ok_names F_law_names B c_law_draw, (He.glo_ok X G (d.fact 30 (f := .glo "_law_names") rfl)), F_law_names.kp, (F_law_names.bindsN (ps := ["store", "many"]) fun _ _ _ _ _ _ us hl => match us, hl with | [_, _], _ => rfl), .nil⟩
  have c_law_some : Cal P w K mg base 3 "_law_some" (sp_some (tT K)) [] := ⟨_, _, _, _, ok_some F_law_some B c_law_draw, (He.glo_ok X G (d.fact 31 (f := .glo "_law_some") rfl)), F_law_some.kp, (F_law_some.bindsN (ps := ["store", "names"]) fun _ _ _ _ _ _ us hl => match us, hl with | [_, _], _ => rfl), .nil⟩
  have c_law_want : Cal P w K mg base 5 "_law_want" (sp_lwant (tT K) (He.ga K "Want")) [] := ⟨_, _, _, _, ok_lwant F_law_want B c_law_draw c_law_some k_Want1, (He.glo_ok X G (d.fact 32 (f := .glo "_law_want") rfl)), F_law_want.kp, (F_law_want.bindsN (ps := ["store", "names"]) fun _ _ _ _ _ _ us hl => match us, hl with | [_, _], _ => rfl), .nil⟩
  have c_law_moment : Cal P w K mg base 3 "_law_moment" (sp_lmom (tT K)) [] := ⟨_, _, _, _, ok_lmom F_law_moment B c_law_draw, (He.glo_ok X G (d.fact 33 (f := .glo "_law_moment") rfl)), F_law_moment.kp, (F_law_moment.bindsN (ps := ["store"]) fun _ _ _ _ _ _ us hl => match us, hl with | [_], _ => rfl), .nil⟩
  have c_law_own : Cal P w K mg base 4 "_law_own" (sp_lown (tT K)) [] := ⟨_, _, _, _, ok_lown F_law_own B c_law_some c_law_moment, (He.glo_ok X G (d.fact 34 (f := .glo "_law_own") rfl)), F_law_own.kp, (F_law_own.bindsN (ps := ["store", "names"]) fun _ _ _ _ _ _ us hl => match us, hl with | [_, _], _ => rfl), .nil⟩
  have c_law_till : Cal P w K mg base 5 "_law_till" (sp_ltill (tT K) (He.ga K "Till")) [] := ⟨_, _, _, _, ok_ltill F_law_till B c_law_draw c_law_moment c_law_own k_Till1, (He.glo_ok X G (d.fact 35 (f := .glo "_law_till") rfl)), F_law_till.kp, (F_law_till.bindsN (ps := ["store", "names"]) fun _ _ _ _ _ _ us hl => match us, hl with | [_, _], _ => rfl), .nil⟩
  have c_law_deeds : Cal P w K mg base 6 "_law_deeds" (sp_ldeeds (tT K) (He.ga K "Want")) [] := ⟨_, _, _, _, ok_ldeeds F_law_deeds B c_law_draw c_law_moment c_law_want, (He.glo_ok X G (d.fact 38 (f := .glo "_law_deeds") rfl)), F_law_deeds.kp, (F_law_deeds.bindsN (ps := ["store", "names"]) fun _ _ _ _ _ _ us hl => match us, hl with | [_, _], _ => rfl), .nil⟩
  have c_law_many_deeds : Cal P w K mg base 6 "_law_many_deeds" (sp_ldeeds (tT K) (He.ga K "Want")) [] := ⟨_, _, _, _, ok_lmany F_law_many_deeds B c_law_draw k_WantP, (He.glo_ok X G (d.fact 39 (f := .glo "_law_many_deeds") rfl)), F_law_many_deeds.kp, (F_law_many_deeds.bindsN (ps := ["store", "names"]) fun _ _ _ _ _ _ us hl => match us, hl with | [_, _], _ => rfl), .nil⟩
  have c_law_strange : Cal P w K mg base 1 "_law_strange" (sp_strange (tT K) K) [] := ⟨_, _, _, _, ok_strange F_law_strange B, (He.glo_ok X G (d.fact 40 (f := .glo "_law_strange") rfl)), F_law_strange.kp, (F_law_strange.bindsN (ps := ["names"]) fun _ _ _ _ _ _ us hl => match us, hl with | [_], _ => rfl), .nil⟩
  have c_law_stepped : Cal P w K mg base 2 "_law_stepped" (sp_stepped (He.ga K "Want") (He.ga K "Till")) [] := ⟨_, _, _, _, ok_stepped F_law_stepped B m_moment_of m_has, (He.glo_ok X G (d.fact 41 (f := .glo "_law_stepped") rfl)), F_law_stepped.kp, (F_law_stepped.bindsN (ps := ["till", "deeds", "name"]) fun _ _ _ _ _ _ us hl => match us, hl with | [_, _, _], _ => rfl), .nil⟩
  have c_law_done : Cal P w K mg base 8 "_law_done" (sp_done (tT K) (He.ga K "Want") (He.ga K "Till")) [] := ⟨_, _, _, _, ok_done F_law_done B c_raised c_lowered, (He.glo_ok X G (d.fact 42 (f := .glo "_law_done") rfl)), F_law_done.kp, (F_law_done.bindsN (ps := ["till", "deeds"]) fun _ _ _ _ _ _ us hl => match us, hl with | [_, _], _ => rfl), .nil⟩
  have c_law_pairs_right : Cal P w K mg base 8 "_law_pairs_right" (sp_pairs_right (tT K) (He.ga K "Want") (He.ga K "Till")) [] := ⟨_, _, _, _, ok_pairs_right F_law_pairs_right B c_raised c_lowered c_others c_higher c_lower m_teq, (He.glo_ok X G (d.fact 43 (f := .glo "_law_pairs_right") rfl)), F_law_pairs_right.kp, (F_law_pairs_right.bindsN (ps := ["till", "want", "one", "other"]) fun _ _ _ _ _ _ us hl => match us, hl with | [_, _, _, _], _ => rfl), .nil⟩
  have c_law_normal : Cal P w K mg base 1 "_law_normal" (sp_normal (tT K)) [] := ⟨_, _, _, _, ok_normal F_law_normal B, (He.glo_ok X G (d.fact 36 (f := .glo "_law_normal") rfl)), F_law_normal.kp, (F_law_normal.bindsN (ps := ["base", "known"]) fun _ _ _ _ _ _ us hl => match us, hl with | [_, _], _ => rfl), .nil⟩
  have c_is_till : CalG P w K mg base 3 "_law_is_till" (sp_is_till (tT K) (He.ga K "Till")) := ⟨_, _, _, ok_is_till F_law_is_till B c_law_normal m_moment_of m_tlen m_trepr, (He.glo_ok X G (d.fact 37 (f := .glo "_law_is_till") rfl)), F_law_is_till.kp, (F_law_is_till.bindsN (ps := ["found", "base", "known", "names"]) fun _ _ _ _ _ _ us hl => match us, hl with | [_, _, _, _], _ => rfl)⟩
  exact ok_law F_law B hdW ⟨c_law_store, c_law_draw, c_law_names, c_law_till, c_law_deeds, c_law_many_deeds, c_law_done, c_law_stepped, c_law_strange, c_is_till, c_all_behind, c_raising, c_lowering, c_led, c_lapse, c_both, c_wanted_at, c_lowered, k_Want0, c_law_pairs_right, c_law_moment, m_teq, m_weq⟩
end KD
end

set_option Elab.async false
set_option linter.all false
set_option maxRecDepth 100000
set_option maxHeartbeats 0
namespace KD
open PySem PySem.Spec PyProof.Rows C8 LamX NdefX
open L2 hiding CX0 E0 pass0 Fun
theorem tabs_start {K : PySem.W.Frag} {H : Hp} (hT : ∀ p ∈ tf.map (He.cT K), H p.2 = some (.tbl #[])) : Tabs (tT K) H := by
  have z : ∀ q ∈ tf, H (He.cT K q).2 = some (.tbl #[]) := fun q hq => hT _ (List.mem_map.mpr ⟨q, hq, rfl⟩)
  have key : ∀ (q : He.Defn) (nm : Str), q ∈ tf → TabS H (He.cT K q).2 nm := fun q nm hq => ⟨#[], z q hq, True.intro, fun pos cv hc => by
    have hc : (none : Option Value) = some cv := hc
    cases hc⟩
  intro p hp
  simp only [tT, List.mem_cons, List.not_mem_nil, or_false] at hp
  rcases hp with e | e | e | e | e | e <;> rw [e]
  · exact key _ _ (List.mem_of_getElem? (i := 0) rfl)
  · exact key _ _ (List.mem_of_getElem? (i := 1) rfl)
  · exact key _ _ (List.mem_of_getElem? (i := 2) rfl)
  · exact key _ _ (List.mem_of_getElem? (i := 3) rfl)
  · exact key _ _ (List.mem_of_getElem? (i := 4) rfl)
  · exact key _ _ (List.mem_of_getElem? (i := 5) rfl)
theorem fin_at {w : World} {K : PySem.W.Frag} {h : Heap} {mg : Str → Option Value} {fa0 : Addr} (KX : K.In h) (G : h.Ns mainGlobals mg) (c : He.SaysX fa fn [] tf ex w h K) (hmg : mg ("law" : Str) = some (.ref fa0)) :
    LawAtG PySem.Challenge.rw_newsdoors_k21_whole_deeds_as_one_turn w K 9 63 "script" mg fa0 h := by
  obtain ⟨fd, hb, hF⟩ := law_at (P := PySem.Challenge.rw_newsdoors_k21_whole_deeds_as_one_turn.prog) (w := w) KX G c
  have e := hmg.symm.trans (He.glo_ok KX G (c.t.d.fact 44 (f := .glo "law") rfl))
  cases e
  have inv : ∀ p ∈ tf.map (He.cT K), ∃ q ∈ tf, He.cT K q = p := fun p hp => let ⟨q, hq, e⟩ := List.mem_map.mp hp; ⟨q, hq, e⟩
  refine ⟨fd, tf.map (He.cT K), sp_law (tT K) K, fun p hp => ?_, fun p hp => ?_, fun p hp => ?_, hb, fun H a ns hl hT hS => ⟨a, ns, rfl, tabs_start hT, hS, hl, fun _ => rfl⟩, fun base KB GB TB => hF base KB GB fun q hq => TB _ (List.mem_map.mpr ⟨q, hq, rfl⟩)⟩
  · obtain ⟨q, hq, rfl⟩ := inv p hp
    exact c.empty q hq
  · obtain ⟨q, hq, rfl⟩ := inv p hp
    exact c.out q hq
  · obtain ⟨q, hq, rfl⟩ := inv p hp
    exact PySem.W.codeHd_of_K KX (c.hd q hq)
end KD
open PySem PySem.W PySem.Calls PyProof.Rows
theorem PySem.Challenge.cw_newsdoors_k21_whole_deeds_as_one_turn_holds : PySem.Challenge.rw_newsdoors_k21_whole_deeds_as_one_turn.Holds := by
  w_on; o_law
  refine HandSHeadRun.head_any (r := OpenLaw.row PySem.Challenge.rw_newsdoors_k21_whole_deeds_as_one_turn) (q := view (OpenLaw.row PySem.Challenge.rw_newsdoors_k21_whole_deeds_as_one_turn).prog [60]) (H := KD.hk) (ob := KD.ob) (M := 4000) (loose := KD.loose) (d := HandSHeadRun.topDef (OpenLaw.row PySem.Challenge.rw_newsdoors_k21_whole_deeds_as_one_turn).prog 60) (kwd := []) KD.ob_eq
    (by kernel_rfl) (fun s => by kernel_rfl) KD.run (by kernel_rfl) (by kernel_rfl) (by kernel_rfl) (by rfl) (by first | assumption | decide +kernel) (by decide +kernel) ⟨rfl, rfl, rfl, rfl, rfl, by decide +kernel⟩ ?hw ?hc
  case hw => w_witness2
  case hc =>
    refine KD.walkG (l := PySem.Challenge.rw_newsdoors_k21_whole_deeds_as_one_turn) (n := 63) (k := 9) (x := "script") rfl (by rw [sizeLine_eq]; decide) (by kernel_rfl) ⟨rfl, by decide, by decide⟩ ?F
    intro w mg fa h Y G hmg0
    obtain ⟨K, KX, c⟩ := Y
    have hmg : mg ("law" : PySem.Str) = some (.ref fa) := by
      have e : (HandSHeadRun.topDef (OpenLaw.row PySem.Challenge.rw_newsdoors_k21_whole_deeds_as_one_turn).prog 60).name = ("law" : PySem.Str) := by kernel_rfl
      rw [← e]
      exact hmg0
    exact ⟨K, KX, KD.fin_at (w := w) KX G c hmg⟩

