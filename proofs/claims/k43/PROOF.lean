import PyProof.Rows.All
import Wide.All
import OpenK.AllK
import Wide.FinOn
import KE.KStateDown
import HandS.ForExc
import HandS.Defaults
import HandS.Head0
import HandS.Head1
import HandS.Head2
import HandS.HeadEnd
import HandS.HeadHook1
import HandS.HeadHook2
import HandS.ExcIs
import HandS.ForMost
import HandS.IsInst
import HandS.TupAny
import HandS.Zip
import HandS.TryOnly
import HandS.Wide
import HandS.TupMul
import HandS.Style
import HandS.SortInts
import HandS.Text
import HandS.Remove
import KE.GoesMore
import KE.GoesEnum
import HandS.WordsDict
import HandS.DictComp
import HandS.Conv
import PySem.Challenge.RW_homeshold_k43_lots_refused
set_option Elab.async false
set_option linter.all false
set_option maxRecDepth 100000
set_option maxHeartbeats 4000000
namespace K43
open PySem PySem.Spec PyProof.Rows
def topS (i : Nat) : Stmt := PySem.Challenge.pw_homeshold_k43_lots_refused.main.body.getD i (.Pass ⟨0, 0, 0, 0⟩)
abbrev st_is_integer : Stmt := topS 13
abbrev st_is_between : Stmt := topS 14
abbrev st_is_count : Stmt := topS 15
abbrev st_is_index : Stmt := topS 16
abbrev st_is_tuple_of : Stmt := topS 17
abbrev st_is_pair_of_numbers : Stmt := topS 18
abbrev st_are_ascending : Stmt := topS 19
abbrev st_is_home : Stmt := topS 28
abbrev st_is_hand : Stmt := topS 29
abbrev st_is_name : Stmt := topS 30
abbrev st_are_signs : Stmt := topS 31
abbrev st_is_piece : Stmt := topS 32
abbrev st_is_id : Stmt := topS 33
abbrev st_is_row : Stmt := topS 34
abbrev st_is_stamp : Stmt := topS 35
abbrev st_is_members : Stmt := topS 36
abbrev st_is_small_prime : Stmt := topS 40
abbrev st_inverse : Stmt := topS 41
abbrev st_trimmed : Stmt := topS 42
abbrev st_at_place : Stmt := topS 43
abbrev st_monic : Stmt := topS 44
abbrev st_parted : Stmt := topS 45
abbrev st_common : Stmt := topS 46
abbrev st_with_pivot : Stmt := topS 47
abbrev st_solved : Stmt := topS 48
abbrev st_check_prime : Stmt := topS 52
abbrev st_check_numbers : Stmt := topS 53
abbrev st_check_places : Stmt := topS 54
abbrev st_check_value : Stmt := topS 55
abbrev st_raw_values : Stmt := topS 56
abbrev st_values : Stmt := topS 57
abbrev st_powers : Stmt := topS 58
abbrev st_equation : Stmt := topS 59
abbrev st_reduced : Stmt := topS 60
abbrev st_raw_roots : Stmt := topS 61
abbrev st_fit : Stmt := topS 62
abbrev st_raw_difference : Stmt := topS 63
abbrev st_check_told : Stmt := topS 64
abbrev st_difference : Stmt := topS 65
abbrev st_check_polynomial : Stmt := topS 66
abbrev st_roots : Stmt := topS 67
abbrev st_number_of : Stmt := topS 68
abbrev st_raw_number_of : Stmt := topS 69
abbrev st_are_heads : Stmt := topS 81
abbrev st_is_named_head : Stmt := topS 82
abbrev st_are_blocks : Stmt := topS 83
abbrev st_are_leases : Stmt := topS 84
abbrev st_is_held : Stmt := topS 85
abbrev st_is_vote : Stmt := topS 86
abbrev st_is_ahead : Stmt := topS 87
abbrev st_is_kept : Stmt := topS 88
abbrev st_is_table : Stmt := topS 89
abbrev st_check_table : Stmt := topS 90
abbrev st_keeps : Stmt := topS 94
abbrev st_written : Stmt := topS 95
abbrev st_begin_mending : Stmt := topS 96
abbrev st_w_hat : Stmt := topS 98
abbrev st_w_draw : Stmt := topS 99
abbrev st_w_same : Stmt := topS 100
abbrev st_w_prime : Stmt := topS 101
abbrev st_w_number : Stmt := topS 102
abbrev st_w_lot : Stmt := topS 103
abbrev st_w_places : Stmt := topS 104
abbrev st_w_product : Stmt := topS 105
abbrev st_w_at : Stmt := topS 106
abbrev st_w_bad_prime : Stmt := topS 107
abbrev st_w_spoilt : Stmt := topS 108
abbrev st_w_bad_lot : Stmt := topS 109
abbrev st_w_bad_places : Stmt := topS 110
abbrev st_w_bad_told : Stmt := topS 111
abbrev st_w_bad_polynomial : Stmt := topS 112
abbrev st_w_bad_count : Stmt := topS 113
abbrev st_w_called : Stmt := topS 114
abbrev st_w_refusal : Stmt := topS 115
abbrev st_w_lots : Stmt := topS 116
abbrev st_w_names : Stmt := topS 117
abbrev st_w_homes : Stmt := topS 118
abbrev st_w_good_right : Stmt := topS 119
abbrev st_w_one : Stmt := topS 120
abbrev st_law : Stmt := topS 121
def ksL : List Str := ["NoPrime", "NoNumbers", "NoNumber", "NoPlaces", "NoValues", "NoPolynomial", "NoName", "NoStamp", "NoHomeNumber", "NoTable"]
end K43

set_option Elab.async false
set_option linter.all false
set_option maxRecDepth 100000
set_option maxHeartbeats 4000000
/-! HK: the head's facts, by one look at all objects that the top made; one more Bool of one's own -/
namespace HK
open PySem PySem.Spec PyProof.Rows L2 He
def asA (n : Nat) : List Addr := mainGlobals :: List.range n
def obsA (fa : List Fa) (fn : List DefD) (ex : PySem.W.Frag → Bool) (n : Nat) (g : Addr → Option Obj) : AlD × Bool := (obsD fa fn (frG g (asA n)), ex (frG g (asA n)))
structure SaysA (fa : List Fa) (fn : List DefD) (ex : PySem.W.Frag → Bool) (K : PySem.W.Frag) : Prop where
  d : SaysD fa fn K
  x : ex K = true
def hookA (fa : List Fa) (fn : List DefD) (ex : PySem.W.Frag → Bool) : PySem.W.Hook where
  α := AlD × Bool
  obs := fun s => obsA fa fn ex s.heap.objs.size s.heap.get?
  val := fun _ => (valD fn, true)
  says := fun _ h => ∃ K : PySem.W.Frag, K.In h ∧ SaysA fa fn ex K
  of := fun _ _ e => ⟨_, frG_in, congrArg (fun z : AlD × Bool => z.1) e, congrArg (fun z : AlD × Bool => z.2) e⟩
  keeps := fun _ _ _ ⟨K, hK, c⟩ k => ⟨K, PySem.W.Frag.In.keeps hK k, c⟩
def obA (fa : List Fa) (fn : List DefD) (ex : PySem.W.Frag → Bool) (s : PySem.W.SharedT) : AlD × Bool := obsA fa fn ex s.n (HandSHeadRun.getT s)
theorem obA_eq {fa : List Fa} {fn : List DefD} {ex : PySem.W.Frag → Bool} (s : PySem.W.SharedT) : obA fa fn ex s = (hookA fa fn ex).obs s.abs := by
  show obsA fa fn ex s.n (HandSHeadRun.getT s) = obsA fa fn ex s.abs.heap.objs.size s.abs.heap.get?
  have e1 : HandSHeadRun.getT s = s.abs.heap.get? := funext (HandSHeadRun.getT_eq s)
  have e2 : s.abs.heap.objs.size = s.n := PySem.W.absHeap_size _ _ _
  rw [e1, e2]
/-! ### errors of the program -/
def excB (K : PySem.W.Frag) (D : Addr) : Bool :=
  decide (PySem.W.findIn K (.ref D) "__getattribute__" = some (some (.builtin "BaseException.__getattribute__"))) &&
  (decide (PySem.W.findIn K (.ref D) "__getattr__" = some none) &&
  (decide (PySem.W.subIn K (.ref D) (.type "BaseException") = some true) &&
  (PySem.W.hasDictIn K D &&
  (decide (PySem.W.findIn K (.ref D) "__class__" = some (some (.builtin "object.__class__"))) &&
  (decide (PySem.W.specialIn K (.builtin "object.__class__") "__get__" = some (some (.builtin "getset_descriptor.__get__"))) &&
  (decide (PySem.W.takesIn K (.builtin "object.__class__") = some true) &&
  decide (PySem.W.mroIn K D (.type "object") = some true)))))))
theorem excB_ok {K : PySem.W.Frag} {D : Addr} (h : excB K D = true) : L2.ExcC K D := by
  obtain ⟨h1, h⟩ := ba h
  obtain ⟨h2, h⟩ := ba h
  obtain ⟨h3, h⟩ := ba h
  obtain ⟨h4, h⟩ := ba h
  obtain ⟨h5, h⟩ := ba h
  obtain ⟨h6, h⟩ := ba h
  obtain ⟨h7, h8⟩ := ba h
  exact ⟨of_decide_eq_true h1, of_decide_eq_true h2, of_decide_eq_true h3, h4, of_decide_eq_true h5, of_decide_eq_true h6, of_decide_eq_true h7, of_decide_eq_true h8⟩
/-- an error of the class c: what except top catches; isinstance with each of ks, and with ValueError -/
def errB (K : PySem.W.Frag) (top : Str) (ks : List Str) (c : Str) : Bool :=
  excB K (ga K c) && (decide (PySem.W.exmOne K (.ref (ga K c)) (.ref (ga K top)) = some true) &&
  (decide (PySem.W.kitOne K (.ref (ga K c)) (.type "ValueError") = some true) &&
  ks.all fun k => decide (PySem.W.kitOne K (.ref (ga K c)) (.ref (ga K k)) = some (decide (c = k)))))
structure ErrC (K : PySem.W.Frag) (top : Str) (ks : List Str) (c : Str) : Prop where
  e : L2.ExcC K (ga K c)
  t : PySem.W.exmOne K (.ref (ga K c)) (.ref (ga K top)) = some true
  v : PySem.W.kitOne K (.ref (ga K c)) (.type "ValueError") = some true
  k : ∀ k ∈ ks, PySem.W.kitOne K (.ref (ga K c)) (.ref (ga K k)) = some (decide (c = k))
theorem errB_ok {K : PySem.W.Frag} {top : Str} {ks : List Str} {c : Str} (h : errB K top ks c = true) : ErrC K top ks c := by
  obtain ⟨h1, h⟩ := ba h
  obtain ⟨h2, h⟩ := ba h
  obtain ⟨h3, h4⟩ := ba h
  exact ⟨excB_ok h1, of_decide_eq_true h2, of_decide_eq_true h3, fun k hk => of_decide_eq_true (List.all_eq_true.mp h4 k hk)⟩
end HK

set_option Elab.async false
set_option linter.all false
set_option maxRecDepth 100000
set_option maxHeartbeats 0
namespace K43
open PySem PySem.Spec PyProof.Rows L2
def dd_is_integer : He.DefD := ⟨("is_integer", none), "is_integer", "is_integer", defArgs st_is_integer, defBody st_is_integer, defScope st_is_integer, [], []⟩
def dd_is_between : He.DefD := ⟨("is_between", none), "is_between", "is_between", defArgs st_is_between, defBody st_is_between, defScope st_is_between, [], []⟩
def dd_is_count : He.DefD := ⟨("is_count", none), "is_count", "is_count", defArgs st_is_count, defBody st_is_count, defScope st_is_count, [], []⟩
def dd_is_index : He.DefD := ⟨("is_index", none), "is_index", "is_index", defArgs st_is_index, defBody st_is_index, defScope st_is_index, [], []⟩
def dd_is_tuple_of : He.DefD := ⟨("is_tuple_of", none), "is_tuple_of", "is_tuple_of", defArgs st_is_tuple_of, defBody st_is_tuple_of, defScope st_is_tuple_of, [], []⟩
def dd_is_pair_of_numbers : He.DefD := ⟨("is_pair_of_numbers", none), "is_pair_of_numbers", "is_pair_of_numbers", defArgs st_is_pair_of_numbers, defBody st_is_pair_of_numbers, defScope st_is_pair_of_numbers, [], []⟩
def dd_are_ascending : He.DefD := ⟨("are_ascending", none), "are_ascending", "are_ascending", defArgs st_are_ascending, defBody st_are_ascending, defScope st_are_ascending, [], []⟩
def dd_is_home : He.DefD := ⟨("is_home", none), "is_home", "is_home", defArgs st_is_home, defBody st_is_home, defScope st_is_home, [], []⟩
def dd_is_hand : He.DefD := ⟨("is_hand", none), "is_hand", "is_hand", defArgs st_is_hand, defBody st_is_hand, defScope st_is_hand, [], []⟩
def dd_is_name : He.DefD := ⟨("is_name", none), "is_name", "is_name", defArgs st_is_name, defBody st_is_name, defScope st_is_name, [], []⟩
def dd_are_signs : He.DefD := ⟨("are_signs", none), "are_signs", "are_signs", defArgs st_are_signs, defBody st_are_signs, defScope st_are_signs, [], []⟩
def dd_is_piece : He.DefD := ⟨("is_piece", none), "is_piece", "is_piece", defArgs st_is_piece, defBody st_is_piece, defScope st_is_piece, [], []⟩
def dd_is_id : He.DefD := ⟨("is_id", none), "is_id", "is_id", defArgs st_is_id, defBody st_is_id, defScope st_is_id, [], []⟩
def dd_is_row : He.DefD := ⟨("is_row", none), "is_row", "is_row", defArgs st_is_row, defBody st_is_row, defScope st_is_row, [], []⟩
def dd_is_stamp : He.DefD := ⟨("is_stamp", none), "is_stamp", "is_stamp", defArgs st_is_stamp, defBody st_is_stamp, defScope st_is_stamp, [], []⟩
def dd_is_members : He.DefD := ⟨("is_members", none), "is_members", "is_members", defArgs st_is_members, defBody st_is_members, defScope st_is_members, [], []⟩
def dd_is_small_prime : He.DefD := ⟨("is_small_prime", none), "is_small_prime", "is_small_prime", defArgs st_is_small_prime, defBody st_is_small_prime, defScope st_is_small_prime, [], []⟩
def dd_inverse : He.DefD := ⟨("inverse", none), "inverse", "inverse", defArgs st_inverse, defBody st_inverse, defScope st_inverse, [], []⟩
def dd_trimmed : He.DefD := ⟨("trimmed", none), "trimmed", "trimmed", defArgs st_trimmed, defBody st_trimmed, defScope st_trimmed, [], []⟩
def dd_at_place : He.DefD := ⟨("at_place", none), "at_place", "at_place", defArgs st_at_place, defBody st_at_place, defScope st_at_place, [], []⟩
def dd_monic : He.DefD := ⟨("monic", none), "monic", "monic", defArgs st_monic, defBody st_monic, defScope st_monic, [], []⟩
def dd_parted : He.DefD := ⟨("parted", none), "parted", "parted", defArgs st_parted, defBody st_parted, defScope st_parted, [], []⟩
def dd_common : He.DefD := ⟨("common", none), "common", "common", defArgs st_common, defBody st_common, defScope st_common, [], []⟩
def dd_with_pivot : He.DefD := ⟨("with_pivot", none), "with_pivot", "with_pivot", defArgs st_with_pivot, defBody st_with_pivot, defScope st_with_pivot, [], []⟩
def dd_solved : He.DefD := ⟨("solved", none), "solved", "solved", defArgs st_solved, defBody st_solved, defScope st_solved, [], []⟩
def dd_check_prime : He.DefD := ⟨("check_prime", none), "check_prime", "check_prime", defArgs st_check_prime, defBody st_check_prime, defScope st_check_prime, [], []⟩
def dd_check_numbers : He.DefD := ⟨("check_numbers", none), "check_numbers", "check_numbers", defArgs st_check_numbers, defBody st_check_numbers, defScope st_check_numbers, [], []⟩
def dd_check_places : He.DefD := ⟨("check_places", none), "check_places", "check_places", defArgs st_check_places, defBody st_check_places, defScope st_check_places, [], []⟩
def dd_check_value : He.DefD := ⟨("check_value", none), "check_value", "check_value", defArgs st_check_value, defBody st_check_value, defScope st_check_value, [], []⟩
def dd_raw_values : He.DefD := ⟨("raw_values", none), "raw_values", "raw_values", defArgs st_raw_values, defBody st_raw_values, defScope st_raw_values, [], []⟩
def dd_values : He.DefD := ⟨("values", none), "values", "values", defArgs st_values, defBody st_values, defScope st_values, [], []⟩
def dd_powers : He.DefD := ⟨("powers", none), "powers", "powers", defArgs st_powers, defBody st_powers, defScope st_powers, [], []⟩
def dd_equation : He.DefD := ⟨("equation", none), "equation", "equation", defArgs st_equation, defBody st_equation, defScope st_equation, [], []⟩
def dd_reduced : He.DefD := ⟨("reduced", none), "reduced", "reduced", defArgs st_reduced, defBody st_reduced, defScope st_reduced, [], []⟩
def dd_raw_roots : He.DefD := ⟨("raw_roots", none), "raw_roots", "raw_roots", defArgs st_raw_roots, defBody st_raw_roots, defScope st_raw_roots, [], []⟩
def dd_fit : He.DefD := ⟨("fit", none), "fit", "fit", defArgs st_fit, defBody st_fit, defScope st_fit, [], []⟩
def dd_raw_difference : He.DefD := ⟨("raw_difference", none), "raw_difference", "raw_difference", defArgs st_raw_difference, defBody st_raw_difference, defScope st_raw_difference, [], []⟩
def dd_check_told : He.DefD := ⟨("check_told", none), "check_told", "check_told", defArgs st_check_told, defBody st_check_told, defScope st_check_told, [], []⟩
def dd_difference : He.DefD := ⟨("difference", none), "difference", "difference", defArgs st_difference, defBody st_difference, defScope st_difference, [], []⟩
def dd_check_polynomial : He.DefD := ⟨("check_polynomial", none), "check_polynomial", "check_polynomial", defArgs st_check_polynomial, defBody st_check_polynomial, defScope st_check_polynomial, [], []⟩
def dd_roots : He.DefD := ⟨("roots", none), "roots", "roots", defArgs st_roots, defBody st_roots, defScope st_roots, [], []⟩
def dd_number_of : He.DefD := ⟨("number_of", none), "number_of", "number_of", defArgs st_number_of, defBody st_number_of, defScope st_number_of, [], []⟩
def dd_raw_number_of : He.DefD := ⟨("raw_number_of", none), "raw_number_of", "raw_number_of", defArgs st_raw_number_of, defBody st_raw_number_of, defScope st_raw_number_of, [], []⟩
def dd_are_heads : He.DefD := ⟨("are_heads", none), "are_heads", "are_heads", defArgs st_are_heads, defBody st_are_heads, defScope st_are_heads, [], []⟩
def dd_is_named_head : He.DefD := ⟨("is_named_head", none), "is_named_head", "is_named_head", defArgs st_is_named_head, defBody st_is_named_head, defScope st_is_named_head, [], []⟩
def dd_are_blocks : He.DefD := ⟨("are_blocks", none), "are_blocks", "are_blocks", defArgs st_are_blocks, defBody st_are_blocks, defScope st_are_blocks, [], []⟩
def dd_are_leases : He.DefD := ⟨("are_leases", none), "are_leases", "are_leases", defArgs st_are_leases, defBody st_are_leases, defScope st_are_leases, [], []⟩
def dd_is_held : He.DefD := ⟨("is_held", none), "is_held", "is_held", defArgs st_is_held, defBody st_is_held, defScope st_is_held, [], []⟩
def dd_is_vote : He.DefD := ⟨("is_vote", none), "is_vote", "is_vote", defArgs st_is_vote, defBody st_is_vote, defScope st_is_vote, [], []⟩
def dd_is_ahead : He.DefD := ⟨("is_ahead", none), "is_ahead", "is_ahead", defArgs st_is_ahead, defBody st_is_ahead, defScope st_is_ahead, [], []⟩
def dd_is_kept : He.DefD := ⟨("is_kept", none), "is_kept", "is_kept", defArgs st_is_kept, defBody st_is_kept, defScope st_is_kept, [], []⟩
def dd_is_table : He.DefD := ⟨("is_table", none), "is_table", "is_table", defArgs st_is_table, defBody st_is_table, defScope st_is_table, [], []⟩
def dd_check_table : He.DefD := ⟨("check_table", none), "check_table", "check_table", defArgs st_check_table, defBody st_check_table, defScope st_check_table, [], []⟩
def dd_keeps : He.DefD := ⟨("keeps", none), "keeps", "keeps", defArgs st_keeps, defBody st_keeps, defScope st_keeps, [], []⟩
def dd_written : He.DefD := ⟨("written", none), "written", "written", defArgs st_written, defBody st_written, defScope st_written, [], []⟩
def dd_begin_mending : He.DefD := ⟨("begin_mending", none), "begin_mending", "begin_mending", defArgs st_begin_mending, defBody st_begin_mending, defScope st_begin_mending, [], []⟩
def dd_w_hat : He.DefD := ⟨("_law_hat", none), "_law_hat", "_law_hat", defArgs st_w_hat, defBody st_w_hat, defScope st_w_hat, [], []⟩
def dd_w_draw : He.DefD := ⟨("_law_draw", none), "_law_draw", "_law_draw", defArgs st_w_draw, defBody st_w_draw, defScope st_w_draw, [], []⟩
def dd_w_same : He.DefD := ⟨("_law_same", none), "_law_same", "_law_same", defArgs st_w_same, defBody st_w_same, defScope st_w_same, [], []⟩
def dd_w_prime : He.DefD := ⟨("_law_prime", none), "_law_prime", "_law_prime", defArgs st_w_prime, defBody st_w_prime, defScope st_w_prime, [], []⟩
def dd_w_number : He.DefD := ⟨("_law_number", none), "_law_number", "_law_number", defArgs st_w_number, defBody st_w_number, defScope st_w_number, [], []⟩
def dd_w_lot : He.DefD := ⟨("_law_lot", none), "_law_lot", "_law_lot", defArgs st_w_lot, defBody st_w_lot, defScope st_w_lot, [], []⟩
def dd_w_places : He.DefD := ⟨("_law_places", none), "_law_places", "_law_places", defArgs st_w_places, defBody st_w_places, defScope st_w_places, [], []⟩
def dd_w_product : He.DefD := ⟨("_law_product", none), "_law_product", "_law_product", defArgs st_w_product, defBody st_w_product, defScope st_w_product, [], []⟩
def dd_w_at : He.DefD := ⟨("_law_at", none), "_law_at", "_law_at", defArgs st_w_at, defBody st_w_at, defScope st_w_at, [], []⟩
def dd_w_bad_prime : He.DefD := ⟨("_law_bad_prime", none), "_law_bad_prime", "_law_bad_prime", defArgs st_w_bad_prime, defBody st_w_bad_prime, defScope st_w_bad_prime, [], []⟩
def dd_w_spoilt : He.DefD := ⟨("_law_spoilt", none), "_law_spoilt", "_law_spoilt", defArgs st_w_spoilt, defBody st_w_spoilt, defScope st_w_spoilt, [], []⟩
def dd_w_bad_lot : He.DefD := ⟨("_law_bad_lot", none), "_law_bad_lot", "_law_bad_lot", defArgs st_w_bad_lot, defBody st_w_bad_lot, defScope st_w_bad_lot, [], []⟩
def dd_w_bad_places : He.DefD := ⟨("_law_bad_places", none), "_law_bad_places", "_law_bad_places", defArgs st_w_bad_places, defBody st_w_bad_places, defScope st_w_bad_places, [], []⟩
def dd_w_bad_told : He.DefD := ⟨("_law_bad_told", none), "_law_bad_told", "_law_bad_told", defArgs st_w_bad_told, defBody st_w_bad_told, defScope st_w_bad_told, [], []⟩
def dd_w_bad_polynomial : He.DefD := ⟨("_law_bad_polynomial", none), "_law_bad_polynomial", "_law_bad_polynomial", defArgs st_w_bad_polynomial, defBody st_w_bad_polynomial, defScope st_w_bad_polynomial, [], []⟩
def dd_w_bad_count : He.DefD := ⟨("_law_bad_count", none), "_law_bad_count", "_law_bad_count", defArgs st_w_bad_count, defBody st_w_bad_count, defScope st_w_bad_count, [], []⟩
def dd_w_called : He.DefD := ⟨("_law_called", none), "_law_called", "_law_called", defArgs st_w_called, defBody st_w_called, defScope st_w_called, [], []⟩
def dd_w_refusal : He.DefD := ⟨("_law_refusal", none), "_law_refusal", "_law_refusal", defArgs st_w_refusal, defBody st_w_refusal, defScope st_w_refusal, [], []⟩
def dd_w_lots : He.DefD := ⟨("_law_lots", none), "_law_lots", "_law_lots", defArgs st_w_lots, defBody st_w_lots, defScope st_w_lots, [], []⟩
def dd_w_names : He.DefD := ⟨("_law_names", none), "_law_names", "_law_names", defArgs st_w_names, defBody st_w_names, defScope st_w_names, [], []⟩
def dd_w_homes : He.DefD := ⟨("_law_homes", none), "_law_homes", "_law_homes", defArgs st_w_homes, defBody st_w_homes, defScope st_w_homes, [], []⟩
def dd_w_good_right : He.DefD := ⟨("_law_good_right", none), "_law_good_right", "_law_good_right", defArgs st_w_good_right, defBody st_w_good_right, defScope st_w_good_right, [], []⟩
def dd_w_one : He.DefD := ⟨("_law_one", none), "_law_one", "_law_one", defArgs st_w_one, defBody st_w_one, defScope st_w_one, [], []⟩
def dd_law : He.DefD := ⟨("law", none), "law", "law", defArgs st_law, defBody st_law, defScope st_law, [], []⟩
def fnL : List He.DefD := ([dd_is_integer, dd_is_between, dd_is_count, dd_is_index, dd_is_tuple_of, dd_is_pair_of_numbers, dd_are_ascending, dd_is_home, dd_is_hand, dd_is_name, dd_are_signs, dd_is_piece, dd_is_id, dd_is_row, dd_is_stamp, dd_is_members, dd_is_small_prime, dd_inverse, dd_trimmed, dd_at_place, dd_monic, dd_parted, dd_common, dd_with_pivot, dd_solved, dd_check_prime, dd_check_numbers, dd_check_places, dd_check_value, dd_raw_values] : List He.DefD) ++ ([dd_values, dd_powers, dd_equation, dd_reduced, dd_raw_roots, dd_fit, dd_raw_difference, dd_check_told, dd_difference, dd_check_polynomial, dd_roots, dd_number_of, dd_raw_number_of, dd_are_heads, dd_is_named_head, dd_are_blocks, dd_are_leases, dd_is_held, dd_is_vote, dd_is_ahead, dd_is_kept, dd_is_table, dd_check_table, dd_keeps, dd_written, dd_begin_mending, dd_w_hat, dd_w_draw, dd_w_same, dd_w_prime] : List He.DefD) ++ ([dd_w_number, dd_w_lot, dd_w_places, dd_w_product, dd_w_at, dd_w_bad_prime, dd_w_spoilt, dd_w_bad_lot, dd_w_bad_places, dd_w_bad_told, dd_w_bad_polynomial, dd_w_bad_count, dd_w_called, dd_w_refusal, dd_w_lots, dd_w_names, dd_w_homes, dd_w_good_right, dd_w_one, dd_law] : List He.DefD)
def faL : List He.Fa := ([.glo "is_integer", .glo "is_between", .glo "is_count", .glo "is_index", .glo "is_tuple_of", .glo "is_pair_of_numbers", .glo "are_ascending", .glo "is_home", .glo "is_hand", .glo "is_name", .glo "are_signs", .glo "is_piece", .glo "is_id", .glo "is_row", .glo "is_stamp", .glo "is_members", .glo "is_small_prime", .glo "inverse", .glo "trimmed", .glo "at_place", .glo "monic", .glo "parted", .glo "common", .glo "with_pivot", .glo "solved", .glo "check_prime", .glo "check_numbers", .glo "check_places", .glo "check_value", .glo "raw_values"] : List He.Fa) ++ ([.glo "values", .glo "powers", .glo "equation", .glo "reduced", .glo "raw_roots", .glo "fit", .glo "raw_difference", .glo "check_told", .glo "difference", .glo "check_polynomial", .glo "roots", .glo "number_of", .glo "raw_number_of", .glo "are_heads", .glo "is_named_head", .glo "are_blocks", .glo "are_leases", .glo "is_held", .glo "is_vote", .glo "is_ahead", .glo "is_kept", .glo "is_table", .glo "check_table", .glo "keeps", .glo "written", .glo "begin_mending", .glo "_law_hat", .glo "_law_draw", .glo "_law_same", .glo "_law_prime"] : List He.Fa) ++ ([.glo "_law_number", .glo "_law_lot", .glo "_law_places", .glo "_law_product", .glo "_law_at", .glo "_law_bad_prime", .glo "_law_spoilt", .glo "_law_bad_lot", .glo "_law_bad_places", .glo "_law_bad_told", .glo "_law_bad_polynomial", .glo "_law_bad_count", .glo "_law_called", .glo "_law_refusal", .glo "_law_lots", .glo "_law_names", .glo "_law_homes", .glo "_law_good_right", .glo "_law_one", .glo "law", .glo "HomeError", .exc "HomeError", .glo "NoTable", .exc "NoTable", .glo "NoName", .exc "NoName", .glo "NoHomeNumber", .exc "NoHomeNumber", .glo "NoNumber", .exc "NoNumber"] : List He.Fa) ++ ([.glo "NoPrime", .exc "NoPrime", .glo "NoNumbers", .exc "NoNumbers", .glo "NoPlaces", .exc "NoPlaces", .glo "NoValues", .exc "NoValues", .glo "NoPolynomial", .exc "NoPolynomial", .glo "NoStamp", .exc "NoStamp", .int "MOST_HOMES" 9, .int "MOST_HANDS" 99, .int "MOST_IN_NAME" 8, .int "MOST_IN_PIECE" 8, .int "MOST_IN_ROW" 12, .str "LETTERS" "abcdefghijklmnopqrstuvwxyz", .glo "FIRST_STAMP", .int "GREAT_PRIME" 618970019642690137449562111, .int "SMALL_PRIMES" 10000, .int "MOST_PLACES" 64, .int "MOST_NUMBERS" 200, .int "EPOCH" 0, .int "MEMBERS" 1, .int "AHEAD" 2, .int "CLOCK" 3, .int "HEADS" 4, .int "BLOCKS" 5, .int "LEASES" 6] : List He.Fa) ++ ([.int "PROMISE" 7, .int "VOTED" 8, .int "NEXT" 9, .int "FIRST_MANY" 2, .str "HOME" "home", .free "ValueError", .free "all", .free "any", .free "bool", .free "enumerate", .free "int", .free "isinstance", .free "len", .free "list", .free "max", .free "min", .free "ord", .free "range", .free "sorted", .free "str", .free "tuple", .free "zip"] : List He.Fa)
def looseL : List Str := (["is_integer", "is_between", "is_count", "is_index", "is_tuple_of", "is_pair_of_numbers", "are_ascending", "is_home", "is_hand", "is_name", "are_signs", "is_piece", "is_id", "is_row", "is_stamp", "is_members", "is_small_prime", "inverse", "trimmed", "at_place", "monic", "parted", "common", "with_pivot", "solved", "check_prime", "check_numbers", "check_places", "check_value", "raw_values"] : List Str) ++ (["values", "powers", "equation", "reduced", "raw_roots", "fit", "raw_difference", "check_told", "difference", "check_polynomial", "roots", "number_of", "raw_number_of", "are_heads", "is_named_head", "are_blocks", "are_leases", "is_held", "is_vote", "is_ahead", "is_kept", "is_table", "check_table", "keeps", "written", "begin_mending", "_law_hat", "_law_draw", "_law_same", "_law_prime"] : List Str) ++ (["_law_number", "_law_lot", "_law_places", "_law_product", "_law_at", "_law_bad_prime", "_law_spoilt", "_law_bad_lot", "_law_bad_places", "_law_bad_told", "_law_bad_polynomial", "_law_bad_count", "_law_called", "_law_refusal", "_law_lots", "_law_names", "_law_homes", "_law_good_right", "_law_one", "HomeError", "NoTable", "NoName", "NoHomeNumber", "NoNumber", "NoPrime", "NoNumbers", "NoPlaces", "NoValues", "NoPolynomial", "NoStamp"] : List Str) ++ (["MOST_HOMES", "MOST_HANDS", "MOST_IN_NAME", "MOST_IN_PIECE", "MOST_IN_ROW", "LETTERS", "FIRST_STAMP", "GREAT_PRIME", "SMALL_PRIMES", "MOST_PLACES", "MOST_NUMBERS", "EPOCH", "MEMBERS", "AHEAD", "CLOCK", "HEADS", "BLOCKS", "LEASES", "PROMISE", "VOTED", "NEXT", "FIRST_MANY", "HOME"] : List Str)
def exB (K : PySem.W.Frag) : Bool := He.tupB K "FIRST_STAMP" [.int 0, .int 0] && (ksL.all (HK.errB K "HomeError" ksL))
abbrev R : PySem.W.OpenRow := PySem.W.OpenLaw.row PySem.Challenge.rw_homeshold_k43_lots_refused
abbrev hk : PySem.W.Hook := HK.hookA faL fnL exB
def ob (s : PySem.W.SharedT) : (He.AlD × Bool) := HK.obA faL fnL exB s
theorem ob_eq (s : PySem.W.SharedT) : ob s = hk.obs s.abs := HK.obA_eq s
theorem run (w : World) : HandSHeadRun.RunEq R (PySem.W.view R.prog [121]) hk ob 20000 looseL w := by
  intro os
  kernel_rfl
end K43

set_option Elab.async false
set_option linter.all false
set_option maxRecDepth 100000
set_option maxHeartbeats 4000000
/-! PD: plain data over the hand layer -/
namespace PD
noncomputable section
open PySem PySem.Spec PyProof.Rows L2

abbrev D := PyData

mutual
inductive Rp (K : PySem.W.Frag) (G : Hp) : V → D → Prop
  | non : Rp K G .non .none
  | bl (b : Bool) : Rp K G (.bl b) (.bool b)
  | int (i : Int) : Rp K G (.int i) (.int i)
  | str (x : Str) : Rp K G (.str x) (.str x)
  | lst {a : Addr} {xs : List V} {ds : List D} : SqL K G a xs → RpA K G xs ds → Rp K G (.ref a) (.list ds)
  | tup {a : Addr} {xs : List V} {ds : List D} : SqT K G a xs → RpA K G xs ds → Rp K G (.ref a) (.tuple ds)
  | dic {a : Addr} {kvs : List (Key × V)} {kd : List (D × D)} : G a = some (.dK kvs) → Rp K G (.ref a) (.dict kd)
inductive RpA (K : PySem.W.Frag) (G : Hp) : List V → List D → Prop
  | nil : RpA K G [] []
  | cons {v : V} {vs : List V} {d : D} {ds : List D} : Rp K G v d → RpA K G vs ds → RpA K G (v :: vs) (d :: ds)
end

theorem seqT {K : PySem.W.Frag} {H H' : Hp} {a : Addr} {xs : List V} (e : Same H H') (h : SqT K H a xs) : SqT K H' a xs := by
  rcases h with (h | ⟨o, h⟩) | h
  · exact .inl (.inl (e _ _ h))
  · exact .inl (.inr ⟨o, e _ _ h⟩)
  · exact .inr h
mutual
theorem Rp.mono {K : PySem.W.Frag} {G G' : Hp} (s : Same G G') : ∀ {v : V} {d : D}, Rp K G v d → Rp K G' v d
  | _, _, .non => .non
  | _, _, .bl b => .bl b
  | _, _, .int i => .int i
  | _, _, .str x => .str x
  | _, _, .lst h r => .lst (Same.seq s h) (RpA.mono s r)
  | _, _, .tup h r => .tup (seqT s h) (RpA.mono s r)
  | _, _, .dic h => .dic (s _ _ h)
theorem RpA.mono {K : PySem.W.Frag} {G G' : Hp} (s : Same G G') : ∀ {vs : List V} {ds : List D}, RpA K G vs ds → RpA K G' vs ds
  | _, _, .nil => .nil
  | _, _, .cons h r => .cons (Rp.mono s h) (RpA.mono s r)
end
theorem RpA.length {K : PySem.W.Frag} {G : Hp} : ∀ {vs : List V} {ds : List D}, RpA K G vs ds → vs.length = ds.length
  | _, _, .nil => rfl
  | _, _, .cons _ r => by simp [RpA.length r]
theorem RpA.get {K : PySem.W.Frag} {G : Hp} : ∀ {vs : List V} {ds : List D} {i : Nat} {d : D}, RpA K G vs ds → ds[i]? = some d → ∃ v, vs[i]? = some v ∧ Rp K G v d
  | _, _, _, _, .nil, e => by simp at e
  | _, _, 0, _, .cons h _, e => by simp at e; subst e; exact ⟨_, rfl, h⟩
  | _, _, i + 1, d, .cons _ r, e => by
    obtain ⟨v, a, b⟩ := RpA.get (i := i) (d := d) r (by simpa using e)
    exact ⟨v, by simpa using a, b⟩
theorem RpA.getV {K : PySem.W.Frag} {G : Hp} : ∀ {vs : List V} {ds : List D} {i : Nat} {v : V}, RpA K G vs ds → vs[i]? = some v → ∃ d, ds[i]? = some d ∧ Rp K G v d
  | _, _, _, _, .nil, e => by simp at e
  | _, _, 0, _, .cons h _, e => by simp at e; subst e; exact ⟨_, rfl, h⟩
  | _, _, i + 1, d, .cons _ r, e => by
    obtain ⟨v, a, b⟩ := RpA.getV (i := i) (v := d) r (by simpa using e)
    exact ⟨v, by simpa using a, b⟩
theorem RpA.append {K : PySem.W.Frag} {G : Hp} : ∀ {vs ws : List V} {ds es : List D}, RpA K G vs ds → RpA K G ws es → RpA K G (vs ++ ws) (ds ++ es)
  | _, _, _, _, .nil, s => s
  | _, _, _, _, .cons h r, s => .cons h (RpA.append r s)
theorem RpA.take {K : PySem.W.Frag} {G : Hp} : ∀ {vs : List V} {ds : List D} (n : Nat), RpA K G vs ds → RpA K G (vs.take n) (ds.take n)
  | _, _, 0, _ => .nil
  | _, _, _ + 1, .nil => .nil
  | _, _, n + 1, .cons h r => .cons h (RpA.take n r)
theorem RpA.drop {K : PySem.W.Frag} {G : Hp} : ∀ {vs : List V} {ds : List D} (n : Nat), RpA K G vs ds → RpA K G (vs.drop n) (ds.drop n)
  | _, _, 0, r => r
  | _, _, _ + 1, .nil => .nil
  | _, _, n + 1, .cons _ r => RpA.drop n r
theorem RpA.set {K : PySem.W.Frag} {G : Hp} {v : V} {d : D} (h : Rp K G v d) : ∀ {vs : List V} {ds : List D} (n : Nat), RpA K G vs ds → RpA K G (vs.set n v) (ds.set n d)
  | _, _, _, .nil => .nil
  | _, _, 0, .cons _ r => .cons h r
  | _, _, n + 1, .cons q r => .cons q (RpA.set h n r)
theorem RpA.eraseIdx {K : PySem.W.Frag} {G : Hp} : ∀ {vs : List V} {ds : List D} (n : Nat), RpA K G vs ds → RpA K G (vs.eraseIdx n) (ds.eraseIdx n)
  | _, _, _, .nil => .nil
  | _, _, 0, .cons _ r => r
  | _, _, n + 1, .cons q r => .cons q (RpA.eraseIdx n r)
theorem RpA.reverse {K : PySem.W.Frag} {G : Hp} : ∀ {vs : List V} {ds : List D}, RpA K G vs ds → RpA K G vs.reverse ds.reverse
  | _, _, .nil => .nil
  | _, _, .cons h r => by
    rw [List.reverse_cons, List.reverse_cons]
    exact (RpA.reverse r).append (.cons h .nil)

/-! ### values and states -/
/-- a value: plain data; a cell that may change, by its number; a list that was just made and that nobody else has -/
inductive W where
  | d (x : D) | c (n : Nat) | f (xs : List D)
/-- what a cell holds -/
inductive Cell where
  | l (xs : List D) | m (kvs : List (Key × D))
/-- slots, cells (a dead one is none), how many cells are the callers' -/
structure S where
  env : List (Option W)
  mem : List (Option Cell)
  base : Nat
inductive Res (α : Type) where
  | ok (a : α) | exc (c : Str) | bad
def Res.bind {α β : Type} (r : Res α) (k : α → Res β) : Res β := match r with
  | .ok a => k a
  | .exc c => .exc c
  | .bad => .bad
theorem Res.bind_ok {α β : Type} (a : α) (k : α → Res β) : (Res.ok a).bind k = k a := rfl
theorem Res.bind_exc {α β : Type} (c : Str) (k : α → Res β) : (Res.exc c : Res α).bind k = .exc c := rfl
theorem Res.bind_bad {α β : Type} (k : α → Res β) : (Res.bad : Res α).bind k = .bad := rfl
abbrev EM := S → Res (W × S)

def CellAt (K : PySem.W.Frag) (G H : Hp) (a : Addr) : Cell → Prop
  | .l xs => ∃ vs, H a = some (.lst vs) ∧ RpA K G vs xs
  | .m kvs => ∃ vs, H a = some (.dK vs) ∧ Paired (fun (p : Key × V) (q : Key × D) => p.1 = q.1 ∧ Rp K G p.2 q.2) vs kvs
/-- v stands for w; F: what others own -/
def RpW (K : PySem.W.Frag) (F : Addr → Prop) (G H : Hp) (as : List Addr) (v : V) : W → Prop
  | .d x => Rp K G v x
  | .c n => ∃ a, as[n]? = some a ∧ v = .ref a
  | .f xs => ∃ a vs, v = .ref a ∧ H a = some (.lst vs) ∧ G a = none ∧ a ∉ as ∧ ¬ F a ∧ RpA K G vs xs
def live (as : List Addr) (s : S) (a : Addr) : Prop := ∃ (n : Nat) (c : Cell), s.mem[n]? = some (some c) ∧ as[n]? = some a
structure Rep (K : PySem.W.Frag) (F : Addr → Prop) (G H : Hp) (as : List Addr) (σ : L2.St) (s : S) : Prop where
  same : Same G H
  len : σ.length = s.env.length
  alen : as.length = s.mem.length
  nd : as.Nodup
  dom : ∀ a ∈ as, ∃ o, H a = some o
  fo : ∀ a, F a → G a = none ∧ a ∉ as ∧ ∃ o, H a = some o
  cell : ∀ (n : Nat) (c : Cell), s.mem[n]? = some (some c) → ∃ a, as[n]? = some a ∧ G a = none ∧ CellAt K G H a c
  env : ∀ (i : Nat) (w : W), s.env[i]? = some (some w) → ∃ v, σ[i]? = some (some v) ∧ RpW K F G H as v w ∧ ∀ xs, w ≠ .f xs
structure Ext (G H : Hp) (L : Addr → Prop) (G' H' : Hp) (L' : Addr → Prop) : Prop where
  same : Same G G'
  keep : ∀ a o, H a = some o → ¬ L a → H' a = some o
  new : ∀ a, L' a → L a ∨ H a = none
theorem Ext.refl (G H : Hp) (L : Addr → Prop) : Ext G H L G H L := ⟨Same.refl _, fun _ _ h _ => h, fun _ h => .inl h⟩
theorem Ext.nl {G H G1 H1 : Hp} {L L1 : Addr → Prop} (a : Ext G H L G1 H1 L1) {x : Addr} {o : HO} (h : H x = some o) (nl : ¬ L x) : ¬ L1 x := fun q => by
  rcases a.new x q with z | z
  · exact nl z
  · rw [h] at z; cases z
theorem Ext.trans {G H G1 H1 G2 H2 : Hp} {L L1 L2 : Addr → Prop} (a : Ext G H L G1 H1 L1) (b : Ext G1 H1 L1 G2 H2 L2) : Ext G H L G2 H2 L2 := by
  refine ⟨a.same.trans b.same, fun x o h n => b.keep x o (a.keep x o h n) (a.nl h n), fun x h => ?_⟩
  rcases b.new x h with z | z
  · exact a.new x z
  · by_cases q : L x
    · exact .inl q
    · refine .inr ?_
      cases e : H x with
      | none => rfl
      | some o => rw [a.keep x o e q] at z; cases z
/-- what is pending: a list that was just made -/
def pn (F : Addr → Prop) (v : V) (w : W) (a : Addr) : Prop := F a ∨ ((∃ xs, w = .f xs) ∧ v = .ref a)
theorem not_live {as : List Addr} {s : S} {a : Addr} (h : a ∉ as) : ¬ live as s a := fun ⟨_, _, _, q⟩ => h (List.mem_of_getElem? q)
theorem RpW.mono {K : PySem.W.Frag} {F : Addr → Prop} {G H G' H' : Hp} {L' : Addr → Prop} {as : List Addr} {s s' : S} {σ' : L2.St} {v : V} {w : W} (h : RpW K F G H as v w) (R : Rep K (pn F v w) G' H' as σ' s') (e : Ext G H (live as s) G' H' L') : RpW K F G' H' as v w := by
  cases w with
  | d x => exact Rp.mono e.same h
  | c n => exact h
  | f xs =>
    obtain ⟨a, vs, rfl, h1, h2, h3, h4, h5⟩ := h
    exact ⟨a, vs, rfl, e.keep _ _ h1 (not_live h3), (R.fo a (.inr ⟨⟨xs, rfl⟩, rfl⟩)).1, h3, h4, h5.mono e.same⟩
theorem RpW.weak {K : PySem.W.Frag} {F F' : Addr → Prop} {G H : Hp} {as : List Addr} {v : V} {w : W} (h : RpW K F' G H as v w) (k : ∀ a, F a → F' a) : RpW K F G H as v w := by
  cases w with
  | d x => exact h
  | c n => exact h
  | f xs =>
    obtain ⟨a, vs, e, h1, h2, h3, h4, h5⟩ := h
    exact ⟨a, vs, e, h1, h2, h3, fun q => h4 (k a q), h5⟩
/-- fewer others -/
theorem Rep.weak {K : PySem.W.Frag} {F F' : Addr → Prop} {G H : Hp} {as : List Addr} {σ : L2.St} {s : S} (R : Rep K F' G H as σ s) (k : ∀ a, F a → F' a) : Rep K F G H as σ s :=
  ⟨R.same, R.len, R.alen, R.nd, R.dom, fun a h => R.fo a (k a h), R.cell, fun i w h => by
    obtain ⟨v, e, r, n⟩ := R.env i w h
    exact ⟨v, e, r.weak k, n⟩⟩
theorem RpW.noF {K : PySem.W.Frag} {F F' : Addr → Prop} {G H : Hp} {as : List Addr} {v : V} {w : W} (h : RpW K F G H as v w) (n : ∀ xs, w ≠ .f xs) : RpW K F' G H as v w := by
  cases w with
  | d x => exact h
  | c m => exact h
  | f xs => exact absurd rfl (n xs)
/-- one more other -/
theorem Rep.pend {K : PySem.W.Frag} {F : Addr → Prop} {G H : Hp} {as : List Addr} {σ : L2.St} {s : S} {v : V} {w : W} (R : Rep K F G H as σ s) (r : RpW K F G H as v w) : Rep K (pn F v w) G H as σ s :=
  ⟨R.same, R.len, R.alen, R.nd, R.dom, fun a h => by
    rcases h with h | ⟨⟨xs, rfl⟩, e⟩
    · exact R.fo a h
    · obtain ⟨b, vs, rfl, h1, h2, h3, h4, h5⟩ := r
      cases e
      exact ⟨h2, h3, _, h1⟩, R.cell, fun i w' h => by
    obtain ⟨v', e, r', n⟩ := R.env i w' h
    exact ⟨v', e, r'.noF n, n⟩⟩
theorem Rep.unpend {K : PySem.W.Frag} {F : Addr → Prop} {G H : Hp} {as : List Addr} {σ : L2.St} {s : S} {v : V} {w : W} (R : Rep K (pn F v w) G H as σ s) : Rep K F G H as σ s := R.weak fun _ h => .inl h

/-! ### expressions -/
/-- a list that was made since H -/
def New (H : Hp) (v : V) (w : W) : Prop := ∀ xs a, w = .f xs → v = .ref a → H a = none
/-- behind a step from (G, H, s) that gives r, Q is wanted -/
def eK (K : PySem.W.Frag) (mg : Str → Option Value) (E : XK) (F : Addr → Prop) (G H : Hp) (as : List Addr) (s : S) (σ : L2.St) (r : Res (W × S)) (Q : VK) : Prop := match r with
  | .ok (w, s') => ∀ v G' H', Rep K F G' H' as σ s' → Ext G H (live as s) G' H' (live as s') → RpW K F G' H' as v w → New H v w → Q v H'
  | .exc c => ∀ C H', mg c = some (.ref C) → (∀ a o, H a = some o → ¬ live as s a → H' a = some o) → E (.ref C) none H'
  | .bad => False
def eT (K : PySem.W.Frag) (mg : Str → Option Value) (E : XK) (f : EM) : TE := fun σ H Q => ∃ (F : Addr → Prop) (G : Hp) (as : List Addr) (s : S), Rep K F G H as σ s ∧ eK K mg E F G H as s σ (f s) Q
structure PDE (X : Cx) (E : XK) (e : Expr) (f : EM) : Prop where
  pe : PE X e (eT X.K X.mg E f)
section
variable {K : PySem.W.Frag} {mg : Str → Option Value} {E : XK} {F : Addr → Prop} {G H G1 H1 : Hp} {as : List Addr} {s s1 : S} {σ : L2.St}
theorem keepX {H' : Hp} {L L1 : Addr → Prop} (e : Ext G H L G1 H1 L1) (k : ∀ a o, H1 a = some o → ¬ L1 a → H' a = some o) : ∀ a o, H a = some o → ¬ L a → H' a = some o := fun a o h n =>
  k a o (e.keep a o h n) (e.nl h n)
theorem newX {a : Addr} (R : Rep K F G H as σ s) (R1 : Rep K F G1 H1 as σ s1) (e : Ext G H (live as s) G1 H1 (live as s1)) (h : H1 a = none) : H a = none := by
  cases q : H a with
  | none => rfl
  | some o =>
    by_cases l : live as s a
    · obtain ⟨n, c, _, z⟩ := l
      obtain ⟨o', z'⟩ := R1.dom a (List.mem_of_getElem? z)
      rw [h] at z'; cases z'
    · rw [e.keep a o q l] at h; cases h
theorem eK.ext {r : Res (W × S)} {Q : VK} (h : eK K mg E F G H as s σ r Q) (R : Rep K F G H as σ s) (R1 : Rep K F G1 H1 as σ s1) (e : Ext G H (live as s) G1 H1 (live as s1)) : eK K mg E F G1 H1 as s1 σ r Q := by
  cases r with
  | ok p => exact fun v G' H' R' x w n => h v G' H' R' (e.trans x) w fun xs a hw hv => newX R R1 e (n xs a hw hv)
  | exc c => exact fun C H' hc k => h C H' hc (keepX e k)
  | bad => exact h
/-- from one step to the next one -/
theorem eT.seq {fa : EM} {k : W × S → Res (W × S)} {Q Q1 : VK} (R : Rep K F G H as σ s) (h : eK K mg E F G H as s σ ((fa s).bind k) Q)
    (hk : ∀ (G1 H1 : Hp) (w : W) (s1 : S) (v : V), Rep K F G1 H1 as σ s1 → Ext G H (live as s) G1 H1 (live as s1) → RpW K F G1 H1 as v w → New H v w → eK K mg E F G1 H1 as s1 σ (k (w, s1)) Q → Q1 v H1) : eT K mg E fa σ H Q1 := by
  refine ⟨F, G, as, s, R, ?_⟩
  cases e : fa s with
  | ok p =>
    obtain ⟨w, s1⟩ := p
    rw [e] at h
    exact fun v G1 H1 R1 X1 r n => hk G1 H1 w s1 v R1 X1 r n (eK.ext h R R1 X1)
  | exc c => rw [e] at h; exact h
  | bad => rw [e] at h; exact h
/-- .. with a value v0 that waits -/
theorem eT.seqP {fa : EM} {k : W × S → Res (W × S)} {Q Q1 : VK} {v0 : V} {w0 : W} (R : Rep K F G H as σ s) (r0 : RpW K F G H as v0 w0) (h : eK K mg E F G H as s σ ((fa s).bind k) Q)
    (hk : ∀ (G1 H1 : Hp) (w : W) (s1 : S) (v : V), Rep K F G1 H1 as σ s1 → Ext G H (live as s) G1 H1 (live as s1) → RpW K F G1 H1 as v0 w0 → RpW K F G1 H1 as v w → New H v w → eK K mg E F G1 H1 as s1 σ (k (w, s1)) Q → Q1 v H1) : eT K mg E fa σ H Q1 := by
  refine ⟨pn F v0 w0, G, as, s, R.pend r0, ?_⟩
  cases e : fa s with
  | ok p =>
    obtain ⟨w, s1⟩ := p
    rw [e] at h
    exact fun v G1 H1 R1 X1 r n => hk G1 H1 w s1 v R1.unpend X1 (r0.mono R1 X1) (r.weak fun _ z => .inl z) n (eK.ext h R R1.unpend X1)
  | exc c => rw [e] at h; exact h
  | bad => rw [e] at h; exact h
end
theorem PE.imp {X : Cx} {e : Expr} {t t' : TE} (h : PE X e t) (k : ∀ σ H Q, t' σ H Q → t σ H Q) : PE X e t' := ⟨fun pins s σ H Q I q => h.run pins s σ H Q I (k σ H Q q)⟩
theorem PT.imp {X : Cx} {e : Expr} {t t' : TT} (h : PT X e t) (k : ∀ σ H Q, t' σ H Q → t σ H Q) : PT X e t' := ⟨fun pins s σ H Q I q => h.run pins s σ H Q I (k σ H Q q)⟩
theorem PW.imp {X : Cx} {e : Expr} {t t' : TT} (h : PW X e t) (k : ∀ σ H Q, t' σ H Q → t σ H Q) : PW X e t' := ⟨fun wh pins s σ H Q I q => h.run wh pins s σ H Q I (k σ H Q q)⟩
theorem PA.imp {X : Cx} {e : List Expr} {t t' : TA} (h : PA X e t) (k : ∀ σ H Q, t' σ H Q → t σ H Q) : PA X e t' := ⟨fun pos pins s σ H Q I q => h.run pos pins s σ H Q I (k σ H Q q)⟩
theorem PS.imp {X : Cx} {e : Stmt} {t t' : TS} (h : PS X e t) (k : ∀ D σ H, t' D σ H → t D σ H) : PS X e t' := ⟨fun pins s σ H D I q => h.run pins s σ H D I (k D σ H q)⟩
theorem PSs.imp {X : Cx} {e : List Stmt} {t t' : TS} (h : PSs X e t) (k : ∀ D σ H, t' D σ H → t D σ H) : PSs X e t' := ⟨fun pins s σ H D I q => h.run pins s σ H D I (k D σ H q)⟩


section
variable {X : Cx} {E : XK} {a b c : Expr} {fa fb fc : EM} {pos : Pos}
/-! ### names and constants -/
def eVar (i : Nat) : EM := fun s => match s.env[i]? with
  | some (some w) => .ok (w, s)
  | _ => .bad
theorem pd_var (i : Nat) {x : Str} {pos : Pos} (hN : X.N[i]? = some x := by rfl) (hv : Vis X.env.scope x := by first | exact Or.inl rfl | exact Or.inr (Or.inl rfl) | exact Or.inr (Or.inr rfl)) (hd : (x == ("__debug__" : Str)) = false := by decide)
    (hcd : (x == ("__classdict__" : Str)) = false := by decide) : PDE X E (.Name x pos) (eVar i) := ⟨PE.imp (pe_var hN hv hd hcd) fun σ H Q h => by
  obtain ⟨F, G, as, s, R, h⟩ := h
  unfold eVar at h
  split at h
  · rename_i w e
    obtain ⟨v, e1, r, nf⟩ := R.env i w e
    exact ⟨v, e1, h v G H R (Ext.refl _ _ _) r fun xs a e _ => absurd e (nf xs)⟩
  · exact h.elim⟩
def eC (x : D) : EM := fun s => .ok (.d x, s)
theorem pd_const {e : Expr} {v : V} {x : D} (h : PE X e (tC v)) (r : ∀ G, Rp X.K G v x) : PDE X E e (eC x) := ⟨PE.imp h fun σ H Q h => by
  obtain ⟨F, G, as, s, R, h⟩ := h
  exact h v G H R (Ext.refl _ _ _) (r G) (fun _ _ e _ => nomatch e)⟩
theorem pd_int {i j pos} : PDE X E (.Constant (.int i) j pos) (eC (.int i)) := pd_const pe_int fun _ => .int i
theorem pd_bl {b j pos} : PDE X E (.Constant (.bool b) j pos) (eC (.bool b)) := pd_const pe_bl fun _ => .bl b
theorem pd_non {j pos} : PDE X E (.Constant .none j pos) (eC .none) := pd_const pe_non fun _ => .non
theorem pd_str {x j pos} : PDE X E (.Constant (.str x) j pos) (eC (.str x)) := pd_const pe_str fun _ => .str x
theorem pd_gint {x : Str} {pos : Pos} {i : Int} (hm : ∃ t, X.mg x = some (.int i t)) (hg : Gl X x := by rfl) (hd : (x == ("__debug__" : Str)) = false := by decide) : PDE X E (.Name x pos) (eC (.int i)) := by
  obtain ⟨t, hm⟩ := hm
  exact pd_const (pe_glob hg hm (show RelV (V.int i) _ from ⟨t, rfl⟩) hd) fun _ => .int i
theorem pd_gstr {x : Str} {pos : Pos} {z : Str} (hm : ∃ t, X.mg x = some (.str z t)) (hg : Gl X x := by rfl) (hd : (x == ("__debug__" : Str)) = false := by decide) : PDE X E (.Name x pos) (eC (.str z)) := by
  obtain ⟨t, hm⟩ := hm
  exact pd_const (pe_glob hg hm (show RelV (V.str z) _ from ⟨t, rfl⟩) hd) fun _ => .str z

/-! ### operators by values -/
/-- r is met where g tells what comes -/
def OpD (X : Cx) (E : XK) (r : R2) (g : W → W → EM) : Prop := ∀ (F : Addr → Prop) (G H : Hp) (as : List Addr) (s : S) (σ : L2.St) (x y : V) (wa wb : W) (Q : VK), Rep X.K F G H as σ s → RpW X.K F G H as x wa → RpW X.K F G H as y wb → eK X.K X.mg E F G H as s σ (g wa wb s) Q → r x y H Q
def eBin (g : W → W → EM) (fa fb : EM) : EM := fun s => (fa s).bind fun p => (fb p.2).bind fun q => g p.1 q.1 q.2
theorem bin_ok {r : R2} {g : W → W → EM} (hg : OpD X E r g) (σ : L2.St) (H : Hp) (Q : VK) (h : eT X.K X.mg E (eBin g fa fb) σ H Q) : tOp r (eT X.K X.mg E fa) (eT X.K X.mg E fb) σ H Q := by
  obtain ⟨F, G, as, s, R, h⟩ := h
  refine eT.seq R h fun G1 H1 w s1 v R1 X1 r1 _ h1 => ?_
  refine eT.seqP R1 r1 h1 fun G2 H2 w2 s2 v2 R2 X2 r1 r2 _ h2 => ?_
  exact hg F G2 H2 as s2 σ v v2 w w2 Q R2 r1 r2 h2
theorem pd_op {op : Operator} {r : R2} {g : W → W → EM} (ho : OpR X (binaryOp op) r) (hg : OpD X E r g) (ha : PDE X E a fa) (hb : PDE X E b fb) : PDE X E (.BinOp a op b pos) (eBin g fa fb) :=
  ⟨PE.imp (pe_op ho ha.pe hb.pe) (bin_ok hg)⟩
theorem pd_cmp {op : CmpOp} {r : R2} {g : W → W → EM} (ho : OpR X (compareOp op) r) (hg : OpD X E r g) (ha : PDE X E a fa) (hb : PDE X E b fb) (hm : behindInMarks op b = false := by first | exact nomark _ | rfl) : PDE X E (.Compare a [op] [b] pos) (eBin g fa fb) :=
  ⟨PE.imp (pe_cmpR ho ha.pe hb.pe hm) (bin_ok hg)⟩
/-- a plain answer -/
theorem eK.val {F : Addr → Prop} {G H : Hp} {as : List Addr} {s : S} {σ : L2.St} {K : PySem.W.Frag} {mg : Str → Option Value} {x : D} {v : V} {Q : VK} (R : Rep K F G H as σ s) (h : eK K mg E F G H as s σ (.ok (.d x, s)) Q) (r : Rp K G v x) : Q v H := h v G H R (Ext.refl _ _ _) r (fun _ _ e _ => nomatch e)
/-- two ints -/
def g2I (f : Int → Int → Option D) : W → W → EM := fun wa wb s => match wa, wb with
  | .d (.int i), .d (.int j) => (match f i j with
    | some x => .ok (.d x, s)
    | none => .bad)
  | _, _ => .bad
theorem g2I_ok {f : Int → Int → Option D} {wa wb : W} {s : S} {K : PySem.W.Frag} {mg : Str → Option Value} {F : Addr → Prop} {G H : Hp} {as : List Addr} {σ : L2.St} {x y : V} {Q : VK} (ra : RpW K F G H as x wa) (rb : RpW K F G H as y wb) (h : eK K mg E F G H as s σ (g2I f wa wb s) Q) :
    ∃ i j z, x = .int i ∧ y = .int j ∧ f i j = some z ∧ eK K mg E F G H as s σ (.ok (.d z, s)) Q := by
  unfold g2I at h
  split at h
  · rename_i i j
    split at h
    · rename_i z e
      cases ra; cases rb
      exact ⟨i, j, z, rfl, rfl, e, h⟩
    · exact h.elim
  · exact h.elim
theorem od_int {f : Int → Int → Int} : OpD X E (rI0 fun i j => .int (f i j)) (g2I fun i j => some (.int (f i j))) := fun F G H as s σ x y wa wb Q R ra rb h => by
  obtain ⟨i, j, z, rfl, rfl, e, h⟩ := g2I_ok ra rb h
  cases e
  exact ⟨i, j, rfl, rfl, eK.val R h (.int _)⟩
theorem od_intC {f : Int → Int → Int} {C : Int → Int → Prop} {cb : Int → Int → Bool} (hc : ∀ i j, cb i j = true → C i j) : OpD X E (rI C fun i j => .int (f i j)) (g2I fun i j => if cb i j then some (.int (f i j)) else none) := fun F G H as s σ x y wa wb Q R ra rb h => by
  obtain ⟨i, j, z, rfl, rfl, e, h⟩ := g2I_ok ra rb h
  split at e
  · rename_i hb
    cases e
    exact ⟨i, j, rfl, rfl, hc _ _ hb, eK.val R h (.int _)⟩
  · cases e
theorem od_bool {f : Int → Int → Bool} : OpD X E (rI0 fun i j => .bl (f i j)) (g2I fun i j => some (.bool (f i j))) := fun F G H as s σ x y wa wb Q R ra rb h => by
  obtain ⟨i, j, z, rfl, rfl, e, h⟩ := g2I_ok ra rb h
  cases e
  exact ⟨i, j, rfl, rfl, eK.val R h (.bl _)⟩
abbrev eAdd := eBin (g2I fun i j => some (.int (i + j)))
abbrev eSub := eBin (g2I fun i j => some (.int (i - j)))
theorem pd_addI (ha : PDE X E a fa) (hb : PDE X E b fb) : PDE X E (.BinOp a .Add b pos) (eAdd fa fb) := pd_op op_add od_int ha hb
theorem pd_subI (ha : PDE X E a fa) (hb : PDE X E b fb) : PDE X E (.BinOp a .Sub b pos) (eSub fa fb) := pd_op op_sub od_int ha hb
abbrev eLt := eBin (g2I fun i j => some (.bool (decide (i < j))))
abbrev eLe := eBin (g2I fun i j => some (.bool (decide (i ≤ j))))
abbrev eGt := eBin (g2I fun i j => some (.bool (decide (j < i))))
abbrev eGe := eBin (g2I fun i j => some (.bool (decide (j ≤ i))))
theorem pd_lt (ha : PDE X E a fa) (hb : PDE X E b fb) : PDE X E (.Compare a [.Lt] [b] pos) (eLt fa fb) := pd_cmp op_lt od_bool ha hb
theorem pd_le (ha : PDE X E a fa) (hb : PDE X E b fb) : PDE X E (.Compare a [.LtE] [b] pos) (eLe fa fb) := pd_cmp op_le od_bool ha hb
theorem pd_gt (ha : PDE X E a fa) (hb : PDE X E b fb) : PDE X E (.Compare a [.Gt] [b] pos) (eGt fa fb) := pd_cmp op_gt od_bool ha hb
theorem pd_ge (ha : PDE X E a fa) (hb : PDE X E b fb) : PDE X E (.Compare a [.GtE] [b] pos) (eGe fa fb) := pd_cmp op_ge od_bool ha hb
end
end
end PD

set_option Elab.async false
set_option linter.all false
set_option maxRecDepth 100000
set_option maxHeartbeats 4000000
namespace PD
noncomputable section
open PySem PySem.Spec PyProof.Rows L2

/-! ### what a value is as data -/
def dat (s : S) : W → Option D
  | .d x => some x
  | .c n => (match s.mem[n]? with
    | some (some (.l xs)) => some (.list xs)
    | _ => none)
  | .f xs => some (.list xs)
section
variable {K : PySem.W.Frag} {mg : Str → Option Value} {E : XK} {F : Addr → Prop} {G H : Hp} {as : List Addr} {s : S} {σ : L2.St} {v : V} {w : W} {x : D} {xs : List D}
theorem Rep.cellAt (R : Rep K F G H as σ s) {n : Nat} {a : Addr} {c : Cell} (e : s.mem[n]? = some (some c)) (ha : as[n]? = some a) : G a = none ∧ CellAt K G H a c := by
  obtain ⟨b, e1, e2, e3⟩ := R.cell n c e
  rw [ha] at e1; cases e1
  exact ⟨e2, e3⟩
theorem dat_c {n : Nat} (h : dat s (.c n) = some x) : ∃ xs, s.mem[n]? = some (some (.l xs)) ∧ x = .list xs := by
  have h2 : (match s.mem[n]? with
    | some (some (.l xs)) => some (PyData.list xs)
    | _ => none) = some x := h
  split at h2
  · rename_i xs e
    exact ⟨xs, e, (Option.some.inj h2).symm⟩
  · cases h2
theorem dat_rp (R : Rep K F G H as σ s) (r : RpW K F G H as v w) (h : dat s w = some x) : Rp K H v x := by
  cases w with
  | d y => cases h; exact Rp.mono R.same r
  | c n =>
    obtain ⟨a, ha, rfl⟩ := r
    obtain ⟨xs, e, rfl⟩ := dat_c h
    obtain ⟨_, vs, h1, h2⟩ := R.cellAt e ha
    exact .lst (SqL.of h1) (h2.mono R.same)
  | f xs =>
    cases h
    obtain ⟨a, vs, rfl, h1, _, _, _, h2⟩ := r
    exact .lst (SqL.of h1) (h2.mono R.same)
/-- a list, by its items -/
theorem dat_lst (R : Rep K F G H as σ s) (r : RpW K F G H as v w) (h : dat s w = some (.list xs)) : ∃ a vs, v = .ref a ∧ SqL K H a vs ∧ RpA K G vs xs := by
  cases w with
  | d y =>
    cases h
    cases r with
    | lst h1 h2 => exact ⟨_, _, rfl, Same.seq R.same h1, h2⟩
  | c n =>
    obtain ⟨a, ha, rfl⟩ := r
    obtain ⟨ys, e, e2⟩ := dat_c h
    cases e2
    obtain ⟨_, vs, h1, h2⟩ := R.cellAt e ha
    exact ⟨a, vs, rfl, SqL.of h1, h2⟩
  | f ys =>
    cases h
    obtain ⟨a, vs, rfl, h1, _, _, _, h2⟩ := r
    exact ⟨a, vs, rfl, SqL.of h1, h2⟩
theorem dat_tup (R : Rep K F G H as σ s) (r : RpW K F G H as v w) (h : dat s w = some (.tuple xs)) : w = .d (.tuple xs) ∧ ∃ a vs, v = .ref a ∧ SqT K H a vs ∧ RpA K G vs xs := by
  cases w with
  | d y =>
    cases h
    cases r with
    | tup h1 h2 => exact ⟨rfl, _, _, rfl, seqT R.same h1, h2⟩
  | c n =>
    obtain ⟨ys, e, e2⟩ := dat_c h
    cases e2
  | f ys => cases h
theorem dat_int (r : RpW K F G H as v w) {i : Int} (h : dat s w = some (.int i)) : v = .int i := by
  cases w with
  | d y => cases h; cases r; rfl
  | c n => obtain ⟨ys, e, e2⟩ := dat_c h; cases e2
  | f ys => cases h
theorem dat_str (r : RpW K F G H as v w) {i : Str} (h : dat s w = some (.str i)) : v = .str i := by
  cases w with
  | d y => cases h; cases r; rfl
  | c n => obtain ⟨ys, e, e2⟩ := dat_c h; cases e2
  | f ys => cases h
end

mutual
theorem dp_of {K : PySem.W.Frag} {H : Hp} : ∀ {v : V} {x : D}, Rp K H v x → PyData.canLay0 x = true → Dp K H v x
  | _, _, .non, _ => .non
  | _, _, .bl b, _ => .bl b
  | _, _, .int i, _ => .int i
  | _, _, .str x, _ => .str x
  | _, _, .lst h r, c => .lst h (dpA_of r c)
  | _, _, .tup h r, c => .tup h (dpA_of r c)
  | _, _, .dic _, c => nomatch c
theorem dpA_of {K : PySem.W.Frag} {H : Hp} : ∀ {vs : List V} {xs : List D}, RpA K H vs xs → PyData.canLayAll0 xs = true → DpAll K H vs xs
  | _, _, .nil, _ => .nil
  | _, _, .cons h r, c => .cons (dp_of h (Bool.and_eq_true_iff.mp c).1) (dpA_of r (Bool.and_eq_true_iff.mp c).2)
end

/-! ### == and != -/
@[simp] def scD : D → D → Bool
  | .none, .none => true | .none, .int _ => true | .int _, .none => true | .none, .bool _ => true | .bool _, .none => true | .none, .str _ => true | .str _, .none => true
  | .int _, .int _ => true | .bool _, .bool _ => true | .str _, .str _ => true
  | .int _, .str _ => true | .str _, .int _ => true | .bool _, .str _ => true | .str _, .bool _ => true
  | _, _ => false
theorem scal_eq {K : PySem.W.Frag} {H : Hp} {v u : V} {x y : D} (h : scD x y = true) (rx : Rp K H v x) (ry : Rp K H u y) : scal v u = true ∧ decide (v = u) = PyData.eqv x y := by
  cases rx <;> cases ry <;> first
    | (exfalso; revert h; decide)
    | (exfalso; revert h; simp [scD]; done)
    | exact ⟨rfl, rfl⟩
    | (refine ⟨rfl, ?_⟩; simp [PyData.eqv]; done)
    | (refine ⟨rfl, ?_⟩; simp only [PyData.eqv]; rw [Bool.eq_iff_iff]; simp; done)
def gEq (n : Bool) : W → W → EM := fun wa wb s => match dat s wa, dat s wb with
  | some x, some y => if scD x y || (SeqAt.shaped x && SeqAt.shaped y) then .ok (.d (.bool (if n then !PyData.eqv x y else PyData.eqv x y)), s) else .bad
  | _, _ => .bad
section
variable {X : Cx} {E : XK} {a b c : Expr} {fa fb fc : EM} {pos : Pos} {k : Nat}
theorem od_eq : OpD X E (fun x y H Q => rEq x y H Q ∨ rEqD X.K x y H Q) (gEq false) := fun F G H as s σ x y wa wb Q R ra rb h => by
  unfold gEq at h
  split at h
  · rename_i dx dy e1 e2
    split at h
    · rename_i hc
      rcases Bool.or_eq_true_iff.mp hc with hs | hs
      · obtain ⟨h1, h2⟩ := scal_eq hs (dat_rp R ra e1) (dat_rp R rb e2)
        exact .inl ⟨h1, by rw [h2]; exact eK.val R h (.bl _)⟩
      · obtain ⟨s1, s2⟩ := Bool.and_eq_true_iff.mp hs
        exact .inr ⟨dx, dy, dp_of (dat_rp R ra e1) (SeqAt.canLay_of_shaped s1), dp_of (dat_rp R rb e2) (SeqAt.canLay_of_shaped s2), s1, s2, eK.val R h (.bl _)⟩
    · exact h.elim
  · exact h.elim
theorem od_ne : OpD X E (fun x y H Q => rNe x y H Q ∨ rNeD X.K x y H Q) (gEq true) := fun F G H as s σ x y wa wb Q R ra rb h => by
  unfold gEq at h
  split at h
  · rename_i dx dy e1 e2
    split at h
    · rename_i hc
      rcases Bool.or_eq_true_iff.mp hc with hs | hs
      · obtain ⟨h1, h2⟩ := scal_eq hs (dat_rp R ra e1) (dat_rp R rb e2)
        exact .inl ⟨h1, by rw [h2]; exact eK.val R h (.bl _)⟩
      · obtain ⟨s1, s2⟩ := Bool.and_eq_true_iff.mp hs
        exact .inr ⟨dx, dy, dp_of (dat_rp R ra e1) (SeqAt.canLay_of_shaped s1), dp_of (dat_rp R rb e2) (SeqAt.canLay_of_shaped s2), s1, s2, eK.val R h (.bl _)⟩
    · exact h.elim
  · exact h.elim
abbrev eEq := eBin (gEq false)
abbrev eNe := eBin (gEq true)
theorem pd_eq (hr : Room k X.A) (ha : PDE X E a fa) (hb : PDE X E b fb) : PDE X E (.Compare a [.Eq] [b] pos) (eEq fa fb) := pd_cmp (op_eq.or (op_eqD hr.units)) od_eq ha hb
theorem pd_ne (hr : Room k X.A) (ha : PDE X E a fa) (hb : PDE X E b fb) : PDE X E (.Compare a [.NotEq] [b] pos) (eNe fa fb) := pd_cmp (op_ne.or (op_neD hr.units)) od_ne ha hb
/-! ### is None -/
def gIsN (n : Bool) : W → W → EM := fun wa wb s => match wb with
  | .d .none => .ok (.d (.bool (match wa with
    | .d .none => !n
    | _ => n)), s)
  | _ => .bad
theorem isN_dec {K : PySem.W.Frag} {F : Addr → Prop} {G H : Hp} {as : List Addr} {v : V} {w : W} (r : RpW K F G H as v w) : decide (v = .non) = (match w with
    | .d .none => true
    | _ => false) := by
  cases w with
  | d x => cases r <;> rfl
  | c n => obtain ⟨a, _, rfl⟩ := r; rfl
  | f xs => obtain ⟨a, _, rfl, _⟩ := r; rfl
theorem od_isN : OpD X E (fun x y H Q => y = .non ∧ Q (.bl (decide (x = .non))) H) (gIsN false) := fun F G H as s σ x y wa wb Q R ra rb h => by
  unfold gIsN at h
  split at h
  · cases rb
    refine ⟨rfl, ?_⟩
    rw [isN_dec ra]
    refine eK.val R h ?_
    cases wa with
    | d z => cases z <;> exact .bl _
    | _ => exact .bl _
  · exact h.elim
theorem od_notN : OpD X E (fun x y H Q => y = .non ∧ Q (.bl (!decide (x = .non))) H) (gIsN true) := fun F G H as s σ x y wa wb Q R ra rb h => by
  unfold gIsN at h
  split at h
  · cases rb
    refine ⟨rfl, ?_⟩
    rw [isN_dec ra]
    refine eK.val R h ?_
    cases wa with
    | d z => cases z <;> exact .bl _
    | _ => exact .bl _
  · exact h.elim
abbrev eIsN := eBin (gIsN false)
abbrev eNotN := eBin (gIsN true)
theorem pd_isN (ha : PDE X E a fa) (hb : PDE X E b fb) : PDE X E (.Compare a [.Is] [b] pos) (eIsN fa fb) := pd_cmp op_isN od_isN ha hb
theorem pd_notN (ha : PDE X E a fa) (hb : PDE X E b fb) : PDE X E (.Compare a [.IsNot] [b] pos) (eNotN fa fb) := pd_cmp op_notN od_notN ha hb

/-! ### and, or, not as values; if-expressions; tests -/
abbrev TM := S → Res (Bool × S)
def tK (K : PySem.W.Frag) (mg : Str → Option Value) (E : XK) (F : Addr → Prop) (G H : Hp) (as : List Addr) (s : S) (σ : L2.St) (r : Res (Bool × S)) (Q : Bool → Hp → Prop) : Prop := match r with
  | .ok (b, s') => ∀ G' H', Rep K F G' H' as σ s' → Ext G H (live as s) G' H' (live as s') → Q b H'
  | .exc c => ∀ C H', mg c = some (.ref C) → (∀ a o, H a = some o → ¬ live as s a → H' a = some o) → E (.ref C) none H'
  | .bad => False
def tT (K : PySem.W.Frag) (mg : Str → Option Value) (E : XK) (f : TM) : TT := fun σ H Q => ∃ (F : Addr → Prop) (G : Hp) (as : List Addr) (s : S), Rep K F G H as σ s ∧ tK K mg E F G H as s σ (f s) Q
structure PDT (X : Cx) (E : XK) (e : Expr) (f : TM) : Prop where
  pt : PT X e (tT X.K X.mg E f)
structure PDW (X : Cx) (E : XK) (e : Expr) (f : TM) : Prop where
  pw : PW X e (tT X.K X.mg E f)
theorem PDW.t {e : Expr} {f : TM} (h : PDW X E e f) : PDT X E e f := ⟨h.pw.pt⟩
theorem tK.ext {K : PySem.W.Frag} {mg : Str → Option Value} {F : Addr → Prop} {G H G1 H1 : Hp} {as : List Addr} {s s1 : S} {σ : L2.St} {r : Res (Bool × S)} {Q : Bool → Hp → Prop} (h : tK K mg E F G H as s σ r Q) (e : Ext G H (live as s) G1 H1 (live as s1)) : tK K mg E F G1 H1 as s1 σ r Q := by
  cases r with
  | ok p => exact fun G' H' R' x => h G' H' R' (e.trans x)
  | exc c => exact fun C H' hc k => h C H' hc (keepX e k)
  | bad => exact h
def tOf (f : EM) : TM := fun s => (f s).bind fun p => match p.1 with
  | .d (.bool b) => .ok (b, p.2)
  | _ => .bad
theorem pdt_val (h : PDE X E a fa) (he : ∀ whole, isTrue a X.env whole = (do let v ← whole; standAt a.pos; holding [v] (truthy v)) := by intro _; rfl) : PDT X E a (tOf fa) :=
  ⟨PT.imp (pt_val h.pe he) fun σ H Q h => by
    obtain ⟨F, G, as, s, R, h⟩ := h
    refine ⟨F, G, as, s, R, ?_⟩
    unfold tOf at h
    cases e : fa s with
    | ok p =>
      obtain ⟨w, s1⟩ := p
      rw [e, Res.bind_ok] at h
      dsimp only at h
      clear e
      intro v G1 H1 R1 X1 r n
      split at h
      · cases r
        exact ⟨_, rfl, h G1 H1 R1 X1⟩
      · exact h.elim
    | exc c => rw [e] at h; exact h
    | bad => rw [e] at h; exact h⟩
/-- one test, then by its answer -/
theorem tT.seq {K : PySem.W.Frag} {mg : Str → Option Value} {F : Addr → Prop} {G H : Hp} {as : List Addr} {s : S} {σ : L2.St} {f : TM} {α : Type} {k : Bool × S → Res α} {P : Res α → Prop} {Q1 : Bool → Hp → Prop} (R : Rep K F G H as σ s) (h : P ((f s).bind k))
    (hx : ∀ c, P (.exc c) → ∀ C H', mg c = some (.ref C) → (∀ a o, H a = some o → ¬ live as s a → H' a = some o) → E (.ref C) none H') (hb : P .bad → False)
    (hk : ∀ (G1 H1 : Hp) (b : Bool) (s1 : S), Rep K F G1 H1 as σ s1 → Ext G H (live as s) G1 H1 (live as s1) → P (k (b, s1)) → Q1 b H1) : tT K mg E f σ H Q1 := by
  refine ⟨F, G, as, s, R, ?_⟩
  cases e : f s with
  | ok p =>
    obtain ⟨b, s1⟩ := p
    rw [e] at h
    exact fun G1 H1 R1 X1 => hk G1 H1 b s1 R1 X1 h
  | exc c => rw [e] at h; exact hx c h
  | bad => rw [e] at h; exact (hb h).elim
def tAnd_ (f g : TM) : TM := fun s => (f s).bind fun p => if p.1 then g p.2 else .ok (false, p.2)
def tOr_ (f g : TM) : TM := fun s => (f s).bind fun p => if p.1 then .ok (true, p.2) else g p.2
def tNot_ (f : TM) : TM := fun s => (f s).bind fun p => .ok (!p.1, p.2)
variable {ta tb : TM} {rest : List Expr}
theorem pdw_and1 (h : PDT X E a ta) : PDW X E (.BoolOp .And [a] pos) ta := ⟨pw_and1 h.pt⟩
theorem pdw_or1 (h : PDT X E a ta) : PDW X E (.BoolOp .Or [a] pos) ta := ⟨pw_or1 h.pt⟩
theorem pdw_and (ha : PDT X E a ta) (hb : PDW X E (.BoolOp .And (b :: rest) pos) tb) : PDW X E (.BoolOp .And (a :: b :: rest) pos) (tAnd_ ta tb) := ⟨PW.imp (pw_and ha.pt hb.pw) fun σ H Q h => by
  obtain ⟨F, G, as, s, R, h⟩ := h
  refine tT.seq (P := fun r => tK X.K X.mg E F G H as s σ r Q) R h (fun c h => h) (fun h => h) fun G1 H1 b s1 R1 X1 h1 => ?_
  cases b with
  | true => exact ⟨F, G1, as, s1, R1, tK.ext h1 X1⟩
  | false => exact h1 G1 H1 R1 X1⟩
theorem pdw_or (ha : PDT X E a ta) (hb : PDW X E (.BoolOp .Or (b :: rest) pos) tb) : PDW X E (.BoolOp .Or (a :: b :: rest) pos) (tOr_ ta tb) := ⟨PW.imp (pw_or ha.pt hb.pw) fun σ H Q h => by
  obtain ⟨F, G, as, s, R, h⟩ := h
  refine tT.seq (P := fun r => tK X.K X.mg E F G H as s σ r Q) R h (fun c h => h) (fun h => h) fun G1 H1 b s1 R1 X1 h1 => ?_
  cases b with
  | false => exact ⟨F, G1, as, s1, R1, tK.ext h1 X1⟩
  | true => exact h1 G1 H1 R1 X1⟩
theorem pdt_not (ha : PDT X E a ta) : PDT X E (.UnaryOp .Not a pos) (tNot_ ta) := ⟨PT.imp (pt_not ha.pt) fun σ H Q h => by
  obtain ⟨F, G, as, s, R, h⟩ := h
  exact tT.seq (P := fun r => tK X.K X.mg E F G H as s σ r Q) R h (fun c h => h) (fun h => h) fun G1 H1 b s1 R1 X1 h1 => h1 G1 H1 R1 X1⟩
/-! as values -/
def eAnd_ (f g : EM) : EM := fun s => (f s).bind fun p => match p.1 with
  | .d (.bool true) => g p.2
  | .d (.bool false) => .ok (.d (.bool false), p.2)
  | _ => .bad
def eOr_ (f g : EM) : EM := fun s => (f s).bind fun p => match p.1 with
  | .d (.bool true) => .ok (.d (.bool true), p.2)
  | .d (.bool false) => g p.2
  | _ => .bad
def eNot_ (f : EM) : EM := fun s => (f s).bind fun p => match p.1 with
  | .d (.bool b) => .ok (.d (.bool (!b)), p.2)
  | _ => .bad
theorem pd_one {op} (h : PDE X E a fa) : PDE X E (.BoolOp op [a] pos) fa := ⟨pe_one h.pe⟩
theorem pd_and (ha : PDE X E a fa) (hb : PDE X E (.BoolOp .And (b :: rest) pos) fb) : PDE X E (.BoolOp .And (a :: b :: rest) pos) (eAnd_ fa fb) := ⟨PE.imp (pe_and ha.pe hb.pe) fun σ H Q h => by
  obtain ⟨F, G, as, s, R, h⟩ := h
  refine eT.seq R h fun G1 H1 w s1 v R1 X1 r _ h1 => ?_
  dsimp only at h1
  split at h1
  · cases r
    exact ⟨true, rfl, ⟨F, G1, as, s1, R1, h1⟩⟩
  · cases r
    exact ⟨false, rfl, eK.val R1 h1 (.bl _)⟩
  · exact h1.elim⟩
theorem pd_or (ha : PDE X E a fa) (hb : PDE X E (.BoolOp .Or (b :: rest) pos) fb) : PDE X E (.BoolOp .Or (a :: b :: rest) pos) (eOr_ fa fb) := ⟨PE.imp (pe_or ha.pe hb.pe) fun σ H Q h => by
  obtain ⟨F, G, as, s, R, h⟩ := h
  refine eT.seq R h fun G1 H1 w s1 v R1 X1 r _ h1 => ?_
  dsimp only at h1
  split at h1
  · cases r
    exact ⟨true, rfl, eK.val R1 h1 (.bl _)⟩
  · cases r
    exact ⟨false, rfl, ⟨F, G1, as, s1, R1, h1⟩⟩
  · exact h1.elim⟩
theorem pd_not (ha : PDE X E a fa) : PDE X E (.UnaryOp .Not a pos) (eNot_ fa) := ⟨PE.imp (pe_not ha.pe) fun σ H Q h => by
  obtain ⟨F, G, as, s, R, h⟩ := h
  refine eT.seq R h fun G1 H1 w s1 v R1 X1 r _ h1 => ?_
  dsimp only at h1
  split at h1
  · cases r
    exact ⟨_, rfl, eK.val R1 h1 (.bl _)⟩
  · exact h1.elim⟩
def eIf_ (t : TM) (f g : EM) : EM := fun s => (t s).bind fun p => if p.1 then f p.2 else g p.2
theorem pd_if (hc : PDT X E c ta) (ha : PDE X E a fa) (hb : PDE X E b fb) : PDE X E (.IfExp c a b pos) (eIf_ ta fa fb) := ⟨PE.imp (pe_ifExp hc.pt ha.pe hb.pe) fun σ H Q h => by
  obtain ⟨F, G, as, s, R, h⟩ := h
  refine tT.seq (P := fun r => eK X.K X.mg E F G H as s σ r Q) R h (fun c h => h) (fun h => h) fun G1 H1 b s1 R1 X1 h1 => ?_
  cases b with
  | true => exact ⟨F, G1, as, s1, R1, eK.ext h1 R R1 X1⟩
  | false => exact ⟨F, G1, as, s1, R1, eK.ext h1 R R1 X1⟩⟩
end
end
end PD

set_option Elab.async false
set_option linter.all false
set_option maxRecDepth 100000
set_option maxHeartbeats 4000000
namespace PD
noncomputable section
open PySem PySem.Spec PyProof.Rows L2

/-! ### a cell becomes plain data -/
def frzO (n : Nat) (xs : List D) : Option W → Option W
  | some (.c m) => if m = n then some (.d (.list xs)) else some (.c m)
  | o => o
def frz (n : Nat) (xs : List D) (s : S) : S := ⟨s.env.map (frzO n xs), s.mem.set n none, s.base⟩
def toD : W → S → Option (D × S)
  | .d x, s => some (x, s)
  | .f xs, s => some (.list xs, s)
  | .c n, s => (match s.mem[n]? with
    | some (some (.l xs)) => if s.base ≤ n then some (.list xs, frz n xs s) else none
    | _ => none)
section
variable {K : PySem.W.Frag} {mg : Str → Option Value} {E : XK} {F : Addr → Prop} {G H : Hp} {as : List Addr} {s s' : S} {σ : L2.St} {v : V} {w : W} {x : D} {xs : List D}
theorem same_upd {G : Hp} {p : Addr} {o : HO} (h : G p = none) : Same G (upd G p o) := fun b x e => by
  rw [upd_ne (ne_of_none e h)]
  exact e
theorem nd_at {as : List Addr} (nd : as.Nodup) {m n : Nat} {a : Addr} (h1 : as[m]? = some a) (h2 : as[n]? = some a) : m = n := by
  obtain ⟨l1, e1⟩ := List.getElem?_eq_some_iff.mp h1
  obtain ⟨l2, e2⟩ := List.getElem?_eq_some_iff.mp h2
  exact (List.getElem_inj nd).mp (e1.trans e2.symm)
theorem CellAt.mono {G' H' : Hp} {a : Addr} {c : Cell} (h : CellAt K G H a c) (sg : Same G G') (k : ∀ o, H a = some o → H' a = some o) : CellAt K G' H' a c := by
  cases c with
  | l xs => obtain ⟨vs, h1, h2⟩ := h; exact ⟨vs, k _ h1, h2.mono sg⟩
  | m kvs => obtain ⟨vs, h1, h2⟩ := h; exact ⟨vs, k _ h1, Paired.mapP h2 fun p q z => ⟨z.1, Rp.mono sg z.2⟩⟩
/-- an object that nobody owns is laid to the plain ones -/
theorem Rep.lay {a : Addr} {o : HO} (R : Rep K F G H as σ s) (g : G a = none) (h : H a = some o) (nf : ¬ F a) (na : ∀ (n : Nat) (c : Cell), s.mem[n]? = some (some c) → as[n]? ≠ some a) : Rep K F (upd G a o) H as σ s := by
  have sg : Same G (upd G a o) := same_upd g
  refine ⟨fun b u e => ?_, R.len, R.alen, R.nd, R.dom, fun b hb => ?_, fun n c e => ?_, fun i w e => ?_⟩
  · by_cases q : b = a
    · subst q; rw [upd_same] at e; cases e; exact h
    · rw [upd_ne q] at e; exact R.same _ _ e
  · obtain ⟨h1, h2, h3⟩ := R.fo b hb
    have nb : b ≠ a := fun z => nf (by rw [← z]; exact hb)
    exact ⟨by rw [upd_ne nb]; exact h1, h2, h3⟩
  · obtain ⟨b, h1, h2, h3⟩ := R.cell n c e
    have nb : b ≠ a := fun z => na n c e (by rw [← z]; exact h1)
    exact ⟨b, h1, by rw [upd_ne nb]; exact h2, h3.mono sg fun _ z => z⟩
  · obtain ⟨v, h1, h2, h3⟩ := R.env i w e
    refine ⟨v, h1, ?_, h3⟩
    cases w with
    | d x => exact Rp.mono sg h2
    | c m => exact h2
    | f ys => exact absurd rfl (h3 ys)
theorem toD_ok (R : Rep K F G H as σ s) (r : RpW K F G H as v w) (h : toD w s = some (x, s')) : ∃ G', Rep K F G' H as σ s' ∧ Ext G H (live as s) G' H (live as s') ∧ Rp K G' v x := by
  cases w with
  | d y => cases h; exact ⟨G, R, Ext.refl _ _ _, r⟩
  | f ys =>
    cases h
    obtain ⟨a, vs, rfl, h1, h2, h3, h4, h5⟩ := r
    have sg : Same G (upd G a (.lst vs)) := same_upd h2
    exact ⟨_, R.lay h2 h1 h4 fun n c _ z => h3 (List.mem_of_getElem? z), ⟨sg, fun _ _ z _ => z, fun _ z => .inl z⟩, .lst (SqL.of upd_same) (h5.mono sg)⟩
  | c n =>
    obtain ⟨a, ha, rfl⟩ := r
    have h2 : (match s.mem[n]? with
      | some (some (.l xs)) => if s.base ≤ n then some (PyData.list xs, frz n xs s) else none
      | _ => none) = some (x, s') := h
    split at h2
    · rename_i ys e
      split at h2
      · cases h2
        obtain ⟨g0, vs, h1, h5⟩ := R.cellAt e ha
        have sg : Same G (upd G a (.lst vs)) := same_upd g0
        have nf : ¬ F a := fun z => (R.fo a z).2.1 (List.mem_of_getElem? ha)
        refine ⟨upd G a (.lst vs), ⟨fun b u e => ?_, by simpa [frz] using R.len, by simpa [frz] using R.alen, R.nd, R.dom, fun b hb => ?_, fun m c e2 => ?_, fun i w e2 => ?_⟩, ⟨sg, fun _ _ z _ => z, fun b z => ?_⟩, .lst (SqL.of upd_same) (h5.mono sg)⟩
        · by_cases q : b = a
          · subst q; rw [upd_same] at e; cases e; exact h1
          · rw [upd_ne q] at e; exact R.same _ _ e
        · obtain ⟨k1, k2, k3⟩ := R.fo b hb
          have nb : b ≠ a := fun z => nf (by rw [← z]; exact hb)
          exact ⟨by rw [upd_ne nb]; exact k1, k2, k3⟩
        · have e2 : (s.mem.set n none)[m]? = some (some c) := e2
          by_cases q : m = n
          · subst q
            rw [List.getElem?_set_self (List.getElem?_eq_some_iff.mp e).1] at e2
            cases e2
          · rw [List.getElem?_set_ne (Ne.symm q)] at e2
            obtain ⟨b, k1, k2, k3⟩ := R.cell m c e2
            have nb : b ≠ a := fun z => q (nd_at R.nd k1 (by rw [z]; exact ha))
            exact ⟨b, k1, by rw [upd_ne nb]; exact k2, k3.mono sg fun _ z => z⟩
        · have e2 : (s.env.map (frzO n ys))[i]? = some (some w) := e2
          rw [List.getElem?_map] at e2
          cases e3 : s.env[i]? with
          | none => rw [e3] at e2; cases e2
          | some o =>
            rw [e3] at e2
            have e4 : frzO n ys o = some w := Option.some.inj e2
            cases o with
            | none => cases e4
            | some w0 =>
              obtain ⟨v, k1, k2, k3⟩ := R.env i w0 e3
              cases w0 with
              | d y => cases e4; exact ⟨v, k1, Rp.mono sg k2, fun _ z => nomatch z⟩
              | f zs => exact absurd rfl (k3 zs)
              | c m =>
                have e4 : (if m = n then some (W.d (PyData.list ys)) else some (.c m)) = some w := e4
                split at e4
                · rename_i q
                  cases e4
                  obtain ⟨b, k4, rfl⟩ := k2
                  rw [q, ha] at k4
                  cases k4
                  exact ⟨_, k1, .lst (SqL.of upd_same) (h5.mono sg), fun _ z => nomatch z⟩
                · cases e4
                  exact ⟨v, k1, k2, fun _ z => nomatch z⟩
        · obtain ⟨m, c, k1, k2⟩ := z
          have k1 : (s.mem.set n none)[m]? = some (some c) := k1
          by_cases q : m = n
          · subst q
            rw [List.getElem?_set_self (List.getElem?_eq_some_iff.mp e).1] at k1
            cases k1
          · rw [List.getElem?_set_ne (Ne.symm q)] at k1
            exact .inl ⟨m, c, k1, k2⟩
      · cases h2
    · cases h2
end

/-! ### arguments: true: a cell as it is; false: plain data -/
abbrev AM := S → Res (List W × S)
inductive RpWs (K : PySem.W.Frag) (G : Hp) (as : List Addr) : List V → List W → Prop
  | nil : RpWs K G as [] []
  | d {v : V} {x : D} {vs : List V} {ws : List W} : Rp K G v x → RpWs K G as vs ws → RpWs K G as (v :: vs) (.d x :: ws)
  | c {a : Addr} {n : Nat} {vs : List V} {ws : List W} : as[n]? = some a → RpWs K G as vs ws → RpWs K G as (.ref a :: vs) (.c n :: ws)
theorem RpWs.mono {K : PySem.W.Frag} {G G' : Hp} {as : List Addr} (s : Same G G') : ∀ {vs : List V} {ws : List W}, RpWs K G as vs ws → RpWs K G' as vs ws
  | _, _, .nil => .nil
  | _, _, .d h r => .d (Rp.mono s h) (r.mono s)
  | _, _, .c h r => .c h (r.mono s)
theorem RpWs.length {K : PySem.W.Frag} {G : Hp} {as : List Addr} : ∀ {vs : List V} {ws : List W}, RpWs K G as vs ws → vs.length = ws.length
  | _, _, .nil => rfl
  | _, _, .d _ r => by simp [RpWs.length r]
  | _, _, .c _ r => by simp [RpWs.length r]
def aK (K : PySem.W.Frag) (mg : Str → Option Value) (E : XK) (F : Addr → Prop) (G H : Hp) (as : List Addr) (s : S) (σ : L2.St) (r : Res (List W × S)) (Q : List V → Hp → Prop) : Prop := match r with
  | .ok (ws, s') => ∀ vs G' H', Rep K F G' H' as σ s' → Ext G H (live as s) G' H' (live as s') → RpWs K G' as vs ws → Q vs H'
  | .exc c => ∀ C H', mg c = some (.ref C) → (∀ a o, H a = some o → ¬ live as s a → H' a = some o) → E (.ref C) none H'
  | .bad => False
def aT (K : PySem.W.Frag) (mg : Str → Option Value) (E : XK) (f : AM) : TA := fun σ H Q => ∃ (F : Addr → Prop) (G : Hp) (as : List Addr) (s : S), Rep K F G H as σ s ∧ aK K mg E F G H as s σ (f s) Q
structure PDA (X : Cx) (E : XK) (es : List Expr) (f : AM) : Prop where
  pa : PA X es (aT X.K X.mg E f)
theorem aK.ext {K : PySem.W.Frag} {mg : Str → Option Value} {E : XK} {F : Addr → Prop} {G H G1 H1 : Hp} {as : List Addr} {s s1 : S} {σ : L2.St} {r : Res (List W × S)} {Q : List V → Hp → Prop} (h : aK K mg E F G H as s σ r Q) (e : Ext G H (live as s) G1 H1 (live as s1)) : aK K mg E F G1 H1 as s1 σ r Q := by
  cases r with
  | ok p => exact fun v G' H' R' x w => h v G' H' R' (e.trans x) w
  | exc c => exact fun C H' hc k => h C H' hc (keepX e k)
  | bad => exact h
def aNil : AM := fun s => .ok ([], s)
/-- keep: the cell itself -/
def aCons (keep : Bool) (f : EM) (g : AM) : AM := fun s => (f s).bind fun p => match keep, p.1 with
  | true, .c n => (g p.2).bind fun q => .ok (.c n :: q.1, q.2)
  | true, _ => .bad
  | false, w => (match toD w p.2 with
    | some (x, s2) => (g s2).bind fun q => .ok (.d x :: q.1, q.2)
    | none => .bad)
section
variable {X : Cx} {E : XK} {e : Expr} {es : List Expr} {f : EM} {g : AM}
theorem pda_nil : PDA X E [] aNil := ⟨PA.imp pa_nil fun σ H Q h => by
  obtain ⟨F, G, as, s, R, h⟩ := h
  exact h [] G H R (Ext.refl _ _ _) .nil⟩
theorem pda_cons (keep : Bool) (he : PDE X E e f) (hr : PDA X E es g) (hs : starEach (e :: es) X.env = (false, eval e X.env) :: starEach es X.env := by rfl) : PDA X E (e :: es) (aCons keep f g) := ⟨PA.imp (pa_cons he.pe hr.pa hs) fun σ H Q h => by
  obtain ⟨F, G, as, s, R, h⟩ := h
  refine ⟨F, G, as, s, R, ?_⟩
  unfold aCons at h
  cases e : f s with
  | exc c => rw [e] at h; exact h
  | bad => rw [e] at h; exact h
  | ok p =>
    obtain ⟨w, s1⟩ := p
    rw [e, Res.bind_ok] at h
    dsimp only at h
    intro v G1 H1 R1 X1 r n
    cases keep with
    | true =>
      cases w with
      | c m =>
        dsimp only at h
        obtain ⟨a, ha, rfl⟩ := r
        refine ⟨F, G1, as, s1, R1, ?_⟩
        have h := aK.ext h X1
        cases e2 : g s1 with
        | exc c => rw [e2] at h; exact h
        | bad => rw [e2] at h; exact h
        | ok q =>
          rw [e2] at h
          exact fun vs G2 H2 R2 X2 r2 => h _ G2 H2 R2 X2 (.c ha r2)
      | d x => exact h.elim
      | f x => exact h.elim
    | false =>
      dsimp only at h
      split at h
      · rename_i x s2 e2
        obtain ⟨G2, R2, X2, r2⟩ := toD_ok R1 r e2
        refine ⟨F, G2, as, s2, R2, ?_⟩
        have h := aK.ext h (X1.trans X2)
        cases e3 : g s2 with
        | exc c => rw [e3] at h; exact h
        | bad => rw [e3] at h; exact h
        | ok q =>
          rw [e3] at h
          exact fun vs G3 H3 R3 X3 r3 => h _ G3 H3 R3 X3 (.d (Rp.mono X3.same r2) r3)
      · exact h.elim⟩
end

/-! ### calls of the program's own defs -/
abbrev FM := List (Option Cell) → List W → Res (W × List (Option Cell))
/-- what a def promises that computes Fm -/
def spF (K : PySem.W.Frag) (mg : Str → Option Value) (n : Nat) (Fm : FM) : Sp := fun vs H Q E => ∃ (F : Addr → Prop) (G : Hp) (as : List Addr) (mem : List (Option Cell)) (ws : List W), vs.length = n ∧ Rep K F G H as [] ⟨[], mem, 0⟩ ∧ RpWs K G as vs ws ∧ match Fm mem ws with
  | .ok (w, mem') => ∀ v G' H', Rep K F G' H' as [] ⟨[], mem', 0⟩ → Ext G H (live as ⟨[], mem, 0⟩) G' H' (live as ⟨[], mem', 0⟩) → RpW K F G' H' as v w → New H v w → Q v H'
  | .exc c => ∀ C H', mg c = some (.ref C) → (∀ a o, H a = some o → ¬ live as ⟨[], mem, 0⟩ a → H' a = some o) → E (.ref C) none H'
  | .bad => False
/-- the def stands, and keeps that promise -/
structure Df (P : Program) (w : World) (K : PySem.W.Frag) (mg : Str → Option Value) (base : Heap) (k : Nat) (x : Str) (ps : List Str) (Fm : FM) : Prop where
  ex : ∃ (f : Addr) (fd : FuncData), FnOk P w K mg base (L2.CX P w) k f fd ps (spF K mg ps.length Fm) ∧ mg x = some (.ref f) ∧ PySem.W.keepIn K (.ref f) = true ∧ Binds K fd ps []
theorem Df.mono {P : Program} {w : World} {K : PySem.W.Frag} {mg : Str → Option Value} {base : Heap} {k j : Nat} {x : Str} {ps : List Str} {Fm : FM} (h : Df P w K mg base k x ps Fm) (l : k ≤ j) : Df P w K mg base j x ps Fm := by
  obtain ⟨f, fd, h1, h2⟩ := h.ex
  exact ⟨f, fd, h1.mono l, h2⟩
def eCall (Fm : FM) (g : AM) : EM := fun s => (g s).bind fun p => (Fm p.2.mem p.1).bind fun q => .ok (q.1, { p.2 with mem := q.2 })
section
variable {X : Cx} {E : XK} {e : Expr} {es : List Expr} {f : EM} {g : AM} {k j : Nat} {x : Str} {ps : List Str} {Fm : FM} {p pos : Pos}
theorem live_eq {as : List Addr} {s t : S} (h : s.mem = t.mem) : live as s = live as t := by
  funext a; unfold live; rw [h]
theorem Rep.bare {K : PySem.W.Frag} {F : Addr → Prop} {G H : Hp} {as : List Addr} {σ : L2.St} {s : S} (R : Rep K F G H as σ s) : Rep K F G H as [] ⟨[], s.mem, 0⟩ :=
  ⟨R.same, rfl, R.alen, R.nd, R.dom, R.fo, R.cell, fun i w h => by simp at h⟩
/-- behind a call -/
theorem Rep.back {K : PySem.W.Frag} {F : Addr → Prop} {G H G' H' : Hp} {as : List Addr} {σ : L2.St} {s : S} {mem' : List (Option Cell)} {L L' : Addr → Prop} (R : Rep K F G H as σ s) (R' : Rep K F G' H' as [] ⟨[], mem', 0⟩) (e : Ext G H L G' H' L') : Rep K F G' H' as σ { s with mem := mem' } :=
  ⟨R'.same, R.len, R'.alen, R.nd, R'.dom, R'.fo, R'.cell, fun i w h => by
    obtain ⟨v, h1, h2, h3⟩ := R.env i w h
    refine ⟨v, h1, ?_, h3⟩
    cases w with
    | d x => exact Rp.mono e.same h2
    | c m => exact h2
    | f ys => exact absurd rfl (h3 ys)⟩
theorem callF_ok {F : Addr → Prop} {G H : Hp} {as : List Addr} {s : S} {σ : L2.St} {vs : List V} {ws : List W} {Q : VK} (hl : vs.length = ps.length) (R : Rep X.K F G H as σ s) (r : RpWs X.K G as vs ws) (h : eK X.K X.mg E F G H as s σ ((Fm s.mem ws).bind fun q => .ok (q.1, { s with mem := q.2 })) Q) :
    spF X.K X.mg ps.length Fm (vs ++ []) H Q E := by
  rw [List.append_nil]
  refine ⟨F, G, as, s.mem, ws, hl, R.bare, r, ?_⟩
  cases e : Fm s.mem ws with
  | exc c => rw [e] at h; exact h
  | bad => rw [e] at h; exact h
  | ok q =>
    rw [e] at h
    exact fun v G' H' R' X' r' n => h v G' H' (R.back R' X') X' r' n
theorem pd_call (c : Df X.prog X.w X.K X.mg X.base k x ps Fm) (hr : Room j X.A) (ha : PDA X E (e :: es) g) (hx : Passes (L2.CX X.prog X.w) X E) (hn : (e :: es).length = ps.length := by rfl) (hkj : k ≤ j := by decide) (hg : Gl X x := by rfl) (hdb : (x == ("__debug__" : Str)) = false := by decide)
    (he : starEach (e :: es) X.env = (false, eval e X.env) :: starEach es X.env := by rfl) (hpl : (backTo pos (starEach es X.env)).any (·.1) = false := by rfl) (hlen : ∀ s ws s', g s = .ok (ws, s') → ws.length = ps.length) : PDE X E (.Call (.Name x p) (e :: es) [] pos) (eCall Fm g) := by
  obtain ⟨fa, fd, F, hm, kp, b⟩ := c.ex
  refine ⟨PE.imp (pe_call F (hr.mono hkj) hg hm kp b .nil hx ha.pa hdb he hpl) fun σ H Q h => ?_⟩
  obtain ⟨Fo, G, as, s, R, h⟩ := h
  refine ⟨Fo, G, as, s, R, ?_⟩
  unfold eCall at h
  cases e : g s with
  | exc c => rw [e] at h; exact h
  | bad => rw [e] at h; exact h
  | ok q =>
    obtain ⟨ws, s1⟩ := q
    rw [e, Res.bind_ok] at h
    intro vs G1 H1 R1 X1 r1
    exact callF_ok (by rw [r1.length]; exact hlen _ _ _ e) R1 r1 (eK.ext h R R1 X1)
theorem aCons_len {keep : Bool} {f : EM} {g : AM} {n : Nat} (h : ∀ s ws s', g s = .ok (ws, s') → ws.length = n) : ∀ s ws s', aCons keep f g s = .ok (ws, s') → ws.length = n + 1 := fun s ws s' e => by
  unfold aCons at e
  cases e1 : f s with
  | exc c => rw [e1] at e; cases e
  | bad => rw [e1] at e; cases e
  | ok p =>
    rw [e1, Res.bind_ok] at e
    split at e
    · cases e2 : g p.2 with
      | exc c => rw [e2] at e; cases e
      | bad => rw [e2] at e; cases e
      | ok q => rw [e2] at e; cases e; simp [h _ _ _ e2]
    · cases e
    · split at e
      · rename_i x s2 e3
        cases e2 : g s2 with
        | exc c => rw [e2] at e; cases e
        | bad => rw [e2] at e; cases e
        | ok q => rw [e2] at e; cases e; simp [h _ _ _ e2]
      · cases e
theorem aNil_len : ∀ s ws s', aNil s = .ok (ws, s') → ws.length = 0 := fun s ws s' e => by cases e; rfl
end
end
end PD

set_option Elab.async false
set_option linter.all false
set_option maxRecDepth 100000
set_option maxHeartbeats 4000000
namespace PD
noncomputable section
open PySem PySem.Spec PyProof.Rows L2

/-! ### statements -/
inductive Out where
  | nx | rt (w : W) | bk | ct
abbrev SM := S → Res (Out × S)
def nK (K : PySem.W.Frag) (F : Addr → Prop) (G H : Hp) (as : List Addr) (s s' : S) (Q : L2.St → Hp → Prop) : Prop := ∀ σ' G' H' as', Rep K F G' H' as' σ' s' → Ext G H (live as s) G' H' (live as' s') → as <+: as' → Q σ' H'
def sK (K : PySem.W.Frag) (mg : Str → Option Value) (E : XK) (F : Addr → Prop) (G H : Hp) (as : List Addr) (s : S) (r : Res (Out × S)) (D : Ends) : Prop := match r with
  | .ok (.nx, s') => nK K F G H as s s' D.nx
  | .ok (.rt w, s') => ∀ v σ' G' H' as', Rep K F G' H' as' σ' s' → Ext G H (live as s) G' H' (live as' s') → as <+: as' → RpW K F G' H' as' v w → New H v w → D.rt v H'
  | .ok (.bk, s') => nK K F G H as s s' D.bk
  | .ok (.ct, s') => nK K F G H as s s' D.ct
  | .exc c => ∀ C H', mg c = some (.ref C) → (∀ a o, H a = some o → ¬ live as s a → H' a = some o) → E (.ref C) none H'
  | .bad => False
def sT (K : PySem.W.Frag) (mg : Str → Option Value) (E : XK) (f : SM) : TS := fun D σ H => ∃ (F : Addr → Prop) (G : Hp) (as : List Addr) (s : S), Rep K F G H as σ s ∧ sK K mg E F G H as s (f s) D
structure PDS (X : Cx) (E : XK) (st : Stmt) (f : SM) : Prop where
  ps : PS X st (sT X.K X.mg E f)
structure PDSs (X : Cx) (E : XK) (sts : List Stmt) (f : SM) : Prop where
  pss : PSs X sts (sT X.K X.mg E f)
section
variable {K : PySem.W.Frag} {mg : Str → Option Value} {E : XK} {F : Addr → Prop} {G H G1 H1 : Hp} {as as1 : List Addr} {s s1 : S} {σ σ1 : L2.St}
theorem newX' {a : Addr} (R1 : Rep K F G1 H1 as1 σ1 s1) (e : Ext G H (live as s) G1 H1 (live as1 s1)) (p : as <+: as1) (h : H1 a = none) : H a = none := by
  cases q : H a with
  | none => rfl
  | some o =>
    by_cases l : live as s a
    · obtain ⟨n, c, _, z⟩ := l
      obtain ⟨o', z'⟩ := R1.dom a (p.subset (List.mem_of_getElem? z))
      rw [h] at z'; cases z'
    · rw [e.keep a o q l] at h; cases h
theorem nK.ext {s2 : S} {Q : L2.St → Hp → Prop} (h : nK K F G H as s s2 Q) (e : Ext G H (live as s) G1 H1 (live as1 s1)) (p : as <+: as1) : nK K F G1 H1 as1 s1 s2 Q := fun σ' G' H' as' R' x q => h σ' G' H' as' R' (e.trans x) (p.trans q)
theorem sK.ext {r : Res (Out × S)} {D : Ends} (h : sK K mg E F G H as s r D) (R1 : Rep K F G1 H1 as1 σ1 s1) (e : Ext G H (live as s) G1 H1 (live as1 s1)) (p : as <+: as1) : sK K mg E F G1 H1 as1 s1 r D := by
  cases r with
  | ok q =>
    obtain ⟨o, s'⟩ := q
    cases o with
    | nx => exact nK.ext h e p
    | bk => exact nK.ext h e p
    | ct => exact nK.ext h e p
    | rt w => exact fun v σ' G' H' as' R' x q' r' n => h v σ' G' H' as' R' (e.trans x) (p.trans q') r' fun xs a hw hv => newX' R1 e p (n xs a hw hv)
  | exc c => exact fun C H' hc k => h C H' hc (keepX e k)
  | bad => exact h
theorem sK.exc {c : Str} {D D' : Ends} (h : sK K mg E F G H as s (.exc c) D) : sK K mg E F G H as s (.exc c) D' := h
/-- an expression first -/
theorem eT.seqS {fa : EM} {k : W × S → Res (Out × S)} {D : Ends} {Q1 : VK} (R : Rep K F G H as σ s) (h : sK K mg E F G H as s ((fa s).bind k) D)
    (hk : ∀ (G1 H1 : Hp) (w : W) (s1 : S) (v : V), Rep K F G1 H1 as σ s1 → Ext G H (live as s) G1 H1 (live as s1) → RpW K F G1 H1 as v w → New H v w → sK K mg E F G H as s (k (w, s1)) D → Q1 v H1) : eT K mg E fa σ H Q1 := by
  refine ⟨F, G, as, s, R, ?_⟩
  cases e : fa s with
  | ok p =>
    obtain ⟨w, s1⟩ := p
    rw [e] at h
    exact fun v G1 H1 R1 X1 r n => hk G1 H1 w s1 v R1 X1 r n h
  | exc c => rw [e] at h; exact h
  | bad => rw [e] at h; exact h
end
section
variable {X : Cx} {E : XK} {st : Stmt} {rest body orelse : List Stmt} {f g : SM} {fe : EM} {e c : Expr} {pos : Pos} {tc : TM}
def sNil : SM := fun s => .ok (.nx, s)
def sCons (f g : SM) : SM := fun s => (f s).bind fun p => match p.1 with
  | .nx => g p.2
  | o => .ok (o, p.2)
theorem pds_nil : PDSs X E [] sNil := ⟨PSs.imp pss_nil fun D σ H h => by
  obtain ⟨F, G, as, s, R, h⟩ := h
  exact h σ G H as R (Ext.refl _ _ _) (List.prefix_refl _)⟩
theorem pds_cons (h1 : PDS X E st f) (h2 : PDSs X E rest g) : PDSs X E (st :: rest) (sCons f g) := ⟨PSs.imp (pss_cons h1.ps h2.pss) fun D σ H h => by
  obtain ⟨F, G, as, s, R, h⟩ := h
  refine ⟨F, G, as, s, R, ?_⟩
  unfold sCons at h
  cases e : f s with
  | exc c => rw [e] at h; exact h
  | bad => rw [e] at h; exact h
  | ok p =>
    obtain ⟨o, s1⟩ := p
    rw [e, Res.bind_ok] at h
    cases o with
    | nx => exact fun σ1 G1 H1 as1 R1 X1 p1 => ⟨F, G1, as1, s1, R1, sK.ext h R1 X1 p1⟩
    | rt w => exact h
    | bk => exact h
    | ct => exact h⟩
theorem pds_one (h : PDS X E st f) : PDSs X E [st] f := ⟨pss_one h.ps⟩
def sRet (f : EM) : SM := fun s => (f s).bind fun p => .ok (.rt p.1, p.2)
theorem pds_ret (h : PDE X E e fe) : PDS X E (.Return (some e) pos) (sRet fe) := ⟨PS.imp (ps_ret h.pe) fun D σ H h => by
  obtain ⟨F, G, as, s, R, h⟩ := h
  exact eT.seqS R h fun G1 H1 w s1 v R1 X1 r n h1 => h1 v σ G1 H1 as R1 X1 (List.prefix_refl _) r n⟩
def sRetN : SM := fun s => .ok (.rt (.d .none), s)
theorem pds_retN : PDS X E (.Return none pos) sRetN := ⟨PS.imp ps_retN fun D σ H h => by
  obtain ⟨F, G, as, s, R, h⟩ := h
  exact h .non σ G H as R (Ext.refl _ _ _) (List.prefix_refl _) .non (fun _ _ e _ => nomatch e)⟩
def sExpr (f : EM) : SM := fun s => (f s).bind fun p => .ok (.nx, p.2)
theorem pds_expr (h : PDE X E e fe) (hs : swapsWith e none pos.line X.env = pure false := by rfl) : PDS X E (.Expr e pos) (sExpr fe) := ⟨PS.imp (ps_expr h.pe hs) fun D σ H h => by
  obtain ⟨F, G, as, s, R, h⟩ := h
  exact eT.seqS R h fun G1 H1 w s1 v R1 X1 r n h1 => h1 σ G1 H1 as R1 X1 (List.prefix_refl _)⟩
theorem pds_pass : PDS X E (.Pass pos) sNil := ⟨PS.imp ps_pass fun D σ H h => by
  obtain ⟨F, G, as, s, R, h⟩ := h
  exact h σ G H as R (Ext.refl _ _ _) (List.prefix_refl _)⟩
def sIf (t : TM) (f g : SM) : SM := fun s => (t s).bind fun p => if p.1 then f p.2 else g p.2
theorem pds_if (hc : PDT X E c tc) (ha : PDSs X E body f) (hb : PDSs X E orelse g) : PDS X E (.If c body orelse pos) (sIf tc f g) := ⟨PS.imp (ps_if hc.pt ha.pss hb.pss) fun D σ H h => by
  obtain ⟨F, G, as, s, R, h⟩ := h
  refine tT.seq (P := fun r => sK X.K X.mg E F G H as s r D) R h (fun c h => h) (fun h => h) fun G1 H1 b s1 R1 X1 h1 => ?_
  cases b with
  | true => exact ⟨F, G1, as, s1, R1, sK.ext h1 R1 X1 (List.prefix_refl _)⟩
  | false => exact ⟨F, G1, as, s1, R1, sK.ext h1 R1 X1 (List.prefix_refl _)⟩⟩

/-! ### stores -/
def S.put (s : S) (i : Nat) (w : W) : S := { s with env := s.env.set i (some w) }
/-- a value to a slot; cell: a list that was just made becomes a new cell, else plain data -/
def store (cell : Bool) (i : Nat) (w : W) (s : S) : Option S := if i < s.env.length then (match w with
  | .d x => some (s.put i (.d x))
  | .c n => some (s.put i (.c n))
  | .f xs => if cell then some { s with env := s.env.set i (some (.c s.mem.length)), mem := s.mem ++ [some (.l xs)] } else some (s.put i (.d (.list xs)))) else none
theorem Rep.put {K : PySem.W.Frag} {F : Addr → Prop} {G H : Hp} {as : List Addr} {σ : L2.St} {s : S} {i : Nat} {v : V} {w : W} (R : Rep K F G H as σ s) (r : RpW K F G H as v w) (nf : ∀ xs, w ≠ .f xs) (hi : i < s.env.length) : Rep K F G H as (σ.set i (some v)) (s.put i w) :=
  ⟨R.same, by simpa [S.put] using R.len, R.alen, R.nd, R.dom, R.fo, R.cell, fun j w' e => by
    have e : (s.env.set i (some w))[j]? = some (some w') := e
    by_cases q : i = j
    · subst q
      rw [List.getElem?_set_self hi] at e
      cases e
      exact ⟨v, by rw [List.getElem?_set_self (by rw [R.len]; exact hi)], r, nf⟩
    · rw [List.getElem?_set_ne q] at e
      obtain ⟨u, h1, h2⟩ := R.env j w' e
      exact ⟨u, by rw [List.getElem?_set_ne q]; exact h1, h2⟩⟩
theorem store_ok {K : PySem.W.Frag} {F : Addr → Prop} {G H : Hp} {as : List Addr} {σ : L2.St} {s s' : S} {i : Nat} {v : V} {w : W} {cell : Bool} (R : Rep K F G H as σ s) (r : RpW K F G H as v w) (h : store cell i w s = some s') :
    ∃ G' as', Rep K F G' H as' (σ.set i (some v)) s' ∧ Same G G' ∧ as <+: as' ∧ ∀ a, live as' s' a → live as s a ∨ ((∃ xs, w = .f xs) ∧ v = .ref a) := by
  unfold store at h
  split at h
  · rename_i hi
    cases w with
    | d x => cases h; exact ⟨G, as, R.put r (fun _ z => nomatch z) hi, Same.refl _, List.prefix_refl _, fun a z => .inl z⟩
    | c n => cases h; exact ⟨G, as, R.put r (fun _ z => nomatch z) hi, Same.refl _, List.prefix_refl _, fun a z => .inl z⟩
    | f xs =>
      dsimp only at h
      cases cell with
      | false =>
        rw [if_neg Bool.false_ne_true] at h
        cases h
        obtain ⟨G', R', X', r'⟩ := toD_ok (s := s) (w := .f xs) (x := .list xs) R r rfl
        exact ⟨G', as, R'.put (w := .d (.list xs)) r' (fun _ z => nomatch z) hi, X'.same, List.prefix_refl _, fun a z => .inl z⟩
      | true =>
        rw [if_pos rfl] at h
        cases h
        obtain ⟨a, vs, rfl, h1, h2, h3, h4, h5⟩ := r
        have hn : (as ++ [a])[s.mem.length]? = some a := by rw [← R.alen]; simp
        refine ⟨G, as ++ [a], ⟨R.same, by simpa using R.len, by simp [R.alen], ?_, fun b hb => ?_, fun b hb => ?_, fun n c e => ?_, fun j w' e => ?_⟩, Same.refl _, ⟨[a], rfl⟩, fun b hb => ?_⟩
        · rw [List.nodup_append]
          exact ⟨R.nd, by simp, fun x hx y hy z => by
            have : y = a := by simpa using hy
            exact h3 (by rw [← this, ← z]; exact hx)⟩
        · rcases List.mem_append.mp hb with hb | hb
          · exact R.dom b hb
          · have : b = a := by simpa using hb
            exact ⟨_, by rw [this]; exact h1⟩
        · obtain ⟨k1, k2, k3⟩ := R.fo b hb
          refine ⟨k1, fun z => ?_, k3⟩
          rcases List.mem_append.mp z with z | z
          · exact k2 z
          · have : b = a := by simpa using z
            exact h4 (by rw [← this]; exact hb)
        · have e : (s.mem ++ [some (Cell.l xs)])[n]? = some (some c) := e
          by_cases q : n < s.mem.length
          · rw [List.getElem?_append_left q] at e
            obtain ⟨b, k1, k2, k3⟩ := R.cell n c e
            exact ⟨b, by rw [List.getElem?_append_left (by rw [R.alen]; exact q)]; exact k1, k2, k3⟩
          · have q' : n = s.mem.length := by
              have := (List.getElem?_eq_some_iff.mp e).1
              simp at this
              omega
            subst q'
            simp at e
            subst e
            exact ⟨a, hn, h2, vs, h1, h5⟩
        · have e : (s.env.set i (some (.c s.mem.length)))[j]? = some (some w') := e
          by_cases q : i = j
          · subst q
            rw [List.getElem?_set_self hi] at e
            cases e
            exact ⟨.ref a, by rw [List.getElem?_set_self (by rw [R.len]; exact hi)], ⟨a, hn, rfl⟩, fun _ z => nomatch z⟩
          · rw [List.getElem?_set_ne q] at e
            obtain ⟨u, k1, k2, k3⟩ := R.env j w' e
            refine ⟨u, by rw [List.getElem?_set_ne q]; exact k1, ?_, k3⟩
            cases w' with
            | d x => exact k2
            | c m =>
              obtain ⟨b, k4, k5⟩ := k2
              exact ⟨b, by rw [List.getElem?_append_left (List.getElem?_eq_some_iff.mp k4).1]; exact k4, k5⟩
            | f ys => exact absurd rfl (k3 ys)
        · obtain ⟨n, c, e, k⟩ := hb
          have e : (s.mem ++ [some (Cell.l xs)])[n]? = some (some c) := e
          by_cases q : n < s.mem.length
          · rw [List.getElem?_append_left q] at e
            rw [List.getElem?_append_left (by rw [R.alen]; exact q)] at k
            exact .inl ⟨n, c, e, k⟩
          · have q' : n = s.mem.length := by
              have := (List.getElem?_eq_some_iff.mp e).1
              simp at this
              omega
            subst q'
            rw [hn] at k
            cases k
            exact .inr ⟨⟨xs, rfl⟩, rfl⟩
  · cases h
/-- the state behind a store, from the statement's begin -/
theorem store_nK {K : PySem.W.Frag} {F : Addr → Prop} {G H G1 H1 : Hp} {as : List Addr} {σ : L2.St} {s s1 s' : S} {i : Nat} {v : V} {w : W} {cell : Bool} {Q : L2.St → Hp → Prop} (R1 : Rep K F G1 H1 as σ s1) (X1 : Ext G H (live as s) G1 H1 (live as s1)) (r : RpW K F G1 H1 as v w) (n : New H v w)
    (hs : store cell i w s1 = some s') (h : nK K F G H as s s' Q) : Q (σ.set i (some v)) H1 := by
  obtain ⟨G2, as2, R2, sg, p2, l2⟩ := store_ok R1 r hs
  refine h _ G2 H1 as2 R2 ⟨X1.same.trans sg, X1.keep, fun a z => ?_⟩ p2
  rcases l2 a z with z | ⟨⟨xs, z1⟩, z2⟩
  · exact X1.new a z
  · exact .inr (n xs a z1 z2)
def sSet (cell : Bool) (i : Nat) (f : EM) : SM := fun s => (f s).bind fun p => match store cell i p.1 p.2 with
  | some s' => .ok (.nx, s')
  | none => .bad
theorem set_of {i : Nat} {cell : Bool} (h : PS X st (tAsg (eT X.K X.mg E fe) (gName i))) : PDS X E st (sSet cell i fe) := ⟨PS.imp h fun D σ H h => by
  obtain ⟨F, G, as, s, R, h⟩ := h
  refine eT.seqS R h fun G1 H1 w s1 v R1 X1 r n h1 => ?_
  dsimp only at h1
  split at h1
  · rename_i s' hs
    exact store_nK R1 X1 r n hs h1
  · exact h1.elim⟩
theorem pds_set (cell : Bool) (i : Nat) {x : Str} {pos' : Pos} (hN : X.N.Nodup) (he : PDE X E e fe) (hi : X.N[i]? = some x := by rfl) (hx : Loc X.env.scope x := by first | exact Or.inl rfl | exact Or.inr rfl) (hs : swapsWith e (some (.Name x pos')) pos.line X.env = pure false := by rfl) (hf : X.fn x = true ∨ X.env.scope.names.lookup x = some .local := by first | exact .inl rfl | exact .inr rfl | assumption) :
    PDS X E (.Assign [.Name x pos'] e pos) (sSet cell i fe) := set_of (ps_set hN hi hx he.pe hs hf)
/-! ### raise -/
/-- X() -/
theorem pmk_own0 {C : Addr} {bmB : List Value} {B newId initId : String} {x : Str} {p pos : Pos} (F : ExcBaseFacts B newId initId bmB) (q : PySem.W.excIn X.K C bmB newId = true) (gC : X.mg x = some (.ref C)) (kC : PySem.W.keepIn X.K (.ref C) = true) (r : Raises X (.ref C)) (hg : Gl X x)
    (hdb : (x == ("__debug__" : Str)) = false := by decide) : PMk X (.Call (.Name x p) [] [] pos) (fun _ H Q => Q (.ref C) none H) := by
  intro pins s σ H Q I h
  refine wpAny_Call_Name_kw (ld_glob I hg gC ?_ hdb)
  refine PySem.W.callWith_K0 I.kIn kC ?_
  show wpAny _ _ (call (.ref C) []) _ _ _
  obtain ⟨bm, N, nm, qn, bs, hdct, sn, sub, ab, col, dd, k0, k1, k2, k3, k5, mN, hC, hN, hni, T⟩ := exc_obj I.kIn q
  refine wpAny_call_exc_subT F T hC hN hni (fun h' e hm => ?_) (by show 0 ≤ sizeLine; omega)
  exact mk_of I hm r h (I.hok.gone hm.new)
/-- an exception class of the program: no __init__, over ValueError -/
structure ExcC (K : PySem.W.Frag) (mg : Str → Option Value) (c : Str) : Prop where
  ex : ∃ C, mg c = some (.ref C) ∧ PySem.W.excIn K C [.type "ValueError", .type "Exception", .type "BaseException", .type "object"] "ValueError.__new__" = true ∧ PySem.W.keepIn K (.ref C) = true ∧
    PySem.W.subIn K (.ref C) (.type "BaseException") = some true ∧ PySem.W.typeIn K (.ref C) = some (.type "type")
def sRaise (c : Str) : SM := fun _ => .exc c
theorem pds_raise {c : Str} {p pos' : Pos} (hm : ExcC X.K X.mg c) (hcalm : X.calm = true) (tk : Takes X (fun cls d _ H => E cls d H)) (hg : Gl X c := by rfl) (hdb : (c == ("__debug__" : Str)) = false := by decide) : PDS X E (.Raise (some (.Call (.Name c p) [] [] pos')) none pos) (sRaise c) := by
  obtain ⟨C, m, x1, x2, x3, x4⟩ := hm.ex
  refine ⟨PS.imp (ps_raise hcalm tk (pmk_own0 PySem.F.excBase_ValueError x1 m x2 (raises_own x3 x4) hg hdb)) fun D σ H h => ?_⟩
  obtain ⟨F, G, as, s, R, h⟩ := h
  exact h C H m fun _ _ z _ => z
end

/-! ### a def by its body -/
def fin (mem : List (Option Cell)) (r : Res (Out × S)) : Res (W × List (Option Cell)) := r.bind fun p => match p.1 with
  | .nx => .ok (.d .none, p.2.mem.take mem.length)
  | .rt (.d x) => .ok (.d x, p.2.mem.take mem.length)
  | .rt (.f xs) => .ok (.f xs, p.2.mem.take mem.length)
  | .rt (.c n) => if n < mem.length then .ok (.c n, p.2.mem.take mem.length) else (match p.2.mem[n]? with
    | some (some (.l xs)) => .ok (.f xs, p.2.mem.take mem.length)
    | _ => .bad)
  | _ => .bad
def s0 (N : List Str) (mem : List (Option Cell)) (ws : List W) : S := ⟨ws.map some ++ List.replicate (N.length - ws.length) none, mem, mem.length⟩
def fnOf (N : List Str) (g : SM) : FM := fun mem ws => fin mem (g (s0 N mem ws))
section
variable {K : PySem.W.Frag} {mg : Str → Option Value} {E : XK} {F : Addr → Prop} {G H G1 H1 G' H' : Hp} {as as' : List Addr} {s s1 : S} {σ σ' : L2.St} {mem : List (Option Cell)} {vs : List V} {ws : List W}
theorem RpWs.get : ∀ {vs : List V} {ws : List W} {i : Nat} {w : W}, RpWs K G as vs ws → ws[i]? = some w → ∃ v, vs[i]? = some v ∧ RpW K F G H as v w ∧ ∀ xs, w ≠ .f xs
  | _, _, _, _, .nil, e => by simp at e
  | _, _, 0, _, .d h _, e => by
    simp at e; subst e
    exact ⟨_, rfl, h, fun _ z => nomatch z⟩
  | _, _, 0, _, .c h _, e => by
    simp at e; subst e
    exact ⟨_, rfl, ⟨_, h, rfl⟩, fun _ z => nomatch z⟩
  | _, _, i + 1, w, .d _ r, e => by
    obtain ⟨v, a, b⟩ := RpWs.get (i := i) (w := w) r (by simpa using e)
    exact ⟨v, by simpa using a, b⟩
  | _, _, i + 1, w, .c _ r, e => by
    obtain ⟨v, a, b⟩ := RpWs.get (i := i) (w := w) r (by simpa using e)
    exact ⟨v, by simpa using a, b⟩
theorem Rep.start (N : List Str) (R : Rep K F G H as [] ⟨[], mem, 0⟩) (r : RpWs K G as vs ws) : Rep K F G H as (L2.start N vs) (s0 N mem ws) :=
  ⟨R.same, by simp [L2.start, s0, r.length], R.alen, R.nd, R.dom, R.fo, R.cell, fun i w e => by
    have e : (ws.map some ++ List.replicate (N.length - ws.length) (none : Option W))[i]? = some (some w) := e
    by_cases hi : i < ws.length
    · rw [List.getElem?_append_left (by simpa using hi), List.getElem?_map] at e
      cases e2 : ws[i]? with
      | none => rw [e2] at e; cases e
      | some w0 =>
        rw [e2] at e
        cases e
        obtain ⟨v, h1, h2, h3⟩ := r.get (F := F) (H := H) e2
        refine ⟨v, ?_, h2, h3⟩
        unfold L2.start
        rw [List.getElem?_append_left (by simpa [r.length] using hi), List.getElem?_map, h1]
        rfl
    · rw [List.getElem?_append_right (by simpa using hi), List.getElem?_replicate] at e
      split at e <;> cases e⟩
/-- what was there before stays -/
theorem Rep.cutS (R : Rep K F G' H' as' σ' s1) (p : as <+: as') (hm : mem.length = as.length) : Rep K F G' H' as [] ⟨[], s1.mem.take mem.length, 0⟩ := by
  obtain ⟨t, rfl⟩ := p
  have hl : mem.length ≤ s1.mem.length := by
    have := R.alen
    rw [List.length_append] at this
    omega
  refine ⟨R.same, rfl, ?_, (List.nodup_append.mp R.nd).1, fun a h => R.dom a (List.mem_append_left _ h), fun a h => ?_, fun n c e => ?_, fun i w e => by simp at e⟩
  · show as.length = (s1.mem.take mem.length).length
    rw [List.length_take]; omega
  · obtain ⟨k1, k2, k3⟩ := R.fo a h
    exact ⟨k1, fun z => k2 (List.mem_append_left _ z), k3⟩
  · have e : (s1.mem.take mem.length)[n]? = some (some c) := e
    rw [List.getElem?_take] at e
    split at e
    · rename_i hn
      obtain ⟨a, k1, k2⟩ := R.cell n c e
      exact ⟨a, by rw [List.getElem?_append_left (by omega)] at k1; exact k1, k2⟩
    · cases e
theorem live_cut {t : List Addr} {b : Addr} (hm : mem.length = as.length) (h : live as ⟨[], s1.mem.take mem.length, 0⟩ b) : live (as ++ t) s1 b := by
  obtain ⟨n, c, e, k⟩ := h
  have e : (s1.mem.take mem.length)[n]? = some (some c) := e
  rw [List.getElem?_take] at e
  split at e
  · exact ⟨n, c, e, by rw [List.getElem?_append_left (List.getElem?_eq_some_iff.mp k).1]; exact k⟩
  · cases e
theorem RpW.cutS {v : V} {w : W} (r : RpW K F G' H' (as ++ t) v w) (hn : ∀ n, w = .c n → n < as.length) : RpW K F G' H' as v w := by
  cases w with
  | d x => exact r
  | c n =>
    obtain ⟨a, h, e⟩ := r
    exact ⟨a, by rw [List.getElem?_append_left (hn n rfl)] at h; exact h, e⟩
  | f xs =>
    obtain ⟨a, vs, e, h1, h2, h3, h4, h5⟩ := r
    exact ⟨a, vs, e, h1, h2, fun z => h3 (List.mem_append_left _ z), h4, h5⟩
theorem fin_ok {Q : VK} {r : Res (Out × S)} {sb : S} (hs : sb.mem = mem) (R : Rep K F G H as σ sb) (h : match fin mem r with
    | .ok (w, mem') => ∀ v G' H', Rep K F G' H' as [] ⟨[], mem', 0⟩ → Ext G H (live as ⟨[], mem, 0⟩) G' H' (live as ⟨[], mem', 0⟩) → RpW K F G' H' as v w → New H v w → Q v H'
    | .exc c => ∀ C H', mg c = some (.ref C) → (∀ a o, H a = some o → ¬ live as ⟨[], mem, 0⟩ a → H' a = some o) → E (.ref C) none H'
    | .bad => False) : sK K mg E F G H as sb r { nx := fun _ H' => Q .non H', rt := Q } := by
  have hm : mem.length = as.length := by rw [← hs]; exact R.alen.symm
  have el : live as sb = live as ⟨[], mem, 0⟩ := live_eq hs
  cases r with
  | bad => exact h
  | exc c =>
    intro C H' hc k
    exact h C H' hc (by rw [← el]; exact k)
  | ok p =>
    obtain ⟨o, s1⟩ := p
    have cutX : ∀ {G' H' : Hp} {as' : List Addr}, Ext G H (live as sb) G' H' (live as' s1) → as <+: as' → Ext G H (live as ⟨[], mem, 0⟩) G' H' (live as ⟨[], s1.mem.take mem.length, 0⟩) := fun {G' H' as'} x p => by
      obtain ⟨t, rfl⟩ := p
      rw [el] at x
      exact ⟨x.same, x.keep, fun a z => x.new a (live_cut hm z)⟩
    cases o with
    | nx => exact fun σ' G' H' as' R' X' p' => h .non G' H' (R'.cutS p' hm) (cutX X' p') .non fun _ _ e _ => nomatch e
    | bk => exact h.elim
    | ct => exact h.elim
    | rt w =>
      intro v σ' G' H' as' R' X' p' r' n'
      have R2 := R'.cutS p' hm
      have X2 := cutX X' p'
      obtain ⟨t, rfl⟩ := p'
      cases w with
      | d x => exact h v G' H' R2 X2 r' n'
      | f xs => exact h v G' H' R2 X2 (r'.cutS fun n z => nomatch z) n'
      | c n =>
        unfold fin at h
        rw [Res.bind_ok] at h
        dsimp only at h
        by_cases hn : n < mem.length
        · rw [if_pos hn] at h
          exact h v G' H' R2 X2 (r'.cutS fun m z => by cases z; omega) n'
        · rw [if_neg hn] at h
          cases e : s1.mem[n]? with
          | none => rw [e] at h; exact h.elim
          | some o =>
            rw [e] at h
            cases o with
            | none => exact h.elim
            | some c =>
              cases c with
              | m kvs => exact h.elim
              | l xs =>
                obtain ⟨a, ha, rfl⟩ := r'
                obtain ⟨g0, vs, h1, h2⟩ := R'.cellAt e ha
                have na : a ∉ as := fun z => by
                  obtain ⟨m, hm'⟩ := List.getElem?_of_mem z
                  have := nd_at R'.nd ha (show (as ++ t)[m]? = some a by rw [List.getElem?_append_left (List.getElem?_eq_some_iff.mp hm').1]; exact hm')
                  have := (List.getElem?_eq_some_iff.mp hm').1
                  omega
                refine h _ G' H' R2 X2 ⟨a, vs, rfl, h1, g0, na, fun z => (R'.fo a z).2.1 (List.mem_of_getElem? ha), h2⟩ fun ys b _ hb => ?_
                cases hb
                rcases X'.new a ⟨n, _, e, ha⟩ with z | z
                · exact absurd z (not_live na)
                · exact z
end
/-- a def of the text keeps the promise of its body's meaning -/
theorem Df.mk' {P : Program} {w : World} {K : PySem.W.Frag} {mg : Str → Option Value} {base : Heap} {k : Nat} {x : Str} {st : Stmt} {f : Addr} {fd : FuncData} {N ps : List Str} {g : SM} (Fn : Fun K x x st f fd) (Sc : FnScope N ps (defScope st)) (hm : mg x = some (.ref f)) (hb : Binds K fd ps [])
    (body : ∀ (cdv : Value) (A : Around) (outer : List Env) (s : Shared) (H : Hp) (E : XK), Room k (A.deeper (envOfC x (defScope st) s.heap.objs.size f cdv)) → PDSs (cxOf (L2.CX P w) P w K mg base N x (defScope st) f cdv A outer s H E) E (defBody st) g) :
    Df P w K mg base (k + 1) x ps (fnOf N g) := by
  refine ⟨f, fd, Fn.okX Sc (fun vs H Q E h => ?_) (fun cdv A outer s H vs Q E hr h => ⟨_, (body cdv A outer s H E hr).pss, ?_⟩), hm, Fn.kp, hb⟩
  · obtain ⟨_, _, _, _, _, hl, _⟩ := h
    exact hl
  · obtain ⟨F, G, as, mem, ws, hl, R, r, h⟩ := h
    exact ⟨F, G, as, s0 N mem ws, R.start N r, fin_ok (sb := s0 N mem ws) rfl (R.start N r) h⟩
end
end PD

set_option Elab.async false
set_option linter.all false
set_option maxRecDepth 100000
set_option maxHeartbeats 4000000
namespace PD
noncomputable section
open PySem PySem.Spec PyProof.Rows L2

/-! ### new objects -/
section
variable {K : PySem.W.Frag} {mg : Str → Option Value} {E : XK} {F : Addr → Prop} {G H : Hp} {as : List Addr} {s s' : S} {σ : L2.St} {v : V} {w : W} {x : D} {xs : List D} {p : Addr} {o : HO}
theorem Rep.fresh (R : Rep K F G H as σ s) (hp : H p = none) : G p = none ∧ p ∉ as ∧ ¬ F p := by
  refine ⟨R.same.free hp, fun z => ?_, fun z => ?_⟩
  · obtain ⟨o, e⟩ := R.dom p z
    rw [hp] at e; cases e
  · obtain ⟨_, _, o, e⟩ := R.fo p z
    rw [hp] at e; cases e
/-- a new object that is not plain (yet) -/
theorem Rep.new (R : Rep K F G H as σ s) (hp : H p = none) (o : HO) : Rep K F G (upd H p o) as σ s := by
  have sh : Same H (upd H p o) := same_upd hp
  exact ⟨R.same.trans sh, R.len, R.alen, R.nd, fun a h => by
    obtain ⟨u, e⟩ := R.dom a h
    exact ⟨u, sh a u e⟩, fun a h => by
    obtain ⟨k1, k2, u, e⟩ := R.fo a h
    exact ⟨k1, k2, u, sh a u e⟩, fun n c e => by
    obtain ⟨a, k1, k2, k3⟩ := R.cell n c e
    exact ⟨a, k1, k2, k3.mono (Same.refl _) fun u z => sh a u z⟩, fun i w e => by
    obtain ⟨v, k1, k2, k3⟩ := R.env i w e
    exact ⟨v, k1, (show RpW K F G (upd H p o) as v w by
      cases w with
      | d x => exact k2
      | c n => exact k2
      | f ys => exact absurd rfl (k3 ys)), k3⟩⟩
theorem Ext.alloc (hp : H p = none) {L : Addr → Prop} : Ext G H L G (upd H p o) L := ⟨Same.refl _, fun a u e _ => same_upd hp a u e, fun _ z => .inl z⟩
/-- a new plain object -/
theorem Rep.newG (R : Rep K F G H as σ s) (hp : H p = none) (o : HO) : Rep K F (upd G p o) (upd H p o) as σ s := by
  obtain ⟨g, na, nf⟩ := R.fresh hp
  exact (R.new hp o).lay g upd_same nf fun n c _ z => na (List.mem_of_getElem? z)
theorem Ext.allocG (g : G p = none) (hp : H p = none) {L : Addr → Prop} : Ext G H L (upd G p o) (upd H p o) L := ⟨same_upd g, fun a u e _ => same_upd hp a u e, fun _ z => .inl z⟩
/-- a new list as a value -/
theorem Rep.newF {vs : List V} (R : Rep K F G H as σ s) (hp : H p = none) (r : RpA K G vs xs) : RpW K F G (upd H p (.lst vs)) as (.ref p) (.f xs) := by
  obtain ⟨g, na, nf⟩ := R.fresh hp
  exact ⟨p, vs, rfl, upd_same, g, na, nf, r⟩
end
/-- plain items of values -/
def dsOf : List W → Option (List D)
  | [] => some []
  | .d x :: r => (dsOf r).map (x :: ·)
  | _ :: _ => none
theorem dsOf_ok {K : PySem.W.Frag} {G : Hp} {as : List Addr} : ∀ {vs : List V} {ws : List W} {ds : List D}, RpWs K G as vs ws → dsOf ws = some ds → RpA K G vs ds
  | _, _, _, .nil, e => by cases e; exact .nil
  | _, _, ds, .d (ws := ws) (x := x) h r, e => by
    have e : (dsOf ws).map (x :: ·) = some ds := e
    cases q : dsOf ws with
    | none => rw [q] at e; cases e
    | some es => rw [q] at e; cases e; exact .cons h (dsOf_ok r q)
  | _, _, _, .c h r, e => nomatch e
section
variable {X : Cx} {E : XK} {e a b c : Expr} {es : List Expr} {fe fa fb fc : EM} {g : AM} {pos : Pos} {k : Nat}
def eTup (g : AM) : EM := fun s => (g s).bind fun p => match dsOf p.1 with
  | some ds => if ds.length ≤ sizeLine then .ok (.d (.tuple ds), p.2) else .bad
  | none => .bad
theorem pd_tup {x1} (h : PDA X E es g) : PDE X E (.Tuple es x1 pos) (eTup g) := ⟨PE.imp (pe_tup h.pa) fun σ H Q h => by
  obtain ⟨F, G, as, s, R, h⟩ := h
  refine ⟨F, G, as, s, R, ?_⟩
  unfold eTup at h
  cases e : g s with
  | exc c => rw [e] at h; exact h
  | bad => rw [e] at h; exact h
  | ok q =>
    obtain ⟨ws, s1⟩ := q
    rw [e, Res.bind_ok] at h
    dsimp only at h
    intro vs G1 H1 R1 X1 r1
    have h := eK.ext h R R1 X1
    split at h
    · rename_i ds e2
      split at h
      · rename_i hz
        have ra := dsOf_ok r1 e2
        refine ⟨by rw [ra.length]; exact hz, fun p hp => ?_⟩
        obtain ⟨gp, _, _⟩ := R1.fresh hp
        exact h _ _ _ (R1.newG hp _) (Ext.allocG gp hp) (.tup (SqT.of upd_same) (ra.mono (same_upd gp))) fun _ _ z _ => nomatch z
      · exact h.elim
    · exact h.elim⟩
def eLst (g : AM) : EM := fun s => (g s).bind fun p => match dsOf p.1 with
  | some ds => if ds.length ≤ sizeLine then .ok (.f ds, p.2) else .bad
  | none => .bad
theorem pd_lst (h : PDA X E es g) : PDE X E (.List es pos) (eLst g) := ⟨PE.imp (pe_lst h.pa) fun σ H Q h => by
  obtain ⟨F, G, as, s, R, h⟩ := h
  refine ⟨F, G, as, s, R, ?_⟩
  unfold eLst at h
  cases e : g s with
  | exc c => rw [e] at h; exact h
  | bad => rw [e] at h; exact h
  | ok q =>
    obtain ⟨ws, s1⟩ := q
    rw [e, Res.bind_ok] at h
    dsimp only at h
    intro vs G1 H1 R1 X1 r1
    have h := eK.ext h R R1 X1
    split at h
    · rename_i ds e2
      split at h
      · rename_i hz
        have ra := dsOf_ok r1 e2
        refine ⟨by rw [ra.length]; exact hz, fun p hp => ?_⟩
        exact h _ _ _ (R1.new hp _) (Ext.alloc hp) (R1.newF hp ra) fun _ b _ hb => by cases hb; exact hp
      · exact h.elim
    · exact h.elim⟩

/-! ### built-ins of one argument -/
def eB1 (g : W → EM) (f : EM) : EM := fun s => (f s).bind fun p => g p.1 p.2
def UnD (X : Cx) (E : XK) (r : List V → Hp → VK → Prop) (g : W → EM) : Prop := ∀ (F : Addr → Prop) (G H : Hp) (as : List Addr) (s : S) (σ : L2.St) (v : V) (w : W) (Q : VK), Rep X.K F G H as σ s → RpW X.K F G H as v w → eK X.K X.mg E F G H as s σ (g w s) Q → r [v] H Q
theorem b1_ok {r : List V → Hp → VK → Prop} {gg : W → EM} (hg : UnD X E r gg) (σ : L2.St) (H : Hp) (Q : VK) (h : eT X.K X.mg E (eB1 gg fe) σ H Q) : tCB r (tCons (eT X.K X.mg E fe) tNil) σ H Q := by
  obtain ⟨F, G, as, s, R, h⟩ := h
  exact eT.seq R h fun G1 H1 w s1 v R1 X1 r1 _ h1 => hg F G1 H1 as s1 σ v w Q R1 r1 h1
theorem pd_b1 {id : String} {x : Str} {p : Pos} {r : List V → Hp → VK → Prop} {gg : W → EM} (hc : CallR X (.builtin id) r) (hgg : UnD X E r gg) (hm : X.mg x = none) (hv : bootBuiltins x = some (.builtin id)) (ha : PDE X E e fe) (hg : Gl X x := by rfl) (hn : x ≠ "__name__" := by decide) (hdb : (x == ("__debug__" : Str)) = false := by decide)
    (he : starEach [e] X.env = (false, eval e X.env) :: starEach [] X.env := by rfl) : PDE X E (.Call (.Name x p) [e] [] pos) (eB1 gg fe) :=
  ⟨PE.imp (pe_callB hc hg hm hv (pa_cons ha.pe pa_nil he) hn hdb he) (b1_ok hgg)⟩
theorem pd_t1 {T : String} {x : Str} {p : Pos} {r : List V → Hp → VK → Prop} {gg : W → EM} (hc : CallR X (.type T) r) (hgg : UnD X E r gg) (hm : X.mg x = none) (hv : bootBuiltins x = some (.type T)) (ha : PDE X E e fe) (hg : Gl X x := by rfl) (hn : x ≠ "__name__" := by decide) (hdb : (x == ("__debug__" : Str)) = false := by decide)
    (he : starEach [e] X.env = (false, eval e X.env) :: starEach [] X.env := by rfl) : PDE X E (.Call (.Name x p) [e] [] pos) (eB1 gg fe) :=
  ⟨PE.imp (pe_callTy hc hg hm hv (pa_cons ha.pe pa_nil he) hn hdb he) (b1_ok hgg)⟩
def gLen : W → EM := fun w s => match dat s w with
  | some (.list xs) => .ok (.d (.int xs.length), s)
  | some (.tuple xs) => .ok (.d (.int xs.length), s)
  | some (.str z) => if z.length ≤ sizeLine then .ok (.d (.int z.length), s) else .bad
  | _ => .bad
theorem ud_len : UnD X E (fun xs H Q => (∃ p ys, xs = [.ref p] ∧ (SqL X.K H p ys ∨ SqT X.K H p ys) ∧ Q (.int ys.length) H) ∨ (∃ z, xs = [.str z] ∧ z.length ≤ sizeLine ∧ Q (.int z.length) H)) gLen := fun F G H as s σ v w Q R r h => by
  unfold gLen at h
  split at h
  · rename_i xs e
    obtain ⟨a, vs, rfl, h1, h2⟩ := dat_lst R r e
    exact .inl ⟨a, vs, rfl, .inl (h1), by rw [h2.length]; exact eK.val R h (.int _)⟩
  · rename_i xs e
    obtain ⟨_, a, vs, rfl, h1, h2⟩ := dat_tup R r e
    exact .inl ⟨a, vs, rfl, .inr h1, by rw [h2.length]; exact eK.val R h (.int _)⟩
  · rename_i z e
    split at h
    · rename_i hz
      exact .inr ⟨z, by rw [dat_str r e], hz, eK.val R h (.int _)⟩
    · exact h.elim
  · exact h.elim
abbrev eLen := eB1 gLen
theorem pd_len {p : Pos} (hm : X.mg "len" = none) (ha : PDE X E e fe) (hg : Gl X "len" := by rfl) (he : starEach [e] X.env = (false, eval e X.env) :: starEach [] X.env := by rfl) : PDE X E (.Call (.Name "len" p) [e] [] pos) (eLen fe) :=
  pd_b1 (call_len_seq.or call_len_str) ud_len hm PySem.boot_len ha hg (by decide) (by decide) he
def boolsOf : List D → Option (List Bool)
  | [] => some []
  | .bool b :: r => (boolsOf r).map (b :: ·)
  | _ :: _ => none
theorem boolsOf_ok {K : PySem.W.Frag} {G : Hp} : ∀ {vs : List V} {ds : List D} {bs : List Bool}, RpA K G vs ds → boolsOf ds = some bs → vs = bs.map V.bl
  | _, _, _, .nil, e => by cases e; rfl
  | _, _, bs, .cons (ds := ds) (.bl b) r, e => by
    have e : (boolsOf ds).map (b :: ·) = some bs := e
    cases q : boolsOf ds with
    | none => rw [q] at e; cases e
    | some es => rw [q] at e; cases e; rw [boolsOf_ok r q]; rfl
  | _, _, _, .cons .non _, e => nomatch e
  | _, _, _, .cons (.int _) _, e => nomatch e
  | _, _, _, .cons (.str _) _, e => nomatch e
  | _, _, _, .cons (.lst _ _) _, e => nomatch e
  | _, _, _, .cons (.tup _ _) _, e => nomatch e
  | _, _, _, .cons (.dic _) _, e => nomatch e
def gAll (any : Bool) : W → EM := fun w s => match dat s w with
  | some (.list xs) => (match boolsOf xs with
    | some bs => .ok (.d (.bool (if any then bs.any id else bs.all id)), s)
    | none => .bad)
  | _ => .bad
theorem ud_all : UnD X E (rAll X.K) (gAll false) := fun F G H as s σ v w Q R r h => by
  unfold gAll at h
  split at h
  · rename_i xs e
    split at h
    · rename_i bs e2
      obtain ⟨a, vs, rfl, h1, h2⟩ := dat_lst R r e
      rw [boolsOf_ok h2 e2] at h1
      exact ⟨a, bs, rfl, h1, eK.val R h (.bl _)⟩
    · exact h.elim
  · exact h.elim
theorem ud_any : UnD X E (rAny X.K) (gAll true) := fun F G H as s σ v w Q R r h => by
  unfold gAll at h
  split at h
  · rename_i xs e
    split at h
    · rename_i bs e2
      obtain ⟨a, vs, rfl, h1, h2⟩ := dat_lst R r e
      rw [boolsOf_ok h2 e2] at h1
      exact ⟨a, bs, rfl, h1, eK.val R h (.bl _)⟩
    · exact h.elim
  · exact h.elim
theorem pd_all {p : Pos} (hm : X.mg "all" = none) (hcalm : X.calm = true) (ha : PDE X E e fe) (hg : Gl X "all" := by rfl) (he : starEach [e] X.env = (false, eval e X.env) :: starEach [] X.env := by rfl) : PDE X E (.Call (.Name "all" p) [e] [] pos) (eB1 (gAll false) fe) :=
  pd_b1 (cr_all hcalm) ud_all hm (by decide +kernel) ha hg (by decide) (by decide) he
theorem pd_any {p : Pos} (hm : X.mg "any" = none) (hcalm : X.calm = true) (ha : PDE X E e fe) (hg : Gl X "any" := by rfl) (he : starEach [e] X.env = (false, eval e X.env) :: starEach [] X.env := by rfl) : PDE X E (.Call (.Name "any" p) [e] [] pos) (eB1 (gAll true) fe) :=
  pd_b1 (cr_any hcalm) ud_any hm (by decide +kernel) ha hg (by decide) (by decide) he

/-! ### isinstance with a built-in type -/
def tyD : D → String
  | .none => "NoneType" | .bool _ => "bool" | .int _ => "int" | .str _ => "str" | .list _ => "list" | .tuple _ => "tuple" | .dict _ => "dict"
theorem tyX_of {K : PySem.W.Frag} {H : Hp} {v : V} {x : D} (r : Rp K H v x) : TyX K H v (.type (tyD x)) := by
  cases r with
  | non => exact .base .non
  | bl b => exact .base (.bl b)
  | int i => exact .base (.int i)
  | str z => exact .base (.str z)
  | lst h _ =>
    rcases h with (h | ⟨o, h⟩) | ⟨o, _, _, h, hc, _⟩
    · exact .base (.lst h)
    · exact .base (.frz h)
    · exact .kList h hc
  | tup h _ =>
    rcases h with (h | ⟨o, h⟩) | ⟨o, _, _, h, hc, _⟩
    · exact .base (.tup h)
    · exact .fTuple h
    · exact .kTuple h hc
  | dic h => exact .base (.dK h)
def gIsi (t : D → Bool) : W → EM := fun w s => match dat s w with
  | some x => .ok (.d (.bool (t x)), s)
  | none => .bad
def eIsi (t : D → Bool) (f : EM) : EM := fun s => (f s).bind fun p => gIsi t p.1 p.2
theorem pd_isi {T : String} {xT : Str} {t : D → Bool} {p p2 : Pos} (hm : X.mg "isinstance" = none) (hmT : X.mg xT = none) (hvT : bootBuiltins xT = some (.type T)) (hk : ∀ x, kitB (tyD x) T = some (t x)) (ha : PDE X E e fe) (hnT : xT ≠ "__name__" := by decide) (hdT : (xT == ("__debug__" : Str)) = false := by decide)
    (hg : Gl X "isinstance" := by rfl) (hgT : Gl X xT := by rfl) (he : starEach [e, .Name xT p2] X.env = (false, eval e X.env) :: starEach [.Name xT p2] X.env := by rfl) (he2 : starEach [.Name xT p2] X.env = (false, eval (.Name xT p2) X.env) :: starEach [] X.env := by rfl) : PDE X E (.Call (.Name "isinstance" p) [e, .Name xT p2] [] pos) (eIsi t fe) :=
  ⟨PE.imp (pe_callB call_isi hg hm (by decide +kernel) (pa_cons ha.pe (pa_cons (pe_bltn (v := .ty T) hgT hmT hvT rfl hnT hdT) pa_nil he2) he) (by decide) (by decide) he) fun σ H Q h => by
    obtain ⟨F, G, as, s, R, h⟩ := h
    refine eT.seq R h fun G1 H1 w s1 v R1 X1 r1 _ h1 => ?_
    dsimp only [gIsi] at h1
    split at h1
    · rename_i x e2
      exact ⟨v, .ty T, .type (tyD x), .type T, t x, rfl, .ty T, tyX_of (dat_rp R1 r1 e2), kit_ty (hk x), eK.val R1 h1 (.bl _)⟩
    · exact h1.elim⟩
@[simp] def isInt : D → Bool | .int _ => true | .bool _ => true | _ => false
@[simp] def isBool : D → Bool | .bool _ => true | _ => false
@[simp] def isStr : D → Bool | .str _ => true | _ => false
@[simp] def isTup : D → Bool | .tuple _ => true | _ => false
@[simp] def isLst : D → Bool | .list _ => true | _ => false
@[simp] def isDct : D → Bool | .dict _ => true | _ => false
theorem kAny {T : String} {t : D → Bool} {b0 b1 b2 b3 b4 b5 b6 : Bool} (h0 : kitB "NoneType" T = some b0) (h1 : kitB "bool" T = some b1) (h2 : kitB "int" T = some b2) (h3 : kitB "str" T = some b3) (h4 : kitB "list" T = some b4) (h5 : kitB "tuple" T = some b5) (h6 : kitB "dict" T = some b6)
    (k0 : t .none = b0) (k1 : ∀ b, t (.bool b) = b1) (k2 : ∀ b, t (.int b) = b2) (k3 : ∀ b, t (.str b) = b3) (k4 : ∀ b, t (.list b) = b4) (k5 : ∀ b, t (.tuple b) = b5) (k6 : ∀ b, t (.dict b) = b6) : ∀ x : D, kitB (tyD x) T = some (t x)
  | .none => by rw [k0]; exact h0
  | .bool b => by rw [k1]; exact h1
  | .int b => by rw [k2]; exact h2
  | .str b => by rw [k3]; exact h3
  | .list b => by rw [k4]; exact h4
  | .tuple b => by rw [k5]; exact h5
  | .dict b => by rw [k6]; exact h6
theorem kInt : ∀ x : D, kitB (tyD x) "int" = some (isInt x) := kAny (show kitB "NoneType" "int" = some false by decide +kernel) (show kitB "bool" "int" = some true by decide +kernel) (show kitB "int" "int" = some true by decide +kernel) (show kitB "str" "int" = some false by decide +kernel) (show kitB "list" "int" = some false by decide +kernel) (show kitB "tuple" "int" = some false by decide +kernel) (show kitB "dict" "int" = some false by decide +kernel) rfl (fun _ => rfl) (fun _ => rfl) (fun _ => rfl) (fun _ => rfl) (fun _ => rfl) (fun _ => rfl)
theorem kBool : ∀ x : D, kitB (tyD x) "bool" = some (isBool x) := kAny (show kitB "NoneType" "bool" = some false by decide +kernel) (show kitB "bool" "bool" = some true by decide +kernel) (show kitB "int" "bool" = some false by decide +kernel) (show kitB "str" "bool" = some false by decide +kernel) (show kitB "list" "bool" = some false by decide +kernel) (show kitB "tuple" "bool" = some false by decide +kernel) (show kitB "dict" "bool" = some false by decide +kernel) rfl (fun _ => rfl) (fun _ => rfl) (fun _ => rfl) (fun _ => rfl) (fun _ => rfl) (fun _ => rfl)
theorem kStr : ∀ x : D, kitB (tyD x) "str" = some (isStr x) := kAny (show kitB "NoneType" "str" = some false by decide +kernel) (show kitB "bool" "str" = some false by decide +kernel) (show kitB "int" "str" = some false by decide +kernel) (show kitB "str" "str" = some true by decide +kernel) (show kitB "list" "str" = some false by decide +kernel) (show kitB "tuple" "str" = some false by decide +kernel) (show kitB "dict" "str" = some false by decide +kernel) rfl (fun _ => rfl) (fun _ => rfl) (fun _ => rfl) (fun _ => rfl) (fun _ => rfl) (fun _ => rfl)
theorem kTup : ∀ x : D, kitB (tyD x) "tuple" = some (isTup x) := kAny (show kitB "NoneType" "tuple" = some false by decide +kernel) (show kitB "bool" "tuple" = some false by decide +kernel) (show kitB "int" "tuple" = some false by decide +kernel) (show kitB "str" "tuple" = some false by decide +kernel) (show kitB "list" "tuple" = some false by decide +kernel) (show kitB "tuple" "tuple" = some true by decide +kernel) (show kitB "dict" "tuple" = some false by decide +kernel) rfl (fun _ => rfl) (fun _ => rfl) (fun _ => rfl) (fun _ => rfl) (fun _ => rfl) (fun _ => rfl)
theorem kLst : ∀ x : D, kitB (tyD x) "list" = some (isLst x) := kAny (show kitB "NoneType" "list" = some false by decide +kernel) (show kitB "bool" "list" = some false by decide +kernel) (show kitB "int" "list" = some false by decide +kernel) (show kitB "str" "list" = some false by decide +kernel) (show kitB "list" "list" = some true by decide +kernel) (show kitB "tuple" "list" = some false by decide +kernel) (show kitB "dict" "list" = some false by decide +kernel) rfl (fun _ => rfl) (fun _ => rfl) (fun _ => rfl) (fun _ => rfl) (fun _ => rfl) (fun _ => rfl)
theorem kDct : ∀ x : D, kitB (tyD x) "dict" = some (isDct x) := kAny (show kitB "NoneType" "dict" = some false by decide +kernel) (show kitB "bool" "dict" = some false by decide +kernel) (show kitB "int" "dict" = some false by decide +kernel) (show kitB "str" "dict" = some false by decide +kernel) (show kitB "list" "dict" = some false by decide +kernel) (show kitB "tuple" "dict" = some false by decide +kernel) (show kitB "dict" "dict" = some true by decide +kernel) rfl (fun _ => rfl) (fun _ => rfl) (fun _ => rfl) (fun _ => rfl) (fun _ => rfl) (fun _ => rfl)

/-! ### subscripts -/
def gIx : W → W → EM := fun wa wb s => match dat s wa, wb with
  | some (.list xs), .d (.int i) => (match atI xs i with
    | some x => .ok (.d x, s)
    | none => .bad)
  | some (.tuple xs), .d (.int i) => (match atI xs i with
    | some x => .ok (.d x, s)
    | none => .bad)
  | some (.str z), .d (.int i) => (match atI z.cps.toList i with
    | some c => if z.length ≤ sizeLine then .ok (.d (.str ⟨#[c]⟩), s) else .bad
    | none => .bad)
  | _, _ => .bad
theorem atI_rp {K : PySem.W.Frag} {G : Hp} {vs : List V} {xs : List D} {i : Int} {x : D} (r : RpA K G vs xs) (h : atI xs i = some x) : ∃ v, atI vs i = some v ∧ Rp K G v x := by
  unfold atI at h ⊢
  rw [r.length]
  cases q : ixN xs.length i with
  | none => rw [q] at h; cases h
  | some j =>
    rw [q] at h
    exact r.get h
theorem od_ix : OpD X E (rIx X.K) gIx := fun F G H as s σ x y wa wb Q R ra rb h => by
  unfold gIx at h
  split at h
  · rename_i xs i e
    split at h
    · rename_i d e2
      obtain ⟨a, vs, rfl, h1, h2⟩ := dat_lst R ra e
      cases rb
      obtain ⟨v, h3, h4⟩ := atI_rp h2 e2
      exact .inl ⟨a, vs, i, v, rfl, rfl, h1, h3, eK.val R h h4⟩
    · exact h.elim
  · rename_i xs i e
    split at h
    · rename_i d e2
      obtain ⟨_, a, vs, rfl, h1, h2⟩ := dat_tup R ra e
      cases rb
      obtain ⟨v, h3, h4⟩ := atI_rp h2 e2
      exact .inr (.inl ⟨a, vs, i, v, rfl, rfl, h1, h3, eK.val R h h4⟩)
    · exact h.elim
  · rename_i z i e
    split at h
    · rename_i c e2
      split at h
      · rename_i hz
        cases rb
        exact .inr (.inr ⟨z, i, c, dat_str ra e, rfl, hz, e2, eK.val R h (.str _)⟩)
      · exact h.elim
    · exact h.elim
  · exact h.elim
abbrev eIx := eBin gIx
theorem pd_ix (ha : PDE X E a fa) (hb : PDE X E b fb) (hs : PlainIx b := by exact fun _ _ => rfl) : PDE X E (.Subscript a b pos) (eIx fa fb) := ⟨PE.imp (pe_ix ix_seq ha.pe hb.pe hs) (bin_ok od_ix)⟩
end
end
end PD

set_option Elab.async false
set_option linter.all false
set_option maxRecDepth 100000
set_option maxHeartbeats 4000000
namespace PD
noncomputable section
open PySem PySem.Spec PyProof.Rows L2

/-! ### what is walked -/
/-- from heaps that hold G, the iterator yields these plain items -/
def WalkI (K : PySem.W.Frag) (G : Hp) (J : It) (xs : List D) : Prop := ∀ (i : Nat) (G1 H : Hp), Same G G1 → Same G1 H →
  (xs.length ≤ i → J.stop i H) ∧ ∀ d, xs[i]? = some d → J.go i H ∧ ∀ x H', J.yld i H x H' → (H' = H ∧ Rp K G1 x d) ∨ ∃ T o, H T = none ∧ H' = upd H T o ∧ Rp K (upd G1 T o) x d
def iK (K : PySem.W.Frag) (mg : Str → Option Value) (E : XK) (F : Addr → Prop) (G H : Hp) (as : List Addr) (s : S) (σ : L2.St) (r : Res (List D × S)) (Q : It → Hp → Prop) : Prop := match r with
  | .ok (xs, s') => ∀ J G' H', Rep K F G' H' as σ s' → Ext G H (live as s) G' H' (live as s') → WalkI K G' J xs → Q J H'
  | .exc c => ∀ C H', mg c = some (.ref C) → (∀ a o, H a = some o → ¬ live as s a → H' a = some o) → E (.ref C) none H'
  | .bad => False
abbrev IM := S → Res (List D × S)
def iT (K : PySem.W.Frag) (mg : Str → Option Value) (E : XK) (f : IM) : TI := fun σ H Q => ∃ (F : Addr → Prop) (G : Hp) (as : List Addr) (s : S), Rep K F G H as σ s ∧ iK K mg E F G H as s σ (f s) Q
structure PDI (X : Cx) (E : XK) (tg e : Expr) (f : IM) : Prop where
  pi : PI X tg e (iT X.K X.mg E f)
theorem PI.imp {X : Cx} {tg e : Expr} {t t' : TI} (h : PI X tg e t) (k : ∀ σ H Q, t' σ H Q → t σ H Q) : PI X tg e t' := ⟨fun pins s σ H Q I q => h.run pins s σ H Q I (k σ H Q q)⟩
theorem sq_inj {K : PySem.W.Frag} {G H : Hp} {a : Addr} {xs ys : List V} (sg : Same G H) (h : SqL K G a xs) (h' : ∀ xs, SqL K H a xs → ∀ ys, SqL K H a ys → xs = ys) (q : SqL K H a ys) : ys = xs := h' _ q _ (sg.seq h)
section
variable {X : Cx} {E : XK} {tg e e2 : Expr} {fe f2 : EM}
theorem walk_list {K : PySem.W.Frag} {G : Hp} {a : Addr} {vs : List V} {xs : List D} (h : SqL K G a vs) (r : RpA K G vs xs) : WalkI K G (Itl K a) xs := fun i G1 H s1 s2 => by
  have hH : SqL K H a vs := (s1.trans s2).seq h
  refine ⟨fun hi => ⟨vs, hH, by rw [r.length]; exact hi⟩, fun d hd => ?_⟩
  obtain ⟨v, h1, h2⟩ := r.get hd
  refine ⟨⟨vs, v, hH, h1⟩, fun x H' y => .inl ⟨y.1, ?_⟩⟩
  have := y.2 vs hH
  rw [h1] at this; cases this
  exact Rp.mono s1 h2
theorem walk_tup {K : PySem.W.Frag} {G : Hp} {a : Addr} {vs : List V} {xs : List D} (h : SqT K G a vs) (r : RpA K G vs xs) : WalkI K G (Itt K a) xs := fun i G1 H s1 s2 => by
  have hH : SqT K H a vs := seqT (s1.trans s2) h
  refine ⟨fun hi => ⟨vs, hH, by rw [r.length]; exact hi⟩, fun d hd => ?_⟩
  obtain ⟨v, h1, h2⟩ := r.get hd
  refine ⟨⟨vs, v, hH, h1⟩, fun x H' y => .inl ⟨y.1, ?_⟩⟩
  have := y.2 vs hH
  rw [h1] at this; cases this
  exact Rp.mono s1 h2
theorem walk_range {K : PySem.W.Frag} {G : Hp} {lo : Int} {n : Nat} : WalkI K G (Itr lo n) ((List.range n).map fun (i : Nat) => PyData.int (lo + i)) := fun i G1 H s1 s2 => by
  refine ⟨fun hi => (show n ≤ i by simpa using hi), fun d hd => ?_⟩
  have hi : i < n := by
    have := (List.getElem?_eq_some_iff.mp hd).1
    simpa using this
  have e : d = .int (lo + i) := by
    rw [List.getElem?_map, List.getElem?_range hi] at hd
    exact (Option.some.inj hd).symm
  subst e
  exact ⟨hi, fun x H' y => .inl ⟨y.1, by rw [y.2]; exact .int _⟩⟩
theorem walk_str {K : PySem.W.Frag} {G : Hp} {z : Str} : WalkI K G (Its z) (z.cps.toList.map fun (c : Nat) => PyData.str ⟨#[c]⟩) := fun i G1 H s1 s2 => by
  refine ⟨fun hi => (show z.cps.size ≤ i by simpa using hi), fun d hd => ?_⟩
  rw [List.getElem?_map] at hd
  cases q : z.cps.toList[i]? with
  | none => rw [q] at hd; cases hd
  | some c =>
    rw [q] at hd
    cases hd
    have hi : i < z.cps.size := by simpa using (List.getElem?_eq_some_iff.mp q).1
    refine ⟨hi, fun x H' y => .inl ⟨y.1, ?_⟩⟩
    obtain ⟨c', h1, h2⟩ := y.2
    have : c' = c := by
      have h3 : z.cps.toList[i]? = some c' := by rw [Array.getElem?_toList]; exact h1
      rw [q] at h3
      exact (Option.some.inj h3).symm
    rw [h2, this]
    exact .str _
/-- a list, a tuple, a text that is walked is plain from then on -/
def iOf (f : EM) : IM := fun s => (f s).bind fun p => match toD p.1 p.2 with
  | some (.list xs, s') => .ok (xs, s')
  | some (.tuple xs, s') => .ok (xs, s')
  | some (.str z, s') => .ok (z.cps.toList.map fun (c : Nat) => PyData.str ⟨#[c]⟩, s')
  | _ => .bad
/-- one expression, walked -/
theorem iK.ext {K : PySem.W.Frag} {mg : Str → Option Value} {F : Addr → Prop} {G H G1 H1 : Hp} {as : List Addr} {s s1 : S} {σ : L2.St} {r : Res (List D × S)} {Q : It → Hp → Prop} (h : iK K mg E F G H as s σ r Q) (e : Ext G H (live as s) G1 H1 (live as s1)) : iK K mg E F G1 H1 as s1 σ r Q := by
  cases r with
  | ok p => exact fun J G' H' R' x w => h J G' H' R' (e.trans x) w
  | exc c => exact fun C H' hc k => h C H' hc (keepX e k)
  | bad => exact h
theorem eT.seqI {K : PySem.W.Frag} {mg : Str → Option Value} {F : Addr → Prop} {G H : Hp} {as : List Addr} {s : S} {σ : L2.St} {fa : EM} {k : W × S → Res (List D × S)} {Q : It → Hp → Prop} {Q1 : VK} (R : Rep K F G H as σ s) (h : iK K mg E F G H as s σ ((fa s).bind k) Q)
    (hk : ∀ (G1 H1 : Hp) (w : W) (s1 : S) (v : V), Rep K F G1 H1 as σ s1 → RpW K F G1 H1 as v w → iK K mg E F G1 H1 as s1 σ (k (w, s1)) Q → Q1 v H1) : eT K mg E fa σ H Q1 := by
  refine ⟨F, G, as, s, R, ?_⟩
  cases e : fa s with
  | ok p =>
    obtain ⟨w, s1⟩ := p
    rw [e] at h
    exact fun v G1 H1 R1 X1 r n => hk G1 H1 w s1 v R1 r (iK.ext h X1)
  | exc c => rw [e] at h; exact h
  | bad => rw [e] at h; exact h
def lstOnly (f : EM) : IM := fun s => (f s).bind fun p => match toD p.1 p.2 with
  | some (.list xs, s') => .ok (xs, s')
  | _ => .bad
def tupOnly (f : EM) : IM := fun s => (f s).bind fun p => match toD p.1 p.2 with
  | some (.tuple xs, s') => .ok (xs, s')
  | _ => .bad
def strOnly (f : EM) : IM := fun s => (f s).bind fun p => match toD p.1 p.2 with
  | some (.str z, s') => .ok (z.cps.toList.map fun (c : Nat) => PyData.str ⟨#[c]⟩, s')
  | _ => .bad
theorem pdi_list (h : PDE X E e fe) : PDI X E tg e (lstOnly fe) := ⟨PI.imp (pi_list h.pe) fun σ H Q h => by
  obtain ⟨F, G, as, s, R, h⟩ := h
  refine eT.seqI R h fun G1 H1 w s1 v R1 r1 h1 => ?_
  dsimp only at h1
  split at h1
  · rename_i xs s' e
    obtain ⟨G2, R2, X2, r2⟩ := toD_ok R1 r1 e
    cases r2 with
    | lst k1 k2 => exact ⟨_, rfl, ⟨_, R2.same.seq (k1)⟩, h1 _ G2 H1 R2 X2 (walk_list (k1) k2)⟩
  · exact h1.elim⟩
theorem pdi_tup (h : PDE X E e fe) : PDI X E tg e (tupOnly fe) := ⟨PI.imp (pi_tup h.pe) fun σ H Q h => by
  obtain ⟨F, G, as, s, R, h⟩ := h
  refine eT.seqI R h fun G1 H1 w s1 v R1 r1 h1 => ?_
  dsimp only at h1
  split at h1
  · rename_i xs s' e
    obtain ⟨G2, R2, X2, r2⟩ := toD_ok R1 r1 e
    cases r2 with
    | tup k1 k2 => exact ⟨_, rfl, ⟨_, seqT R2.same k1⟩, h1 _ G2 H1 R2 X2 (walk_tup k1 k2)⟩
  · exact h1.elim⟩
theorem pdi_str (h : PDE X E e fe) : PDI X E tg e (strOnly fe) := ⟨PI.imp (pi_str h.pe) fun σ H Q h => by
  obtain ⟨F, G, as, s, R, h⟩ := h
  refine eT.seqI R h fun G1 H1 w s1 v R1 r1 h1 => ?_
  dsimp only at h1
  split at h1
  · rename_i z s' e
    obtain ⟨G2, R2, X2, r2⟩ := toD_ok R1 r1 e
    cases r2 with
    | str => exact ⟨_, rfl, h1 _ G2 H1 R2 X2 walk_str⟩
  · exact h1.elim⟩
/-- a list, a tuple or a text, whichever it is -/
theorem pdi_any (h : PDE X E e fe) : PDI X E tg e (iOf fe) := ⟨⟨fun pins s σ H Q I h' => by
  obtain ⟨F, G, as, s0, R, h'⟩ := h'
  unfold iOf at h'
  cases q : fe s0 with
  | exc c =>
    refine (pdi_list (tg := tg) h).pi.run pins s σ H Q I ⟨F, G, as, s0, R, ?_⟩
    unfold lstOnly
    rw [q] at h' ⊢
    exact h'
  | bad => rw [q] at h'; exact h'.elim
  | ok p =>
    rw [q, Res.bind_ok] at h'
    split at h'
    · rename_i xs s' e2
      refine (pdi_list (tg := tg) h).pi.run pins s σ H Q I ⟨F, G, as, s0, R, ?_⟩
      unfold lstOnly
      rw [q, Res.bind_ok, e2]
      exact h'
    · rename_i xs s' e2
      refine (pdi_tup (tg := tg) h).pi.run pins s σ H Q I ⟨F, G, as, s0, R, ?_⟩
      unfold tupOnly
      rw [q, Res.bind_ok, e2]
      exact h'
    · rename_i z s' e2
      refine (pdi_str (tg := tg) h).pi.run pins s σ H Q I ⟨F, G, as, s0, R, ?_⟩
      unfold strOnly
      rw [q, Res.bind_ok, e2]
      exact h'
    · exact h'.elim⟩⟩
/-- guards that nothing unfolds (an Int against 2 ^ 62 by counting down would never end) -/
noncomputable def inBo : { f : Int → Bool // ∀ i, f i = (decide (-(2 ^ 62) ≤ i) && decide (i < 2 ^ 62)) } := Classical.choice ⟨⟨fun i => decide (-(2 ^ 62) ≤ i) && decide (i < 2 ^ 62), fun _ => rfl⟩⟩
def inB (i : Int) : Bool := inBo.1 i
theorem inB_eq (i : Int) : inB i = (decide (-(2 ^ 62) ≤ i) && decide (i < 2 ^ 62)) := inBo.2 i
theorem inB_ba {i : Int} (h : inB i = true) : decide (-(2 ^ 62) ≤ i) = true ∧ decide (i < 2 ^ 62) = true := Bool.and_eq_true_iff.mp (by rw [← inB_eq]; exact h)
def iRange1 (f : EM) : IM := fun s => (f s).bind fun p => match p.1 with
  | .d (.int j) => if inB j then .ok ((List.range j.toNat).map fun (i : Nat) => PyData.int (0 + i), p.2) else .bad
  | _ => .bad
theorem pdi_range1 {p pos : Pos} (hm : X.mg "range" = none) (h : PDE X E e fe) (hg : Gl X "range" := by rfl) (hs : starEach [e] X.env = [(false, eval e X.env)] := by rfl) (hs' : starEach [e] X.env = (false, eval e X.env) :: starEach [] X.env := by rfl) : PDI X E tg (.Call (.Name "range" p) [e] [] pos) (iRange1 fe) :=
  ⟨PI.imp (pi_range1 hg hm (pa_cons h.pe pa_nil hs') hs) fun σ H Q h => by
  obtain ⟨F, G, as, s, R, h⟩ := h
  refine eT.seqI R h fun G1 H1 w s1 v R1 r1 h1 => ?_
  dsimp only at h1
  split at h1
  · rename_i j
    split at h1
    · rename_i hb
      obtain ⟨b1, b2⟩ := inB_ba hb
      cases r1
      exact ⟨j, rfl, of_decide_eq_true b1, of_decide_eq_true b2, h1 _ G1 H1 R1 (Ext.refl _ _ _) walk_range⟩
    · exact h1.elim
  · exact h1.elim⟩
def iRange2 (f g : EM) : IM := fun s => (f s).bind fun p => (g p.2).bind fun q => match p.1, q.1 with
  | .d (.int i), .d (.int j) => if inB i && inB j then .ok ((List.range (j - i).toNat).map fun (k : Nat) => PyData.int (i + k), q.2) else .bad
  | _, _ => .bad
theorem pdi_range2 {p pos : Pos} (hm : X.mg "range" = none) (h : PDE X E e fe) (h2 : PDE X E e2 f2) (hg : Gl X "range" := by rfl) (hs : starEach [e, e2] X.env = [(false, eval e X.env), (false, eval e2 X.env)] := by rfl) (hs2 : starEach [e2] X.env = [(false, eval e2 X.env)] := by rfl)
    (hs' : starEach [e, e2] X.env = (false, eval e X.env) :: starEach [e2] X.env := by rfl) (hs3 : starEach [e2] X.env = (false, eval e2 X.env) :: starEach [] X.env := by rfl) : PDI X E tg (.Call (.Name "range" p) [e, e2] [] pos) (iRange2 fe f2) :=
  ⟨PI.imp (pi_range2 hg hm (pa_cons h.pe (pa_cons h2.pe pa_nil hs3) hs') hs hs2) fun σ H Q h => by
  obtain ⟨F, G, as, s, R, h⟩ := h
  refine eT.seqI R h fun G1 H1 w s1 v R1 r1 h1 => ?_
  refine ⟨pn F v w, G1, as, s1, R1.pend r1, ?_⟩
  dsimp only at h1
  cases q : f2 s1 with
  | exc c => rw [q] at h1; exact h1
  | bad => rw [q] at h1; exact h1
  | ok p2 =>
    obtain ⟨w2, s2⟩ := p2
    rw [q, Res.bind_ok] at h1
    dsimp only at h1
    intro v2 G2 H2 R2 X2 r2 n2
    split at h1
    · rename_i i j
      split at h1
      · rename_i hb
        obtain ⟨b1, b2⟩ := Bool.and_eq_true_iff.mp hb
        obtain ⟨b3, b4⟩ := inB_ba b1
        obtain ⟨b5, b6⟩ := inB_ba b2
        cases r1
        cases r2
        exact ⟨i, j, rfl, ⟨of_decide_eq_true b3, of_decide_eq_true b4, of_decide_eq_true b5, of_decide_eq_true b6⟩, h1 _ G2 H2 R2.unpend X2 walk_range⟩
      · exact h1.elim
    · exact h1.elim⟩
/-! enumerate of a list -/
def enumFrom (k : Nat) : List D → List D
  | [] => []
  | d :: r => .tuple [.int (k : Nat), d] :: enumFrom (k + 1) r
theorem enumFrom_get : ∀ {xs : List D} {k i : Nat}, (enumFrom k xs)[i]? = xs[i]?.map fun d => PyData.tuple [.int ((k + i : Nat) : Int), d]
  | [], _, _ => by simp [enumFrom]
  | _ :: _, k, 0 => by simp [enumFrom]
  | _ :: r, k, i + 1 => by
    simp only [enumFrom, List.getElem?_cons_succ]
    rw [enumFrom_get (xs := r)]
    congr 1
    funext d
    rw [show k + 1 + i = k + (i + 1) by omega]
theorem enumFrom_len : ∀ {xs : List D} {k : Nat}, (enumFrom k xs).length = xs.length
  | [], _ => rfl
  | _ :: r, k => by simp [enumFrom, enumFrom_len (xs := r)]
theorem walk_enum {K : PySem.W.Frag} {G : Hp} {a : Addr} {vs : List V} {xs : List D} (h : SqL K G a vs) (r : RpA K G vs xs) : WalkI K G (Ite K a) (enumFrom 0 xs) := fun i G1 H s1 s2 => by
  have hH : SqL K H a vs := (s1.trans s2).seq h
  refine ⟨fun hi => ⟨vs, hH, by rw [r.length]; rw [enumFrom_len] at hi; exact hi⟩, fun d hd => ?_⟩
  rw [enumFrom_get] at hd
  cases q : xs[i]? with
  | none => rw [q] at hd; cases hd
  | some d0 =>
    rw [q] at hd
    cases hd
    obtain ⟨v, h1, h2⟩ := r.get q
    refine ⟨⟨vs, v, hH, h1⟩, fun x H' y => .inr ?_⟩
    obtain ⟨T, x0, rfl, hT, rfl, hx⟩ := y
    have := hx vs hH
    rw [h1] at this; cases this
    refine ⟨T, _, hT, rfl, .tup (SqT.of upd_same) ?_⟩
    rw [show ((0 + i : Nat) : Int) = ((i : Nat) : Int) by simp]
    exact .cons (.int _) (.cons (Rp.mono (s1.trans (same_upd (s2.free hT))) h2) .nil)
def iEnumL (f : EM) : IM := fun s => (lstOnly f s).bind fun p => .ok (enumFrom 0 p.1, p.2)
theorem pdi_enum {p pos tpos : Pos} {elts : List Expr} {kk : Nat} (hm : X.mg "enumerate" = none) (h : PDE X E e fe) (hg : Gl X "enumerate" := by rfl) (hs : starEach [e] X.env = [(false, eval e X.env)] := by rfl) (hs' : starEach [e] X.env = (false, eval e X.env) :: starEach [] X.env := by rfl) :
    PDI X E (.Tuple elts kk tpos) (.Call (.Name "enumerate" p) [e] [] pos) (iEnumL fe) :=
  ⟨PI.imp (pi_enum hg hm (pa_cons h.pe pa_nil hs') hs) fun σ H Q h => by
  obtain ⟨F, G, as, s, R, h⟩ := h
  refine ⟨F, G, as, s, R, ?_⟩
  unfold iEnumL lstOnly at h
  cases q : fe s with
  | exc c => rw [q] at h; exact h
  | bad => rw [q] at h; exact h
  | ok p =>
    obtain ⟨w, s1⟩ := p
    rw [q, Res.bind_ok] at h
    dsimp only at h
    intro v G1 H1 R1 X1 r1 n1
    cases e2 : toD w s1 with
    | none => rw [e2] at h; exact h.elim
    | some p2 =>
      obtain ⟨x, s2⟩ := p2
      rw [e2] at h
      cases x with
      | list xs =>
        have h := iK.ext h X1
        obtain ⟨G2, R2, X2, r2⟩ := toD_ok R1 r1 e2
        cases r2 with
        | lst k1 k2 => exact ⟨_, _, rfl, R2.same.seq (k1), h _ G2 H1 R2 X2 (walk_enum (k1) k2)⟩
      | _ => exact h.elim⟩
/-! zip of two lists, of two tuples -/
def zip2 : List D → List D → List D
  | x :: xs, y :: ys => .tuple [x, y] :: zip2 xs ys
  | _, _ => []
theorem zip2_get : ∀ {xs ys : List D} {i : Nat} {d : D}, (zip2 xs ys)[i]? = some d → ∃ x y, xs[i]? = some x ∧ ys[i]? = some y ∧ d = .tuple [x, y]
  | [], _, _, _, h => by simp [zip2] at h
  | _ :: _, [], _, _, h => by simp [zip2] at h
  | x :: xs, y :: ys, 0, d, h => by simp [zip2] at h; exact ⟨x, y, rfl, rfl, h.symm⟩
  | x :: xs, y :: ys, i + 1, d, h => by
    obtain ⟨a, b, h1, h2, h3⟩ := zip2_get (xs := xs) (ys := ys) (i := i) (d := d) (by simpa [zip2] using h)
    exact ⟨a, b, by simpa using h1, by simpa using h2, h3⟩
theorem zip2_len : ∀ {xs ys : List D}, (zip2 xs ys).length = min xs.length ys.length
  | [], _ => by simp [zip2]
  | _ :: _, [] => by simp [zip2]
  | x :: xs, y :: ys => by simp only [zip2, List.length_cons, zip2_len (xs := xs) (ys := ys)]; omega
theorem walk_zip {K : PySem.W.Frag} {G : Hp} {a b : Addr} {vs us : List V} {xs ys : List D} (h : SqL K G a vs) (r : RpA K G vs xs) (h' : SqL K G b us) (r' : RpA K G us ys) : WalkI K G (Itz K a b) (zip2 xs ys) := fun i G1 H s1 s2 => by
  have hH : SqL K H a vs := (s1.trans s2).seq h
  have hH' : SqL K H b us := (s1.trans s2).seq h'
  refine ⟨fun hi => ⟨vs, us, hH, hH', by rw [r.length, r'.length]; rw [zip2_len] at hi; omega⟩, fun d hd => ?_⟩
  obtain ⟨x, y, e1, e2, rfl⟩ := zip2_get hd
  obtain ⟨v, h1, h2⟩ := r.get e1
  obtain ⟨u, h3, h4⟩ := r'.get e2
  refine ⟨⟨vs, us, v, u, hH, hH', h1, h3⟩, fun x H' y => .inr ?_⟩
  obtain ⟨T, x0, y0, rfl, hT, rfl, hx, hy⟩ := y
  have := hx vs hH
  rw [h1] at this; cases this
  have := hy us hH'
  rw [h3] at this; cases this
  have sm := s1.trans (same_upd (o := .tup [v, u]) (s2.free hT))
  exact ⟨T, _, hT, rfl, .tup (SqT.of upd_same) (.cons (Rp.mono sm h2) (.cons (Rp.mono sm h4) .nil))⟩
theorem walk_zipT {K : PySem.W.Frag} {G : Hp} {a b : Addr} {vs us : List V} {xs ys : List D} (h : SqT K G a vs) (r : RpA K G vs xs) (h' : SqT K G b us) (r' : RpA K G us ys) : WalkI K G (RZ.ItzT K a b) (zip2 xs ys) := fun i G1 H s1 s2 => by
  have hH : SqT K H a vs := seqT (s1.trans s2) h
  have hH' : SqT K H b us := seqT (s1.trans s2) h'
  refine ⟨fun hi => ⟨vs, us, hH, hH', by rw [r.length, r'.length]; rw [zip2_len] at hi; omega⟩, fun d hd => ?_⟩
  obtain ⟨x, y, e1, e2, rfl⟩ := zip2_get hd
  obtain ⟨v, h1, h2⟩ := r.get e1
  obtain ⟨u, h3, h4⟩ := r'.get e2
  refine ⟨⟨vs, us, v, u, hH, hH', h1, h3⟩, fun x H' y => .inr ?_⟩
  obtain ⟨T, x0, y0, rfl, hT, rfl, hx, hy⟩ := y
  have := hx vs hH
  rw [h1] at this; cases this
  have := hy us hH'
  rw [h3] at this; cases this
  have sm := s1.trans (same_upd (o := .tup [v, u]) (s2.free hT))
  exact ⟨T, _, hT, rfl, .tup (SqT.of upd_same) (.cons (Rp.mono sm h2) (.cons (Rp.mono sm h4) .nil))⟩
def iZip2 (f g : EM) : IM := fun s => (f s).bind fun p => match toD p.1 p.2 with
  | some (x, s1) => (g s1).bind fun q => (match toD q.1 q.2 with
    | some (y, s2) => (match x, y with
      | .list xs, .list ys => .ok (zip2 xs ys, s2)
      | .tuple xs, .tuple ys => .ok (zip2 xs ys, s2)
      | _, _ => .bad)
    | none => .bad)
  | none => .bad
theorem pdi_zip {p pos tpos : Pos} {elts : List Expr} {kk : Nat} (hm : X.mg "zip" = none) (h : PDE X E e fe) (h2 : PDE X E e2 f2) (hg : Gl X "zip" := by rfl)
    (hs : starEach [e, e2] X.env = (false, eval e X.env) :: starEach [e2] X.env := by rfl) (hpl : (backTo pos (starEach [e2] X.env)).any (·.1) = false := by rfl) (hs3 : starEach [e2] X.env = (false, eval e2 X.env) :: starEach [] X.env := by rfl) : PDI X E (.Tuple elts kk tpos) (.Call (.Name "zip" p) [e, e2] [] pos) (iZip2 fe f2) :=
  ⟨PI.imp (RZ.pi_zipA hg hm (pa_cons h.pe (pa_cons h2.pe pa_nil hs3) hs) hs hpl) fun σ H Q h => by
  obtain ⟨F, G, as, s, R, h⟩ := h
  refine eT.seqI R h fun G1 H1 w s1 v R1 r1 h1 => ?_
  dsimp only at h1
  split at h1
  · rename_i x s2 e1
    obtain ⟨G2, R2, X2, r2⟩ := toD_ok R1 r1 e1
    have h1 := iK.ext h1 X2
    refine ⟨F, G2, as, s2, R2, ?_⟩
    cases q : f2 s2 with
    | exc c => rw [q] at h1; exact h1
    | bad => rw [q] at h1; exact h1
    | ok p2 =>
      obtain ⟨w2, s3⟩ := p2
      rw [q, Res.bind_ok] at h1
      dsimp only at h1
      intro v2 G3 H3 R3 X3 r3 n3
      split at h1
      · rename_i y s4 e3
        obtain ⟨G4, R4, X4, r4⟩ := toD_ok R3 r3 e3
        have r2' : Rp X.K G4 v x := Rp.mono (X3.same.trans X4.same) r2
        have h1 := iK.ext h1 (X3.trans X4)
        split at h1
        · cases r2' with
          | lst k1 k2 => cases r4 with
            | lst k3 k4 => exact ⟨_, _, _, _, rfl, .inl ⟨R4.same.seq (k1), R4.same.seq (k3), h1 _ G4 H3 R4 (Ext.refl _ _ _) (walk_zip (k1) k2 (k3) k4)⟩⟩
        · cases r2' with
          | tup k1 k2 => cases r4 with
            | tup k3 k4 => exact ⟨_, _, _, _, rfl, .inr ⟨seqT R4.same k1, seqT R4.same k3, h1 _ G4 H3 R4 (Ext.refl _ _ _) (walk_zipT k1 k2 k3 k4)⟩⟩
        · exact h1.elim
      · exact h1.elim
  · exact h1.elim⟩
end
end
end PD

set_option Elab.async false
set_option linter.all false
set_option maxRecDepth 100000
set_option maxHeartbeats 4000000
namespace PD
noncomputable section
open PySem PySem.Spec PyProof.Rows L2

/-! ### targets -/
abbrev GM := D → S → Option S
/-- tgt at the slots is -/
def gT (K : PySem.W.Frag) (is : List Nat) (tgt : GM) : TG := fun v σ H Q => ∃ (F : Addr → Prop) (G : Hp) (as : List Addr) (s s' : S) (d : D), Rep K F G H as σ s ∧ Rp K G v d ∧ tgt d s = some s' ∧ ∀ σ', Rep K F G H as σ' s' → wipe σ' is = wipe σ is → Q σ' H
structure PDG (X : Cx) (tg : Expr) (is : List Nat) (tgt : GM) : Prop where
  pg : PG X tg (gT X.K is tgt)
  mem : ∀ d s s', tgt d s = some s' → s'.mem = s.mem ∧ s'.base = s.base
def gT1 (i : Nat) : GM := fun d s => if i < s.env.length then some (s.put i (.d d)) else none
theorem PG.imp {X : Cx} {tg : Expr} {t t' : TG} (h : PG X tg t) (k : ∀ v σ H Q, t' v σ H Q → t v σ H Q) : PG X tg t' := ⟨fun pins s σ H v u Q I r q => h.run pins s σ H v u Q I r (k v σ H Q q)⟩
theorem wipe_set1 {σ : L2.St} {i : Nat} {v : V} : wipe (σ.set i (some v)) [i] = wipe σ [i] := by
  show (σ.set i (some v)).set i none = σ.set i none
  rw [List.set_set]
section
variable {X : Cx} {E : XK} {tg e : Expr} {pos : Pos}
theorem pdg_name (i : Nat) {x : Str} (hN : X.N.Nodup) (hi : X.N[i]? = some x := by rfl) (hx : Loc X.env.scope x := by first | exact Or.inl rfl | exact Or.inr rfl) (hf : X.fn x = true ∨ X.env.scope.names.lookup x = some .local := by first | exact .inl rfl | exact .inr rfl | assumption) : PDG X (.Name x pos) [i] (gT1 i) :=
  ⟨PG.imp (pg_name hN hi hx hf) fun v σ H Q h => by
    obtain ⟨F, G, as, s, s', d, R, r, e, k⟩ := h
    unfold gT1 at e
    split at e
    · rename_i hl
      cases e
      exact k _ (R.put (w := .d d) r (fun _ z => nomatch z) hl) wipe_set1
    · exact (nomatch e), fun d s s' e => by
    unfold gT1 at e
    split at e
    · cases e; exact ⟨rfl, rfl⟩
    · cases e⟩
/-- several names, from the left -/
def putAll : List Nat → List D → S → Option S
  | [], [], s => some s
  | i :: is, d :: ds, s => if i < s.env.length then putAll is ds (s.put i (.d d)) else none
  | _, _, _ => none
theorem putAll_mem : ∀ {is : List Nat} {ds : List D} {s s' : S}, putAll is ds s = some s' → s'.mem = s.mem ∧ s'.base = s.base
  | [], [], s, s', h => by cases h; exact ⟨rfl, rfl⟩
  | i :: is, d :: ds, s, s', h => by
    unfold putAll at h
    split at h
    · obtain ⟨a, b⟩ := putAll_mem h
      exact ⟨a, b⟩
    · cases h
  | [], _ :: _, _, _, h => by cases h
  | _ :: _, [], _, _, h => by cases h
def gTs (K : PySem.W.Frag) (is : List Nat) : TGs := fun vs σ H Q => ∃ (F : Addr → Prop) (G : Hp) (as : List Addr) (s s' : S) (ds : List D), Rep K F G H as σ s ∧ RpA K G vs ds ∧ putAll is ds s = some s' ∧ ∀ σ', Rep K F G H as σ' s' → wipe σ' is = wipe σ is → Q σ' H
structure PDGs (X : Cx) (tgs : List Expr) (is : List Nat) : Prop where
  pgs : PGs X tgs (gTs X.K is)
theorem pdgs_nil : PDGs X [] [] := ⟨⟨fun pins s σ H vs us Q I r h => by
  obtain ⟨F, G, as, s1, s', ds, R, ra, e, k⟩ := h
  refine (pgs_nil (X := X)).run pins s σ H vs us Q I r ?_
  cases ra with
  | nil => cases e; exact ⟨rfl, k σ R rfl⟩
  | cons _ _ => cases e⟩⟩
theorem wipe_set_in {i : Nat} {v : Option V} : ∀ {is : List Nat} {σ : L2.St}, i ∈ is → wipe (σ.set i v) is = wipe σ is := by
  intro is σ hi
  apply List.ext_getElem?
  intro j
  by_cases hj : j ∈ is
  · have w : ∀ τ : L2.St, ∀ x, (wipe τ is)[j]? ≠ some (some x) := fun τ x h => (wipe_some h).2 hj
    have l : ∀ τ : L2.St, (wipe τ is).length = τ.length := fun τ => wipe_length τ is
    by_cases hl : j < σ.length
    · have h1 : ∃ y, (wipe (σ.set i v) is)[j]? = some y := ⟨_, List.getElem?_eq_getElem (by rw [l]; simpa using hl)⟩
      have h2 : ∃ y, (wipe σ is)[j]? = some y := ⟨_, List.getElem?_eq_getElem (by rw [l]; exact hl)⟩
      obtain ⟨y1, h1⟩ := h1
      obtain ⟨y2, h2⟩ := h2
      cases y1 with
      | some x => exact absurd h1 (w _ x)
      | none =>
        cases y2 with
        | some x => exact absurd h2 (w _ x)
        | none => rw [h1, h2]
    · rw [List.getElem?_eq_none (by rw [l]; simpa using hl), List.getElem?_eq_none (by rw [l]; omega)]
  · rw [wipe_out hj, wipe_out hj, List.getElem?_set_ne (show i ≠ j from fun z => hj (by rw [← z]; exact hi))]
theorem wipe_cons {i : Nat} {is : List Nat} {σ τ : L2.St} (h : wipe σ is = wipe τ is) : wipe σ (i :: is) = wipe τ (i :: is) := by
  show (wipe σ is).set i none = (wipe τ is).set i none
  rw [h]
theorem pdgs_cons (i : Nat) {x : Str} {is : List Nat} {es : List Expr} (hN : X.N.Nodup) (hr : PDGs X es is) (hi : X.N[i]? = some x := by rfl) (hx : Loc X.env.scope x := by first | exact Or.inl rfl | exact Or.inr rfl) (hf : X.fn x = true ∨ X.env.scope.names.lookup x = some .local := by first | exact .inl rfl | exact .inr rfl | assumption)
    (hs : (assignEach (.Name x pos :: es) X.env).map (·.2) = assign (.Name x pos) X.env :: (assignEach es X.env).map (·.2) := by rfl) : PDGs X (.Name x pos :: es) (i :: is) := ⟨⟨fun pins s σ H vs us Q I r h => by
  obtain ⟨F, G, as, s1, s', ds, R, ra, e, k⟩ := h
  refine (pgs_cons (pg_name (pos := pos) hN hi hx hf) hr.pgs hs).run pins s σ H vs us Q I r ?_
  cases ra with
  | nil => cases e
  | cons h1 h2 =>
    unfold putAll at e
    split at e
    · rename_i hl
      refine ⟨_, _, rfl, F, G, as, _, s', _, R.put (w := .d _) h1 (fun _ z => nomatch z) hl, h2, e, fun σ' R' hw => k σ' R' ?_⟩
      rw [wipe_cons hw]
      exact wipe_set_in (List.mem_cons_self)
    · cases e⟩⟩
def gTupT (is : List Nat) : GM := fun d s => match d with
  | .tuple ds => putAll is ds s
  | .list ds => putAll is ds s
  | _ => none
theorem putAll_len : ∀ {is : List Nat} {ds : List D} {s s' : S}, putAll is ds s = some s' → ds.length = is.length
  | [], [], _, _, _ => rfl
  | i :: is, d :: ds, s, s', h => by
    unfold putAll at h
    split at h
    · simp [putAll_len h]
    · cases h
  | [], _ :: _, _, _, h => by cases h
  | _ :: _, [], _, _, h => by cases h
theorem pdg_tup {es : List Expr} {k : Nat} {is : List Nat} (hc : X.calm = true) (h : PDGs X es is) (hn : (assignEach es X.env).length = is.length := by rfl) (hst : (assignEach es X.env).findIdx? (·.1) = none := by rfl) : PDG X (.Tuple es k pos) is (gTupT is) :=
  ⟨⟨fun pins s σ H v u Q I r h' => by
    obtain ⟨F, G, as, s1, s', d, R, rd, e, kk⟩ := h'
    unfold gTupT at e
    split at e
    · rename_i ds
      refine (pg_tup hc h.pgs hn hst).run pins s σ H v u Q I r ?_
      cases rd with
      | tup h1 h2 => exact ⟨_, _, rfl, seqT R.same h1, by rw [h2.length, putAll_len e], F, G, as, s1, s', ds, R, h2, e, kk⟩
    · rename_i ds
      refine (pg_lst hc h.pgs hn hst).run pins s σ H v u Q I r ?_
      cases rd with
      | lst h1 h2 => exact ⟨_, _, rfl, Same.seq R.same h1, by rw [h2.length, putAll_len e], F, G, as, s1, s', ds, R, h2, e, kk⟩
    · exact (nomatch e)⟩, fun d s s' e => by
    unfold gTupT at e
    split at e
    · exact putAll_mem e
    · exact putAll_mem e
    · cases e⟩
/-- a, b = e -/
def sTup (is : List Nat) (f : EM) : SM := fun s => (f s).bind fun p => match p.1 with
  | .d x => (match gTupT is x p.2 with
    | some s' => .ok (.nx, s')
    | none => .bad)
  | _ => .bad
theorem pds_tup {es : List Expr} {k : Nat} {is : List Nat} {fe : EM} {pt : Pos} (hg : PDG X (.Tuple es k pt) is (gTupT is)) (he : PDE X E e fe) (hs : swapsWithSole [.Tuple es k pt] e pos.line X.env = pure false := by rfl) (hw : swappedStores [.Tuple es k pt] e X.env = pure none := by rfl)
    (h1 : (assignEach [.Tuple es k pt] X.env).map (·.2) = [assign (.Tuple es k pt) X.env] := by rfl) : PDS X E (.Assign [.Tuple es k pt] e pos) (sTup is fe) := ⟨PS.imp (ps_asg he.pe hg.pg hs hw h1) fun D σ H h => by
  obtain ⟨F, G, as, s, R, h⟩ := h
  refine eT.seqS R h fun G1 H1 w s1 v R1 X1 r n h1 => ?_
  dsimp only at h1
  split at h1
  · rename_i x
    split at h1
    · rename_i s' e
      refine ⟨F, G1, as, s1, s', x, R1, r, e, fun σ' R' _ => ?_⟩
      exact h1 σ' G1 H1 as R' ⟨X1.same, X1.keep, fun a z => X1.new a (by rw [live_eq (hg.mem _ _ _ e).1] at z; exact z)⟩ (List.prefix_refl _)
    · exact h1.elim
  · exact h1.elim⟩
end

/-! ### for -/
def forGo (tgt : GM) (body : SM) : List D → S → Res (Out × S)
  | [], s => .ok (.nx, s)
  | d :: r, s => match tgt d s with
    | none => .bad
    | some s1 => (body s1).bind fun p => match p.1 with
      | .nx => forGo tgt body r p.2
      | .ct => forGo tgt body r p.2
      | .bk => .ok (.nx, p.2)
      | .rt w => .ok (.rt w, p.2)
def sFor (it : IM) (tgt : GM) (body : SM) : SM := fun s => (it s).bind fun p => forGo tgt body p.1 p.2
section
variable {X : Cx} {E : XK} {tg iter e c : Expr} {pos : Pos} {fi : IM} {is : List Nat} {tgt : GM} {body : List Stmt} {fb : SM} {tc : TM}
theorem pds_for (hi : PDI X E tg iter fi) (hg : PDG X tg is tgt) (hb : PDSs X E body fb) (hc : X.calm = true) (hp : PassesOwn (model X.prog X.w) X.A X.env X.xe) (hs : ∀ x, foldedSetIterable iter X.env x = pure x := by intro _; rfl) : PDS X E (.For tg iter body [] pos) (sFor fi tgt fb) := by
  refine ⟨PS.imp (ps_for hp hc hi.pi hg.pg hb.pss hs) fun D σ H h => ?_⟩
  obtain ⟨F, G, as, s, R, h⟩ := h
  refine ⟨F, G, as, s, R, ?_⟩
  unfold sFor at h
  cases e : fi s with
  | exc c => rw [e] at h; exact h
  | bad => rw [e] at h; exact h
  | ok p =>
    obtain ⟨xs, s1⟩ := p
    rw [e, Res.bind_ok] at h
    dsimp only at h
    intro J G1 H1 R1 X1 wk
    have h := sK.ext h R1 X1 (List.prefix_refl _)
    refine ⟨fun i m σ' H' => ∃ (G' : Hp) (as' : List Addr) (s' : S), m = xs.length - i ∧ i ≤ xs.length ∧ Rep X.K F G' H' as' σ' s' ∧ Ext G1 H1 (live as s1) G' H' (live as' s') ∧ as <+: as' ∧ sK X.K X.mg E F G1 H1 as s1 (forGo tgt fb (xs.drop i) s') D,
      ⟨xs.length, G1, as, s1, rfl, Nat.zero_le _, R1, Ext.refl _ _ _, List.prefix_refl _, h⟩, fun i m σ' H' hW => ?_⟩
    obtain ⟨G2, as2, s2, rfl, hi, R2, X2, p2, h2⟩ := hW
    obtain ⟨w1, w2⟩ := wk i G2 H' X2.same R2.same
    by_cases hlt : i < xs.length
    · have hd : xs[i]? = some xs[i] := List.getElem?_eq_getElem hlt
      have dr : xs.drop i = xs[i] :: xs.drop (i + 1) := List.drop_eq_getElem_cons hlt
      obtain ⟨go, yl⟩ := w2 _ hd
      rw [dr] at h2
      unfold forGo at h2
      cases e2 : tgt xs[i] s2 with
      | none => rw [e2] at h2; exact h2.elim
      | some s3 =>
        rw [e2] at h2
        dsimp only at h2
        refine .inr ⟨go, fun σ3 H3 => ∃ (G' : Hp) (as' : List Addr) (s' : S), Rep X.K F G' H3 as' σ3 s' ∧ Ext G1 H1 (live as s1) G' H3 (live as' s') ∧ as <+: as' ∧ sK X.K X.mg E F G1 H1 as s1 (forGo tgt fb (xs.drop (i + 1)) s') D,
          fun σ3 H3 hN => ⟨xs.length - (i + 1), by omega, by
            obtain ⟨G', as', s', a1, a2, a3, a4⟩ := hN
            exact ⟨G', as', s', rfl, hlt, a1, a2, a3, a4⟩⟩, fun x H3 hy => ?_⟩
        have main : ∀ (G3 : Hp), Rep X.K F G3 H3 as2 σ' s2 → Ext G2 H' (live as2 s2) G3 H3 (live as2 s2) → Rp X.K G3 x xs[i] → gT X.K is tgt x σ' H3 fun σ2 H2 => sT X.K X.mg E fb { D with nx := fun σ3 H3 => ∃ (G' : Hp) (as' : List Addr) (s' : S), Rep X.K F G' H3 as' σ3 s' ∧ Ext G1 H1 (live as s1) G' H3 (live as' s') ∧ as <+: as' ∧ sK X.K X.mg E F G1 H1 as s1 (forGo tgt fb (xs.drop (i + 1)) s') D, ct := fun σ3 H3 => ∃ (G' : Hp) (as' : List Addr) (s' : S), Rep X.K F G' H3 as' σ3 s' ∧ Ext G1 H1 (live as s1) G' H3 (live as' s') ∧ as <+: as' ∧ sK X.K X.mg E F G1 H1 as s1 (forGo tgt fb (xs.drop (i + 1)) s') D, bk := D.nx } σ2 H2 := by
          intro G3 R3 X3 r3
          refine ⟨F, G3, as2, s2, s3, xs[i], R3, r3, e2, fun σ4 R4 _ => ⟨F, G3, as2, s3, R4, ?_⟩⟩
          have el : live as2 s3 = live as2 s2 := live_eq (hg.mem _ _ _ e2).1
          have X4 : Ext G1 H1 (live as s1) G3 H3 (live as2 s3) := by rw [el]; exact X2.trans X3
          have h4 := sK.ext h2 R4 X4 p2
          cases e5 : fb s3 with
          | exc c => rw [e5] at h4; exact h4
          | bad => rw [e5] at h4; exact h4
          | ok q =>
            obtain ⟨o, s5⟩ := q
            rw [e5, Res.bind_ok] at h4
            rw [e5, Res.bind_ok] at h2
            cases o with
            | nx => exact fun σ5 G5 H5 as5 R5 X5 p5 => ⟨G5, as5, s5, R5, X4.trans X5, p2.trans p5, h2⟩
            | ct => exact fun σ5 G5 H5 as5 R5 X5 p5 => ⟨G5, as5, s5, R5, X4.trans X5, p2.trans p5, h2⟩
            | bk => exact h4
            | rt w => exact h4
        rcases yl x H3 hy with ⟨rfl, r3⟩ | ⟨T, o, hT, rfl, r3⟩
        · exact main G2 R2 (Ext.refl _ _ _) r3
        · exact main _ (R2.newG hT o) (Ext.allocG (R2.same.free hT) hT) r3
    · have : i = xs.length := by omega
      subst this
      refine .inl ⟨w1 (Nat.le_refl _), ?_⟩
      rw [List.drop_length] at h2
      exact h2 σ' G2 H' as2 R2 X2 p2
/-! ### while, at most n turns -/
def whGo (t : TM) (body : SM) : Nat → S → Res (Out × S)
  | 0, _ => .bad
  | n + 1, s => (t s).bind fun b => if b.1 then (body b.2).bind fun p => (match p.1 with
      | .nx => whGo t body n p.2
      | .ct => whGo t body n p.2
      | .bk => .ok (.nx, p.2)
      | .rt w => .ok (.rt w, p.2)) else .ok (.nx, b.2)
theorem pds_while (n : Nat) (hc : PDT X E c tc) (hb : PDSs X E body fb) (hp : PassesOwn (model X.prog X.w) X.A X.env X.xe) : PDS X E (.While c body [] pos) (whGo tc fb n) := by
  refine ⟨PS.imp (ps_while hp hc.pt hb.pss) fun D σ H h => ?_⟩
  obtain ⟨F, G, as, s, R, h⟩ := h
  refine ⟨fun m σ' H' => ∃ (G' : Hp) (as' : List Addr) (s' : S), Rep X.K F G' H' as' σ' s' ∧ Ext G H (live as s) G' H' (live as' s') ∧ as <+: as' ∧ sK X.K X.mg E F G H as s (whGo tc fb m s') D, ⟨n, G, as, s, R, Ext.refl _ _ _, List.prefix_refl _, h⟩, fun m σ1 H1 hW => ?_⟩
  obtain ⟨G1, as1, s1, R1, X1, p1, h1⟩ := hW
  cases m with
  | zero => exact h1.elim
  | succ m =>
    unfold whGo at h1
    refine tT.seq (P := fun r => sK X.K X.mg E F G H as s r D) R1 h1 (fun c h => ?_) (fun h => h) fun G2 H2 b s2 R2 X2 h2 => ?_
    · exact fun C H' hc k => h C H' hc (keepX X1 k)
    · dsimp only at h2
      have X12 := X1.trans X2
      cases b with
      | false => exact h2 σ1 G2 H2 as1 R2 X12 p1
      | true =>
        rw [if_pos rfl] at h2 ⊢
        refine ⟨fun σ3 H3 => ∃ (G' : Hp) (as' : List Addr) (s' : S), Rep X.K F G' H3 as' σ3 s' ∧ Ext G H (live as s) G' H3 (live as' s') ∧ as <+: as' ∧ sK X.K X.mg E F G H as s (whGo tc fb m s') D, fun σ3 H3 hN => ⟨m, Nat.lt_succ_self _, hN⟩, F, G2, as1, s2, R2, ?_⟩
        have h4 := sK.ext h2 R2 X12 p1
        cases e5 : fb s2 with
        | exc c => rw [e5] at h4; exact h4
        | bad => rw [e5] at h4; exact h4
        | ok q =>
          obtain ⟨o, s5⟩ := q
          rw [e5, Res.bind_ok] at h4
          rw [e5, Res.bind_ok] at h2
          cases o with
          | nx => exact fun σ5 G5 H5 as5 R5 X5 p5 => ⟨G5, as5, s5, R5, X12.trans X5, p1.trans p5, h2⟩
          | ct => exact fun σ5 G5 H5 as5 R5 X5 p5 => ⟨G5, as5, s5, R5, X12.trans X5, p1.trans p5, h2⟩
          | bk => exact h4
          | rt w => exact h4
end
end
end PD

set_option Elab.async false
set_option linter.all false
set_option maxRecDepth 100000
set_option maxHeartbeats 4000000
namespace PD
noncomputable section
open PySem PySem.Spec PyProof.Rows L2

/-! ### list comprehensions -/
def wipeE (env : List (Option W)) : List Nat → List (Option W)
  | [] => env
  | v :: vs => (wipeE env vs).set v none
theorem wipeE_len {env : List (Option W)} : ∀ {vs : List Nat}, (wipeE env vs).length = env.length
  | [] => rfl
  | v :: vs => by unfold wipeE; rw [List.length_set, wipeE_len]
theorem wipeE_some {env : List (Option W)} {i : Nat} {w : W} : ∀ {vs : List Nat}, (wipeE env vs)[i]? = some (some w) → env[i]? = some (some w) ∧ i ∉ vs
  | [], h => ⟨h, by simp⟩
  | v :: vs, h => by
    unfold wipeE at h
    by_cases hi : v = i
    · subst hi
      by_cases hv : v < (wipeE env vs).length
      · rw [List.getElem?_set_self hv] at h; cases h
      · rw [List.getElem?_eq_none (by simpa using hv)] at h; cases h
    · rw [List.getElem?_set_ne hi] at h
      obtain ⟨h1, h2⟩ := wipeE_some h
      exact ⟨h1, by simp only [List.mem_cons, not_or]; exact ⟨fun e => hi e.symm, h2⟩⟩
def nox {α : Type} : Res α → Res α
  | .ok a => .ok a
  | _ => .bad
theorem nox_ok {α : Type} (a : α) : nox (.ok a) = .ok a := rfl
section
variable {K : PySem.W.Frag} {F F' : Addr → Prop} {G H G' H' : Hp} {as : List Addr} {s s2 : S} {σ σ2 : L2.St}
theorem Rep.wiped (own : List Nat) (R : Rep K F G H as σ s) : Rep K F G H as (wipe σ own) { s with env := wipeE s.env own } :=
  ⟨R.same, by rw [wipe_length]; show σ.length = (wipeE s.env own).length; rw [wipeE_len]; exact R.len, R.alen, R.nd, R.dom, R.fo, R.cell, fun i w h => by
    obtain ⟨h1, h2⟩ := wipeE_some h
    obtain ⟨v, k1, k2⟩ := R.env i w h1
    exact ⟨v, by rw [wipe_out h2]; exact k1, k2⟩⟩
theorem Rep.swapEnv (R : Rep K F G H as σ s) (R' : Rep K F' G' H' as σ2 s2) (sg : Same G G') : Rep K F' G' H' as σ { s2 with env := s.env } :=
  ⟨R'.same, R.len, R'.alen, R'.nd, R'.dom, R'.fo, R'.cell, fun i w h => by
    obtain ⟨v, k1, k2, k3⟩ := R.env i w h
    refine ⟨v, k1, ?_, k3⟩
    cases w with
    | d x => exact Rp.mono sg k2
    | c n => exact k2
    | f xs => exact absurd rfl (k3 xs)⟩
end
structure PDTs (X : Cx) (ifs : List Expr) (f : TM) : Prop where
  pt : PTs X ifs (tT X.K X.mg E0 f)
def tYes_ : TM := fun s => .ok (true, s)
theorem PTs.imp {X : Cx} {e : List Expr} {t t' : TT} (h : PTs X e t) (k : ∀ σ H Q, t' σ H Q → t σ H Q) : PTs X e t' := ⟨fun pins s σ H Q I q => h.run pins s σ H Q I (k σ H Q q)⟩
theorem pdts_nil {X : Cx} : PDTs X [] tYes_ := ⟨PTs.imp pts_nil fun σ H Q h => by
  obtain ⟨F, G, as, s, R, h⟩ := h
  exact h G H R (Ext.refl _ _ _)⟩
theorem pdts_one {X : Cx} {c : Expr} {f : TM} (h : PDT X E0 c f) : PDTs X [c] f := ⟨pts_one h.pt⟩
def lcGo (own : List Nat) (tgt : GM) (tt : TM) (fe : EM) (env0 : List (Option W)) : List D → S → List D → Res (List D × S)
  | [], s, acc => .ok (acc, s)
  | d :: r, s, acc => match tgt d { s with env := wipeE env0 own } with
    | none => .bad
    | some s1 => (nox (tt s1)).bind fun b => if b.1 then (nox (fe b.2)).bind fun p => (match toD p.1 p.2 with
        | some (x, s3) => if acc.length < sizeLine then lcGo own tgt tt fe env0 r { s3 with env := env0 } (acc ++ [x]) else .bad
        | none => .bad)
      else lcGo own tgt tt fe env0 r { b.2 with env := env0 } acc
def eLc (own : List Nat) (fi : IM) (tgt : GM) (tt : TM) (fe : EM) : EM := fun s => (fi s).bind fun p => (lcGo own tgt tt fe p.2.env p.1 p.2 []).bind fun q => .ok (.f q.1, q.2)
section
variable {X : Cx} {E : XK} {elt tg iter : Expr} {ifs : List Expr} {scope : Scope} {own : List (Str × Nat)} {pos : Pos} {fi : IM} {is : List Nat} {tgt : GM} {tt : TM} {fe : EM}
/-- the reading of a comprehension -/
theorem lc_ok (hgm : ∀ d s s', tgt d s = some s' → s'.mem = s.mem ∧ s'.base = s.base) (his : is = own.map (·.2)) {σ : L2.St} {H : Hp} {Q : VK} (h : eT X.K X.mg E (eLc (own.map (·.2)) fi tgt tt fe) σ H Q) : tLc (iT X.K X.mg E fi) (gT X.K is tgt) (tT X.K X.mg E0 tt) (eT X.K X.mg E0 fe) (own.map (·.2)) σ H Q := by
  subst his
  generalize own.map (·.2) = vs at *
  obtain ⟨F, G, as, s, R, h⟩ := h
  refine ⟨F, G, as, s, R, ?_⟩
  unfold eLc at h
  cases e : fi s with
  | exc c => rw [e] at h; exact h
  | bad => rw [e] at h; exact h
  | ok p =>
    obtain ⟨xs, s1⟩ := p
    rw [e, Res.bind_ok] at h
    dsimp only at h
    intro J G1 H1 R1 X1 wk Dl hD
    have h := eK.ext h R R1 X1
    obtain ⟨gD, nasD, nFD⟩ := R1.fresh hD
    refine ⟨fun i m H' => ∃ (G' : Hp) (s' : S) (vacc : List V) (acc : List D), m = xs.length - i ∧ i ≤ xs.length ∧ s'.env = s1.env ∧ Rep X.K (fun a => F a ∨ a = Dl) G' H' as σ s' ∧ Ext G1 H1 (live as s1) G' H' (live as s') ∧ H' Dl = some (.lst vacc) ∧ RpA X.K G' vacc acc ∧
        eK X.K X.mg E F G1 H1 as s1 σ ((lcGo vs tgt tt fe s1.env (xs.drop i) s' acc).bind fun q => .ok (.f q.1, q.2)) Q,
      ⟨xs.length, G1, s1, [], [], rfl, Nat.zero_le _, rfl, ?_, Ext.alloc hD, upd_same, .nil, h⟩, fun i m H' hW => ?_⟩
    · have R2 := R1.new hD (.lst [])
      refine ⟨R2.same, R2.len, R2.alen, R2.nd, R2.dom, fun a ha => ?_, R2.cell, fun i w hw => ?_⟩
      · rcases ha with ha | rfl
        · exact R2.fo a ha
        · exact ⟨gD, nasD, _, upd_same⟩
      · obtain ⟨v, k1, k2, k3⟩ := R2.env i w hw
        exact ⟨v, k1, k2.noF k3, k3⟩
    obtain ⟨G2, s2, vacc, acc, rfl, hi, he2, R2, X2, hDl, hacc, h2⟩ := hW
    obtain ⟨w1, w2⟩ := wk i G2 H' X2.same R2.same
    by_cases hlt : i < xs.length
    · have hd : xs[i]? = some xs[i] := List.getElem?_eq_getElem hlt
      have dr : xs.drop i = xs[i] :: xs.drop (i + 1) := List.drop_eq_getElem_cons hlt
      obtain ⟨go, yl⟩ := w2 _ hd
      rw [dr] at h2
      unfold lcGo at h2
      cases e2 : tgt xs[i] { s2 with env := wipeE s1.env vs } with
      | none => rw [e2] at h2; exact h2.elim
      | some s3 =>
        rw [e2] at h2
        dsimp only at h2
        refine .inr ⟨go, fun H3 => ∃ (G' : Hp) (s' : S) (vacc : List V) (acc : List D), s'.env = s1.env ∧ Rep X.K (fun a => F a ∨ a = Dl) G' H3 as σ s' ∧ Ext G1 H1 (live as s1) G' H3 (live as s') ∧ H3 Dl = some (.lst vacc) ∧ RpA X.K G' vacc acc ∧
            eK X.K X.mg E F G1 H1 as s1 σ ((lcGo vs tgt tt fe s1.env (xs.drop (i + 1)) s' acc).bind fun q => .ok (.f q.1, q.2)) Q,
          fun H3 hN => ⟨xs.length - (i + 1), by omega, by
            obtain ⟨G', s', vacc, acc, a0, a1, a2, a3, a4, a5⟩ := hN
            exact ⟨G', s', vacc, acc, rfl, hlt, a0, a1, a2, a3, a4, a5⟩⟩, fun x H3 hy => ?_⟩
        have main : ∀ (G3 : Hp), Rep X.K (fun a => F a ∨ a = Dl) G3 H3 as σ s2 → Ext G2 H' (live as s2) G3 H3 (live as s2) → Rp X.K G3 x xs[i] → H3 Dl = some (.lst vacc) → gT X.K vs tgt x (wipe σ vs) H3 fun σ2 H2 => wipe σ2 vs = wipe σ vs ∧ tT X.K X.mg E0 tt σ2 H2 fun b H3 =>
            if b = true then eT X.K X.mg E0 fe σ2 H3 fun y H4 => ∃ acc, H4 Dl = some (.lst acc) ∧ acc.length < sizeLine ∧ (∃ (G' : Hp) (s' : S) (vacc : List V) (acc' : List D), s'.env = s1.env ∧ Rep X.K (fun a => F a ∨ a = Dl) G' (upd H4 Dl (.lst (acc ++ [y]))) as σ s' ∧ Ext G1 H1 (live as s1) G' (upd H4 Dl (.lst (acc ++ [y]))) (live as s') ∧ (upd H4 Dl (.lst (acc ++ [y]))) Dl = some (.lst vacc) ∧ RpA X.K G' vacc acc' ∧
              eK X.K X.mg E F G1 H1 as s1 σ ((lcGo vs tgt tt fe s1.env (xs.drop (i + 1)) s' acc').bind fun q => .ok (.f q.1, q.2)) Q) else (∃ (G' : Hp) (s' : S) (vacc : List V) (acc : List D), s'.env = s1.env ∧ Rep X.K (fun a => F a ∨ a = Dl) G' H3 as σ s' ∧ Ext G1 H1 (live as s1) G' H3 (live as s') ∧ H3 Dl = some (.lst vacc) ∧ RpA X.K G' vacc acc ∧
              eK X.K X.mg E F G1 H1 as s1 σ ((lcGo vs tgt tt fe s1.env (xs.drop (i + 1)) s' acc).bind fun q => .ok (.f q.1, q.2)) Q) := by
          intro G3 R3 X3 r3 hD3
          have R3w := R3.wiped vs
          rw [he2] at R3w
          refine ⟨_, G3, as, _, s3, xs[i], R3w, r3, e2, fun σ4 R4 hw => ⟨hw.trans (wipe_wipe σ vs), _, G3, as, s3, R4, ?_⟩⟩
          have em : s3.mem = s2.mem := (hgm _ _ _ e2).1
          have el : live as s3 = live as s2 := live_eq em
          have X4 : Ext G1 H1 (live as s1) G3 H3 (live as s3) := by rw [el]; exact X2.trans X3
          cases e5 : tt s3 with
          | exc c => rw [e5] at h2; exact h2.elim
          | bad => rw [e5] at h2; exact h2.elim
          | ok q =>
            obtain ⟨b, s5⟩ := q
            rw [e5, nox_ok, Res.bind_ok] at h2
            dsimp only at h2
            intro G5 H5 R5 X5
            have hD5 : H5 Dl = some (.lst vacc) := X5.keep _ _ hD3 (not_live nasD)
            have X45 := X4.trans X5
            cases b with
            | false =>
              rw [if_neg Bool.false_ne_true] at h2 ⊢
              have RR := R3.swapEnv R5 X5.same
              rw [he2] at RR
              exact ⟨G5, { s5 with env := s1.env }, vacc, acc, rfl, RR, ⟨X45.same, X45.keep, fun a z => X45.new a z⟩, hD5, hacc.mono (X3.same.trans X5.same), h2⟩
            | true =>
              rw [if_pos rfl] at h2 ⊢
              refine ⟨_, G5, as, s5, R5, ?_⟩
              cases e6 : fe s5 with
              | exc c => rw [e6] at h2; exact h2.elim
              | bad => rw [e6] at h2; exact h2.elim
              | ok q =>
                obtain ⟨w6, s6⟩ := q
                rw [e6, nox_ok, Res.bind_ok] at h2
                dsimp only at h2
                intro v6 G6 H6 R6 X6 r6 _
                cases e7 : toD w6 s6 with
                | none => rw [e7] at h2; exact h2.elim
                | some q7 =>
                  obtain ⟨x7, s7⟩ := q7
                  rw [e7] at h2
                  dsimp only at h2
                  obtain ⟨G7, R7, X7, r7⟩ := toD_ok R6 r6 e7
                  have hD6 : H6 Dl = some (.lst vacc) := X6.keep _ _ hD5 (not_live nasD)
                  have sg : Same G3 G7 := (X5.same.trans X6.same).trans X7.same
                  by_cases hz : acc.length < sizeLine
                  · rw [if_pos hz] at h2
                    have ha7 : RpA X.K G7 vacc acc := hacc.mono (X3.same.trans sg)
                    refine ⟨vacc, hD6, by rw [ha7.length]; exact hz, G7, { s7 with env := s1.env }, vacc ++ [v6], acc ++ [x7], rfl, ?_, ?_, upd_same, ha7.append (.cons r7 .nil), h2⟩
                    · have RR := R3.swapEnv R7 sg
                      rw [he2] at RR
                      have gD7 : G7 Dl = none := (R7.fo Dl (.inr rfl)).1
                      refine ⟨fun a o z => ?_, RR.len, RR.alen, RR.nd, fun a z => ?_, fun a z => ?_, fun n c z => ?_, fun j w z => ?_⟩
                      · have : a ≠ Dl := fun q => by rw [q, gD7] at z; cases z
                        rw [upd_ne this]; exact RR.same a o z
                      · have : a ≠ Dl := fun q => nasD (by rw [← q]; exact z)
                        rw [upd_ne this]; exact RR.dom a z
                      · obtain ⟨k1, k2, k3⟩ := RR.fo a z
                        refine ⟨k1, k2, ?_⟩
                        by_cases q : a = Dl
                        · exact ⟨_, by rw [q]; exact upd_same⟩
                        · rw [upd_ne q]; exact k3
                      · obtain ⟨a, k1, k2, k3⟩ := RR.cell n c z
                        have : a ≠ Dl := fun q => nasD (by rw [← q]; exact List.mem_of_getElem? k1)
                        exact ⟨a, k1, k2, k3.mono (Same.refl _) fun o z => by rw [upd_ne this]; exact z⟩
                      · obtain ⟨v, k1, k2, k3⟩ := RR.env j w z
                        refine ⟨v, k1, ?_, k3⟩
                        cases w with
                        | d x => exact k2
                        | c n => exact k2
                        | f ys => exact absurd rfl (k3 ys)
                    · have X8 := (X45.trans X6).trans X7
                      exact ⟨X8.same, fun a o z nl => by
                        have : a ≠ Dl := fun q => by rw [q, hD] at z; cases z
                        rw [upd_ne this]; exact X8.keep a o z nl, fun a z => X8.new a z⟩
                  · rw [if_neg hz] at h2; exact h2.elim
        rcases yl x H3 hy with ⟨rfl, r3⟩ | ⟨T, o, hT, rfl, r3⟩
        · exact main G2 R2 (Ext.refl _ _ _) r3 hDl
        · refine main _ (R2.newG hT o) (Ext.allocG (R2.same.free hT) hT) r3 ?_
          rw [upd_ne (ne_of_none hDl hT)]; exact hDl
    · have : i = xs.length := by omega
      subst this
      refine .inl ⟨w1 (Nat.le_refl _), ?_⟩
      rw [List.drop_length] at h2
      refine h2 (.ref Dl) G2 H' (R2.weak fun _ z => .inl z) X2 ⟨Dl, vacc, rfl, hDl, (R2.fo Dl (.inr rfl)).1, nasD, nFD, hacc⟩ fun ys b _ hb => ?_
      cases hb
      exact hD
where
  wipe_wipe (σ : L2.St) (vs : List Nat) : wipe (wipe σ vs) vs = wipe σ vs := by
    apply List.ext_getElem?
    intro j
    by_cases hj : j ∈ vs
    · have w : ∀ τ : L2.St, ∀ x, (wipe τ vs)[j]? ≠ some (some x) := fun τ x h => (wipe_some h).2 hj
      have l : ∀ τ : L2.St, (wipe τ vs).length = τ.length := fun τ => wipe_length τ vs
      by_cases hl : j < σ.length
      · obtain ⟨y1, h1⟩ : ∃ y, (wipe (wipe σ vs) vs)[j]? = some y := ⟨_, List.getElem?_eq_getElem (by rw [l, l]; exact hl)⟩
        obtain ⟨y2, h2⟩ : ∃ y, (wipe σ vs)[j]? = some y := ⟨_, List.getElem?_eq_getElem (by rw [l]; exact hl)⟩
        cases y1 with
        | some x => exact absurd h1 (w _ x)
        | none =>
          cases y2 with
          | some x => exact absurd h2 (w _ x)
          | none => rw [h1, h2]
      · rw [List.getElem?_eq_none (by rw [l, l]; omega), List.getElem?_eq_none (by rw [l]; omega)]
    · rw [wipe_out hj]
theorem gT1_mem (i : Nat) : ∀ d s s', gT1 i d s = some s' → s'.mem = s.mem ∧ s'.base = s.base := fun d s s' e => by
  unfold gT1 at e
  split at e
  · cases e; exact ⟨rfl, rfl⟩
  · cases e
theorem gTupT_mem (is : List Nat) : ∀ d s s', gTupT is d s = some s' → s'.mem = s.mem ∧ s'.base = s.base := fun d s s' e => by
  unfold gTupT at e
  split at e
  · exact putAll_mem e
  · exact putAll_mem e
  · cases e
theorem pd_lc (hcalm : X.calm = true) (hN : X.N.Nodup) (hi : PDI X E tg iter fi) (own : List (Str × Nat)) (ok : BlkOk X.N X.env.scope scope own)
    (hg : ∀ (s : Shared) (H : Hp) (C : Addr) (cl : List (Str × Addr)) (fp : List Addr), PDG (X.blk s H scope (compEnvC scope cl C X.env) fp) tg is tgt)
    (hgm : ∀ d s s', tgt d s = some s' → s'.mem = s.mem ∧ s'.base = s.base)
    (ht : ∀ (s : Shared) (H : Hp) (C : Addr) (cl : List (Str × Addr)) (fp : List Addr), PDTs (X.blk s H scope (compEnvC scope cl C X.env) fp) ifs tt)
    (he : ∀ (s : Shared) (H : Hp) (C : Addr) (cl : List (Str × Addr)) (fp : List Addr), PDE (X.blk s H scope (compEnvC scope cl C X.env) fp) E0 elt fe)
    (his : is = own.map (·.2) := by rfl) (hs : ∀ x, foldedSetIterable iter X.env x = pure x := by intro _; rfl) : PDE X E (.ListComp elt [⟨tg, iter, ifs, 0⟩] scope pos) (eLc (own.map (·.2)) fi tgt tt fe) :=
  ⟨PE.imp (pe_lc hcalm hN hi.pi ok (fun s H C cl fp => (hg s H C cl fp).pg) (fun s H C cl fp => (ht s H C cl fp).pt) (fun s H C cl fp => (he s H C cl fp).pe) hs) fun σ H Q h => lc_ok hgm his h⟩
/-- y = [..] -/
theorem pds_setLc (cell : Bool) (i : Nat) {y : Str} {py spos : Pos} (hcalm : X.calm = true) (hN : X.N.Nodup) (hi : PDI X E tg iter fi) (own : List (Str × Nat)) (ok : BlkOk X.N X.env.scope scope own)
    (hg : ∀ (s : Shared) (H : Hp) (C : Addr) (cl : List (Str × Addr)) (fp : List Addr), PDG (X.blk s H scope (compEnvC scope cl C X.env) fp) tg is tgt)
    (hgm : ∀ d s s', tgt d s = some s' → s'.mem = s.mem ∧ s'.base = s.base)
    (ht : ∀ (s : Shared) (H : Hp) (C : Addr) (cl : List (Str × Addr)) (fp : List Addr), PDTs (X.blk s H scope (compEnvC scope cl C X.env) fp) ifs tt)
    (he : ∀ (s : Shared) (H : Hp) (C : Addr) (cl : List (Str × Addr)) (fp : List Addr), PDE (X.blk s H scope (compEnvC scope cl C X.env) fp) E0 elt fe)
    (hsw : swapsWith (.ListComp elt [⟨tg, iter, ifs, 0⟩] scope pos) (some (.Name y py)) spos.line X.env = pure true)
    (hy : X.N[i]? = some y := by rfl) (hyl : X.env.scope.names.lookup y = some .local := by rfl)
    (his : is = own.map (·.2) := by rfl) (hs : ∀ x, foldedSetIterable iter X.env x = pure x := by intro _; rfl) : PDS X E (.Assign [.Name y py] (.ListComp elt [⟨tg, iter, ifs, 0⟩] scope pos) spos) (sSet cell i (eLc (own.map (·.2)) fi tgt tt fe)) :=
  set_of (PS.imp (ps_setLc hcalm hN hy hyl hsw hi.pi ok (fun s H C cl fp => (hg s H C cl fp).pg) (fun s H C cl fp => (ht s H C cl fp).pt) (fun s H C cl fp => (he s H C cl fp).pe) hs) fun D σ H h => lc_ok hgm his h)
end
end
end PD

set_option Elab.async false
set_option linter.all false
set_option maxRecDepth 100000
set_option maxHeartbeats 4000000
namespace PD
noncomputable section
open PySem PySem.Spec PyProof.Rows L2

section
variable {X : Cx} {E : XK} {a b c e : Expr} {fa fb fc fe : EM} {pos : Pos} {k : Nat}
theorem OpD.or {r r' : R2} {g g1 g2 : W → W → EM} (h1 : OpD X E r g1) (h2 : OpD X E r' g2) (hg : ∀ wa wb s, g wa wb s = g1 wa wb s ∨ g wa wb s = g2 wa wb s ∨ g wa wb s = .bad) : OpD X E (fun x y H Q => r x y H Q ∨ r' x y H Q) g := fun F G H as s σ x y wa wb Q R ra rb h => by
  rcases hg wa wb s with q | q | q
  · rw [q] at h; exact .inl (h1 F G H as s σ x y wa wb Q R ra rb h)
  · rw [q] at h; exact .inr (h2 F G H as s σ x y wa wb Q R ra rb h)
  · rw [q] at h; exact h.elim
/-- a new plain tuple, a new list -/
theorem eK.newT {F : Addr → Prop} {G H : Hp} {as : List Addr} {s : S} {σ : L2.St} {K : PySem.W.Frag} {mg : Str → Option Value} {xs : List D} {vs : List V} {Q : VK} {p : Addr} (R : Rep K F G H as σ s) (h : eK K mg E F G H as s σ (.ok (.d (.tuple xs), s)) Q) (r : RpA K G vs xs) (hp : H p = none) : Q (.ref p) (upd H p (.tup vs)) := by
  obtain ⟨gp, _, _⟩ := R.fresh hp
  exact h _ _ _ (R.newG hp _) (Ext.allocG gp hp) (.tup (SqT.of upd_same) (r.mono (same_upd gp))) fun _ _ z _ => nomatch z
theorem eK.newL {F : Addr → Prop} {G H : Hp} {as : List Addr} {s : S} {σ : L2.St} {K : PySem.W.Frag} {mg : Str → Option Value} {xs : List D} {vs : List V} {Q : VK} {p : Addr} (R : Rep K F G H as σ s) (h : eK K mg E F G H as s σ (.ok (.f xs, s)) Q) (r : RpA K G vs xs) (hp : H p = none) : Q (.ref p) (upd H p (.lst vs)) :=
  h _ _ _ (R.new hp _) (Ext.alloc hp) (R.newF hp r) fun _ b _ hb => by cases hb; exact hp
theorem eK.same {F : Addr → Prop} {G H : Hp} {as : List Addr} {s : S} {σ : L2.St} {K : PySem.W.Frag} {mg : Str → Option Value} {w : W} {v : V} {Q : VK} (R : Rep K F G H as σ s) (h : eK K mg E F G H as s σ (.ok (w, s)) Q) (r : RpW K F G H as v w) (nf : ∀ xs, w ≠ .f xs) : Q v H :=
  h v G H R (Ext.refl _ _ _) r fun xs _ e _ => absurd e (nf xs)
theorem vs_ne {K : PySem.W.Frag} {G : Hp} {vs : List V} {xs : List D} (r : RpA K G vs xs) : vs = [] ↔ xs = [] := by
  cases r with
  | nil => simp
  | cons => simp
theorem RpA.rep {K : PySem.W.Frag} {G : Hp} {vs : List V} {xs : List D} (r : RpA K G vs xs) : ∀ n : Nat, RpA K G (List.replicate n vs).flatten (List.replicate n xs).flatten
  | 0 => .nil
  | n + 1 => by
    rw [List.replicate_succ, List.replicate_succ, List.flatten_cons, List.flatten_cons]
    exact r.append (RpA.rep r n)
/-! ### + -/
def gAdd : W → W → EM := fun wa wb s => match dat s wa, dat s wb with
  | some (.int i), some (.int j) => .ok (.d (.int (i + j)), s)
  | some (.str x), some (.str y) => if x.length + y.length ≤ sizeLine then .ok (.d (.str (x ++ y)), s) else .bad
  | some (.list xs), some (.list ys) => if xs.length + ys.length ≤ sizeLine then .ok (.f (xs ++ ys), s) else .bad
  | some (.tuple xs), some (.tuple ys) => if xs.length + ys.length ≤ sizeLine then .ok (.d (.tuple (xs ++ ys)), s) else .bad
  | _, _ => .bad
/-- lists, whoever made them -/
def rCatS (K : PySem.W.Frag) : R2 := fun x y H Q => ∃ l b xs zs, x = .ref l ∧ y = .ref b ∧ SqL K H l xs ∧ SqL K H b zs ∧ xs.length + zs.length ≤ sizeLine ∧ ∀ p, H p = none → Q (.ref p) (upd H p (.lst (xs ++ zs)))
theorem op_catS : OpR X (binaryOp .Add) (rCatS X.K) := by
  intro pins s σ H x y v u Q I rx ry h
  obtain ⟨l, b, xs, zs, rfl, rfl, hH, hB, hz, q⟩ := h
  cases rx
  cases ry
  obtain ⟨its, r, pl, z⟩ := I.list hH
  obtain ⟨its2, r2, pl2, z2⟩ := I.list hB
  obtain ⟨⟨cls, dd, data, sl⟩, n, ho, hc, hdd, hd⟩ := pl
  obtain ⟨⟨cls2, dd2, data2, sl2⟩, n2, ho2, hc2, hdd2, hd2⟩ := pl2
  simp only at hc hd hc2 hd2
  subst hc hd hc2 hd2
  have e : its.toArray ++ its2.toArray = (its ++ its2).toArray := by simp
  refine concat_meets ⟨_, ho, rfl⟩ ⟨_, ho2, rfl⟩ noFill_list_add seq_list_add PySem.F.slot_list_add PySem.F.entry_list_add (PySem.F.args_list_add_2 _ _) (PyProof.Rows.list_addW l b its.toArray its2.toArray n n2 dd dd2 sl sl2 (by rw [List.size_toArray, List.size_toArray, ← r.length, ← r2.length]; exact hz)) ⟨ho, ho2, ?_⟩
  rw [e]
  exact ⟨.ref _, _, I.lnew (t' := s.toks) (r.append r2) (by rw [List.length_append]; omega), rfl, q _ I.fresh⟩
theorem od_add : OpD X E (fun x y H Q => rI0 (fun i j => .int (i + j)) x y H Q ∨ (fun x y H Q => (∃ i j, x = .str i ∧ y = .str j ∧ i.length + j.length ≤ sizeLine ∧ Q (.str (i ++ j)) H) ∨ (fun x y H Q => rCatS X.K x y H Q ∨ rCatA X.K x y H Q) x y H Q) x y H Q) gAdd := fun F G H as s σ x y wa wb Q R ra rb h => by
  unfold gAdd at h
  split at h
  · rename_i i j e1 e2
    exact .inl ⟨i, j, dat_int ra e1, dat_int rb e2, eK.val R h (.int _)⟩
  · rename_i i j e1 e2
    split at h
    · rename_i hz
      exact .inr (.inl ⟨i, j, dat_str ra e1, dat_str rb e2, hz, eK.val R h (.str _)⟩)
    · exact h.elim
  · rename_i xs ys e1 e2
    split at h
    · rename_i hz
      obtain ⟨a, vs, rfl, h1, h2⟩ := dat_lst R ra e1
      obtain ⟨b, us, rfl, h3, h4⟩ := dat_lst R rb e2
      exact .inr (.inr (.inl ⟨a, b, vs, us, rfl, rfl, h1, h3, by rw [h2.length, h4.length]; exact hz, fun p hp => eK.newL R h (h2.append h4) hp⟩))
    · exact h.elim
  · rename_i xs ys e1 e2
    split at h
    · rename_i hz
      obtain ⟨_, a, vs, rfl, h1, h2⟩ := dat_tup R ra e1
      obtain ⟨_, b, us, rfl, h3, h4⟩ := dat_tup R rb e2
      have ra' := dat_rp R ra e1
      refine .inr (.inr (.inr ⟨a, b, vs, us, rfl, rfl, h1, h3, by rw [h2.length, h4.length]; exact hz, fun q => ?_, fun _ q => ?_, fun _ _ p hp => eK.newT R h (h2.append h4) hp⟩))
      · have := (vs_ne h2).mp q
        subst this
        rw [List.nil_append] at h
        obtain ⟨rfl, _⟩ := dat_tup R rb e2
        exact eK.same R h rb fun _ z => nomatch z
      · have := (vs_ne h4).mp q
        subst this
        rw [List.append_nil] at h
        obtain ⟨rfl, _⟩ := dat_tup R ra e1
        exact eK.same R h ra fun _ z => nomatch z
    · exact h.elim
  · exact h.elim
theorem pd_add (ha : PDE X E a fa) (hb : PDE X E b fb) : PDE X E (.BinOp a .Add b pos) (eBin gAdd fa fb) := pd_op (op_add.or (op_add_str.or (op_catS.or op_catA))) od_add ha hb
/-! ### * -/
def cMul (i j : Int) : Bool := decide (i.natAbs.log2 + j.natAbs.log2 < 1000000)
noncomputable def cRepo : { f : Nat → Int → Bool // ∀ n k, f n k = decide (-(2 ^ 63) ≤ k ∧ k < 2 ^ 63 ∧ n * k.toNat ≤ sizeLine) } := Classical.choice ⟨⟨fun n k => decide (-(2 ^ 63) ≤ k ∧ k < 2 ^ 63 ∧ n * k.toNat ≤ sizeLine), fun _ _ => rfl⟩⟩
def cRep (n : Nat) (k : Int) : Bool := cRepo.1 n k
theorem cRep_eq (n : Nat) (k : Int) : cRep n k = decide (-(2 ^ 63) ≤ k ∧ k < 2 ^ 63 ∧ n * k.toNat ≤ sizeLine) := cRepo.2 n k
noncomputable def cRepTo : { f : Nat → Int → Bool // ∀ n k, f n k = decide (n ≠ 0 ∧ 2 ≤ k ∧ k ≤ 1000 ∧ n ≤ 1000) } := Classical.choice ⟨⟨fun n k => decide (n ≠ 0 ∧ 2 ≤ k ∧ k ≤ 1000 ∧ n ≤ 1000), fun _ _ => rfl⟩⟩
def cRepT (n : Nat) (k : Int) : Bool := cRepTo.1 n k
theorem cRepT_eq (n : Nat) (k : Int) : cRepT n k = decide (n ≠ 0 ∧ 2 ≤ k ∧ k ≤ 1000 ∧ n ≤ 1000) := cRepTo.2 n k
def gMul : W → W → EM := fun wa wb s => match wa, wb with
  | .d (.int i), .d (.int j) => if cMul i j then .ok (.d (.int (i * j)), s) else .bad
  | .f xs, .d (.int k) => if cRep xs.length k then .ok (.f (List.replicate k.toNat xs).flatten, s) else .bad
  | .d (.tuple xs), .d (.int k) => if cRepT xs.length k then .ok (.d (.tuple (List.replicate k.toNat xs).flatten), s) else .bad
  | _, _ => .bad
theorem od_mul : OpD X E (fun x y H Q => rI CMulW (fun i j => .int (i * j)) x y H Q ∨ (fun x y H Q => rRep x y H Q ∨ rRepT X.K x y H Q) x y H Q) gMul := fun F G H as s σ x y wa wb Q R ra rb h => by
  unfold gMul at h
  split at h
  · rename_i i j
    split at h
    · rename_i hz
      cases rb
      exact .inl ⟨i, j, dat_int (s := s) ra rfl, rfl, (show i.natAbs.log2 + j.natAbs.log2 < 1000000 from of_decide_eq_true hz), eK.val R h (.int _)⟩
    · exact h.elim
  · rename_i xs k
    split at h
    · rename_i hz
      have hz := of_decide_eq_true ((cRep_eq _ _).symm.trans hz)
      cases rb
      obtain ⟨a, vs, rfl, h1, _, _, _, h2⟩ := ra
      exact .inr (.inl ⟨a, k, vs, rfl, rfl, h1, hz.1, hz.2.1, by rw [h2.length]; exact hz.2.2, fun p hp => eK.newL R h (h2.rep _) hp⟩)
    · exact h.elim
  · rename_i xs k
    split at h
    · rename_i hz
      have hz := of_decide_eq_true ((cRepT_eq _ _).symm.trans hz)
      cases rb
      obtain ⟨_, a, vs, rfl, h1, h2⟩ := dat_tup R ra rfl
      exact .inr (.inr ⟨a, k, vs, rfl, rfl, h1, fun q => hz.1 (by rw [(vs_ne h2).mp q]; rfl), hz.2.1, hz.2.2.1, by rw [h2.length]; exact hz.2.2.2, fun p hp => eK.newT R h (h2.rep _) hp⟩)
    · exact h.elim
  · exact h.elim
theorem pd_mul (ha : PDE X E a fa) (hb : PDE X E b fb) : PDE X E (.BinOp a .Mult b pos) (eBin gMul fa fb) := pd_op (op_mulW.or (op_rep.or op_repT)) od_mul ha hb
/-! ### other arithmetic -/
def cDiv (i j : Int) : Bool := decide (0 < j) && decide (j.natAbs.log2 < 9000)
abbrev eDiv := eBin (g2I fun i j => if cDiv i j then some (.int (i / j)) else none)
theorem pd_div (ha : PDE X E a fa) (hb : PDE X E b fb) : PDE X E (.BinOp a .FloorDiv b pos) (eDiv fa fb) := pd_op op_fdivW (od_intC (C := CDivW) fun i j h => ⟨of_decide_eq_true (Bool.and_eq_true_iff.mp h).1, of_decide_eq_true (Bool.and_eq_true_iff.mp h).2⟩) ha hb
abbrev eMod := eBin (g2I fun i j => if decide (0 < j) then some (.int (i % j)) else none)
theorem pd_mod (ha : PDE X E a fa) (hb : PDE X E b fb) : PDE X E (.BinOp a .Mod b pos) (eMod fa fb) := pd_op op_mod (od_intC (C := fun _ j => 0 < j) (cb := fun _ j => decide (0 < j)) fun i j h => of_decide_eq_true h) ha hb
def cPow (i j : Int) : Bool := decide (0 ≤ j) && (decide (j ≤ 1000000) && decide (i.natAbs < 2 ^ 64))
theorem cPow_ok (i j : Int) (h : cPow i j = true) : CPow i j := ⟨of_decide_eq_true (Bool.and_eq_true_iff.mp h).1, of_decide_eq_true (Bool.and_eq_true_iff.mp (Bool.and_eq_true_iff.mp h).2).1, of_decide_eq_true (Bool.and_eq_true_iff.mp (Bool.and_eq_true_iff.mp h).2).2⟩
abbrev ePow := eBin (g2I fun i j => if cPow i j then some (.int (i ^ j.toNat)) else none)
theorem pd_pow (ha : PDE X E a fa) (hb : PDE X E b fb) : PDE X E (.BinOp a .Pow b pos) (ePow fa fb) := pd_op op_pow (od_intC (C := CPow) cPow_ok) ha hb
abbrev eShl := eBin (g2I fun i j => if cPow i j then some (.int (i * 2 ^ j.toNat)) else none)
theorem pd_shl (ha : PDE X E a fa) (hb : PDE X E b fb) : PDE X E (.BinOp a .LShift b pos) (eShl fa fb) := pd_op op_shl (od_intC (C := CPow) cPow_ok) ha hb
abbrev eShr := eBin (g2I fun i j => if decide (0 ≤ j) then some (.int (i / 2 ^ j.toNat)) else none)
theorem pd_shr (ha : PDE X E a fa) (hb : PDE X E b fb) : PDE X E (.BinOp a .RShift b pos) (eShr fa fb) := pd_op op_shr (od_intC (C := fun _ j => 0 ≤ j) (cb := fun _ j => decide (0 ≤ j)) fun i j h => of_decide_eq_true h) ha hb
def eNeg (f : EM) : EM := fun s => (f s).bind fun p => match p.1 with
  | .d (.int i) => .ok (.d (.int (-i)), p.2)
  | _ => .bad
theorem pd_neg (ha : PDE X E a fa) : PDE X E (.UnaryOp .USub a pos) (eNeg fa) := ⟨PE.imp (pe_un un_neg ha.pe) fun σ H Q h => by
  obtain ⟨F, G, as, s, R, h⟩ := h
  refine eT.seq R h fun G1 H1 w s1 v R1 X1 r _ h1 => ?_
  dsimp only at h1
  split at h1
  · cases r
    exact ⟨_, rfl, eK.val R1 h1 (.int _)⟩
  · exact h1.elim⟩
/-! ### order: ints and texts -/
def gOrd (fi : Int → Int → Bool) (fs : Str → Str → Bool) : W → W → EM := fun wa wb s => match wa, wb with
  | .d (.int i), .d (.int j) => .ok (.d (.bool (fi i j)), s)
  | .d (.str x), .d (.str y) => .ok (.d (.bool (fs x y)), s)
  | _, _ => .bad
theorem od_ord {fi : Int → Int → Bool} {fs : Str → Str → Bool} : OpD X E (fun x y H Q => rI0 (fun i j => .bl (fi i j)) x y H Q ∨ ∃ i j, x = .str i ∧ y = .str j ∧ Q (.bl (fs i j)) H) (gOrd fi fs) := fun F G H as s σ x y wa wb Q R ra rb h => by
  unfold gOrd at h
  split at h
  · cases ra; cases rb
    exact .inl ⟨_, _, rfl, rfl, eK.val R h (.bl _)⟩
  · cases ra; cases rb
    exact .inr ⟨_, _, rfl, rfl, eK.val R h (.bl _)⟩
  · exact h.elim
theorem gOrd_f {fi : Int → Int → Bool} {fs : Str → Str → Bool} {wa : W} {xs : List D} {s : S} : gOrd fi fs wa (.f xs) s = .bad := by
  cases wa with
  | d x => cases x <;> rfl
  | c n => rfl
  | f ys => rfl
abbrev gLt := gOrd (fun i j => decide (i < j)) (fun x y => decide (x.cps.toList < y.cps.toList))
abbrev gLe := gOrd (fun i j => decide (i ≤ j)) (fun x y => !decide (y.cps.toList < x.cps.toList))
abbrev gGt := gOrd (fun i j => decide (j < i)) (fun x y => decide (y.cps.toList < x.cps.toList))
abbrev gGe := gOrd (fun i j => decide (j ≤ i)) (fun x y => !decide (x.cps.toList < y.cps.toList))
theorem pd_ltA (ha : PDE X E a fa) (hb : PDE X E b fb) : PDE X E (.Compare a [.Lt] [b] pos) (eBin gLt fa fb) := pd_cmp (op_lt.or op_lt_str) od_ord ha hb
theorem pd_leA (ha : PDE X E a fa) (hb : PDE X E b fb) : PDE X E (.Compare a [.LtE] [b] pos) (eBin gLe fa fb) := pd_cmp (op_le.or op_le_str) od_ord ha hb
theorem pd_gtA (ha : PDE X E a fa) (hb : PDE X E b fb) : PDE X E (.Compare a [.Gt] [b] pos) (eBin gGt fa fb) := pd_cmp (op_gt.or op_gt_str) od_ord ha hb
theorem pd_geA (ha : PDE X E a fa) (hb : PDE X E b fb) : PDE X E (.Compare a [.GtE] [b] pos) (eBin gGe fa fb) := pd_cmp (op_ge.or op_ge_str) od_ord ha hb
/-! ### a <= b <= c -/
def eChain (g g' : W → W → EM) (fa fb fc : EM) : EM := fun s => (fa s).bind fun p => (fb p.2).bind fun q => (g p.1 q.1 q.2).bind fun t => match t.1 with
  | .d (.bool true) => (fc t.2).bind fun u => g' q.1 u.1 u.2
  | .d (.bool false) => .ok (.d (.bool false), t.2)
  | _ => .bad
/-- the middle one is plain -/
theorem pd_chain {op op' : CmpOp} {r r' : R2} {fi fi' : Int → Int → Bool} {fs fs' : Str → Str → Bool} (ho : OpR X (compareOp op) r) (ho' : OpR X (compareOp op') r') (hg : OpD X E r (gOrd fi fs)) (hg' : OpD X E r' (gOrd fi' fs')) (ha : PDE X E a fa) (hb : PDE X E b fb) (hc : PDE X E c fc)
    (hm : lastMarks [op, op'] [b, c] = false := by with_unfolding_all rfl) : PDE X E (.Compare a [op, op'] [b, c] pos) (eChain (gOrd fi fs) (gOrd fi' fs') fa fb fc) := ⟨PE.imp (pe_chain ho ho' ha.pe hb.pe hc.pe hm) fun σ H Q h => by
  obtain ⟨F, G, as, s, R, h⟩ := h
  refine eT.seq R h fun G1 H1 w s1 v R1 X1 r1 _ h1 => ?_
  refine eT.seqP R1 r1 h1 fun G2 H2 w2 s2 v2 R2 X2 r1 r2 _ h2 => ?_
  dsimp only at h2
  refine hg F G2 H2 as s2 σ v v2 w w2 _ R2 r1 r2 ?_
  cases q : gOrd fi fs w w2 s2 with
  | exc c => rw [q] at h2; exact h2
  | bad => rw [q] at h2; exact h2
  | ok t =>
    obtain ⟨w3, s3⟩ := t
    rw [q, Res.bind_ok] at h2
    dsimp only at h2
    intro v3 G3 H3 R3 X3 r3 n3
    have nf : ∀ xs, w2 ≠ .f xs := fun xs z => by
      subst z
      rw [gOrd_f] at q
      cases q
    have h2 := eK.ext h2 R2 R3 X3
    split at h2
    · cases r3
      refine ⟨true, rfl, ?_⟩
      rw [if_pos rfl]
      have r2' : RpW X.K F G3 H3 as v2 w2 := by
        cases w2 with
        | d x => exact Rp.mono X3.same r2
        | c n => exact r2
        | f xs => exact absurd rfl (nf xs)
      exact eT.seqP R3 r2' h2 fun G4 H4 w4 s4 v4 R4 X4 r2 r4 _ h4 => hg' F G4 H4 as s4 σ v2 v4 w2 w4 Q R4 r2 r4 h4
    · cases r3
      refine ⟨false, rfl, ?_⟩
      rw [if_neg Bool.false_ne_true]
      exact eK.val R3 h2 (.bl _)
    · exact h2.elim⟩
theorem pd_leLe (ha : PDE X E a fa) (hb : PDE X E b fb) (hc : PDE X E c fc) (hm : lastMarks [.LtE, .LtE] [b, c] = false := by with_unfolding_all rfl) : PDE X E (.Compare a [.LtE, .LtE] [b, c] pos) (eChain gLe gLe fa fb fc) := pd_chain (op_le.or op_le_str) (op_le.or op_le_str) od_ord od_ord ha hb hc hm
/-! ### in -/
@[simp] def flatD : D → Bool
  | .none => true | .bool _ => true | .int _ => true | .str _ => true
  | _ => false
theorem flat_of {K : PySem.W.Frag} {H : Hp} {v : V} {x : D} (r : Rp K H v x) (h : flatD x = true) : flatV v = true := by
  cases r <;> first | rfl | cases h
theorem eqV_of {K : PySem.W.Frag} {H : Hp} {v u : V} {x y : D} (r : Rp K H v x) (r' : Rp K H u y) (h : flatD x = true) (h' : flatD y = true) : eqV v u = PyData.eqv x y := by
  cases r <;> cases r' <;> first | rfl | cases h | cases h'
def inD (x : D) (xs : List D) : Bool := xs.any fun y => PyData.eqv y x
theorem inV_of {K : PySem.W.Frag} {H : Hp} {v : V} {x : D} (r : Rp K H v x) (h : flatD x = true) : ∀ {vs : List V} {xs : List D}, RpA K H vs xs → xs.all flatD = true → inV v vs = inD x xs ∧ vs.all flatV = true
  | _, _, .nil, _ => ⟨rfl, rfl⟩
  | _, _, .cons h1 r1, e => by
    rw [List.all_cons, Bool.and_eq_true] at e
    obtain ⟨i1, i2⟩ := inV_of r h r1 e.2
    refine ⟨?_, by rw [List.all_cons, i2, flat_of h1 e.1]; rfl⟩
    unfold inV inD at i1 ⊢
    rw [List.any_cons, List.any_cons, i1, eqV_of h1 r e.1 h]
def gIn (neg : Bool) : W → W → EM := fun wa wb s => match dat s wa, dat s wb with
  | some x, some (.list xs) => if flatD x && xs.all flatD then .ok (.d (.bool (if neg then !inD x xs else inD x xs)), s) else .bad
  | some x, some (.tuple xs) => if flatD x && xs.all flatD then .ok (.d (.bool (if neg then !inD x xs else inD x xs)), s) else .bad
  | some (.str x), some (.str y) => (match x.cps.toList with
    | [c] => .ok (.d (.bool (if neg then !decide (c ∈ y.cps.toList) else decide (c ∈ y.cps.toList))), s)
    | _ => .bad)
  | _, _ => .bad
def rSign (neg : Bool) : R2 := fun x y H Q => ∃ (c : Nat) (z : Str), x = .str ⟨#[c]⟩ ∧ y = .str z ∧ Q (.bl (if neg then !decide (c ∈ z.cps.toList) else decide (c ∈ z.cps.toList))) H
theorem od_in {neg : Bool} : OpD X E (fun x y H Q => rIn X.K neg x y H Q ∨ rSign neg x y H Q) (gIn neg) := fun F G H as s σ x y wa wb Q R ra rb h => by
  unfold gIn at h
  split at h
  · rename_i x xs e1 e2
    split at h
    · rename_i hz
      obtain ⟨z1, z2⟩ := Bool.and_eq_true_iff.mp hz
      obtain ⟨a, vs, rfl, h1, h2⟩ := dat_lst R rb e2
      have rx := dat_rp R ra e1
      obtain ⟨i1, i2⟩ := inV_of rx z1 (h2.mono R.same) z2
      exact .inl ⟨a, vs, rfl, .inl (h1), flat_of rx z1, i2, by rw [i1]; exact eK.val R h (.bl _)⟩
    · exact h.elim
  · rename_i x xs e1 e2
    split at h
    · rename_i hz
      obtain ⟨z1, z2⟩ := Bool.and_eq_true_iff.mp hz
      obtain ⟨_, a, vs, rfl, h1, h2⟩ := dat_tup R rb e2
      have rx := dat_rp R ra e1
      obtain ⟨i1, i2⟩ := inV_of rx z1 (h2.mono R.same) z2
      exact .inl ⟨a, vs, rfl, .inr h1, flat_of rx z1, i2, by rw [i1]; exact eK.val R h (.bl _)⟩
    · exact h.elim
  · rename_i x y e1 e2
    split at h
    · rename_i c hc
      have ex : x = ⟨#[c]⟩ := by
        obtain ⟨⟨l⟩⟩ := x
        simp at hc
        rw [hc]
      exact .inr ⟨c, y, by rw [dat_str ra e1, ex], dat_str rb e2, eK.val R h (.bl _)⟩
    · exact h.elim
  · exact h.elim
theorem op_sign (neg : Bool) : OpR X (compareOp (if neg then .NotIn else .In)) (rSign neg) := by
  cases neg with
  | true => exact op_notIn_sign
  | false => exact op_in_sign
theorem pd_in (ha : PDE X E a fa) (hb : PDE X E b fb) (hm : behindInMarks .In b = false := by rfl) : PDE X E (.Compare a [.In] [b] pos) (eBin (gIn false) fa fb) := pd_cmp (op_in_seq.or (op_sign false)) od_in ha hb hm
theorem pd_notIn (ha : PDE X E a fa) (hb : PDE X E b fb) (hm : behindInMarks .NotIn b = false := by rfl) : PDE X E (.Compare a [.NotIn] [b] pos) (eBin (gIn true) fa fb) := pd_cmp (op_notIn_seq.or (op_sign true)) od_in ha hb hm
end
end
end PD

set_option Elab.async false
set_option linter.all false
set_option maxRecDepth 100000
set_option maxHeartbeats 4000000
namespace PD
noncomputable section
open PySem PySem.Spec PyProof.Rows L2

/-! ### slices -/
abbrev OM := S → Res (Option Int × S)
def oK (K : PySem.W.Frag) (mg : Str → Option Value) (E : XK) (F : Addr → Prop) (G H : Hp) (as : List Addr) (s : S) (σ : L2.St) (r : Res (Option Int × S)) (Q : Option Int → Hp → Prop) : Prop := match r with
  | .ok (o, s') => ∀ G' H', Rep K F G' H' as σ s' → Ext G H (live as s) G' H' (live as s') → Q o H'
  | .exc c => ∀ C H', mg c = some (.ref C) → (∀ a o, H a = some o → ¬ live as s a → H' a = some o) → E (.ref C) none H'
  | .bad => False
def oT (K : PySem.W.Frag) (mg : Str → Option Value) (E : XK) (f : OM) : TO := fun σ H Q => ∃ (F : Addr → Prop) (G : Hp) (as : List Addr) (s : S), Rep K F G H as σ s ∧ oK K mg E F G H as s σ (f s) Q
structure PDO (X : Cx) (E : XK) (e : Option Expr) (f : OM) : Prop where
  po : PO X e (oT X.K X.mg E f)
theorem PO.imp {X : Cx} {e : Option Expr} {t t' : TO} (h : PO X e t) (k : ∀ σ H Q, t' σ H Q → t σ H Q) : PO X e t' := ⟨fun pins s σ H Q I q => h.run pins s σ H Q I (k σ H Q q)⟩
def oNone : OM := fun s => .ok (none, s)
def oSome (f : EM) : OM := fun s => (f s).bind fun p => match p.1 with
  | .d (.int i) => .ok (some i, p.2)
  | _ => .bad
section
variable {X : Cx} {E : XK} {a b c e : Expr} {fa fb fc fe : EM} {pos : Pos} {k : Nat} {lo hi : Option Expr} {fl fh : OM}
theorem pdo_none : PDO X E none oNone := ⟨PO.imp po_none fun σ H Q h => by
  obtain ⟨F, G, as, s, R, h⟩ := h
  exact h G H R (Ext.refl _ _ _)⟩
theorem pdo_some (he : PDE X E e fe) : PDO X E (some e) (oSome fe) := ⟨PO.imp (po_some he.pe) fun σ H Q h => by
  obtain ⟨F, G, as, s, R, h⟩ := h
  refine ⟨F, G, as, s, R, ?_⟩
  unfold oSome at h
  cases q : fe s with
  | exc c => rw [q] at h; exact h
  | bad => rw [q] at h; exact h
  | ok p =>
    obtain ⟨w, s1⟩ := p
    rw [q, Res.bind_ok] at h
    dsimp only at h
    intro v G1 H1 R1 X1 r _
    split at h
    · cases r
      exact ⟨_, rfl, h G1 H1 R1 X1⟩
    · exact h.elim⟩
def cutD (xs : List D) (lo hi : Option Int) : List D := (xs.drop (HT.sIx xs.length 0 lo)).take (HT.sIx xs.length xs.length hi - HT.sIx xs.length 0 lo)
def gSl (lo hi : Option Int) : W → EM := fun w s => match dat s w with
  | some (.list xs) => .ok (.f (cutD xs lo hi), s)
  | some (.tuple xs) => .ok (.d (.tuple (cutD xs lo hi)), s)
  | some (.str z) => if z.length ≤ sizeLine then .ok (.d (.str (cutS z lo hi)), s) else .bad
  | _ => .bad
def eSl (fe : EM) (fl fh : OM) : EM := fun s => (fe s).bind fun p => (fl p.2).bind fun l => (fh l.2).bind fun h => gSl l.1 h.1 p.1 h.2
theorem cut_rp {K : PySem.W.Frag} {G : Hp} {vs : List V} {xs : List D} (r : RpA K G vs xs) (lo hi : Option Int) : RpA K G (cutV vs lo hi) (cutD xs lo hi) := by
  unfold cutV cutD
  rw [r.length]
  exact (r.drop _).take _
theorem take_all {xs : List D} {lo hi : Option Int} (h : HT.sIx xs.length 0 lo = 0 ∧ HT.sIx xs.length xs.length hi = xs.length) : cutD xs lo hi = xs := by
  unfold cutD
  rw [h.1, h.2]
  simp
theorem oT.seq {K : PySem.W.Frag} {mg : Str → Option Value} {F : Addr → Prop} {G H : Hp} {as : List Addr} {s : S} {σ : L2.St} {fo : OM} {k : Option Int × S → Res (W × S)} {Q : VK} {Q1 : Option Int → Hp → Prop} {v0 : V} {w0 : W} (R : Rep K F G H as σ s) (r0 : RpW K F G H as v0 w0) (h : eK K mg E F G H as s σ ((fo s).bind k) Q)
    (hk : ∀ (G1 H1 : Hp) (o : Option Int) (s1 : S), Rep K F G1 H1 as σ s1 → RpW K F G1 H1 as v0 w0 → eK K mg E F G1 H1 as s1 σ (k (o, s1)) Q → Q1 o H1) : oT K mg E fo σ H Q1 := by
  refine ⟨pn F v0 w0, G, as, s, R.pend r0, ?_⟩
  cases e : fo s with
  | ok p =>
    obtain ⟨o, s1⟩ := p
    rw [e] at h
    exact fun G1 H1 R1 X1 => hk G1 H1 o s1 R1.unpend (r0.mono R1 X1) (eK.ext h R R1.unpend X1)
  | exc c => rw [e] at h; exact h
  | bad => rw [e] at h; exact h
theorem pd_slice {p2 : Pos} (he : PDE X E e fe) (hl : PDO X E lo fl) (hh : PDO X E hi fh) : PDE X E (.Subscript e (.Slice lo hi none p2) pos) (eSl fe fl fh) := ⟨PE.imp (pe_slice (sl_list.or (sl_tupA.or sl_str)) he.pe hl.po hh.po) fun σ H Q h => by
  obtain ⟨F, G, as, s, R, h⟩ := h
  refine eT.seq R h fun G1 H1 w s1 v R1 X1 r1 _ h1 => ?_
  refine oT.seq R1 r1 h1 fun G2 H2 o s2 R2 r2 h2 => ?_
  refine oT.seq R2 r2 h2 fun G3 H3 u s3 R3 r3 h3 => ?_
  dsimp only at h3
  unfold gSl at h3
  split at h3
  · rename_i xs e
    obtain ⟨a, vs, rfl, k1, k2⟩ := dat_lst R3 r3 e
    exact .inl ⟨a, vs, rfl, k1, fun p hp => eK.newL R3 h3 (cut_rp k2 _ _) hp⟩
  · rename_i xs e
    obtain ⟨ew, a, vs, rfl, k1, k2⟩ := dat_tup R3 r3 e
    subst ew
    refine .inr (.inl ⟨a, vs, rfl, k1, fun q => ?_, fun _ p hp => eK.newT R3 h3 (cut_rp k2 _ _) hp⟩)
    rw [k2.length] at q
    rw [take_all q] at h3
    exact eK.same R3 h3 r3 fun _ z => nomatch z
  · rename_i z e
    split at h3
    · rename_i hz
      exact .inr (.inr ⟨z, dat_str r3 e, hz, eK.val R3 h3 (.str _)⟩)
    · exact h3.elim
  · exact h3.elim⟩
/-! ### xs[::-1] of a list -/
theorem pd_revL {kk : Nat} {p1 p2 p3 : Pos} (he : PDE X E e fe) : PDE X E (.Subscript e (.Slice none none (some (.UnaryOp .USub (.Constant (.int 1) kk p1) p2)) p3) pos) (eB1 (fun w s => match dat s w with
    | some (.list xs) => .ok (.f xs.reverse, s)
    | _ => .bad) fe) := ⟨PE.imp (pe_revL he.pe) fun σ H Q h => by
  obtain ⟨F, G, as, s, R, h⟩ := h
  refine eT.seq R h fun G1 H1 w s1 v R1 X1 r1 _ h1 => ?_
  dsimp only at h1
  split at h1
  · rename_i xs e
    obtain ⟨a, vs, rfl, k1, k2⟩ := dat_lst R1 r1 e
    exact ⟨a, vs, rfl, k1, fun p hp => eK.newL R1 h1 k2.reverse hp⟩
  · exact h1.elim⟩

/-! ### further built-ins -/
def gList : W → EM := fun w s => match dat s w with
  | some (.list xs) => .ok (.f xs, s)
  | some (.tuple xs) => .ok (.f xs, s)
  | _ => .bad
theorem ud_list : UnD X E (fun xs H Q => ∃ p ys, xs = [.ref p] ∧ (SqL X.K H p ys ∨ SqT X.K H p ys) ∧ ∀ l, H l = none → Q (.ref l) (upd H l (.lst ys))) gList := fun F G H as s σ v w Q R r h => by
  unfold gList at h
  split at h
  · rename_i xs e
    obtain ⟨a, vs, rfl, h1, h2⟩ := dat_lst R r e
    exact ⟨a, vs, rfl, .inl (h1), fun p hp => eK.newL R h h2 hp⟩
  · rename_i xs e
    obtain ⟨_, a, vs, rfl, h1, h2⟩ := dat_tup R r e
    exact ⟨a, vs, rfl, .inr h1, fun p hp => eK.newL R h h2 hp⟩
  · exact h.elim
theorem pd_list {p : Pos} (hm : X.mg "list" = none) (ha : PDE X E e fe) (hg : Gl X "list" := by rfl) (he : starEach [e] X.env = (false, eval e X.env) :: starEach [] X.env := by rfl) : PDE X E (.Call (.Name "list" p) [e] [] pos) (eB1 gList fe) :=
  pd_t1 call_list_of ud_list hm (by decide +kernel) ha hg (by decide) (by decide) he
def gTuple : W → EM := fun w s => match dat s w with
  | some (.list xs) => .ok (.d (.tuple xs), s)
  | some (.tuple xs) => .ok (.d (.tuple xs), s)
  | _ => .bad
theorem ud_tuple : UnD X E (fun xs H Q => ∃ p ys, xs = [.ref p] ∧ ((SqL X.K H p ys ∧ ∀ l, H l = none → Q (.ref l) (upd H l (.tup ys))) ∨ (SqT X.K H p ys ∧ Q (.ref p) H))) gTuple := fun F G H as s σ v w Q R r h => by
  unfold gTuple at h
  split at h
  · rename_i xs e
    obtain ⟨a, vs, rfl, h1, h2⟩ := dat_lst R r e
    exact ⟨a, vs, rfl, .inl ⟨h1, fun p hp => eK.newT R h h2 hp⟩⟩
  · rename_i xs e
    obtain ⟨rfl, a, vs, rfl, h1, h2⟩ := dat_tup R r e
    exact ⟨a, vs, rfl, .inr ⟨h1, eK.same R h r fun _ z => nomatch z⟩⟩
  · exact h.elim
theorem pd_tuple {p : Pos} (hm : X.mg "tuple" = none) (ha : PDE X E e fe) (hg : Gl X "tuple" := by rfl) (he : starEach [e] X.env = (false, eval e X.env) :: starEach [] X.env := by rfl) : PDE X E (.Call (.Name "tuple" p) [e] [] pos) (eB1 gTuple fe) :=
  pd_t1 call_tuple_of ud_tuple hm (by decide +kernel) ha hg (by decide) (by decide) he
def gInt : W → EM := fun w s => match w with
  | .d (.int i) => .ok (.d (.int i), s)
  | .d (.bool b) => .ok (.d (.int (if b then 1 else 0)), s)
  | _ => .bad
theorem ud_int : UnD X E (fun xs H Q => (∃ i, xs = [.int i] ∧ Q (.int i) H) ∨ ∃ k, xs = [.bl k] ∧ Q (.int (if k then 1 else 0)) H) gInt := fun F G H as s σ v w Q R r h => by
  unfold gInt at h
  split at h
  · cases r
    exact .inl ⟨_, rfl, eK.val R h (.int _)⟩
  · cases r
    exact .inr ⟨_, rfl, eK.val R h (.int _)⟩
  · exact h.elim
theorem pd_intC {p : Pos} (hm : X.mg "int" = none) (ha : PDE X E e fe) (hg : Gl X "int" := by rfl) (he : starEach [e] X.env = (false, eval e X.env) :: starEach [] X.env := by rfl) : PDE X E (.Call (.Name "int" p) [e] [] pos) (eB1 gInt fe) :=
  pd_t1 call_int1 ud_int hm (by decide +kernel) ha hg (by decide) (by decide) he
def gAbs : W → EM := fun w s => match w with
  | .d (.int i) => .ok (.d (.int (if i < 0 then -i else i)), s)
  | _ => .bad
theorem ud_abs : UnD X E (fun xs H Q => ∃ i, xs = [.int i] ∧ Q (.int (if i < 0 then -i else i)) H) gAbs := fun F G H as s σ v w Q R r h => by
  unfold gAbs at h
  split at h
  · cases r
    exact ⟨_, rfl, eK.val R h (.int _)⟩
  · exact h.elim
theorem pd_abs {p : Pos} (hm : X.mg "abs" = none) (ha : PDE X E e fe) (hg : Gl X "abs" := by rfl) (he : starEach [e] X.env = (false, eval e X.env) :: starEach [] X.env := by rfl) : PDE X E (.Call (.Name "abs" p) [e] [] pos) (eB1 gAbs fe) :=
  pd_b1 call_abs ud_abs hm (by decide +kernel) ha hg (by decide) (by decide) he
def gOrdC : W → EM := fun w s => match w with
  | .d (.str x) => if x.length = 1 then .ok (.d (.int (x.cps.getD 0 0 : Nat)), s) else .bad
  | _ => .bad
theorem ud_ordC : UnD X E (fun xs H Q => ∃ x, xs = [.str x] ∧ x.length = 1 ∧ Q (.int (x.cps.getD 0 0 : Nat)) H) gOrdC := fun F G H as s σ v w Q R r h => by
  unfold gOrdC at h
  split at h
  · split at h
    · rename_i hz
      cases r
      exact ⟨_, rfl, hz, eK.val R h (.int _)⟩
    · exact h.elim
  · exact h.elim
theorem pd_ord {p : Pos} (hm : X.mg "ord" = none) (ha : PDE X E e fe) (hg : Gl X "ord" := by rfl) (he : starEach [e] X.env = (false, eval e X.env) :: starEach [] X.env := by rfl) : PDE X E (.Call (.Name "ord" p) [e] [] pos) (eB1 gOrdC fe) :=
  pd_b1 call_ord ud_ordC hm (by decide +kernel) ha hg (by decide) (by decide) he
def intsOf : List D → Option (List Int)
  | [] => some []
  | .int b :: r => (intsOf r).map (b :: ·)
  | _ :: _ => none
theorem intsOf_ok {K : PySem.W.Frag} {G : Hp} : ∀ {vs : List V} {ds : List D} {bs : List Int}, RpA K G vs ds → intsOf ds = some bs → vs = bs.map V.int
  | _, _, _, .nil, e => by cases e; rfl
  | _, _, bs, .cons (ds := ds) (.int b) r, e => by
    have e : (intsOf ds).map (b :: ·) = some bs := e
    cases q : intsOf ds with
    | none => rw [q] at e; cases e
    | some es => rw [q] at e; cases e; rw [intsOf_ok r q]; rfl
  | _, _, _, .cons .non _, e => nomatch e
  | _, _, _, .cons (.bl _) _, e => nomatch e
  | _, _, _, .cons (.str _) _, e => nomatch e
  | _, _, _, .cons (.lst _ _) _, e => nomatch e
  | _, _, _, .cons (.tup _ _) _, e => nomatch e
  | _, _, _, .cons (.dic _) _, e => nomatch e
theorem RpA.ints {K : PySem.W.Frag} {G : Hp} : ∀ ns : List Int, RpA K G (ns.map V.int) (ns.map PyData.int)
  | [] => .nil
  | n :: r => .cons (.int n) (RpA.ints r)
def sortI (ns : List Int) : List Int := ns.mergeSort (fun a b => decide (a ≤ b))
theorem sortI_ok (ns : List Int) : (sortI ns).Perm ns ∧ (sortI ns).Pairwise (· ≤ ·) := by
  refine ⟨List.mergeSort_perm _ _, ?_⟩
  have h := List.pairwise_mergeSort (le := fun (a b : Int) => decide (a ≤ b)) (fun a b c h1 h2 => by simp at *; omega) (fun a b => by simp; omega) ns
  exact h.imp fun h => by simpa using h
def gSorted : W → EM := fun w s => match dat s w with
  | some (.list xs) => (match intsOf xs with
    | some ns => .ok (.f ((sortI ns).map PyData.int), s)
    | none => .bad)
  | _ => .bad
theorem ud_sorted : UnD X E (rSortedI X.K) gSorted := fun F G H as s σ v w Q R r h => by
  unfold gSorted at h
  split at h
  · rename_i xs e
    split at h
    · rename_i ns e2
      obtain ⟨a, vs, rfl, h1, h2⟩ := dat_lst R r e
      rw [intsOf_ok h2 e2] at h1
      refine ⟨a, ns, rfl, h1, fun ns' p hp hs hn => ?_⟩
      have : ns' = sortI ns := (hp.trans (sortI_ok ns).1.symm).eq_of_pairwise (fun x y _ _ h1 h2 => Int.le_antisymm h1 h2) hs (sortI_ok ns).2
      rw [this]
      exact eK.newL R h (RpA.ints _) hn
    · exact h.elim
  · exact h.elim
theorem pd_sorted {p : Pos} (hm : X.mg "sorted" = none) (ha : PDE X E e fe) (hg : Gl X "sorted" := by rfl) (he : starEach [e] X.env = (false, eval e X.env) :: starEach [] X.env := by rfl) : PDE X E (.Call (.Name "sorted" p) [e] [] pos) (eB1 gSorted fe) :=
  pd_b1 cr_sortedI ud_sorted hm (by decide +kernel) ha hg (by decide) (by decide) he
/-! two arguments -/
theorem pd_b2 {id : String} {x : Str} {p : Pos} {fi : Int → Int → Int} (hc : CallR X (.builtin id) (fun xs H Q => ∃ i j, xs = [.int i, .int j] ∧ Q (.int (fi i j)) H)) (hm : X.mg x = none) (hv : bootBuiltins x = some (.builtin id)) (ha : PDE X E a fa) (hb : PDE X E b fb) (hg : Gl X x := by rfl) (hn : x ≠ "__name__" := by decide) (hdb : (x == ("__debug__" : Str)) = false := by decide)
    (he : starEach [a, b] X.env = (false, eval a X.env) :: starEach [b] X.env := by rfl) (he2 : starEach [b] X.env = (false, eval b X.env) :: starEach [] X.env := by rfl) (hpl : (backTo pos (starEach [b] X.env)).any (·.1) = false := by rfl) : PDE X E (.Call (.Name x p) [a, b] [] pos) (eBin (g2I fun i j => some (.int (fi i j))) fa fb) :=
  ⟨PE.imp (pe_callB hc hg hm hv (pa_cons ha.pe (pa_cons hb.pe pa_nil he2) he) hn hdb he hpl) fun σ H Q h => by
    obtain ⟨F, G, as, s, R, h⟩ := h
    refine eT.seq R h fun G1 H1 w s1 v R1 X1 r1 _ h1 => ?_
    refine eT.seqP R1 r1 h1 fun G2 H2 w2 s2 v2 R2 X2 r1 r2 _ h2 => ?_
    obtain ⟨i, j, z, rfl, rfl, e, h⟩ := g2I_ok r1 r2 h2
    cases e
    exact ⟨i, j, rfl, eK.val R2 h (.int _)⟩⟩
theorem pd_max2 {p : Pos} (hm : X.mg "max" = none) (hcalm : X.calm = true) (ha : PDE X E a fa) (hb : PDE X E b fb) (hg : Gl X "max" := by rfl) (he : starEach [a, b] X.env = (false, eval a X.env) :: starEach [b] X.env := by rfl) (he2 : starEach [b] X.env = (false, eval b X.env) :: starEach [] X.env := by rfl) (hpl : (backTo pos (starEach [b] X.env)).any (·.1) = false := by rfl) : PDE X E (.Call (.Name "max" p) [a, b] [] pos) (eBin (g2I fun i j => some (.int (if j > i then j else i))) fa fb) :=
  pd_b2 (call_max2 hcalm) hm (by decide +kernel) ha hb hg (by decide) (by decide) he he2 hpl
theorem pd_min2 {p : Pos} (hm : X.mg "min" = none) (hcalm : X.calm = true) (ha : PDE X E a fa) (hb : PDE X E b fb) (hg : Gl X "min" := by rfl) (he : starEach [a, b] X.env = (false, eval a X.env) :: starEach [b] X.env := by rfl) (he2 : starEach [b] X.env = (false, eval b X.env) :: starEach [] X.env := by rfl) (hpl : (backTo pos (starEach [b] X.env)).any (·.1) = false := by rfl) : PDE X E (.Call (.Name "min" p) [a, b] [] pos) (eBin (g2I fun i j => some (.int (if j < i then j else i))) fa fb) :=
  pd_b2 (call_min2 hcalm) hm (by decide +kernel) ha hb hg (by decide) (by decide) he he2 hpl
/-! sep.join of a list of texts -/
def strsOf : List D → Option (List Str)
  | [] => some []
  | .str b :: r => (strsOf r).map (b :: ·)
  | _ :: _ => none
theorem strsOf_ok {K : PySem.W.Frag} {G : Hp} : ∀ {vs : List V} {ds : List D} {bs : List Str}, RpA K G vs ds → strsOf ds = some bs → vs = bs.map V.str
  | _, _, _, .nil, e => by cases e; rfl
  | _, _, bs, .cons (ds := ds) (.str b) r, e => by
    have e : (strsOf ds).map (b :: ·) = some bs := e
    cases q : strsOf ds with
    | none => rw [q] at e; cases e
    | some es => rw [q] at e; cases e; rw [strsOf_ok r q]; rfl
  | _, _, _, .cons .non _, e => nomatch e
  | _, _, _, .cons (.bl _) _, e => nomatch e
  | _, _, _, .cons (.int _) _, e => nomatch e
  | _, _, _, .cons (.lst _ _) _, e => nomatch e
  | _, _, _, .cons (.tup _ _) _, e => nomatch e
  | _, _, _, .cons (.dic _) _, e => nomatch e
def eJoin (fa fb : EM) : EM := fun s => (fa s).bind fun p => match p.1 with
  | .d (.str z) => (fb p.2).bind fun q => (match dat q.2 q.1 with
    | some (.list xs) => (match strsOf xs with
      | some ys => if (ys.map (·.length)).sum + ys.length * z.length ≤ 16777216 then .ok (.d (.str (Txt.join z ys)), q.2) else .bad
      | none => .bad)
    | _ => .bad)
  | _ => .bad
theorem pd_join {apos : Pos} (ha : PDE X E a fa) (hb : PDE X E b fb) (hs : starEach [b] X.env = [(false, eval b X.env)] := by rfl) (hbase : attributeBase a "join" X.env (eval a X.env) = eval a X.env := by rfl) (hline : (apos.endLine == pos.line) = true := by rfl) : PDE X E (.Call (.Attribute a "join" apos) [b] [] pos) (eJoin fa fb) :=
  ⟨PE.imp (pe_join ha.pe hb.pe hs hbase hline) fun σ H Q h => by
    obtain ⟨F, G, as, s, R, h⟩ := h
    refine eT.seq R h fun G1 H1 w s1 v R1 X1 r1 _ h1 => ?_
    dsimp only at h1
    split at h1
    · rename_i z
      cases r1
      refine ⟨⟨_, rfl⟩, eT.seq R1 h1 fun G2 H2 w2 s2 v2 R2 X2 r2 _ h2 => ?_⟩
      dsimp only at h2
      split at h2
      · rename_i xs e
        split at h2
        · rename_i ys e2
          split at h2
          · rename_i hz
            obtain ⟨a, vs, rfl, k1, k2⟩ := dat_lst R2 r2 e
            rw [strsOf_ok k2 e2] at k1
            exact ⟨_, a, ys, rfl, rfl, .inl (k1), hz, eK.val R2 h2 (.str _)⟩
          · exact h2.elim
        · exact h2.elim
      · exact h2.elim
    · exact h1.elim⟩
end
end
end PD

set_option Elab.async false
set_option linter.all false
set_option maxRecDepth 100000
set_option maxHeartbeats 4000000
namespace PD
noncomputable section
open PySem PySem.Spec PyProof.Rows L2

/-! ### what changes a cell -/
section
variable {K : PySem.W.Frag} {mg : Str → Option Value} {F : Addr → Prop} {G H : Hp} {as : List Addr} {s : S} {σ : L2.St}
theorem Rep.mut {n : Nat} {a : Addr} {c c' : Cell} {o : HO} (R : Rep K F G H as σ s) (e : s.mem[n]? = some (some c)) (ha : as[n]? = some a) (h : CellAt K G (upd H a o) a c') : Rep K F G (upd H a o) as σ { s with mem := s.mem.set n (some c') } := by
  obtain ⟨g0, _⟩ := R.cellAt e ha
  have hn : n < s.mem.length := (List.getElem?_eq_some_iff.mp e).1
  refine ⟨fun b u z => ?_, R.len, by simpa using R.alen, R.nd, fun b hb => ?_, fun b hb => ?_, fun m d z => ?_, fun i w z => ?_⟩
  · have : b ≠ a := fun q => by rw [q, g0] at z; cases z
    rw [upd_ne this]; exact R.same b u z
  · by_cases q : b = a
    · exact ⟨_, by rw [q]; exact upd_same⟩
    · rw [upd_ne q]; exact R.dom b hb
  · obtain ⟨k1, k2, k3⟩ := R.fo b hb
    have : b ≠ a := fun q => k2 (by rw [q]; exact List.mem_of_getElem? ha)
    exact ⟨k1, k2, by rw [upd_ne this]; exact k3⟩
  · have z : (s.mem.set n (some c'))[m]? = some (some d) := z
    by_cases q : n = m
    · subst q
      rw [List.getElem?_set_self hn] at z
      cases z
      exact ⟨a, ha, g0, h⟩
    · rw [List.getElem?_set_ne q] at z
      obtain ⟨b, k1, k2, k3⟩ := R.cell m d z
      have : b ≠ a := fun z => q (nd_at R.nd ha (by rw [← z]; exact k1))
      exact ⟨b, k1, k2, k3.mono (Same.refl _) fun u y => by rw [upd_ne this]; exact y⟩
  · obtain ⟨v, k1, k2, k3⟩ := R.env i w z
    refine ⟨v, k1, ?_, k3⟩
    cases w with
    | d x => exact k2
    | c m => exact k2
    | f xs => exact absurd rfl (k3 xs)
theorem Ext.mut {n : Nat} {a : Addr} {c c' : Cell} {o : HO} (e : s.mem[n]? = some (some c)) (ha : as[n]? = some a) : Ext G H (live as s) G (upd H a o) (live as { s with mem := s.mem.set n (some c') }) := by
  refine ⟨Same.refl _, fun b u z nl => ?_, fun b z => ?_⟩
  · have : b ≠ a := fun q => nl ⟨n, c, e, by rw [q]; exact ha⟩
    rw [upd_ne this]; exact z
  · obtain ⟨m, d, k1, k2⟩ := z
    have k1 : (s.mem.set n (some c'))[m]? = some (some d) := k1
    by_cases q : n = m
    · subst q
      exact .inl ⟨n, c, e, k2⟩
    · rw [List.getElem?_set_ne q] at k1
      exact .inl ⟨m, d, k1, k2⟩
end
/-- a list's method: what it holds and the arguments give the answer and what it holds then -/
abbrev MM := List D → List W → Option (D × List D)
def MtD (X : Cx) (r : V → List V → Hp → VK → Prop) (g : MM) : Prop := ∀ (G H : Hp) (as : List Addr) (a : Addr) (vs us : List V) (xs : List D) (ws : List W) (x : D) (ys : List D) (Q : VK), Same G H → G a = none → H a = some (.lst vs) → RpA X.K G vs xs → RpWs X.K G as us ws → g xs ws = some (x, ys) →
  (∀ v zs, RpA X.K G zs ys → Rp X.K G v x → Q v (upd H a (.lst zs))) → r (.ref a) us H Q
def eMeth (g : MM) (fo : EM) (ga : AM) : EM := fun s => (fo s).bind fun p => match p.1 with
  | .c n => (match p.2.mem[n]? with
    | some (some (.l _)) => (ga p.2).bind fun q => (match q.2.mem[n]? with
      | some (some (.l xs)) => (match g xs q.1 with
        | some (x, ys) => .ok (.d x, { q.2 with mem := q.2.mem.set n (some (.l ys)) })
        | none => .bad)
      | _ => .bad)
    | _ => .bad)
  | _ => .bad
section
variable {X : Cx} {E : XK} {a b c e o : Expr} {es : List Expr} {fa fb fc fe fo : EM} {pos : Pos} {k : Nat} {ga : AM}
theorem meth_ok {r : V → List V → Hp → VK → Prop} {g : MM} (hg : MtD X r g) {σ : L2.St} {H : Hp} {Q : VK} (h : eT X.K X.mg E (eMeth g fo ga) σ H Q) : tBM X.K "list" r (eT X.K X.mg E fo) (aT X.K X.mg E ga) σ H Q := by
  obtain ⟨F, G, as, s, R, h⟩ := h
  refine eT.seq R h fun G1 H1 w s1 v R1 X1 r1 _ h1 => ?_
  dsimp only at h1
  cases w with
  | d x => exact h1.elim
  | f x => exact h1.elim
  | c n =>
    dsimp only at h1
    obtain ⟨a, ha, rfl⟩ := r1
    split at h1
    · rename_i xs0 e0
      obtain ⟨_, vs0, k0, _⟩ := R1.cellAt e0 ha
      refine ⟨.inl ⟨rfl, vs0, SqL.of k0⟩, F, G1, as, s1, R1, ?_⟩
      cases q : ga s1 with
      | exc c => rw [q] at h1; exact h1
      | bad => rw [q] at h1; exact h1
      | ok p =>
        obtain ⟨ws, s2⟩ := p
        rw [q, Res.bind_ok] at h1
        dsimp only at h1
        intro us G2 H2 R2 X2 r2
        have h1 := eK.ext h1 R1 R2 X2
        split at h1
        · rename_i xs e2
          split at h1
          · rename_i x ys e3
            obtain ⟨g2, vs, k1, k2⟩ := R2.cellAt e2 ha
            refine hg G2 H2 as a vs us xs ws x ys Q R2.same g2 k1 k2 r2 e3 fun v zs rz rv => ?_
            exact h1 v G2 _ (R2.mut e2 ha ⟨zs, upd_same, rz⟩) (Ext.mut e2 ha) rv fun _ _ z _ => nomatch z
          · exact h1.elim
        · exact h1.elim
    · exact h1.elim
theorem pd_meth {name : Str} {id : String} {apos : Pos} {r : V → List V → Hp → VK → Prop} {g : MM} (slot : Slot "list" name id) (hty : typeOf (.builtin id) = pure (.type "method_descriptor")) (hm : MtR X id r) (hg : MtD X r g) (ho : PDE X E o fo) (ha : PDA X E (e :: es) ga)
    (hbase : attributeBase o name X.env (eval o X.env) = eval o X.env := by rfl)
    (hfew : ((backTo pos (starEach (e :: es) X.env)).all (fun x => !x.1) && (backToKw pos (keywordEach [] X.env)).all (fun x => x.1.isSome)
      && decide ((e :: es).length + ([] : List Keyword).length + (if ([] : List Keyword).isEmpty then 0 else 1) < 30)) = true := by rfl)
    (hline : (apos.endLine == pos.line) = true := by rfl) (hs : starEach (e :: es) X.env = (false, eval e X.env) :: starEach es X.env := by rfl) (hplain : (backTo pos (starEach es X.env)).any (·.1) = false := by rfl) :
    PDE X E (.Call (.Attribute o name apos) (e :: es) [] pos) (eMeth g fo ga) := ⟨PE.imp (pe_bm PySem.F.plainAttrs_list slot hty hm ho.pe ha.pa hbase hfew hline hs hplain) fun σ H Q h => meth_ok hg h⟩
def mAppend : MM := fun xs ws => match ws with
  | [.d x] => if xs.length < sizeLine then some (.none, xs ++ [x]) else none
  | _ => none
theorem md_append : MtD X rAppend mAppend := fun G H as a vs us xs ws x ys Q sg g0 h1 h2 h3 h4 h5 => by
  unfold mAppend at h4
  split at h4
  · split at h4
    · rename_i hz
      cases h4
      cases h3 with
      | d k1 k2 => cases k2; exact ⟨a, vs, _, rfl, rfl, h1, by rw [h2.length]; exact hz, h5 _ _ (h2.append (.cons k1 .nil)) .non⟩
    · cases h4
  · cases h4
theorem pd_append {apos : Pos} (ho : PDE X E o fo) (ha : PDE X E e fe) (hbase : attributeBase o "append" X.env (eval o X.env) = eval o X.env := by rfl)
    (hfew : ((backTo pos (starEach [e] X.env)).all (fun x => !x.1) && (backToKw pos (keywordEach [] X.env)).all (fun x => x.1.isSome)
      && decide (([e] : List Expr).length + ([] : List Keyword).length + (if ([] : List Keyword).isEmpty then 0 else 1) < 30)) = true := by rfl)
    (hline : (apos.endLine == pos.line) = true := by rfl) (hs : starEach [e] X.env = (false, eval e X.env) :: starEach [] X.env := by rfl) (hplain : (backTo pos (starEach [] X.env)).any (·.1) = false := by rfl) : PDE X E (.Call (.Attribute o "append" apos) [e] [] pos) (eMeth mAppend fo (aCons false fe aNil)) :=
  pd_meth PySem.F.slot_list_append PySem.F.type_list_append mt_append md_append ho (pda_cons false ha pda_nil hs) hbase hfew hline hs hplain
theorem list_extendW (l : Addr) (items : Array Value) (n : Nat) (b : Addr) (items2 : Array Value) (n2 : Nat) (dd2 : Option Addr) (sl2 : Array (Option Value)) (hc0 : ¬(!items.isEmpty && Builtin.List.listTooLong (items.size + items2.size)) = true) (hc1 : items.size ≤ sizeLine) (hs2 : items.size + items2.size ≤ sizeLine + 1) :
    Meets (Builtin.«list.extend» ⟨[.ref l, .ref b], []⟩) (fun _ R s => s.heap.get? l = some { cls := .type "list", dict := none, data := .seq items n, slots := #[] } ∧ s.heap.get? b = some { cls := .type "list", dict := dd2, data := .seq items2 n2, slots := sl2 } ∧ R (.ok (.ret Value.none)) { s with heap := s.heap.update l (Obj.mapSeq fun x => x ++ items2), toks := s.toks }) :=
  .of_wp fun prog w A R s h => by
    obtain ⟨hp, g, d, tk, os⟩ := s; obtain ⟨hl, hb, h⟩ := h; have f1 := AutoSeq1.idx_int; have f2 := AutoSeq1.sub_tuple_tuple; have f3 := AutoSeq1.sub_list_list; have f4 := AutoSeq1.sub_tuple_list; have f5 := AutoSeq1.sub_list_tuple
    have hz' : (items ++ items2).size ≤ sizeLine + 1 := by rw [Array.size_append]; exact hs2
    wp_walk using (wpAny_updateSeq hl rfl (hz := hc1) (_hz' := hz')), wpAny_loadPart' hl, wpAny_loadPart' hb; exact ⟨_, rfl, h⟩
def rExtendS (K : PySem.W.Frag) : V → List V → Hp → VK → Prop := fun x vs H Q => ∃ l b xs zs, x = .ref l ∧ vs = [.ref b] ∧ H l = some (.lst xs) ∧ SqL K H b zs ∧ xs.length + zs.length ≤ sizeLine ∧ Q .non (upd H l (.lst (xs ++ zs)))
theorem mt_extendS {X : Cx} : MtR X "list.extend" (rExtendS X.K) := by
  intro pins s σ H x vs v us Q I rx rv h
  obtain ⟨l, b, xs, zs, rfl, rfl, hH, hB, hz, q⟩ := h
  cases rx
  obtain ⟨u, rfl, ru⟩ := rv.one
  cases ru
  obtain ⟨z, its, n, r, hl, e⟩ := I.lstM hH
  obtain ⟨its2, r2, pl2, z2⟩ := I.list hB
  obtain ⟨⟨cls2, dd2, data2, sl2⟩, n2, ho2, hc2, hdd2, hd2⟩ := pl2
  simp only at hc2 hd2
  subst hc2 hd2
  have hl2 := r2.length
  have hsz : its.toArray.size + its2.toArray.size ≤ sizeLine := by rw [List.size_toArray, List.size_toArray]; omega
  have hlong : ¬ (!its.toArray.isEmpty && Builtin.List.listTooLong (its.toArray.size + its2.toArray.size)) = true := by
    rw [notLongL hsz, Bool.and_false]
    exact Bool.false_ne_true
  refine call_meets PySem.F.slot_list_extend ⟨_, e, rfl⟩ PySem.F.entry_list_extend (PySem.F.args_list_extend_2 _ _)
    (list_extendW l its.toArray n b its2.toArray n2 dd2 sl2 hlong (by rw [List.size_toArray]; omega) (by omega)) ⟨e, ho2, ?_⟩
  refine ⟨.non, _, I.lset (its' := its ++ its2) hH e (by simp) (r.append r2) ?_, rfl, q⟩
  rw [List.length_append]
  omega
def mExtend : MM := fun xs ws => match ws with
  | [.d (.list zs)] => if xs.length + zs.length ≤ sizeLine then some (.none, xs ++ zs) else none
  | _ => none
theorem md_extend : MtD X (rExtendS X.K) mExtend := fun G H as a vs us xs ws x ys Q sg g0 h1 h2 h3 h4 h5 => by
  unfold mExtend at h4
  split at h4
  · split at h4
    · rename_i hz
      cases h4
      cases h3 with
      | d k1 k2 =>
        cases k2
        cases k1 with
        | lst k3 k4 => exact ⟨a, _, vs, _, rfl, rfl, h1, Same.seq sg k3, by rw [h2.length, k4.length]; exact hz, h5 _ _ (h2.append k4) .non⟩
    · cases h4
  · cases h4
theorem pd_extend {apos : Pos} (ho : PDE X E o fo) (ha : PDE X E e fe) (hbase : attributeBase o "extend" X.env (eval o X.env) = eval o X.env := by rfl)
    (hfew : ((backTo pos (starEach [e] X.env)).all (fun x => !x.1) && (backToKw pos (keywordEach [] X.env)).all (fun x => x.1.isSome)
      && decide (([e] : List Expr).length + ([] : List Keyword).length + (if ([] : List Keyword).isEmpty then 0 else 1) < 30)) = true := by rfl)
    (hline : (apos.endLine == pos.line) = true := by rfl) (hs : starEach [e] X.env = (false, eval e X.env) :: starEach [] X.env := by rfl) (hplain : (backTo pos (starEach [] X.env)).any (·.1) = false := by rfl) : PDE X E (.Call (.Attribute o "extend" apos) [e] [] pos) (eMeth mExtend fo (aCons false fe aNil)) :=
  pd_meth PySem.F.slot_list_extend PySem.F.type_list_extend mt_extendS md_extend ho (pda_cons false ha pda_nil hs) hbase hfew hline hs hplain
def mPopAt : MM := fun xs ws => match ws with
  | [.d (.int i)] => if -(2 ^ 63) ≤ i ∧ i < 2 ^ 63 then (match seqIndex? i xs.length with
    | some k => (match xs[k]? with
      | some x => some (x, xs.eraseIdx k)
      | none => none)
    | none => none) else none
  | _ => none
theorem md_popAt : MtD X rPopAt mPopAt := fun G H as a vs us xs ws x ys Q sg g0 h1 h2 h3 h4 h5 => by
  unfold mPopAt at h4
  split at h4
  · split at h4
    · rename_i hz
      split at h4
      · rename_i k e1
        split at h4
        · rename_i y e2
          cases h4
          obtain ⟨v, e3, e4⟩ := h2.get e2
          cases h3 with
          | d k1 k2 =>
            cases k2
            cases k1
            exact ⟨a, vs, _, k, v, rfl, rfl, h1, hz.1, hz.2, by rw [h2.length]; exact e1, e3, h5 _ _ (h2.eraseIdx k) e4⟩
        · cases h4
      · cases h4
    · cases h4
  · cases h4
theorem pd_popAt {apos : Pos} (ho : PDE X E o fo) (ha : PDE X E e fe) (hbase : attributeBase o "pop" X.env (eval o X.env) = eval o X.env := by rfl)
    (hfew : ((backTo pos (starEach [e] X.env)).all (fun x => !x.1) && (backToKw pos (keywordEach [] X.env)).all (fun x => x.1.isSome)
      && decide (([e] : List Expr).length + ([] : List Keyword).length + (if ([] : List Keyword).isEmpty then 0 else 1) < 30)) = true := by rfl)
    (hline : (apos.endLine == pos.line) = true := by rfl) (hs : starEach [e] X.env = (false, eval e X.env) :: starEach [] X.env := by rfl) (hplain : (backTo pos (starEach [] X.env)).any (·.1) = false := by rfl) : PDE X E (.Call (.Attribute o "pop" apos) [e] [] pos) (eMeth mPopAt fo (aCons false fe aNil)) :=
  pd_meth PySem.F.slot_list_pop PySem.F.type_list_pop mt_popAt md_popAt ho (pda_cons false ha pda_nil hs) hbase hfew hline hs hplain
/-! ### xs[i] = e -/
def sItem (fe fo fi : EM) : SM := fun s => (fe s).bind fun p => match toD p.1 p.2 with
  | some (x, s1) => (fo s1).bind fun q => (match q.1 with
    | .c n => (fi q.2).bind fun t => (match t.1, t.2.mem[n]? with
      | .d (.int i), some (some (.l xs)) => (match ixN xs.length i with
        | some j => .ok (.nx, { t.2 with mem := t.2.mem.set n (some (.l (xs.set j x))) })
        | none => .bad)
      | _, _ => .bad)
    | _ => .bad)
  | none => .bad
theorem pds_item {i : Expr} {fi : EM} {p1 : Pos} (he : PDE X E e fe) (ho : PDE X E o fo) (hi : PDE X E i fi)
    (ha : ∀ v, assign (.Subscript o i p1) X.env v = (do
      let ov ← holding [v] (eval o X.env)
      let iv ← holding [v, ov] (eval i X.env)
      standAt p1
      holding [v, ov, iv] (setItem ov iv v)
      release [v, ov, iv] []) := by intro _; rfl)
    (hs : swapsWithSole [.Subscript o i p1] e pos.line X.env = pure false := by rfl) (hw : swappedStores [.Subscript o i p1] e X.env = pure none := by rfl)
    (h1 : (assignEach [.Subscript o i p1] X.env).map (·.2) = [assign (.Subscript o i p1) X.env] := by rfl) : PDS X E (.Assign [.Subscript o i p1] e pos) (sItem fe fo fi) := ⟨PS.imp (ps_asg he.pe (pg_sub ho.pe hi.pe set_list ha) hs hw h1) fun D σ H h => by
  obtain ⟨F, G, as, s, R, h⟩ := h
  refine eT.seqS R h fun G1 H1 w s1 v R1 X1 r1 n1 h1 => ?_
  dsimp only at h1
  split at h1
  · rename_i x s2 e2
    obtain ⟨G2, R2, X2, r2⟩ := toD_ok R1 r1 e2
    have h1 := sK.ext h1 R2 (X1.trans X2) (List.prefix_refl _)
    refine eT.seqS R2 h1 fun G3 H3 w3 s3 v3 R3 X3 r3 n3 h3 => ?_
    dsimp only at h3
    cases w3 with
    | d _ => exact h3.elim
    | f _ => exact h3.elim
    | c n =>
      dsimp only at h3
      obtain ⟨a, ha, rfl⟩ := r3
      have h3 := sK.ext h3 R3 X3 (List.prefix_refl _)
      refine eT.seqS R3 h3 fun G4 H4 w4 s4 v4 R4 X4 r4 n4 h4 => ?_
      dsimp only at h4
      split at h4
      · rename_i i xs e3
        split at h4
        · rename_i j ej
          obtain ⟨g4, vs, k1, k2⟩ := R4.cellAt e3 ha
          cases r4
          refine ⟨a, vs, i, j, rfl, rfl, k1, by rw [k2.length]; exact ej, ?_⟩
          have rx : Rp X.K G4 v x := Rp.mono (X3.same.trans X4.same) r2
          exact h4 σ G4 _ as (R4.mut e3 ha ⟨_, upd_same, k2.set rx j⟩) (X4.trans (Ext.mut e3 ha)) (List.prefix_refl _)
        · exact h4.elim
      · exact h4.elim
  · exact h1.elim⟩
/-! ### x += e, x -= e -/
def sAug (f : Int → Int → Int) (i : Nat) (fe : EM) : SM := fun s => match s.env[i]? with
  | some (some (.d (.int x))) => (fe s).bind fun p => (match p.1 with
    | .d (.int y) => if i < p.2.env.length then .ok (.nx, p.2.put i (.d (.int (f x y)))) else .bad
    | _ => .bad)
  | _ => .bad
theorem aug_ok {f : Int → Int → Int} {i : Nat} {D : Ends} {σ : L2.St} {H : Hp} (h : sT X.K X.mg E (sAug f i fe) D σ H) : tAug i (eT X.K X.mg E fe) (ipI f) D σ H := by
  obtain ⟨F, G, as, s, R, h⟩ := h
  unfold sAug at h
  split at h
  · rename_i x e
    obtain ⟨v, k1, k2, _⟩ := R.env i _ e
    cases k2
    refine ⟨_, k1, eT.seqS R h fun G1 H1 w s1 v R1 X1 r1 n1 h1 => ?_⟩
    dsimp only at h1
    split at h1
    · rename_i y
      split at h1
      · rename_i hl
        cases r1
        exact ⟨x, y, rfl, rfl, h1 _ G1 H1 as (R1.put (w := .d (.int (f x y))) (.int _) (fun _ z => nomatch z) hl) ⟨X1.same, X1.keep, X1.new⟩ (List.prefix_refl _)⟩
      · exact h1.elim
    · exact h1.elim
  · exact h.elim
theorem pds_augAdd (i : Nat) {x : Str} {pos' : Pos} (hN : X.N.Nodup) (he : PDE X E e fe) (hi : X.N[i]? = some x := by rfl) (hx : Loc X.env.scope x := by first | exact Or.inl rfl | exact Or.inr rfl) (hf : X.fn x = true ∨ X.env.scope.names.lookup x = some .local := by first | exact .inl rfl | exact .inr rfl | assumption) : PDS X E (.AugAssign (.Name x pos') .Add e pos) (sAug (fun i j => i + j) i fe) :=
  ⟨PS.imp (ps_aug hN hi hx he.pe ip_add hf) fun D σ H h => aug_ok h⟩
theorem pds_augSub (i : Nat) {x : Str} {pos' : Pos} (hN : X.N.Nodup) (he : PDE X E e fe) (hi : X.N[i]? = some x := by rfl) (hx : Loc X.env.scope x := by first | exact Or.inl rfl | exact Or.inr rfl) (hf : X.fn x = true ∨ X.env.scope.names.lookup x = some .local := by first | exact .inl rfl | exact .inr rfl | assumption) : PDS X E (.AugAssign (.Name x pos') .Sub e pos) (sAug (fun i j => i - j) i fe) :=
  ⟨PS.imp (ps_aug hN hi hx he.pe ip_sub hf) fun D σ H h => aug_ok h⟩
/-! ### a, b = e1, e2 -/
def sPar (c1 c2 : Bool) (i j : Nat) (f g : EM) : SM := fun s => (f s).bind fun p => (g p.2).bind fun q => match store c1 i p.1 q.2 with
  | some s1 => (match store c2 j q.1 s1 with
    | some s2 => .ok (.nx, s2)
    | none => .bad)
  | none => .bad
theorem RpW.grow {K : PySem.W.Frag} {F : Addr → Prop} {G G' H : Hp} {as as' : List Addr} {σ' : L2.St} {s' : S} {u : V} {w : W} (h : RpW K F G H as u w) (R : Rep K (pn F u w) G' H as' σ' s') (sg : Same G G') (p : as <+: as') : RpW K F G' H as' u w := by
  cases w with
  | d x => exact Rp.mono sg h
  | c n =>
    obtain ⟨a, h1, h2⟩ := h
    obtain ⟨t, rfl⟩ := p
    exact ⟨a, by rw [List.getElem?_append_left (List.getElem?_eq_some_iff.mp h1).1]; exact h1, h2⟩
  | f xs =>
    obtain ⟨a, vs, rfl, h1, h2, h3, h4, h5⟩ := h
    obtain ⟨k1, k2, _⟩ := R.fo a (.inr ⟨⟨xs, rfl⟩, rfl⟩)
    exact ⟨a, vs, rfl, h1, k1, k2, h4, h5.mono sg⟩
theorem RpW.apart {K : PySem.W.Frag} {F : Addr → Prop} {G H : Hp} {as : List Addr} {v u : V} {w w2 : W} (r : RpW K F G H as v w) (r2 : RpW K (pn F v w) G H as u w2) : RpW K (pn F u w2) G H as v w := by
  cases w with
  | d x => exact r
  | c n => exact r
  | f xs =>
    obtain ⟨a, vs, rfl, h1, h2, h3, h4, h5⟩ := r
    refine ⟨a, vs, rfl, h1, h2, h3, fun z => ?_, h5⟩
    rcases z with z | ⟨⟨ys, rfl⟩, e⟩
    · exact h4 z
    · obtain ⟨b, us, rfl, k1, k2, k3, k4, _⟩ := r2
      cases e
      exact k4 (.inr ⟨⟨xs, rfl⟩, rfl⟩)
theorem pds_par (c1 c2 : Bool) (i j : Nat) {x y : Str} {px py pt : Pos} {kt k2 : Nat} {pt2 : Pos} (hc : X.calm = true) (hN : X.N.Nodup) (ha : PDE X E a fa) (hb : PDE X E b fb) (hi : X.N[i]? = some x := by rfl) (hj : X.N[j]? = some y := by rfl) (hij : i ≠ j := by decide)
    (hx : X.env.scope.names.lookup x = some .local := by rfl) (hy : X.env.scope.names.lookup y = some .local := by rfl)
    (hw : swappedStores [.Tuple [.Name x px, .Name y py] kt pt] (.Tuple [a, b] k2 pt2) X.env = pure (some [x, y]) := by rfl)
    (hs : swapsWithSole [.Tuple [.Name x px, .Name y py] kt pt] (.Tuple [a, b] k2 pt2) pos.line X.env = pure false := by rfl)
    (he : starEach [a, b] X.env = (false, eval a X.env) :: starEach [b] X.env := by rfl) (he2 : starEach [b] X.env = (false, eval b X.env) :: starEach [] X.env := by rfl) :
    PDS X E (.Assign [.Tuple [.Name x px, .Name y py] kt pt] (.Tuple [a, b] k2 pt2) pos) (sPar c1 c2 i j fa fb) := ⟨PS.imp (ps_par hc hN hi hj hij hx hy (pa_cons ha.pe (pa_cons hb.pe pa_nil he2) he) hw hs) fun D σ H h => by
  obtain ⟨F, G, as, s, R, h⟩ := h
  refine eT.seqS R h fun G1 H1 w s1 v R1 X1 r1 n1 h1 => ?_
  refine ⟨pn F v w, G1, as, s1, R1.pend r1, ?_⟩
  dsimp only at h1
  cases q : fb s1 with
  | exc c => rw [q] at h1; exact fun C H' hc k => h1 C H' hc (keepX X1 k)
  | bad => rw [q] at h1; exact h1
  | ok p =>
    obtain ⟨w2, s2⟩ := p
    rw [q, Res.bind_ok] at h1
    dsimp only at h1
    intro u G2 H2 R2 X2 r2 n2
    refine ⟨v, u, rfl, ?_⟩
    have X12 := X1.trans X2
    have r1' : RpW X.K F G2 H2 as v w := r1.mono R2 X2
    have ra := r1'.apart r2
    split at h1
    · rename_i s3 e3
      split at h1
      · rename_i s4 e4
        have R2' : Rep X.K (pn F u w2) G2 H2 as σ s2 := R2.unpend.pend (r2.weak fun _ z => .inl z)
        obtain ⟨G3, as3, R3, sg3, p3, l3⟩ := store_ok R2' ra e3
        have r2' : RpW X.K F G3 H2 as3 u w2 := (r2.weak fun _ z => .inl z).grow R3 sg3 p3
        obtain ⟨G4, as4, R4, sg4, p4, l4⟩ := store_ok R3.unpend r2' e4
        refine h1 _ G4 H2 as4 R4 ⟨X12.same.trans (sg3.trans sg4), X12.keep, fun b z => ?_⟩ (p3.trans p4)
        rcases l4 b z with z | ⟨⟨ys, z1⟩, z2⟩
        · rcases l3 b z with z | ⟨⟨ys, z1⟩, z2⟩
          · exact X12.new b z
          · exact .inr (n1 ys b z1 z2)
        · exact .inr (newX R R1 X1 (n2 ys b z1 z2))
      · exact h1.elim
    · exact h1.elim⟩
end
section
variable {P : Program} {w : World} {K : PySem.W.Frag} {mg : Str → Option Value} {base : Heap} {N : List Str} {x : Str} {sc : Scope} {f : Addr} {cdv : Value} {A : Around} {outer : List Env} {s : Shared} {H : Hp} {E : XK}
theorem tk_cx : Takes (cxOf (L2.CX P w) P w K mg base N x sc f cdv A outer s H E) (fun cls d _ H => E cls d H) := takes_of rfl rfl rfl rfl
theorem hx_cx : Passes (L2.CX P w) (cxOf (L2.CX P w) P w K mg base N x sc f cdv A outer s H E) E := passes_call (tk_cx (K := K) (mg := mg) (base := base) (N := N) (x := x) (sc := sc) (f := f) (cdv := cdv) (A := A) (outer := outer) (s := s) (H := H)) fun _ _ _ _ h => h
end
end
end PD

set_option Elab.async false
set_option linter.all false
set_option maxRecDepth 100000
set_option maxHeartbeats 4000000
namespace PD
noncomputable section
open PySem PySem.Spec PyProof.Rows L2
section
variable {X : Cx} {E : XK} {a b c e : Expr} {fa fb fc fe : EM} {pos : Pos} {k : Nat}
/-! ### comparisons as tests -/
theorem tOf_val {K : PySem.W.Frag} {mg : Str → Option Value} {f : EM} {σ : L2.St} {H : Hp} {Q : Bool → Hp → Prop} (h : tT K mg E (tOf f) σ H Q) : eT K mg E f σ H (fun x H' => ∃ k, x = .bl k ∧ Q k H') := by
  obtain ⟨F, G, as, s, R, h⟩ := h
  refine ⟨F, G, as, s, R, ?_⟩
  unfold tOf at h
  cases e : f s with
  | ok p =>
    obtain ⟨w, s1⟩ := p
    rw [e, Res.bind_ok] at h
    dsimp only at h
    clear e
    intro v G1 H1 R1 X1 r n
    split at h
    · cases r
      exact ⟨_, rfl, h G1 H1 R1 X1⟩
    · exact h.elim
  | exc c => rw [e] at h; exact h
  | bad => rw [e] at h; exact h
theorem pdt_cmp {op : CmpOp} {r : R2} {g : W → W → EM} (ho : OpR X (compareOp op) r) (hg : OpD X E r g) (ha : PDE X E a fa) (hb : PDE X E b fb) (hm : behindInMarks op b = false) : PDT X E (.Compare a [op] [b] pos) (tOf (eBin g fa fb)) :=
  ⟨PT.imp (pt_cmpR ho ha.pe hb.pe hm) fun σ H Q h => bin_ok hg σ H _ (tOf_val h)⟩
theorem pdt_eq (hr : Room k X.A) (ha : PDE X E a fa) (hb : PDE X E b fb) : PDT X E (.Compare a [.Eq] [b] pos) (tOf (eEq fa fb)) := pdt_cmp (op_eq.or (op_eqD hr.units)) od_eq ha hb (nomark _)
theorem pdt_ne (hr : Room k X.A) (ha : PDE X E a fa) (hb : PDE X E b fb) : PDT X E (.Compare a [.NotEq] [b] pos) (tOf (eNe fa fb)) := pdt_cmp (op_ne.or (op_neD hr.units)) od_ne ha hb (nomark _)
theorem pdt_isN (ha : PDE X E a fa) (hb : PDE X E b fb) : PDT X E (.Compare a [.Is] [b] pos) (tOf (eIsN fa fb)) := pdt_cmp op_isN od_isN ha hb (nomark _)
theorem pdt_notN (ha : PDE X E a fa) (hb : PDE X E b fb) : PDT X E (.Compare a [.IsNot] [b] pos) (tOf (eNotN fa fb)) := pdt_cmp op_notN od_notN ha hb (nomark _)
theorem pdt_ltA (ha : PDE X E a fa) (hb : PDE X E b fb) : PDT X E (.Compare a [.Lt] [b] pos) (tOf (eBin gLt fa fb)) := pdt_cmp (op_lt.or op_lt_str) od_ord ha hb (nomark _)
theorem pdt_leA (ha : PDE X E a fa) (hb : PDE X E b fb) : PDT X E (.Compare a [.LtE] [b] pos) (tOf (eBin gLe fa fb)) := pdt_cmp (op_le.or op_le_str) od_ord ha hb (nomark _)
theorem pdt_gtA (ha : PDE X E a fa) (hb : PDE X E b fb) : PDT X E (.Compare a [.Gt] [b] pos) (tOf (eBin gGt fa fb)) := pdt_cmp (op_gt.or op_gt_str) od_ord ha hb (nomark _)
theorem pdt_geA (ha : PDE X E a fa) (hb : PDE X E b fb) : PDT X E (.Compare a [.GtE] [b] pos) (tOf (eBin gGe fa fb)) := pdt_cmp (op_ge.or op_ge_str) od_ord ha hb (nomark _)
theorem pdt_in (ha : PDE X E a fa) (hb : PDE X E b fb) (hm : behindInMarks .In b = false := by rfl) : PDT X E (.Compare a [.In] [b] pos) (tOf (eBin (gIn false) fa fb)) := pdt_cmp (op_in_seq.or (op_sign false)) od_in ha hb hm
theorem pdt_notIn (ha : PDE X E a fa) (hb : PDE X E b fb) (hm : behindInMarks .NotIn b = false := by rfl) : PDT X E (.Compare a [.NotIn] [b] pos) (tOf (eBin (gIn true) fa fb)) := pdt_cmp (op_notIn_seq.or (op_sign true)) od_in ha hb hm
theorem chain_ok {r r' : R2} {fi fi' : Int → Int → Bool} {fs fs' : Str → Str → Bool} (hg : OpD X E r (gOrd fi fs)) (hg' : OpD X E r' (gOrd fi' fs')) (σ : L2.St) (H : Hp) (Q : VK) (h : eT X.K X.mg E (eChain (gOrd fi fs) (gOrd fi' fs') fa fb fc) σ H Q) : tChain r r' (eT X.K X.mg E fa) (eT X.K X.mg E fb) (eT X.K X.mg E fc) σ H Q := by
  obtain ⟨F, G, as, s, R, h⟩ := h
  refine eT.seq R h fun G1 H1 w s1 v R1 X1 r1 _ h1 => ?_
  refine eT.seqP R1 r1 h1 fun G2 H2 w2 s2 v2 R2 X2 r1 r2 _ h2 => ?_
  dsimp only at h2
  refine hg F G2 H2 as s2 σ v v2 w w2 _ R2 r1 r2 ?_
  cases q : gOrd fi fs w w2 s2 with
  | exc c => rw [q] at h2; exact h2
  | bad => rw [q] at h2; exact h2
  | ok t =>
    obtain ⟨w3, s3⟩ := t
    rw [q, Res.bind_ok] at h2
    dsimp only at h2
    intro v3 G3 H3 R3 X3 r3 n3
    have nf : ∀ xs, w2 ≠ .f xs := fun xs z => by
      subst z
      rw [gOrd_f] at q
      cases q
    have h2 := eK.ext h2 R2 R3 X3
    split at h2
    · cases r3
      refine ⟨true, rfl, ?_⟩
      rw [if_pos rfl]
      have r2' : RpW X.K F G3 H3 as v2 w2 := by
        cases w2 with
        | d x => exact Rp.mono X3.same r2
        | c n => exact r2
        | f xs => exact absurd rfl (nf xs)
      exact eT.seqP R3 r2' h2 fun G4 H4 w4 s4 v4 R4 X4 r2 r4 _ h4 => hg' F G4 H4 as s4 σ v2 v4 w2 w4 Q R4 r2 r4 h4
    · cases r3
      refine ⟨false, rfl, ?_⟩
      rw [if_neg Bool.false_ne_true]
      exact eK.val R3 h2 (.bl _)
    · exact h2.elim
theorem pdt_leLe (ha : PDE X E a fa) (hb : PDE X E b fb) (hc : PDE X E c fc) (hm : lastMarks [.LtE, .LtE] [b, c] = false := by with_unfolding_all rfl) : PDT X E (.Compare a [.LtE, .LtE] [b, c] pos) (tOf (eChain gLe gLe fa fb fc)) :=
  ⟨PT.imp (pt_chain (op_le.or op_le_str) (op_le.or op_le_str) ha.pe hb.pe hc.pe hm) fun σ H Q h => chain_ok od_ord od_ord σ H _ (tOf_val h)⟩
/-! ### a tuple of ints of the module -/
def GTup (K : PySem.W.Frag) (mg : Str → Option Value) (x : Str) (ds : List Int) : Prop := ∃ a, mg x = some (.ref a) ∧ ∀ H : Hp, SqT K H a (ds.map V.int)
theorem pd_gtup {x : Str} {ds : List Int} (hm : GTup X.K X.mg x ds) (hg : Gl X x := by rfl) (hd : (x == ("__debug__" : Str)) = false := by decide) : PDE X E (.Name x pos) (eC (.tuple (ds.map PyData.int))) := by
  obtain ⟨a, hm, h⟩ := hm
  exact pd_const (pe_glob hg hm (show RelV (V.ref a) _ from rfl) hd) fun G => .tup (h G) (RpA.ints ds)
end
end
end PD

set_option Elab.async false
set_option linter.all false
set_option maxRecDepth 100000
set_option maxHeartbeats 4000000
namespace PD
noncomputable section
open PySem PySem.Spec PyProof.Rows L2

/-! ### zip of three tuples -/
def Itz3 (K : PySem.W.Frag) (a b c : Addr) : It :=
  ⟨fun i H => ∃ (xs ys zs : List V) (x y z : V), SqT K H a xs ∧ SqT K H b ys ∧ SqT K H c zs ∧ xs[i]? = some x ∧ ys[i]? = some y ∧ zs[i]? = some z,
    fun i H v H' => ∃ T x y z, v = .ref T ∧ H T = none ∧ H' = upd H T (.tup [x, y, z]) ∧ (∀ xs, SqT K H a xs → xs[i]? = some x) ∧ (∀ ys, SqT K H b ys → ys[i]? = some y) ∧ ∀ zs, SqT K H c zs → zs[i]? = some z,
    fun i H => ∃ xs ys zs : List V, SqT K H a xs ∧ SqT K H b ys ∧ SqT K H c zs ∧ (xs.length ≤ i ∨ ys.length ≤ i ∨ zs.length ≤ i)⟩
theorem drawsAt {prog : Program} {w : World} {A : Around} (hh : A.handled = none) {it t : Addr} (hne : t ≠ it) (items : Array Value) {i : Nat} {h : Heap} (h1 : h.IsTupleIter it t i) (h2 : h.IsTuple t items) :
    ∃ (n : Nat) (Pr : Nat → Value → Prop) (St : Nat → Heap → Prop), Draws prog w A it [it, t] n Pr St ∧ St i h ∧ i ≤ n ∧ (items.size ≤ i → i = n) := by
  by_cases hl : items.size ≤ i
  · refine ⟨i, fun _ _ => True, fun j h => j = i ∧ h.IsTupleIter it t i ∧ h.IsTuple t items, ?_, ⟨rfl, h1, h2⟩, Nat.le_refl _, fun _ => rfl⟩
    exact { live := fun _ _ st => let ⟨o, ho, _⟩ := st.2.1; ⟨o, ho⟩
            frame := fun _ _ _ st hk => ⟨st.1, st.2.1.at fun o e => hk it (by simp) o e, st.2.2.at fun o e => hk t (by simp) o e⟩
            item := fun j s Q E hj st _ => absurd hj (by rw [st.1]; exact Nat.lt_irrefl _)
            done := fun s Q E st hE => wpAny_nextOf_tuple_end hh st.2.1 st.2.2 (by simp [hl]) hE }
  · exact ⟨_, _, _, Draws.tuple hh it t hne items, ⟨h1, h2⟩, by omega, fun q => absurd q hl⟩
theorem turn_zip3 {P : Program} {w : World} {K : PySem.W.Frag} {elts : List Expr} {kk : Nat} {tpos : Pos} {a b c z TI TO i1 i2 i3 : Addr} (D : ZipSep3 z TI TO i1 i2 i3 [i1, a] [i2, b] [i3, c]) (n1 : a ≠ i1) (n2 : b ≠ i2) (n3 : c ≠ i3) :
    Turn P w K (.Tuple elts kk tpos) (Itz3 K a b c) [z, TI, TO, i1, i2, i3] z (fun i h => IsZip h z TI TO .none ∧ IsTupOf3 h TI (.ref i1) (.ref i2) (.ref i3) ∧ (∃ x y u, IsTupOf3 h TO x y u) ∧ h.IsTupleIter i1 a i ∧ h.IsTupleIter i2 b i ∧ h.IsTupleIter i3 c i) where
  mem := by simp
  obj := fun i h st c' hc => by
    obtain ⟨hz, hTI, ⟨x, y, u, hTO⟩, ⟨o1, e1, _, d1⟩, ⟨o2, e2, _, d2⟩, ⟨o3, e3, _, d3⟩⟩ := st
    have e' : c' = z ∨ c' = TI ∨ c' = TO ∨ c' = i1 ∨ c' = i2 ∨ c' = i3 := by simpa using hc
    rcases e' with q | q | q | q | q | q
    · rw [q]; exact ⟨_, hz, fun v q => nomatch q⟩
    · rw [q]; exact ⟨_, hTI, fun v q => nomatch q⟩
    · rw [q]; exact ⟨_, hTO, fun v q => nomatch q⟩
    · rw [q]; exact ⟨o1, e1, fun v q => by rw [d1] at q; cases q⟩
    · rw [q]; exact ⟨o2, e2, fun v q => by rw [d2] at q; cases q⟩
    · rw [q]; exact ⟨o3, e3, fun v q => by rw [d3] at q; cases q⟩
  keep := fun i h h' st k => by
    obtain ⟨hz, hTI, ⟨x, y, u, hTO⟩, h1, h2, h3⟩ := st
    exact ⟨k z (by simp) _ hz, k TI (by simp) _ hTI, ⟨x, y, u, k TO (by simp) _ hTO⟩, h1.at fun o q => k i1 (by simp) o q, h2.at fun o q => k i2 (by simp) o q, h3.at fun o q => k i3 (by simp) o q⟩
  item := by
    intro X hP hw hK hc i pins s σ H E I hf st hg
    subst hP hw hK
    obtain ⟨hz, hTI, ⟨x0, y0, u0, hTO⟩, h1, h2, h3⟩ := st
    obtain ⟨xs, ys, zs, x, y, v, hqx, hqy, hqz, hx, hy, hv⟩ := hg
    obtain ⟨its, rv, p, _⟩ := I.tuple hqx
    obtain ⟨its2, rv2, p2, _⟩ := I.tuple hqy
    obtain ⟨its3, rv3, p3, _⟩ := I.tuple hqz
    obtain ⟨u, hu, ru⟩ := rv.get hx
    obtain ⟨u2, hu2, ru2⟩ := rv2.get hy
    obtain ⟨u3, hu3, ru3⟩ := rv3.get hv
    have hzl : z < s.heap.objs.size := Heap.lt_size hz
    have hh : X.A.in1.handled = none := I.ok.hd hc
    refine wpAny_pyNext_zipD3_item D (Draws.tuple hh i1 a n1 its.toArray) (Draws.tuple hh i2 b n2 its2.toArray) (Draws.tuple hh i3 c n3 its3.toArray) hz hTI hTO ⟨h1, p⟩ ⟨h2, p2⟩ ⟨h3, p3⟩
      (by simpa using (List.getElem?_eq_some_iff.mp hu).1) (by simpa using (List.getElem?_eq_some_iff.mp hu2).1) (by simpa using (List.getElem?_eq_some_iff.mp hu3).1) fun x1 x2 x3 h' tk q1 q2 q3 z' TO' s1 s2 s3 hT hsz hk => ?_
    rw [List.getElem?_toArray, hu] at q1
    rw [List.getElem?_toArray, hu2] at q2
    rw [List.getElem?_toArray, hu3] at q3
    cases q1; cases q2; cases q3
    refine ⟨_, rfl, wpAny_letOwnedTupleGo_zip (s := { s with heap := h', toks := tk }) z' fun h'' z'' sb => ?_⟩
    have hT2 : h''.get? s.heap.objs.size = some { cls := .type "tuple", data := .seq #[u, u2, u3] } := (sb.2 _ (Nat.ne_of_gt hzl)).trans hT
    have new : ObjOk X.prog X.w (upd H s.heap.objs.size (.tup [x, y, v])) h'' s.heap.objs.size (.tup [x, y, v]) :=
      ⟨by show 3 ≤ sizeLine; decide, [u, u2, u3], .cons ru (.cons ru2 (.cons ru3 .nil)), ⟨_, hT2, rfl, _, rfl⟩⟩
    have I1 : Inv X pins σ (upd H s.heap.objs.size (.tup [x, y, v])) { s with heap := h'', toks := tk } :=
      I.turnedNew (t' := tk) (ch := [z, TI, TO, i1, i2, i3]) (fun c o hb q => (sb.2 c (fun q' => hb (by simp [q']))).trans (hk c o (fun q' => hb (by simp [q'])) (fun q' => hb (by simp [q'])) (fun q' => hb (by simp [q'])) (fun q' => hb (by simp [q'])) (fun q' => hb (by simp [q'])) q)) hf (Nat.le_refl _) new
    refine ⟨.ref s.heap.objs.size, _, I1, rfl, ⟨_, x, y, v, rfl, I.hok.fresh (Nat.le_refl _), rfl, fun l hl => by rw [I.tuple_inj hl hqx]; exact hx, fun l hl => by rw [I.tuple_inj hl hqy]; exact hy, fun l hl => by rw [I.tuple_inj hl hqz]; exact hv⟩, ⟨z'', ?_, ⟨u, u2, u3, ?_⟩, ?_, ?_, ?_⟩, fun c hcm => ?_⟩
    · exact (sb.2 _ D.TIz).trans (hk _ _ D.TIz D.TITO D.TIi1 D.TIi2 D.TIi3 hTI)
    · exact (sb.2 _ D.TOz).trans TO'
    · exact s1.1.at fun o q => (sb.2 _ D.zi1.symm).trans q
    · exact s2.1.at fun o q => (sb.2 _ D.zi2.symm).trans q
    · exact s3.1.at fun o q => (sb.2 _ D.zi3.symm).trans q
    · have hlt : c < s.heap.objs.size := by
        have e' : c = z ∨ c = TI ∨ c = TO ∨ c = i1 ∨ c = i2 ∨ c = i3 := by simpa using hcm
        rcases e' with q | q | q | q | q | q
        · rw [q]; exact hzl
        · rw [q]; exact Heap.lt_size hTI
        · rw [q]; exact Heap.lt_size hTO
        · rw [q]; obtain ⟨_, e1, _⟩ := h1; exact Heap.lt_size e1
        · rw [q]; obtain ⟨_, e2, _⟩ := h2; exact Heap.lt_size e2
        · rw [q]; obtain ⟨_, e3, _⟩ := h3; exact Heap.lt_size e3
      rw [upd_ne (Nat.ne_of_lt hlt)]
      exact (hf c hcm).1
  done := by
    intro X hP hw hK hc i pins s σ H E I hf st hg
    subst hP hw hK
    obtain ⟨hz, hTI, ⟨x0, y0, u0, hTO⟩, h1, h2, h3⟩ := st
    obtain ⟨xs, ys, zs, hqx, hqy, hqz, hend⟩ := hg
    obtain ⟨its, rv, p, _⟩ := I.tuple hqx
    obtain ⟨its2, rv2, p2, _⟩ := I.tuple hqy
    obtain ⟨its3, rv3, p3, _⟩ := I.tuple hqz
    have hh : X.A.in1.handled = none := I.ok.hd hc
    have l1 := rv.length
    have l2 := rv2.length
    have l3 := rv3.length
    obtain ⟨m1, P1, S1, D1, t1, e1, f1⟩ := drawsAt (prog := X.prog) (w := X.w) hh n1 its.toArray h1 p
    obtain ⟨m2, P2, S2, D2, t2, e2, f2⟩ := drawsAt (prog := X.prog) (w := X.w) hh n2 its2.toArray h2 p2
    obtain ⟨m3, P3, S3, D3, t3, e3, f3⟩ := drawsAt (prog := X.prog) (w := X.w) hh n3 its3.toArray h3 p3
    refine wpAny_pyNext_zipD3_end D D1 D2 D3 hz hTI hTO t1 t2 t3 e1 e2 e3 ?_ fun h' tk hk => ⟨rfl, I.turnedL (t' := tk) (ch := [z, TI, TO, i1, i2, i3]) (fun c o hb q =>
      hk c o (fun q' => hb (by simp [q'])) (fun q' => hb (by simp [q'])) (fun q' => hb (by simp [q'])) (fun q' => hb (by simp [q'])) (fun q' => hb (by simp [q'])) q) hf⟩
    rcases hend with q | q | q
    · exact .inl (f1 (by simp; omega))
    · exact .inr (.inl (f2 (by simp; omega)))
    · exact .inr (.inr (f3 (by simp; omega)))
  self := fun A i s Q E st h => wpAny_pyIter_zip st.1 h
def iZip3_ (K : PySem.W.Frag) (ta : TA) : TI := fun σ H R => ta σ H fun vs H1 => ∃ a b c xs ys zs, vs = [.ref a, .ref b, .ref c] ∧ SqT K H1 a xs ∧ SqT K H1 b ys ∧ SqT K H1 c zs ∧ R (Itz3 K a b c) H1
theorem pi_zip3 {X : Cx} {e e2 e3 : Expr} {ta : TA} {p pos tpos : Pos} {elts : List Expr} {kk : Nat} (hg : Gl X "zip") (hm : X.mg "zip" = none) (ha : PA X [e, e2, e3] ta)
    (hs : starEach [e, e2, e3] X.env = (false, eval e X.env) :: starEach [e2, e3] X.env := by rfl) (hpl : (backTo pos (starEach [e2, e3] X.env)).any (·.1) = false := by rfl) :
    PI X (.Tuple elts kk tpos) (.Call (.Name "zip" p) [e, e2, e3] [] pos) (iZip3_ X.K ta) := by
  refine ⟨fun pins s σ H R I h => ?_⟩
  refine Call_ (ld_blt I hg hm PyProof.Rows.boot_zip (PyProof.Rows.callWith_type1 (thn (ha.run pos pins s σ H _ I h) fun us s1 ⟨vs, H1, I1, r1, q1⟩ => ?_) hs hpl))
  obtain ⟨a, b, c, xs, ys, zs, ex, hqx, hqy, hqz, q⟩ := q1
  subst ex
  cases r1 with
  | cons r rr =>
    cases rr with
    | cons r' rr =>
      cases rr with
      | cons r'' rr =>
        cases rr
        cases r
        cases r'
        cases r''
        obtain ⟨its, rv, p1, _⟩ := I1.tuple hqx
        obtain ⟨its2, rv2, p2, _⟩ := I1.tuple hqy
        obtain ⟨its3, rv3, p3, _⟩ := I1.tuple hqz
        have la : a < s1.heap.objs.size := by obtain ⟨o, ho, _⟩ := id p1; exact Heap.lt_size ho
        have lb : b < s1.heap.objs.size := by obtain ⟨o, ho, _⟩ := id p2; exact Heap.lt_size ho
        have lc : c < s1.heap.objs.size := by obtain ⟨o, ho, _⟩ := id p3; exact Heap.lt_size ho
        refine zip_begins3 (begins_tuple a its.toArray) (begins_tuple b its2.toArray) (begins_tuple c its3.toArray) p1 p2 p3 fun h' hz hTI hTO h1 h2 h3 hsz hk => wpAny_pyIter_zip hz ?_
        have I2 : Inv X pins σ H1 { s1 with heap := h' } := I1.kept (t' := s1.toks) hk
        have fresh : ∀ d, d ∈ [s1.heap.objs.size + 5, s1.heap.objs.size + 3, s1.heap.objs.size + 4, s1.heap.objs.size, s1.heap.objs.size + 1, s1.heap.objs.size + 2] → FpOk X pins H1 d := fun d hcm => by
          have hle : s1.heap.objs.size ≤ d := by
            have e' : d = s1.heap.objs.size + 5 ∨ d = s1.heap.objs.size + 3 ∨ d = s1.heap.objs.size + 4 ∨ d = s1.heap.objs.size ∨ d = s1.heap.objs.size + 1 ∨ d = s1.heap.objs.size + 2 := by simpa using hcm
            rcases e' with z | z | z | z | z | z
            · rw [z]; exact Nat.le_add_right _ _
            · rw [z]; exact Nat.le_add_right _ _
            · rw [z]; exact Nat.le_add_right _ _
            · rw [z]; exact Nat.le_refl _
            · rw [z]; exact Nat.le_add_right _ _
            · rw [z]; exact Nat.le_add_right _ _
          exact I1.fpOk hle (I1.hok.fresh hle)
        refine ⟨s1.heap.objs.size + 5, [s1.heap.objs.size + 5, s1.heap.objs.size + 3, s1.heap.objs.size + 4, s1.heap.objs.size, s1.heap.objs.size + 1, s1.heap.objs.size + 2], _, _, H1, rfl, I2,
          turn_zip3 (zip_sep3 (fp1 := [a]) (fp2 := [b]) (fp3 := [c]) (fun x hx => by rw [List.mem_singleton.mp hx]; exact la) (fun x hx => by rw [List.mem_singleton.mp hx]; exact lb) (fun x hx => by rw [List.mem_singleton.mp hx]; exact lc)) (Nat.ne_of_lt la) (Nat.ne_of_lt (Nat.lt_succ_of_lt lb)) (Nat.ne_of_lt (Nat.lt_succ_of_lt (Nat.lt_succ_of_lt lc))), ⟨hz, hTI, ⟨_, _, _, hTO⟩, ⟨_, h1, rfl, rfl⟩, ⟨_, h2, rfl, rfl⟩, ⟨_, h3, rfl, rfl⟩⟩, fresh, q⟩
def zip3 : List D → List D → List D → List D
  | x :: xs, y :: ys, z :: zs => .tuple [x, y, z] :: zip3 xs ys zs
  | _, _, _ => []
theorem zip3_get : ∀ {xs ys zs : List D} {i : Nat} {d : D}, (zip3 xs ys zs)[i]? = some d → ∃ x y z, xs[i]? = some x ∧ ys[i]? = some y ∧ zs[i]? = some z ∧ d = .tuple [x, y, z]
  | [], _, _, _, _, h => by simp [zip3] at h
  | _ :: _, [], _, _, _, h => by simp [zip3] at h
  | _ :: _, _ :: _, [], _, _, h => by simp [zip3] at h
  | x :: xs, y :: ys, z :: zs, 0, d, h => by simp [zip3] at h; exact ⟨x, y, z, rfl, rfl, rfl, h.symm⟩
  | x :: xs, y :: ys, z :: zs, i + 1, d, h => by
    obtain ⟨a, b, c, h1, h2, h3, h4⟩ := zip3_get (xs := xs) (ys := ys) (zs := zs) (i := i) (d := d) (by simpa [zip3] using h)
    exact ⟨a, b, c, by simpa using h1, by simpa using h2, by simpa using h3, h4⟩
theorem zip3_len : ∀ {xs ys zs : List D}, (zip3 xs ys zs).length = min xs.length (min ys.length zs.length)
  | [], _, _ => by simp [zip3]
  | _ :: _, [], _ => by simp [zip3]
  | _ :: _, _ :: _, [] => by simp [zip3]
  | x :: xs, y :: ys, z :: zs => by simp only [zip3, List.length_cons, zip3_len (xs := xs) (ys := ys) (zs := zs)]; omega
theorem walk_zip3 {K : PySem.W.Frag} {G : Hp} {a b c : Addr} {vs us ts : List V} {xs ys zs : List D} (h : SqT K G a vs) (r : RpA K G vs xs) (h' : SqT K G b us) (r' : RpA K G us ys) (h'' : SqT K G c ts) (r'' : RpA K G ts zs) : WalkI K G (Itz3 K a b c) (zip3 xs ys zs) := fun i G1 H s1 s2 => by
  have hH : SqT K H a vs := seqT (s1.trans s2) h
  have hH' : SqT K H b us := seqT (s1.trans s2) h'
  have hH'' : SqT K H c ts := seqT (s1.trans s2) h''
  refine ⟨fun hi => ⟨vs, us, ts, hH, hH', hH'', by rw [r.length, r'.length, r''.length]; rw [zip3_len] at hi; omega⟩, fun d hd => ?_⟩
  obtain ⟨x, y, z, e1, e2, e3, rfl⟩ := zip3_get hd
  obtain ⟨v, h1, h2⟩ := r.get e1
  obtain ⟨u, h3, h4⟩ := r'.get e2
  obtain ⟨t, h5, h6⟩ := r''.get e3
  refine ⟨⟨vs, us, ts, v, u, t, hH, hH', hH'', h1, h3, h5⟩, fun x H' y => .inr ?_⟩
  obtain ⟨T, x0, y0, z0, rfl, hT, rfl, hx, hy, hz⟩ := y
  have := hx vs hH
  rw [h1] at this; cases this
  have := hy us hH'
  rw [h3] at this; cases this
  have := hz ts hH''
  rw [h5] at this; cases this
  have sm := s1.trans (same_upd (o := .tup [v, u, t]) (s2.free hT))
  exact ⟨T, _, hT, rfl, .tup (SqT.of upd_same) (.cons (Rp.mono sm h2) (.cons (Rp.mono sm h4) (.cons (Rp.mono sm h6) .nil)))⟩
section
variable {X : Cx} {E : XK} {tg e e2 e3 : Expr} {fe f2 f3 : EM}
def iZip3 (f g k : EM) : IM := fun s => (f s).bind fun p => match p.1 with
  | .d (.tuple xs) => (g p.2).bind fun q => (match q.1 with
    | .d (.tuple ys) => (k q.2).bind fun r => (match r.1 with
      | .d (.tuple zs) => .ok (zip3 xs ys zs, r.2)
      | _ => .bad)
    | _ => .bad)
  | _ => .bad
theorem pdi_zip3 {p pos tpos : Pos} {elts : List Expr} {kk : Nat} (hm : X.mg "zip" = none) (h : PDE X E e fe) (h2 : PDE X E e2 f2) (h3 : PDE X E e3 f3) (hg : Gl X "zip" := by rfl)
    (hs : starEach [e, e2, e3] X.env = (false, eval e X.env) :: starEach [e2, e3] X.env := by rfl) (hpl : (backTo pos (starEach [e2, e3] X.env)).any (·.1) = false := by rfl) (hs2 : starEach [e2, e3] X.env = (false, eval e2 X.env) :: starEach [e3] X.env := by rfl) (hs3 : starEach [e3] X.env = (false, eval e3 X.env) :: starEach [] X.env := by rfl) : PDI X E (.Tuple elts kk tpos) (.Call (.Name "zip" p) [e, e2, e3] [] pos) (iZip3 fe f2 f3) :=
  ⟨PI.imp (pi_zip3 hg hm (pa_cons h.pe (pa_cons h2.pe (pa_cons h3.pe pa_nil hs3) hs2) hs) hs hpl) fun σ H Q h => by
  obtain ⟨F, G, as, s, R, h⟩ := h
  refine eT.seqI R h fun G1 H1 w s1 v R1 r1 h1 => ?_
  dsimp only at h1
  split at h1
  · rename_i xs
    refine ⟨F, G1, as, s1, R1, ?_⟩
    cases q : f2 s1 with
    | exc c => rw [q] at h1; exact h1
    | bad => rw [q] at h1; exact h1
    | ok p2 =>
      obtain ⟨w2, s2⟩ := p2
      rw [q, Res.bind_ok] at h1
      dsimp only at h1
      intro v2 G2 H2 R2 X2 r2 n2
      have h2 := iK.ext h1 X2
      split at h2
      · rename_i ys
        refine ⟨F, G2, as, s2, R2, ?_⟩
        cases q3 : f3 s2 with
        | exc c => rw [q3] at h2; exact h2
        | bad => rw [q3] at h2; exact h2
        | ok p3 =>
          obtain ⟨w3, s3⟩ := p3
          rw [q3, Res.bind_ok] at h2
          dsimp only at h2
          intro v3 G3 H3 R3 X3 r3 n3
          have h3 := iK.ext h2 X3
          split at h3
          · rename_i zs
            have r1' : Rp X.K G3 v (.tuple xs) := Rp.mono (X2.same.trans X3.same) r1
            have r2' : Rp X.K G3 v2 (.tuple ys) := Rp.mono X3.same r2
            have r3' : Rp X.K G3 v3 (.tuple zs) := r3
            cases r1' with
            | tup k1 k2 => cases r2' with
              | tup k3 k4 => cases r3' with
                | tup k5 k6 => exact ⟨_, _, _, _, _, _, rfl, seqT R3.same k1, seqT R3.same k3, seqT R3.same k5, h3 _ G3 H3 R3 (Ext.refl _ _ _) (walk_zip3 k1 k2 k3 k4 k5 k6)⟩
          · exact h3.elim
      · exact h2.elim
  · exact h1.elim⟩
end
end
end PD

set_option Elab.async false
set_option linter.all false
set_option maxRecDepth 100000
set_option maxHeartbeats 4000000
namespace HT
open PySem PySem.Spec PyProof.Rows
section
variable {prog : Program} {w : World} {A : Around} {E : Value → Shared → Prop} {s : Shared}
theorem rev_adjust (n : Nat) : Builtin.Slice.sliceAdjust none none (-1) (n : Int) = ((n : Int) - 1, -1) := by
  unfold Builtin.Slice.sliceAdjust
  simp
theorem rev_places (n : Nat) : Builtin.Slice.slicePlaces ((n : Int) - 1) (-1) (-1) = n := by
  unfold Builtin.Slice.slicePlaces
  have h1 : ¬ ((-1 : Int) > 0) := by decide
  simp only [h1, if_false]
  split
  · have e : ((n : Int) - 1 - -1 - 1) / (- -1) + 1 = (n : Int) := by
      rw [show (- -1 : Int) = 1 by decide, Int.ediv_one]
      omega
    rw [e, Int.toNat_natCast]
  · have e : n = 0 := by omega
    subst e
    rfl
theorem rev_applied {sl : Addr} {vs : Value} {n : Nat} {Q : Int × Int × Nat → Shared → Prop} (hs : s.heap.IsSliceOf sl .none .none vs) (ps : IsPart vs (some (-1)))
    (h : Q ((n : Int) - 1, -1, n) s) : wpAny (model prog w) A (Builtin.Slice.sliceApplied (.ref sl) (pure (n : Int))) Q E s := by
  obtain ⟨os, hos, hcs, hds⟩ := id hs
  unfold Builtin.Slice.sliceApplied Builtin.Slice.sliceFields
  refine wpAny_bind (wpAny_bind (wpAny_field hos hds (x := .none) rfl (wpAny_bind (wpAny_field hos hds (x := .none) rfl (wpAny_bind (wpAny_field hos hds (x := vs) rfl (wpAny_pure ?_)))))))
  refine wpAny_bind (slicePart_ ps ?_)
  show wpAny _ _ (if ((-1 : Int) == 0) = true then _ else _) _ _ s
  rw [if_neg (by decide)]
  refine wpAny_bind (slicePart_ .none (wpAny_bind (slicePart_ .none (wpAny_bind (wpAny_pure ?_)))))
  show wpAny _ _ (match Builtin.Slice.sliceAdjust none none (-1) (n : Int) with | (lo, hi) => pure (lo, (-1 : Int), Builtin.Slice.slicePlaces lo hi (-1))) _ _ s
  rw [rev_adjust n]
  show wpAny _ _ (pure ((n : Int) - 1, (-1 : Int), Builtin.Slice.slicePlaces ((n : Int) - 1) (-1) (-1))) _ _ s
  rw [rev_places]
  exact wpAny_pure h
theorem fm_congr {α β : Type} {f g : α → Option β} : ∀ {l : List α}, (∀ x ∈ l, f x = g x) → l.filterMap f = l.filterMap g
  | [], _ => rfl
  | a :: l, h => by
    rw [List.filterMap_cons, List.filterMap_cons, h a (List.mem_cons_self ..), fm_congr fun x hx => h x (List.mem_cons_of_mem _ hx)]
theorem rev_pick (xs : Array Value) : ((List.range xs.size).filterMap fun (m : Nat) => xs[((xs.size : Int) - 1 + (m : Int) * (-1)).toNat]?).toArray = xs.toList.reverse.toArray := by
  have e : ∀ (m : Nat), m ∈ List.range xs.size → xs[((xs.size : Int) - 1 + (m : Int) * (-1)).toNat]? = xs[xs.size - 1 - m]? := fun m hm => by
    have := List.mem_range.mp hm
    rw [show ((xs.size : Int) - 1 + (m : Int) * (-1)).toNat = xs.size - 1 - m by omega]
  have e2 : ((List.range xs.size).filterMap fun (m : Nat) => xs[((xs.size : Int) - 1 + (m : Int) * (-1)).toNat]?) = ((List.range xs.size).map fun k => xs.size - 1 - k).filterMap fun k => xs[k]? := by
    rw [List.filterMap_map]
    exact fm_congr fun m hm => e m hm
  rw [e2, PySem.W.krv_range, List.filterMap_reverse, PySem.W.krv_all]
theorem getItem_tuple_rev {t sl : Addr} {items : Array Value} {vs : Value} {Q : Value → Shared → Prop} (ht : IsTup s.heap t items) (hs : s.heap.IsSliceOf sl .none .none vs) (ps : IsPart vs (some (-1)))
    (h : Q (.ref s.heap.objs.size) { s with heap := s.heap.push { cls := .type "tuple", data := .seq items.toList.reverse.toArray } })
    (hsz : items.size ≤ sizeLine) : wpAny (model prog w) A (getItem (.ref t) (.ref sl)) Q E s := by
  have htake : sizeOk (.seq items.toList.reverse.toArray) := by
    show items.toList.reverse.toArray.size ≤ sizeLine
    simpa using hsz
  obtain ⟨os, hos, hcs, hds⟩ := id hs
  have hTs : s.TypeIs (.ref sl) "slice" := ⟨os, hos, hcs⟩
  unfold getItem
  try with_reducible refine wpAny_holding ?_
  first | refine wpAny_bind (wpAny_pure ?_) | skip
  refine wpAny_bind (wpAny_sequenceKey ht.typeIs (by decide) ?_)
  refine wpAny_bind (wpAny_callSpecial?_slot (name := Str.ofString "__getitem__") ht.typeIs PyProof.Rows.slot_tuple_getitem
    (wpAny_call_entry PyProof.Rows.slot_tuple_getitem ht.typeIs PyProof.Rows.entry_tuple_getitem ?_ (PyProof.Rows.args_tuple_getitem _ _)))
  show wpAny _ _ (Builtin.Tuple.tupleItemsOf (.ref t) >>= _) _ _ s
  refine wpAny_bind (tupleItemsOf_ ht ?_)
  refine wpAny_bind (wpAny_typeOf hTs ?_)
  rw [if_pos (by decide)]
  refine wpAny_bind (rev_applied hs ps ?_)
  have hno : ¬ (((((items.size : Nat) : Int) - 1 == 0) && (-1 : Int) == 1 && items.size == items.size) = true) := by
    intro q
    rw [Bool.and_eq_true, Bool.and_eq_true] at q
    exact absurd q.1.2 (by decide)
  show wpAny _ _ (if ((((items.size : Nat) : Int) - 1 == 0) && (-1 : Int) == 1 && items.size == items.size) = true then _ else _) _ _ s
  rw [if_neg hno, rev_pick]
  first
    | exact wpAny_bind (m := Builtin.Tuple.tupleExact _) (wpAny_newObj_type (wpAny_pure ⟨_, rfl, wpAny_pure h⟩) htake)
    | exact wpAny_bind (m := Builtin.Tuple.tupleExact _) (wpAny_newObj_type (wpAny_bind (wpAny_pure (wpAny_pure ⟨_, rfl, wpAny_pure h⟩))) htake)
    | exact wpAny_bind (wpAny_bind (m := Builtin.Tuple.tupleExact _) (wpAny_newObj_type (wpAny_pure (wpAny_pure ⟨_, rfl, wpAny_pure h⟩)) htake))
    | exact wpAny_bind (wpAny_bind (m := Builtin.Tuple.tupleExact _) (wpAny_newObj_type (wpAny_pure ⟨_, rfl, wpAny_pure h⟩) htake))
end
end HT
namespace PD
noncomputable section
open PySem PySem.Spec PyProof.Rows L2
/-! ### xs[::-1] of a list or a tuple -/
def tRevT (K : PySem.W.Frag) (te : TE) : TE := fun σ H Q => te σ H fun x H1 => ∃ a xs, x = .ref a ∧ SqT K H1 a xs ∧ ∀ p, H1 p = none → Q (.ref p) (upd H1 p (.tup xs.reverse))
theorem pe_revT {X : Cx} {e : Expr} {te : TE} {k : Nat} {p1 p2 p3 pos : Pos} (he : PE X e te) : PE X (.Subscript e (.Slice none none (some (.UnaryOp .USub (.Constant (.int 1) k p1) p2)) p3) pos) (tRevT X.K te) := by
  refine ⟨fun pins s σ H Q I h => ?_⟩
  refine Subscript_ (thn (he.run pins s σ H _ I h) fun v s1 ⟨x, H1, I1, r1, q1⟩ => ?_)
  obtain ⟨a, xs, ex, hx, q⟩ := q1
  subst ex
  cases r1
  have hst : PO X (some (.UnaryOp .USub (.Constant (.int 1) k p1) p2)) (tPart (tUn (rU fun i => .int (-i)) (tC (.int 1)))) := po_some (pe_un un_neg pe_int)
  refine wpAny_Slice (thn (po_none.run pins s1 σ H1 (fun o H2 => o = none ∧ H2 = H1) I1 ⟨rfl, rfl⟩) fun vl s2 ⟨l, H2, I2, pl, el, e2⟩ => ?_)
  subst el e2
  refine thn (po_none.run pins s2 σ H2 (fun o H3 => o = none ∧ H3 = H2) I2 ⟨rfl, rfl⟩) fun vu s3 ⟨u, H3, I3, pu, eu, e3⟩ => ?_
  subst eu e3
  refine thn (hst.run pins s3 σ H3 (fun o H4 => o = some (-1) ∧ H4 = H3) I3 ⟨1, rfl, -1, rfl, rfl, rfl⟩) fun vs s4 ⟨o, H4, I4, ps, eo, e4⟩ => ?_
  subst eo e4
  cases pl
  cases pu
  have I5 : Inv X pins σ H4 { s4 with heap := s4.heap.push { cls := .type "slice", data := .fields #[.none, .none, vs] } } := I4.kept (t' := s4.toks) fun b ob q => Heap.get?_push_of_some _ q
  obtain ⟨its, r, ht, hz⟩ := I5.tuple hx
  have hlen := r.length
  show wpAny (model X.prog X.w) X.A (subscriptTail e (.Slice none none (some (.UnaryOp .USub (.Constant (.int 1) k p1) p2)) p3) (.ref a) (.ref s4.heap.objs.size)) (EP X pins σ Q) X.xe { s4 with heap := s4.heap.push { cls := .type "slice", data := .fields #[.none, .none, vs] } }
  refine tail_any (ops := [.ref a, .ref s4.heap.objs.size]) ht.typeIs PyProof.Rows.slot_tuple_getitem.lookup ?_ (by with_unfolding_all rfl)
  refine HT.getItem_tuple_rev ht (Heap.IsSliceOf.new _ .none .none vs) ps ?_ (by rw [List.size_toArray]; omega)
  refine ⟨.ref _, _, I5.laid (t' := s4.toks) (o := .tup xs.reverse) (fun b ob q => Heap.get?_push_of_some _ q) (Nat.le_refl _) ?_, rfl, q _ (I5.hok.fresh (Nat.le_refl _))⟩
  exact ⟨by rw [List.length_reverse]; exact hz, _, r.reverse, IsTup.new _ _⟩
section
variable {X : Cx} {E : XK} {e : Expr} {fe : EM} {pos : Pos}
def gRev : W → EM := fun w s => match dat s w with
  | some (.list xs) => .ok (.f xs.reverse, s)
  | some (.tuple xs) => .ok (.d (.tuple xs.reverse), s)
  | _ => .bad
theorem pd_rev {kk : Nat} {p1 p2 p3 : Pos} (he : PDE X E e fe) : PDE X E (.Subscript e (.Slice none none (some (.UnaryOp .USub (.Constant (.int 1) kk p1) p2)) p3) pos) (eB1 gRev fe) := ⟨⟨fun pins s σ H Q I h => by
  obtain ⟨F, G, as, s0, R, h'⟩ := h
  cases q : fe s0 with
  | exc c =>
    refine (pe_revL he.pe).run pins s σ H Q I ⟨F, G, as, s0, R, ?_⟩
    unfold eB1 at h'
    rw [q] at h' ⊢
    exact h'
  | bad => unfold eB1 at h'; rw [q] at h'; exact h'.elim
  | ok p =>
    obtain ⟨w, s1⟩ := p
    have h0 := h'
    unfold eB1 gRev at h'
    rw [q, Res.bind_ok] at h'
    dsimp only at h'
    cases e : dat s1 w with
    | none => rw [e] at h'; exact h'.elim
    | some x =>
      rw [e] at h'
      cases x with
      | list xs =>
        refine (pe_revL he.pe).run pins s σ H Q I ⟨F, G, as, s0, R, ?_⟩
        rw [q]
        intro v G1 H1 R1 X1 r1 n1
        have h1 := eK.ext h' R R1 X1
        obtain ⟨a, vs, rfl, k1, k2⟩ := dat_lst R1 r1 e
        exact ⟨a, vs, rfl, k1, fun p hp => eK.newL R1 h1 k2.reverse hp⟩
      | tuple xs =>
        refine (pe_revT he.pe).run pins s σ H Q I ⟨F, G, as, s0, R, ?_⟩
        rw [q]
        intro v G1 H1 R1 X1 r1 n1
        have h1 := eK.ext h' R R1 X1
        obtain ⟨ew, a, vs, rfl, k1, k2⟩ := dat_tup R1 r1 e
        exact ⟨a, vs, rfl, k1, fun p hp => eK.newT R1 h1 k2.reverse hp⟩
      | _ => exact h'.elim⟩⟩
end
end
end PD

set_option Elab.async false
set_option linter.all false
set_option maxRecDepth 100000
set_option maxHeartbeats 4000000
namespace PD
noncomputable section
open PySem PySem.Spec PyProof.Rows L2

/-! ### a new cell -/
section
variable {K : PySem.W.Frag} {F : Addr → Prop} {G H : Hp} {as : List Addr} {s : S} {σ : L2.St}
theorem Rep.newCell {a : Addr} {o : HO} {c : Cell} {i : Nat} (R : Rep K F G H as σ s) (h1 : H a = some o) (h2 : G a = none) (h3 : a ∉ as) (h4 : ¬ F a) (hc : CellAt K G H a c) (hi : i < s.env.length) :
    Rep K F G H (as ++ [a]) (σ.set i (some (.ref a))) { s with env := s.env.set i (some (.c s.mem.length)), mem := s.mem ++ [some c] } := by
  have hn : (as ++ [a])[s.mem.length]? = some a := by rw [← R.alen]; simp
  refine ⟨R.same, by simpa using R.len, by simp [R.alen], ?_, fun b hb => ?_, fun b hb => ?_, fun n c' e => ?_, fun j w' e => ?_⟩
  · rw [List.nodup_append]
    exact ⟨R.nd, by simp, fun x hx y hy z => by
      have : y = a := by simpa using hy
      exact h3 (by rw [← this, ← z]; exact hx)⟩
  · rcases List.mem_append.mp hb with hb | hb
    · exact R.dom b hb
    · have : b = a := by simpa using hb
      exact ⟨_, by rw [this]; exact h1⟩
  · obtain ⟨k1, k2, k3⟩ := R.fo b hb
    refine ⟨k1, fun z => ?_, k3⟩
    rcases List.mem_append.mp z with z | z
    · exact k2 z
    · have : b = a := by simpa using z
      exact h4 (by rw [← this]; exact hb)
  · have e : (s.mem ++ [some c])[n]? = some (some c') := e
    by_cases q : n < s.mem.length
    · rw [List.getElem?_append_left q] at e
      obtain ⟨b, k1, k2, k3⟩ := R.cell n c' e
      exact ⟨b, by rw [List.getElem?_append_left (by rw [R.alen]; exact q)]; exact k1, k2, k3⟩
    · have q' : n = s.mem.length := by
        have := (List.getElem?_eq_some_iff.mp e).1
        simp at this
        omega
      subst q'
      simp at e
      subst e
      exact ⟨a, hn, h2, hc⟩
  · have e : (s.env.set i (some (.c s.mem.length)))[j]? = some (some w') := e
    by_cases q : i = j
    · subst q
      rw [List.getElem?_set_self hi] at e
      cases e
      exact ⟨.ref a, by rw [List.getElem?_set_self (by rw [R.len]; exact hi)], ⟨a, hn, rfl⟩, fun _ z => nomatch z⟩
    · rw [List.getElem?_set_ne q] at e
      obtain ⟨u, k1, k2, k3⟩ := R.env j w' e
      refine ⟨u, by rw [List.getElem?_set_ne q]; exact k1, ?_, k3⟩
      cases w' with
      | d x => exact k2
      | c m =>
        obtain ⟨b, k4, k5⟩ := k2
        exact ⟨b, by rw [List.getElem?_append_left (List.getElem?_eq_some_iff.mp k4).1]; exact k4, k5⟩
      | f ys => exact absurd rfl (k3 ys)
theorem live_newCell {a b : Addr} {c : Cell} {env : List (Option W)} (R : Rep K F G H as σ s) (h : live (as ++ [a]) { s with env := env, mem := s.mem ++ [some c] } b) : live as s b ∨ b = a := by
  obtain ⟨n, c', e, k⟩ := h
  have e : (s.mem ++ [some c])[n]? = some (some c') := e
  by_cases q : n < s.mem.length
  · rw [List.getElem?_append_left q] at e
    rw [List.getElem?_append_left (by rw [R.alen]; exact q)] at k
    exact .inl ⟨n, c', e, k⟩
  · have q' : n = s.mem.length := by
      have := (List.getElem?_eq_some_iff.mp e).1
      simp at this
      omega
    subst q'
    have hn : (as ++ [a])[s.mem.length]? = some a := by rw [← R.alen]; simp
    rw [hn] at k
    cases k
    exact .inr rfl
end
section
variable {X : Cx} {E : XK} {e e2 e3 o i : Expr} {fe f2 f3 fo fi : EM} {pos : Pos}
/-! ### dicts -/
/-- {} that stays -/
def eDic : EM := fun s => .ok (.d (.dict []), s)
theorem pd_dic : PDE X E (.Dict [] [] pos) eDic := ⟨PE.imp pe_dnewK fun σ H Q h => by
  obtain ⟨F, G, as, s, R, h⟩ := h
  intro p hp
  obtain ⟨gp, _, _⟩ := R.fresh hp
  exact h _ _ _ (R.newG hp _) (Ext.allocG gp hp) (.dic upd_same) fun _ _ z _ => nomatch z⟩
/-- x = {} that changes -/
def sNewD (i : Nat) : SM := fun s => if i < s.env.length then .ok (.nx, { s with env := s.env.set i (some (.c s.mem.length)), mem := s.mem ++ [some (.m [])] }) else .bad
theorem pds_newD (i : Nat) {x : Str} {p1 p2 : Pos} (hN : X.N.Nodup) (hi : X.N[i]? = some x := by rfl) (hx : Loc X.env.scope x := by first | exact Or.inl rfl | exact Or.inr rfl) (hs : swapsWith (.Dict [] [] p1) (some (.Name x p2)) pos.line X.env = pure false := by rfl) (hf : X.fn x = true ∨ X.env.scope.names.lookup x = some .local := by first | exact .inl rfl | exact .inr rfl | assumption) :
    PDS X E (.Assign [.Name x p2] (.Dict [] [] p1) pos) (sNewD i) := ⟨PS.imp (ps_set hN hi hx pe_dnewK hs hf) fun D σ H h => by
  obtain ⟨F, G, as, s, R, h⟩ := h
  intro p hp
  unfold sNewD at h
  split at h
  · rename_i hl
    obtain ⟨gp, na, nf⟩ := R.fresh hp
    have R1 := (R.new hp (.dK [])).newCell (a := p) (c := .m []) upd_same gp na nf ⟨[], upd_same, .nil⟩ hl
    refine h _ G _ _ R1 ⟨Same.refl _, fun a o e _ => same_upd hp a o e, fun a z => ?_⟩ ⟨[p], rfl⟩
    rcases live_newCell R z with z | z
    · exact .inl z
    · exact .inr (by rw [z]; exact hp)
  · exact h.elim⟩
def putD (kvs : List (Key × D)) (k : Key) (v : D) : List (Key × D) :=
  if (kvs.any fun kv => decide (kv.1 = k)) = true then kvs.map (fun kv => if kv.1 = k then (kv.1, v) else kv) else kvs ++ [(k, v)]
abbrev KvR (K : PySem.W.Frag) (G : Hp) : Key × V → Key × D → Prop := fun p q => p.1 = q.1 ∧ Rp K G p.2 q.2
theorem kv_any {K : PySem.W.Frag} {G : Hp} {k : Key} : ∀ {vs : List (Key × V)} {kvs : List (Key × D)}, Paired (KvR K G) vs kvs → (vs.any fun kv => decide (kv.1 = k)) = (kvs.any fun kv => decide (kv.1 = k))
  | _, _, .nil => rfl
  | _, _, .cons h r => by rw [List.any_cons, List.any_cons, kv_any r, h.1]
theorem kv_map {K : PySem.W.Frag} {G : Hp} {k : Key} {v : V} {d : D} (hv : Rp K G v d) : ∀ {vs : List (Key × V)} {kvs : List (Key × D)}, Paired (KvR K G) vs kvs → Paired (KvR K G) (vs.map fun kv => if kv.1 = k then (kv.1, v) else kv) (kvs.map fun kv => if kv.1 = k then (kv.1, d) else kv)
  | _, _, .nil => .nil
  | _, _, .cons (a := a) (b := b) h r => by
    refine .cons ?_ (kv_map hv r)
    show KvR K G (if a.1 = k then (a.1, v) else a) (if b.1 = k then (b.1, d) else b)
    by_cases q : b.1 = k
    · rw [if_pos q, if_pos (h.1.trans q)]; exact ⟨h.1, hv⟩
    · rw [if_neg q, if_neg (fun z => q (h.1.symm.trans z))]; exact h
theorem kv_put {K : PySem.W.Frag} {G : Hp} {k : Key} {v : V} {d : D} (hv : Rp K G v d) {vs : List (Key × V)} {kvs : List (Key × D)} (h : Paired (KvR K G) vs kvs) : Paired (KvR K G) (putK vs k v) (putD kvs k d) := by
  unfold putK putD
  rw [kv_any h]
  split
  · exact kv_map hv h
  · exact h.snoc ⟨rfl, hv⟩
def keyOf : W → Option Key
  | .d (.int i) => some (.inl i)
  | .d (.str x) => some (.inr x)
  | _ => none
theorem keyOf_ok {K : PySem.W.Frag} {F : Addr → Prop} {G H : Hp} {as : List Addr} {v : V} {w : W} {k : Key} (r : RpW K F G H as v w) (h : keyOf w = some k) : v = kV k := by
  unfold keyOf at h
  split at h
  · cases h; cases r; rfl
  · cases h; cases r; rfl
  · cases h
/-- d[k] = v -/
def sPut (fe fo fi : EM) : SM := fun s => (fe s).bind fun p => match toD p.1 p.2 with
  | some (x, s1) => (fo s1).bind fun q => (match q.1 with
    | .c n => (fi q.2).bind fun t => (match keyOf t.1, t.2.mem[n]? with
      | some k, some (some (.m kvs)) => if kvs.length < sizeLine then .ok (.nx, { t.2 with mem := t.2.mem.set n (some (.m (putD kvs k x))) }) else .bad
      | _, _ => .bad)
    | _ => .bad)
  | none => .bad
theorem paired_len {α β : Type} {F : α → β → Prop} : ∀ {l₁ : List α} {l₂ : List β}, Paired F l₁ l₂ → l₁.length = l₂.length
  | _, _, .nil => rfl
  | _, _, .cons _ r => by rw [List.length_cons, List.length_cons, paired_len r]
theorem pds_put {p1 : Pos} {k : Nat} (hr : Room k X.A) (he : PDE X E e fe) (ho : PDE X E o fo) (hi : PDE X E i fi) (hs : swapsWith e (some (.Subscript o i p1)) pos.line X.env = pure false := by rfl) : PDS X E (.Assign [.Subscript o i p1] e pos) (sPut fe fo fi) := ⟨PS.imp (ps_dput (by have := hr.un; omega) ho.pe hi.pe he.pe hs) fun D σ H h => by
  obtain ⟨F, G, as, s, R, h⟩ := h
  refine eT.seqS R h fun G1 H1 w s1 v R1 X1 r1 n1 h1 => ?_
  dsimp only at h1
  split at h1
  · rename_i x s2 e2
    obtain ⟨G2, R2, X2, r2⟩ := toD_ok R1 r1 e2
    have h1 := sK.ext h1 R2 (X1.trans X2) (List.prefix_refl _)
    refine eT.seqS R2 h1 fun G3 H3 w3 s3 v3 R3 X3 r3 n3 h3 => ?_
    dsimp only at h3
    cases w3 with
    | d _ => exact h3.elim
    | f _ => exact h3.elim
    | c n =>
      dsimp only at h3
      obtain ⟨a, ha, rfl⟩ := r3
      have h3 := sK.ext h3 R3 X3 (List.prefix_refl _)
      refine eT.seqS R3 h3 fun G4 H4 w4 s4 v4 R4 X4 r4 n4 h4 => ?_
      dsimp only at h4
      split at h4
      · rename_i k kvs ek e3
        split at h4
        · rename_i hz
          obtain ⟨g4, vs, k1, k2⟩ := R4.cellAt e3 ha
          have rx : Rp X.K G4 v x := Rp.mono (X3.same.trans X4.same) r2
          refine ⟨a, _, rfl, .inl ⟨vs, k, k1, keyOf_ok r4 ek, by rw [paired_len k2]; exact hz, rfl⟩, ?_⟩
          exact h4 σ G4 _ as (R4.mut e3 ha ⟨_, upd_same, kv_put rx k2⟩) (X4.trans (Ext.mut e3 ha)) (List.prefix_refl _)
        · exact h4.elim
      · exact h4.elim
  · exact h1.elim⟩
def kD : Key → D
  | .inl i => .int i
  | .inr x => .str x
theorem kv_keys {K : PySem.W.Frag} {G : Hp} : ∀ {vs : List (Key × V)} {kvs : List (Key × D)}, Paired (KvR K G) vs kvs → RpA K G (vs.map fun kv => kV kv.1) (kvs.map fun kv => kD kv.1)
  | _, _, .nil => .nil
  | _, _, .cons (a := a) (b := b) h r => by
    refine .cons ?_ (kv_keys r)
    show Rp K G (kV a.1) (kD b.1)
    rw [h.1]
    cases b.1 with
    | inl i => exact .int i
    | inr x => exact .str x
/-- list(d) -/
def gListM : W → EM := fun w s => match w with
  | .c n => (match s.mem[n]? with
    | some (some (.m kvs)) => .ok (.f (kvs.map fun kv => kD kv.1), s)
    | _ => .bad)
  | _ => .bad
theorem ud_listM : UnD X E rListD gListM := fun F G H as s σ v w Q R r h => by
  unfold gListM at h
  split at h
  · rename_i n
    obtain ⟨a, ha, rfl⟩ := r
    split at h
    · rename_i kvs e
      obtain ⟨g0, vs, k1, k2⟩ := R.cellAt e ha
      exact ⟨a, vs, rfl, k1, fun q hq => eK.newL R h (kv_keys k2) hq⟩
    · exact h.elim
  · exact h.elim
theorem pd_listM {p : Pos} (hm : X.mg "list" = none) (hcalm : X.calm = true) (ha : PDE X E e fe) (hg : Gl X "list" := by rfl) (he : starEach [e] X.env = (false, eval e X.env) :: starEach [] X.env := by rfl) : PDE X E (.Call (.Name "list" p) [e] [] pos) (eB1 gListM fe) :=
  pd_t1 (call_list_dK hcalm) ud_listM hm (by decide +kernel) ha hg (by decide) (by decide) he
/-! ### tuple(range(n)) -/
def rgD (b : Int) : List D := (List.range (b - 0).toNat).map fun i => PyData.int (0 + (i : Nat))
def eTupRg (f : EM) : EM := fun s => (f s).bind fun p => match p.1 with
  | .d (.int n) => if 0 ≤ n ∧ n ≤ 16777216 then .ok (.d (.tuple (rgD n)), p.2) else .bad
  | _ => .bad
theorem rg_rp {K : PySem.W.Frag} {G : Hp} : ∀ (l : List Nat), RpA K G (l.map fun i => V.int (0 + (i : Nat))) (l.map fun i => PyData.int (0 + (i : Nat)))
  | [] => .nil
  | _ :: l => .cons (.int _) (rg_rp l)
theorem pd_tupRg {p p2 pos2 : Pos} (hm2 : X.mg "tuple" = none) (hm : X.mg "range" = none) (hcalm : X.calm = true) (ha : PDE X E e fe) (hg2 : Gl X "tuple" := by rfl) (hg : Gl X "range" := by rfl) (he : starEach [e] X.env = (false, eval e X.env) :: starEach [] X.env := by rfl)
    (na : starEach [.Call (.Name "range" p2) [e] [] pos2] X.env = (false, eval (.Call (.Name "range" p2) [e] [] pos2) X.env) :: starEach [] X.env := by rfl) : PDE X E (.Call (.Name "tuple" p) [.Call (.Name "range" p2) [e] [] pos2] [] pos) (eTupRg fe) := ⟨PE.imp (pe_tupRg hcalm hg2 hm2 (prg_1 hg hm ha.pe he) na) fun σ H Q h => by
  obtain ⟨F, G, as, s, R, h⟩ := h
  refine eT.seq R h fun G1 H1 w s1 v R1 X1 r1 n1 h1 => ?_
  dsimp only at h1
  split at h1
  · rename_i n
    split at h1
    · rename_i hz
      cases r1
      refine ⟨n, rfl, RgOk.of_le (Int.le_refl _) hz.2 (by decide) hz.1, fun p hp => eK.newT R1 h1 (rg_rp _) hp⟩
    · exact h1.elim
  · exact h1.elim⟩
/-! ### range(a, b, -1) -/
def iRange3 (f g k : EM) : IM := fun s => (f s).bind fun p => (g p.2).bind fun q => (k q.2).bind fun t => match p.1, q.1, t.1 with
  | .d (.int i), .d (.int j), .d (.int c) => if inB i && inB j && decide (c = -1) then .ok ((List.range (i - j).toNat).map fun (k : Nat) => PyData.int (i + (k : Int) * (-1)), t.2) else .bad
  | _, _, _ => .bad
theorem walk_down {K : PySem.W.Frag} {G : Hp} {lo : Int} {n : Nat} : WalkI K G (Itc lo (-1) n) ((List.range n).map fun (i : Nat) => PyData.int (lo + (i : Int) * (-1))) := fun i G1 H s1 s2 => by
  refine ⟨fun hi => (show n ≤ i by simpa using hi), fun d hd => ?_⟩
  have hi : i < n := by
    have := (List.getElem?_eq_some_iff.mp hd).1
    simpa using this
  have e : d = .int (lo + (i : Int) * (-1)) := by
    rw [List.getElem?_map, List.getElem?_range hi] at hd
    exact (Option.some.inj hd).symm
  subst e
  exact ⟨hi, fun x H' y => .inl ⟨y.1, by rw [y.2]; exact .int _⟩⟩
theorem pdi_range3 {tg : Expr} {p : Pos} (hm : X.mg "range" = none) (h : PDE X E e fe) (h2 : PDE X E e2 f2) (h3 : PDE X E e3 f3) (hg : Gl X "range" := by rfl)
    (hs : starEach [e, e2, e3] X.env = (false, eval e X.env) :: starEach [e2, e3] X.env := by rfl) (hpl : (backTo pos (starEach [e2, e3] X.env)).any (·.1) = false := by rfl) (hs2 : starEach [e2, e3] X.env = (false, eval e2 X.env) :: starEach [e3] X.env := by rfl) (hs3 : starEach [e3] X.env = (false, eval e3 X.env) :: starEach [] X.env := by rfl) : PDI X E tg (.Call (.Name "range" p) [e, e2, e3] [] pos) (iRange3 fe f2 f3) :=
  ⟨PI.imp (pi_range3 hg hm (pa_cons h.pe (pa_cons h2.pe (pa_cons h3.pe pa_nil hs3) hs2) hs) hs hpl) fun σ H Q h => by
  obtain ⟨F, G, as, s, R, h⟩ := h
  refine eT.seqI R h fun G1 H1 w s1 v R1 r1 h1 => ?_
  refine ⟨F, G1, as, s1, R1, ?_⟩
  dsimp only at h1
  cases q : f2 s1 with
  | exc c => rw [q] at h1; exact h1
  | bad => rw [q] at h1; exact h1
  | ok p2 =>
    obtain ⟨w2, s2⟩ := p2
    rw [q, Res.bind_ok] at h1
    dsimp only at h1
    intro v2 G2 H2 R2 X2 r2 n2
    have h2 := iK.ext h1 X2
    refine ⟨F, G2, as, s2, R2, ?_⟩
    cases q3 : f3 s2 with
    | exc c => rw [q3] at h2; exact h2
    | bad => rw [q3] at h2; exact h2
    | ok p3 =>
      obtain ⟨w3, s3⟩ := p3
      rw [q3, Res.bind_ok] at h2
      dsimp only at h2
      intro v3 G3 H3 R3 X3 r3 n3
      have h3 := iK.ext h2 X3
      split at h3
      · rename_i i j c
        split at h3
        · rename_i hb
          obtain ⟨hb1, hb2⟩ := Bool.and_eq_true_iff.mp hb
          obtain ⟨b1, b2⟩ := Bool.and_eq_true_iff.mp hb1
          obtain ⟨b3, b4⟩ := inB_ba b1
          obtain ⟨b5, b6⟩ := inB_ba b2
          have hc := of_decide_eq_true hb2
          subst hc
          cases r1
          cases r2
          cases r3
          exact ⟨i, j, -1, _, rfl, RgC.neg (of_decide_eq_true b3) (of_decide_eq_true b4) (of_decide_eq_true b5) (of_decide_eq_true b6), h3 _ G3 H3 R3 (Ext.refl _ _ _) walk_down⟩
        · exact h3.elim
      · exact h3.elim⟩
/-! ### len({x: True for x in xs}) -/
def keysV (ns : List Int) : List (Key × V) := ns.foldl (fun acc n => putK acc (.inl n) (.bl true)) []
theorem keysV_len : ∀ (ns : List Int) (acc : List (Key × V)), (ns.foldl (fun acc n => putK acc (.inl n) (.bl true)) acc).length ≤ acc.length + ns.length
  | [], acc => Nat.le_refl _
  | n :: r, acc => by
    refine Nat.le_trans (keysV_len r _) ?_
    have : (putK acc (.inl n) (.bl true)).length ≤ acc.length + 1 := by
      unfold putK
      split
      · rw [List.length_map]; omega
      · simp
    rw [List.length_cons]
    dsimp only
    omega
def eLenKeys (i : Nat) (f : EM) : EM := fun s => (f s).bind fun p => match p.1 with
  | .d (.tuple xs) => (match intsOf xs with
    | some ns => if ns.length < sizeLine ∧ i < p.2.env.length then .ok (.d (.int (keysV ns).length), p.2) else .bad
    | none => .bad)
  | _ => .bad
theorem ints_rp {K : PySem.W.Frag} {G : Hp} : ∀ {vs : List V} {xs : List D} {ns : List Int}, RpA K G vs xs → intsOf xs = some ns → vs = ns.map V.int
  | _, _, _, .nil, e => by cases e; rfl
  | _, _, bs, .cons (ds := ds) (.int b) r, e => by
    have e : (intsOf ds).map (b :: ·) = some bs := e
    cases q : intsOf ds with
    | none => rw [q] at e; cases e
    | some es => rw [q] at e; cases e; rw [ints_rp r q]; rfl
  | _, _, _, .cons .non _, e => nomatch e
  | _, _, _, .cons (.bl _) _, e => nomatch e
  | _, _, _, .cons (.str _) _, e => nomatch e
  | _, _, _, .cons (.lst _ _) _, e => nomatch e
  | _, _, _, .cons (.tup _ _) _, e => nomatch e
  | _, _, _, .cons (.dic _) _, e => nomatch e
theorem upd_upd {H : Hp} {a : Addr} {x y : HO} : upd (upd H a x) a y = upd H a y := by
  funext b
  by_cases q : b = a
  · subst q; rw [upd_same, upd_same]
  · rw [upd_ne q, upd_ne q, upd_ne q]
theorem pd_lenKeys (i : Nat) {x : Str} {p p2 p3 p4 p5 : Pos} {j : Nat} {scope : Scope} (hm : X.mg "len" = none) (hcalm : X.calm = true) (hN : X.N.Nodup) (ha : PDE X E e fe) (ok : BlkOk X.N X.env.scope scope [(x, i)])
    (hg1 : ∀ (s : Shared) (H : Hp) (C : Addr) (cl : List (Str × Addr)) (fp : List Addr), PG (X.blk s H scope (compEnvC scope cl C X.env) fp) (.Name x p4) (gName i))
    (hk1 : ∀ (s : Shared) (H : Hp) (C : Addr) (cl : List (Str × Addr)) (fp : List Addr), PE (X.blk s H scope (compEnvC scope cl C X.env) fp) (.Name x p2) (tVar i))
    (hg : Gl X "len" := by rfl) (hs : ∀ y, foldedSetIterable e X.env y = pure y := by intro _; rfl)
    (he : starEach [.DictComp (.Name x p2) (.Constant (.bool true) j p3) [⟨.Name x p4, e, [], 0⟩] scope p5] X.env = (false, eval (.DictComp (.Name x p2) (.Constant (.bool true) j p3) [⟨.Name x p4, e, [], 0⟩] scope p5) X.env) :: starEach [] X.env := by rfl) :
    PDE X E (.Call (.Name "len" p) [.DictComp (.Name x p2) (.Constant (.bool true) j p3) [⟨.Name x p4, e, [], 0⟩] scope p5] [] pos) (eLenKeys i fe) := by
  have hb : PE X (.DictComp (.Name x p2) (.Constant (.bool true) j p3) [⟨.Name x p4, e, [], 0⟩] scope p5) _ :=
    pe_dc hcalm hN (pi_tup ha.pe) ok (g := gName i) (tt := tYes) (tk := tVar i) (tv := tC (.bl true)) hg1 (fun s H C cl fp => pts_nil) hk1 (fun s H C cl fp => pe_bl) hs
  refine ⟨PE.imp (pe_callB call_lenD hg hm PySem.boot_len (pa_cons hb pa_nil he) (by decide) (by decide) he) fun σ H Q h => ?_⟩
  obtain ⟨F, G, as, s, R, h⟩ := h
  refine eT.seq R h fun G1 H1 w s1 v R1 X1 r1 n1 h1 => ?_
  dsimp only at h1
  split at h1
  · rename_i xs
    split at h1
    · rename_i ns en
      split at h1
      · rename_i hz
        cases r1 with
        | tup k1 k2 =>
          rename_i a vs
          have ev := ints_rp k2 en
          have hq : SqT X.K H1 a vs := seqT R1.same k1
          refine ⟨a, rfl, ⟨vs, hq⟩, fun D hD => ?_⟩
          have ln : vs.length = ns.length := by rw [ev, List.length_map]
          refine dc_tup (xs := vs) (Pv := fun i Hh => Hh = upd H1 D (.dK (keysV (ns.take i)))) rfl (fun j Hh _ e => ?_) (fun j y Hh hy e => ?_) fun Hh e => ?_
          · rw [e]; exact seqT (same_upd hD) hq
          · have hj : j < ns.length := by rw [← ln]; exact (List.getElem?_eq_some_iff.mp hy).1
            have ey : y = .int ns[j] := by
              rw [ev, List.getElem?_map, List.getElem?_eq_getElem hj] at hy
              exact (Option.some.inj hy).symm
            refine ⟨?_, y, ?_, keysV (ns.take j), .inl ns[j], ey, by rw [e]; exact upd_same, ?_, ?_⟩
            · show ((σ.set i none).set i (some y)).set i none = σ.set i none
              rw [List.set_set, List.set_set]
            · show ((σ.set i none).set i (some y))[i]? = some (some y)
              rw [List.set_set, List.getElem?_set_self (by rw [R1.len]; exact hz.2)]
            · have := keysV_len (ns.take j) []
              rw [List.length_take] at this
              show (keysV (ns.take j)).length < sizeLine
              unfold keysV
              simp only [List.length_nil] at this
              omega
            · rw [e, upd_upd]
              congr 2
              unfold keysV
              rw [List.take_add_one, List.getElem?_eq_getElem hj, List.foldl_append]
              rfl
          · rw [e, ln, List.take_length]
            refine ⟨D, _, rfl, upd_same, ?_⟩
            exact h1 _ _ _ (R1.new hD _) (Ext.alloc hD) (.int _) fun _ _ z _ => nomatch z
      · exact h1.elim
    · exact h1.elim
  · exact h1.elim
end
/-- how many rounds a while may have: 2000, which nothing unfolds -/
noncomputable def rounds : { n : Nat // n = 2000 } := Classical.choice ⟨⟨2000, rfl⟩⟩
/-- a def of which nothing is said -/
theorem Df.bad {P : Program} {w : World} {K : PySem.W.Frag} {mg : Str → Option Value} {base : Heap} {k : Nat} {x : Str} {st : Stmt} {f : Addr} {fd : FuncData} {N ps : List Str} (Fn : Fun K x x st f fd) (Sc : FnScope N ps (defScope st)) (hm : mg x = some (.ref f)) (hb : Binds K fd ps []) :
    Df P w K mg base k x ps (fun _ _ => .bad) :=
  ⟨f, fd, ⟨fun vs H Q E h => by obtain ⟨_, _, _, _, _, hl, _⟩ := h; exact hl, fun A outer s H args us vs Q E _ _ _ _ h => by obtain ⟨_, _, _, _, _, _, _, _, h⟩ := h; exact h.elim⟩, hm, Fn.kp, hb⟩
end
end PD

set_option Elab.async false
set_option linter.all false
set_option maxRecDepth 100000
set_option maxHeartbeats 4000000
/-! PDW: the meanings of PD, run by simp: each combinator steps where its state is told -/
namespace PD
noncomputable section
open PySem PySem.Spec PyProof.Rows L2
def Res.wp {α : Type} (r : Res α) (Q : α → Prop) (X : Str → Prop) : Prop := match r with
  | .ok a => Q a
  | .exc c => X c
  | .bad => False
@[simp] theorem Res.wp_ok {α : Type} {a : α} {Q : α → Prop} {X : Str → Prop} : (Res.ok a).wp Q X = Q a := id rfl
@[simp] theorem Res.wp_exc {α : Type} {c : Str} {Q : α → Prop} {X : Str → Prop} : (Res.exc c : Res α).wp Q X = X c := id rfl
@[simp] theorem Res.wp_bad {α : Type} {Q : α → Prop} {X : Str → Prop} : (Res.bad : Res α).wp Q X = False := id rfl
@[simp] theorem Res.bind_ok' {α β : Type} (a : α) (k : α → Res β) : (Res.ok a).bind k = k a := id rfl
@[simp] theorem Res.bind_exc' {α β : Type} (c : Str) (k : α → Res β) : (Res.exc c : Res α).bind k = .exc c := id rfl
@[simp] theorem Res.bind_bad' {α β : Type} (k : α → Res β) : (Res.bad : Res α).bind k = .bad := id rfl
@[simp] theorem nox_ok' {α : Type} (a : α) : nox (.ok a) = .ok a := id rfl
theorem Res.wp_bind {α β : Type} {r : Res α} {k : α → Res β} {Q : β → Prop} {X : Str → Prop} : (r.bind k).wp Q X = r.wp (fun a => (k a).wp Q X) X := by cases r <;> rfl
@[simp] theorem Res.bind_assoc {α β γ : Type} {r : Res α} {k : α → Res β} {l : β → Res γ} : (r.bind k).bind l = r.bind fun a => (k a).bind l := by cases r <;> rfl
theorem Res.bind_ite {α β : Type} {c : Prop} [Decidable c] {r r' : Res α} {k : α → Res β} : (if c then r else r').bind k = if c then r.bind k else r'.bind k := by split <;> rfl
theorem Res.wp_mono {α : Type} {r : Res α} {Q Q' : α → Prop} {X X' : Str → Prop} (h : r.wp Q X) (hq : ∀ a, Q a → Q' a) (hx : ∀ c, X c → X' c) : r.wp Q' X' := by
  cases r with
  | ok a => exact hq a h
  | exc c => exact hx c h
  | bad => exact h
theorem Res.wp_then {α β : Type} {r : Res α} {k : α → Res β} {Q : β → Prop} {X : Str → Prop} {Q1 : α → Prop} {X1 : Str → Prop} (h : r.wp Q1 X1) (hq : ∀ a, Q1 a → (k a).wp Q X) (hx : ∀ c, X1 c → X c) : (r.bind k).wp Q X := by
  rw [Res.wp_bind]
  exact Res.wp_mono h hq hx
theorem Res.ok_of_wp {α : Type} {r : Res α} {Q : α → Prop} (h : r.wp Q fun _ => False) : ∃ a, r = .ok a ∧ Q a := by
  cases r with
  | ok a => exact ⟨a, rfl, h⟩
  | exc c => exact h.elim
  | bad => exact h.elim
/-- the greatest length; nothing unfolds it -/
noncomputable def SL : { n : Nat // n = sizeLine } := Classical.choice ⟨⟨sizeLine, rfl⟩⟩
def onB {α : Type} (w : W) (f g : Res α) : Res α := match w with
  | .d (.bool true) => f
  | .d (.bool false) => g
  | _ => .bad
@[simp] theorem onB_b {α : Type} {b : Bool} {f g : Res α} : onB (.d (.bool b)) f g = if b then f else g := by cases b <;> rfl
section
variable {e : List (Option W)} {m : List (Option Cell)} {b : Nat} {i j : Nat} {w w1 w2 : W} {s : S} {x y z : D} {xs ys zs : List D} {fa fb fc fe fo fi : EM} {ga : AM} {t u : TM} {f g h : SM} {mem : List (Option Cell)} {n : Int}
@[simp] theorem eVar_mk : eVar i ⟨e, m, b⟩ = match e[i]? with
  | some (some w) => .ok (w, ⟨e, m, b⟩)
  | _ => .bad := id rfl
@[simp] theorem eC_mk : eC x s = .ok (.d x, s) := id rfl
@[simp] theorem eBin_mk {gg : W → W → EM} : eBin gg fa fb ⟨e, m, b⟩ = (fa ⟨e, m, b⟩).bind fun p => (fb p.2).bind fun q => gg p.1 q.1 q.2 := id rfl
@[simp] theorem g2I_mk {k : Int → Int → Option D} {i j : Int} : g2I k (.d (.int i)) (.d (.int j)) s = match k i j with
  | some x => .ok (.d x, s)
  | none => .bad := id rfl
@[simp] theorem dat_d : dat s (.d x) = some x := id rfl
@[simp] theorem dat_f : dat s (.f xs) = some (.list xs) := id rfl
@[simp] theorem dat_cc : dat ⟨e, m, b⟩ (.c i) = match m[i]? with
  | some (some (.l xs)) => some (.list xs)
  | _ => none := id rfl
@[simp] theorem gEq_mk {k : Bool} : gEq k w1 w2 ⟨e, m, b⟩ = match dat ⟨e, m, b⟩ w1, dat ⟨e, m, b⟩ w2 with
  | some x, some y => if scD x y || (SeqAt.shaped x && SeqAt.shaped y) then .ok (.d (.bool (if k then !PyData.eqv x y else PyData.eqv x y)), ⟨e, m, b⟩) else .bad
  | _, _ => .bad := id rfl
@[simp] theorem gIsN_mk {k : Bool} : gIsN k w1 w2 ⟨e, m, b⟩ = match w2 with
  | .d .none => .ok (.d (.bool (match w1 with
    | .d .none => !k
    | _ => k)), ⟨e, m, b⟩)
  | _ => .bad := id rfl
@[simp] theorem tOf_mk : tOf fa ⟨e, m, b⟩ = (fa ⟨e, m, b⟩).bind fun p => match p.1 with
  | .d (.bool b) => .ok (b, p.2)
  | _ => .bad := id rfl
@[simp] theorem tAnd_mk : tAnd_ t u ⟨e, m, b⟩ = (t ⟨e, m, b⟩).bind fun p => if p.1 then u p.2 else .ok (false, p.2) := id rfl
@[simp] theorem tOr_mk : tOr_ t u ⟨e, m, b⟩ = (t ⟨e, m, b⟩).bind fun p => if p.1 then .ok (true, p.2) else u p.2 := id rfl
@[simp] theorem tNot_mk : tNot_ t ⟨e, m, b⟩ = (t ⟨e, m, b⟩).bind fun p => .ok (!p.1, p.2) := id rfl
@[simp] theorem tYes_mk : tYes_ s = .ok (true, s) := id rfl
@[simp] theorem eAnd_mk : eAnd_ fa fb ⟨e, m, b⟩ = (fa ⟨e, m, b⟩).bind fun p => onB p.1 (fb p.2) (.ok (.d (.bool false), p.2)) := id rfl
@[simp] theorem eOr_mk : eOr_ fa fb ⟨e, m, b⟩ = (fa ⟨e, m, b⟩).bind fun p => onB p.1 (.ok (.d (.bool true), p.2)) (fb p.2) := id rfl
@[simp] theorem eNot_mk : eNot_ fa ⟨e, m, b⟩ = (fa ⟨e, m, b⟩).bind fun p => match p.1 with
  | .d (.bool b) => .ok (.d (.bool (!b)), p.2)
  | _ => .bad := id rfl
@[simp] theorem eIf_mk : eIf_ t fa fb ⟨e, m, b⟩ = (t ⟨e, m, b⟩).bind fun p => if p.1 then fa p.2 else fb p.2 := id rfl
@[simp] theorem toD_d : toD (.d x) s = some (x, s) := id rfl
@[simp] theorem toD_f : toD (.f xs) s = some (.list xs, s) := id rfl
@[simp] theorem toD_c : toD (.c i) ⟨e, m, b⟩ = match m[i]? with
  | some (some (.l xs)) => if b ≤ i then some (.list xs, ⟨e.map (frzO i xs), m.set i none, b⟩) else none
  | _ => none := id rfl
@[simp] theorem frzO_n {k : Nat} : frzO k xs none = none := id rfl
@[simp] theorem frzO_d {k : Nat} : frzO k xs (some (.d x)) = some (.d x) := id rfl
@[simp] theorem frzO_c {k : Nat} : frzO k xs (some (.c j)) = if j = k then some (.d (.list xs)) else some (.c j) := id rfl
@[simp] theorem aNil_mk : aNil s = .ok ([], s) := id rfl
@[simp] theorem aConsF_mk : aCons false fa ga ⟨e, m, b⟩ = (fa ⟨e, m, b⟩).bind fun p => match toD p.1 p.2 with
  | some (x, s2) => (ga s2).bind fun q => .ok (.d x :: q.1, q.2)
  | none => .bad := by
  unfold aCons
  cases fa ⟨e, m, b⟩ <;> rfl
@[simp] theorem aConsT_mk : aCons true fa ga ⟨e, m, b⟩ = (fa ⟨e, m, b⟩).bind fun p => match p.1 with
  | .c n => (ga p.2).bind fun q => .ok (.c n :: q.1, q.2)
  | _ => .bad := by
  unfold aCons
  cases q : fa ⟨e, m, b⟩ with
  | ok a => obtain ⟨w, s⟩ := a; cases w <;> rfl
  | exc c => rfl
  | bad => rfl
@[simp] theorem eCall_mk {Fm : FM} : eCall Fm ga ⟨e, m, b⟩ = (ga ⟨e, m, b⟩).bind fun p => (Fm p.2.mem p.1).bind fun q => .ok (q.1, ⟨p.2.env, q.2, p.2.base⟩) := id rfl
@[simp] theorem sNil_mk : sNil s = .ok (.nx, s) := id rfl
@[simp] theorem sCons_mk : sCons f g ⟨e, m, b⟩ = (f ⟨e, m, b⟩).bind fun p => match p.1 with
  | .nx => g p.2
  | o => .ok (o, p.2) := id rfl
@[simp] theorem sRet_mk : sRet fa ⟨e, m, b⟩ = (fa ⟨e, m, b⟩).bind fun p => .ok (.rt p.1, p.2) := id rfl
@[simp] theorem sRetN_mk : sRetN s = .ok (.rt (.d .none), s) := id rfl
@[simp] theorem sExpr_mk : sExpr fa ⟨e, m, b⟩ = (fa ⟨e, m, b⟩).bind fun p => .ok (.nx, p.2) := id rfl
@[simp] theorem sIf_mk : sIf t f g ⟨e, m, b⟩ = (t ⟨e, m, b⟩).bind fun p => if p.1 then f p.2 else g p.2 := id rfl
@[simp] theorem sRaise_mk {c : Str} : sRaise c s = .exc c := id rfl
@[simp] theorem store_d {c : Bool} : store c i (.d x) ⟨e, m, b⟩ = if i < e.length then some ⟨e.set i (some (.d x)), m, b⟩ else none := id rfl
@[simp] theorem store_c {c : Bool} : store c i (.c j) ⟨e, m, b⟩ = if i < e.length then some ⟨e.set i (some (.c j)), m, b⟩ else none := id rfl
@[simp] theorem store_ft : store true i (.f xs) ⟨e, m, b⟩ = if i < e.length then some ⟨e.set i (some (.c m.length)), m ++ [some (.l xs)], b⟩ else none := id rfl
@[simp] theorem store_ff : store false i (.f xs) ⟨e, m, b⟩ = if i < e.length then some ⟨e.set i (some (.d (.list xs))), m, b⟩ else none := id rfl
@[simp] theorem sSet_mk {c : Bool} : sSet c i fa ⟨e, m, b⟩ = (fa ⟨e, m, b⟩).bind fun p => match store c i p.1 p.2 with
  | some s' => .ok (.nx, s')
  | none => .bad := id rfl
@[simp] theorem fnOf_mk {N : List Str} {ws : List W} : fnOf N g mem ws = fin mem (g ⟨ws.map some ++ List.replicate (N.length - ws.length) none, mem, mem.length⟩) := id rfl
@[simp] theorem fin_bind {α : Type} {r : Res α} {k : α → Res (Out × S)} : fin mem (r.bind k) = r.bind fun a => fin mem (k a) := by unfold fin; cases r <;> rfl
@[simp] theorem fin_nx : fin mem (.ok (.nx, ⟨e, m, b⟩)) = .ok (.d .none, m.take mem.length) := id rfl
@[simp] theorem fin_d : fin mem (.ok (.rt (.d x), ⟨e, m, b⟩)) = .ok (.d x, m.take mem.length) := id rfl
@[simp] theorem fin_f : fin mem (.ok (.rt (.f xs), ⟨e, m, b⟩)) = .ok (.f xs, m.take mem.length) := id rfl
@[simp] theorem fin_c : fin mem (.ok (.rt (.c i), ⟨e, m, b⟩)) = if i < mem.length then .ok (.c i, m.take mem.length) else (match m[i]? with
  | some (some (.l xs)) => .ok (.f xs, m.take mem.length)
  | _ => .bad) := id rfl
@[simp] theorem fin_exc {c : Str} : fin mem (.exc c) = .exc c := id rfl
@[simp] theorem fin_bad : fin mem .bad = .bad := id rfl
@[simp] theorem dsOf_nil : dsOf [] = some [] := id rfl
@[simp] theorem dsOf_cons {ws : List W} : dsOf (.d x :: ws) = (dsOf ws).map (x :: ·) := id rfl
@[simp] theorem eTup_mk : eTup ga ⟨e, m, b⟩ = (ga ⟨e, m, b⟩).bind fun p => match dsOf p.1 with
  | some ds => if ds.length ≤ SL.1 then .ok (.d (.tuple ds), p.2) else .bad
  | none => .bad := by rw [SL.2]; rfl
@[simp] theorem eLst_mk : eLst ga ⟨e, m, b⟩ = (ga ⟨e, m, b⟩).bind fun p => match dsOf p.1 with
  | some ds => if ds.length ≤ SL.1 then .ok (.f ds, p.2) else .bad
  | none => .bad := by rw [SL.2]; rfl
@[simp] theorem eB1_mk {gg : W → EM} : eB1 gg fa ⟨e, m, b⟩ = (fa ⟨e, m, b⟩).bind fun p => gg p.1 p.2 := id rfl
@[simp] theorem gLen_mk : gLen w ⟨e, m, b⟩ = match dat ⟨e, m, b⟩ w with
  | some (.list xs) => .ok (.d (.int xs.length), ⟨e, m, b⟩)
  | some (.tuple xs) => .ok (.d (.int xs.length), ⟨e, m, b⟩)
  | some (.str z) => if z.length ≤ SL.1 then .ok (.d (.int z.length), ⟨e, m, b⟩) else .bad
  | _ => .bad := by rw [SL.2]; rfl
@[simp] theorem gAll_mk {k : Bool} : gAll k w ⟨e, m, b⟩ = match dat ⟨e, m, b⟩ w with
  | some (.list xs) => (match boolsOf xs with
    | some bs => .ok (.d (.bool (if k then bs.any id else bs.all id)), ⟨e, m, b⟩)
    | none => .bad)
  | _ => .bad := id rfl
@[simp] theorem eIsi_mk {k : D → Bool} : eIsi k fa ⟨e, m, b⟩ = (fa ⟨e, m, b⟩).bind fun p => gIsi k p.1 p.2 := id rfl
@[simp] theorem gIsi_mk {k : D → Bool} : gIsi k w ⟨e, m, b⟩ = match dat ⟨e, m, b⟩ w with
  | some x => .ok (.d (.bool (k x)), ⟨e, m, b⟩)
  | none => .bad := id rfl
@[simp] theorem gIx_mk : gIx w1 w2 ⟨e, m, b⟩ = match dat ⟨e, m, b⟩ w1, w2 with
  | some (.list xs), .d (.int i) => (match atI xs i with
    | some x => .ok (.d x, ⟨e, m, b⟩)
    | none => .bad)
  | some (.tuple xs), .d (.int i) => (match atI xs i with
    | some x => .ok (.d x, ⟨e, m, b⟩)
    | none => .bad)
  | some (.str z), .d (.int i) => (match atI z.cps.toList i with
    | some c => if z.length ≤ SL.1 then .ok (.d (.str ⟨#[c]⟩), ⟨e, m, b⟩) else .bad
    | none => .bad)
  | _, _ => .bad := by rw [SL.2]; rfl
@[simp] theorem iOf_mk : iOf fa ⟨e, m, b⟩ = (fa ⟨e, m, b⟩).bind fun p => match toD p.1 p.2 with
  | some (.list xs, s') => .ok (xs, s')
  | some (.tuple xs, s') => .ok (xs, s')
  | some (.str z, s') => .ok (z.cps.toList.map fun (c : Nat) => PyData.str ⟨#[c]⟩, s')
  | _ => .bad := id rfl
@[simp] theorem iRange1_mk : iRange1 fa ⟨e, m, b⟩ = (fa ⟨e, m, b⟩).bind fun p => match p.1 with
  | .d (.int j) => if inB j then .ok ((List.range j.toNat).map fun (i : Nat) => PyData.int (0 + i), p.2) else .bad
  | _ => .bad := id rfl
@[simp] theorem iRange2_mk : iRange2 fa fb ⟨e, m, b⟩ = (fa ⟨e, m, b⟩).bind fun p => (fb p.2).bind fun q => match p.1, q.1 with
  | .d (.int i), .d (.int j) => if inB i && inB j then .ok ((List.range (j - i).toNat).map fun (k : Nat) => PyData.int (i + k), q.2) else .bad
  | _, _ => .bad := id rfl
@[simp] theorem iRange3_mk : iRange3 fa fb fc ⟨e, m, b⟩ = (fa ⟨e, m, b⟩).bind fun p => (fb p.2).bind fun q => (fc q.2).bind fun t => match p.1, q.1, t.1 with
  | .d (.int i), .d (.int j), .d (.int c) => if inB i && inB j && decide (c = -1) then .ok ((List.range (i - j).toNat).map fun (k : Nat) => PyData.int (i + (k : Int) * (-1)), t.2) else .bad
  | _, _, _ => .bad := id rfl
@[simp] theorem iEnumL_mk : iEnumL fa ⟨e, m, b⟩ = (lstOnly fa ⟨e, m, b⟩).bind fun p => .ok (enumFrom 0 p.1, p.2) := id rfl
@[simp] theorem lstOnly_mk : lstOnly fa ⟨e, m, b⟩ = (fa ⟨e, m, b⟩).bind fun p => match toD p.1 p.2 with
  | some (.list xs, s') => .ok (xs, s')
  | _ => .bad := id rfl
@[simp] theorem iZip2_mk : iZip2 fa fb ⟨e, m, b⟩ = (fa ⟨e, m, b⟩).bind fun p => match toD p.1 p.2 with
  | some (x, s1) => (fb s1).bind fun q => (match toD q.1 q.2 with
    | some (y, s2) => (match x, y with
      | .list xs, .list ys => .ok (zip2 xs ys, s2)
      | .tuple xs, .tuple ys => .ok (zip2 xs ys, s2)
      | _, _ => .bad)
    | none => .bad)
  | none => .bad := id rfl
@[simp] theorem iZip3_mk : iZip3 fa fb fc ⟨e, m, b⟩ = (fa ⟨e, m, b⟩).bind fun p => match p.1 with
  | .d (.tuple xs) => (fb p.2).bind fun q => (match q.1 with
    | .d (.tuple ys) => (fc q.2).bind fun r => (match r.1 with
      | .d (.tuple zs) => .ok (zip3 xs ys zs, r.2)
      | _ => .bad)
    | _ => .bad)
  | _ => .bad := id rfl
@[simp] theorem gT1_mk : gT1 i x ⟨e, m, b⟩ = if i < e.length then some ⟨e.set i (some (.d x)), m, b⟩ else none := id rfl
@[simp] theorem putAll_nil : putAll [] [] s = some s := id rfl
@[simp] theorem putAll_cons {is : List Nat} : putAll (i :: is) (x :: xs) ⟨e, m, b⟩ = if i < e.length then putAll is xs ⟨e.set i (some (.d x)), m, b⟩ else none := id rfl
@[simp] theorem gTupT_mk {is : List Nat} : gTupT is (.tuple xs) s = putAll is xs s := id rfl
@[simp] theorem gTupT_mkl {is : List Nat} : gTupT is (.list xs) s = putAll is xs s := id rfl
@[simp] theorem sTup_mk {is : List Nat} : sTup is fa ⟨e, m, b⟩ = (fa ⟨e, m, b⟩).bind fun p => match p.1 with
  | .d x => (match gTupT is x p.2 with
    | some s' => .ok (.nx, s')
    | none => .bad)
  | _ => .bad := id rfl
@[simp] theorem sFor_mk {it : IM} {tgt : GM} {body : SM} : sFor it tgt body ⟨e, m, b⟩ = (it ⟨e, m, b⟩).bind fun p => forGo tgt body p.1 p.2 := id rfl
@[simp] theorem wipeE_nil : wipeE e [] = e := id rfl
@[simp] theorem wipeE_cons {vs : List Nat} : wipeE e (i :: vs) = (wipeE e vs).set i none := id rfl
@[simp] theorem eLc_mk {own : List Nat} {it : IM} {tgt : GM} : eLc own it tgt t fe ⟨e, m, b⟩ = (it ⟨e, m, b⟩).bind fun p => (lcGo own tgt t fe p.2.env p.1 p.2 []).bind fun q => .ok (.f q.1, q.2) := id rfl
@[simp] theorem gAdd_mk : gAdd w1 w2 ⟨e, m, b⟩ = match dat ⟨e, m, b⟩ w1, dat ⟨e, m, b⟩ w2 with
  | some (.int i), some (.int j) => .ok (.d (.int (i + j)), ⟨e, m, b⟩)
  | some (.str x), some (.str y) => if x.length + y.length ≤ SL.1 then .ok (.d (.str (x ++ y)), ⟨e, m, b⟩) else .bad
  | some (.list xs), some (.list ys) => if xs.length + ys.length ≤ SL.1 then .ok (.f (xs ++ ys), ⟨e, m, b⟩) else .bad
  | some (.tuple xs), some (.tuple ys) => if xs.length + ys.length ≤ SL.1 then .ok (.d (.tuple (xs ++ ys)), ⟨e, m, b⟩) else .bad
  | _, _ => .bad := by rw [SL.2]; rfl
@[simp] theorem gMul_mk : gMul w1 w2 ⟨e, m, b⟩ = match w1, w2 with
  | .d (.int i), .d (.int j) => if cMul i j = true then .ok (.d (.int (i * j)), ⟨e, m, b⟩) else .bad
  | .f xs, .d (.int k) => if cRep xs.length k = true then .ok (.f (List.replicate k.toNat xs).flatten, ⟨e, m, b⟩) else .bad
  | .d (.tuple xs), .d (.int k) => if cRepT xs.length k = true then .ok (.d (.tuple (List.replicate k.toNat xs).flatten), ⟨e, m, b⟩) else .bad
  | _, _ => .bad := id rfl
@[simp] theorem eNeg_mk : eNeg fa ⟨e, m, b⟩ = (fa ⟨e, m, b⟩).bind fun p => match p.1 with
  | .d (.int i) => .ok (.d (.int (-i)), p.2)
  | _ => .bad := id rfl
@[simp] theorem gOrd_i {fi' : Int → Int → Bool} {fs : Str → Str → Bool} {i j : Int} : gOrd fi' fs (.d (.int i)) (.d (.int j)) s = .ok (.d (.bool (fi' i j)), s) := id rfl
@[simp] theorem gOrd_s {fi' : Int → Int → Bool} {fs : Str → Str → Bool} {i j : Str} : gOrd fi' fs (.d (.str i)) (.d (.str j)) s = .ok (.d (.bool (fs i j)), s) := id rfl
@[simp] theorem eChain_mk {g1 g2 : W → W → EM} : eChain g1 g2 fa fb fc ⟨e, m, b⟩ = (fa ⟨e, m, b⟩).bind fun p => (fb p.2).bind fun q => (g1 p.1 q.1 q.2).bind fun t => onB t.1 ((fc t.2).bind fun u => g2 q.1 u.1 u.2) (.ok (.d (.bool false), t.2)) := id rfl
@[simp] theorem gIn_mk {k : Bool} : gIn k w1 w2 ⟨e, m, b⟩ = match dat ⟨e, m, b⟩ w1, dat ⟨e, m, b⟩ w2 with
  | some x, some (.list xs) => if flatD x && xs.all flatD then .ok (.d (.bool (if k then !inD x xs else inD x xs)), ⟨e, m, b⟩) else .bad
  | some x, some (.tuple xs) => if flatD x && xs.all flatD then .ok (.d (.bool (if k then !inD x xs else inD x xs)), ⟨e, m, b⟩) else .bad
  | some (.str x), some (.str y) => (match x.cps.toList with
    | [c] => .ok (.d (.bool (if k then !decide (c ∈ y.cps.toList) else decide (c ∈ y.cps.toList))), ⟨e, m, b⟩)
    | _ => .bad)
  | _, _ => .bad := id rfl
@[simp] theorem oNone_mk : oNone s = .ok (none, s) := id rfl
@[simp] theorem oSome_mk : oSome fa ⟨e, m, b⟩ = (fa ⟨e, m, b⟩).bind fun p => match p.1 with
  | .d (.int i) => .ok (some i, p.2)
  | _ => .bad := id rfl
@[simp] theorem eSl_mk {fl fh : OM} : eSl fe fl fh ⟨e, m, b⟩ = (fe ⟨e, m, b⟩).bind fun p => (fl p.2).bind fun l => (fh l.2).bind fun h => gSl l.1 h.1 p.1 h.2 := id rfl
@[simp] theorem gSl_mk {lo hi : Option Int} : gSl lo hi w ⟨e, m, b⟩ = match dat ⟨e, m, b⟩ w with
  | some (.list xs) => .ok (.f (cutD xs lo hi), ⟨e, m, b⟩)
  | some (.tuple xs) => .ok (.d (.tuple (cutD xs lo hi)), ⟨e, m, b⟩)
  | some (.str z) => if z.length ≤ SL.1 then .ok (.d (.str (cutS z lo hi)), ⟨e, m, b⟩) else .bad
  | _ => .bad := by rw [SL.2]; rfl
@[simp] theorem gList_mk : gList w ⟨e, m, b⟩ = match dat ⟨e, m, b⟩ w with
  | some (.list xs) => .ok (.f xs, ⟨e, m, b⟩)
  | some (.tuple xs) => .ok (.f xs, ⟨e, m, b⟩)
  | _ => .bad := id rfl
@[simp] theorem gTuple_mk : gTuple w ⟨e, m, b⟩ = match dat ⟨e, m, b⟩ w with
  | some (.list xs) => .ok (.d (.tuple xs), ⟨e, m, b⟩)
  | some (.tuple xs) => .ok (.d (.tuple xs), ⟨e, m, b⟩)
  | _ => .bad := id rfl
@[simp] theorem gInt_i : gInt (.d (.int n)) s = .ok (.d (.int n), s) := id rfl
@[simp] theorem gAbs_i : gAbs (.d (.int n)) s = .ok (.d (.int (if n < 0 then -n else n)), s) := id rfl
@[simp] theorem gOrdC_s {z : Str} : gOrdC (.d (.str z)) s = if z.length = 1 then .ok (.d (.int (z.cps.getD 0 0 : Nat)), s) else .bad := id rfl
@[simp] theorem gSorted_mk : gSorted w ⟨e, m, b⟩ = match dat ⟨e, m, b⟩ w with
  | some (.list xs) => (match intsOf xs with
    | some ns => .ok (.f ((sortI ns).map PyData.int), ⟨e, m, b⟩)
    | none => .bad)
  | _ => .bad := id rfl
@[simp] theorem eJoin_mk : eJoin fa fb ⟨e, m, b⟩ = (fa ⟨e, m, b⟩).bind fun p => match p.1 with
  | .d (.str z) => (fb p.2).bind fun q => (match dat q.2 q.1 with
    | some (.list xs) => (match strsOf xs with
      | some ys => if (ys.map (·.length)).sum + ys.length * z.length ≤ 16777216 then .ok (.d (.str (Txt.join z ys)), q.2) else .bad
      | none => .bad)
    | _ => .bad)
  | _ => .bad := id rfl
@[simp] theorem eMeth_mk {gg : MM} : eMeth gg fo ga ⟨e, m, b⟩ = (fo ⟨e, m, b⟩).bind fun p => match p.1 with
  | .c n => (match p.2.mem[n]? with
    | some (some (.l _)) => (ga p.2).bind fun q => (match q.2.mem[n]? with
      | some (some (.l xs)) => (match gg xs q.1 with
        | some (x, ys) => .ok (.d x, ⟨q.2.env, q.2.mem.set n (some (.l ys)), q.2.base⟩)
        | none => .bad)
      | _ => .bad)
    | _ => .bad)
  | _ => .bad := id rfl
@[simp] theorem mAppend_mk : mAppend xs [.d x] = if xs.length < SL.1 then some (.none, xs ++ [x]) else none := by rw [SL.2]; rfl
@[simp] theorem mExtend_mk : mExtend xs [.d (.list zs)] = if xs.length + zs.length ≤ SL.1 then some (.none, xs ++ zs) else none := by rw [SL.2]; rfl
@[simp] theorem sItem_mk : sItem fe fo fi ⟨e, m, b⟩ = (fe ⟨e, m, b⟩).bind fun p => match toD p.1 p.2 with
  | some (x, s1) => (fo s1).bind fun q => (match q.1 with
    | .c n => (fi q.2).bind fun t => (match t.1, t.2.mem[n]? with
      | .d (.int i), some (some (.l xs)) => (match ixN xs.length i with
        | some j => .ok (.nx, ⟨t.2.env, t.2.mem.set n (some (.l (xs.set j x))), t.2.base⟩)
        | none => .bad)
      | _, _ => .bad)
    | _ => .bad)
  | none => .bad := id rfl
@[simp] theorem sAug_mk {k : Int → Int → Int} : sAug k i fe ⟨e, m, b⟩ = match e[i]? with
  | some (some (.d (.int x))) => (fe ⟨e, m, b⟩).bind fun p => (match p.1 with
    | .d (.int y) => if i < p.2.env.length then .ok (.nx, ⟨p.2.env.set i (some (.d (.int (k x y)))), p.2.mem, p.2.base⟩) else .bad
    | _ => .bad)
  | _ => .bad := id rfl
@[simp] theorem sPar_mk {c1 c2 : Bool} : sPar c1 c2 i j fa fb ⟨e, m, b⟩ = (fa ⟨e, m, b⟩).bind fun p => (fb p.2).bind fun q => match store c1 i p.1 q.2 with
  | some s1 => (match store c2 j q.1 s1 with
    | some s2 => .ok (.nx, s2)
    | none => .bad)
  | none => .bad := id rfl
@[simp] theorem gRev_mk : gRev w ⟨e, m, b⟩ = match dat ⟨e, m, b⟩ w with
  | some (.list xs) => .ok (.f xs.reverse, ⟨e, m, b⟩)
  | some (.tuple xs) => .ok (.d (.tuple xs.reverse), ⟨e, m, b⟩)
  | _ => .bad := id rfl
@[simp] theorem eDic_mk : eDic s = .ok (.d (.dict []), s) := id rfl
@[simp] theorem sNewD_mk : sNewD i ⟨e, m, b⟩ = if i < e.length then .ok (.nx, ⟨e.set i (some (.c m.length)), m ++ [some (.m [])], b⟩) else .bad := id rfl
@[simp] theorem sPut_mk : sPut fe fo fi ⟨e, m, b⟩ = (fe ⟨e, m, b⟩).bind fun p => match toD p.1 p.2 with
  | some (x, s1) => (fo s1).bind fun q => (match q.1 with
    | .c n => (fi q.2).bind fun t => (match keyOf t.1, t.2.mem[n]? with
      | some k, some (some (.m kvs)) => if kvs.length < SL.1 then .ok (.nx, ⟨t.2.env, t.2.mem.set n (some (.m (putD kvs k x))), t.2.base⟩) else .bad
      | _, _ => .bad)
    | _ => .bad)
  | none => .bad := by rw [SL.2]; rfl
@[simp] theorem keyOf_i : keyOf (.d (.int n)) = some (.inl n) := id rfl
@[simp] theorem gListM_mk : gListM (.c i) ⟨e, m, b⟩ = match m[i]? with
  | some (some (.m kvs)) => .ok (.f (kvs.map fun kv => kD kv.1), ⟨e, m, b⟩)
  | _ => .bad := id rfl
@[simp] theorem eTupRg_mk : eTupRg fa ⟨e, m, b⟩ = (fa ⟨e, m, b⟩).bind fun p => match p.1 with
  | .d (.int n) => if 0 ≤ n ∧ n ≤ 16777216 then .ok (.d (.tuple (rgD n)), p.2) else .bad
  | _ => .bad := id rfl
@[simp] theorem eLenKeys_mk : eLenKeys i fa ⟨e, m, b⟩ = (fa ⟨e, m, b⟩).bind fun p => match p.1 with
  | .d (.tuple xs) => (match intsOf xs with
    | some ns => if ns.length < SL.1 ∧ i < p.2.env.length then .ok (.d (.int (keysV ns).length), p.2) else .bad
    | none => .bad)
  | _ => .bad := by rw [SL.2]; rfl
@[simp] theorem take_set_self {α : Type} {l : List α} {k : Nat} {x : α} : (l.set k x).take l.length = l.set k x := List.take_of_length_le (by simp)
@[simp] theorem take_set_app {α : Type} {l r : List α} {k : Nat} {x : α} : (l.set k x ++ r).take l.length = l.set k x := by
  have h : l.length = (l.set k x).length := by simp
  rw [h, List.take_left']
  rfl
theorem atI_nat {α : Type} {l : List α} {k : Nat} : atI l (k : Int) = l[k]? := by
  unfold atI ixN
  rw [if_pos (by omega)]
  by_cases h : k < l.length
  · rw [if_pos (by omega)]
    simp
  · rw [if_neg (by omega), List.getElem?_eq_none (by omega)]
    rfl
@[simp] theorem atI_k {α : Type} {l : List α} {k : Nat} : atI l (k : Int) = l[k]? := atI_nat
@[simp] theorem atI_k1 {α : Type} {l : List α} {k : Nat} : atI l ((k : Int) + 1) = l[k + 1]? := atI_nat (k := k + 1)
@[simp] theorem atI_0 {α : Type} {l : List α} : atI l 0 = l[0]? := atI_nat (k := 0)
@[simp] theorem atI_1 {α : Type} {l : List α} : atI l 1 = l[1]? := atI_nat (k := 1)
@[simp] theorem atI_2 {α : Type} {l : List α} : atI l 2 = l[2]? := atI_nat (k := 2)
@[simp] theorem atI_3 {α : Type} {l : List α} : atI l 3 = l[3]? := atI_nat (k := 3)
@[simp] theorem atI_4 {α : Type} {l : List α} : atI l 4 = l[4]? := atI_nat (k := 4)
@[simp] theorem atI_5 {α : Type} {l : List α} : atI l 5 = l[5]? := atI_nat (k := 5)
@[simp] theorem atI_6 {α : Type} {l : List α} : atI l 6 = l[6]? := atI_nat (k := 6)
@[simp] theorem atI_7 {α : Type} {l : List α} : atI l 7 = l[7]? := atI_nat (k := 7)
@[simp] theorem atI_8 {α : Type} {l : List α} : atI l 8 = l[8]? := atI_nat (k := 8)
@[simp] theorem atI_9 {α : Type} {l : List α} : atI l 9 = l[9]? := atI_nat (k := 9)
@[simp] theorem atI_last {α : Type} {l : List α} : atI l (-1) = l.getLast? := by
  unfold atI ixN
  rw [if_neg (by decide)]
  cases l with
  | nil => rfl
  | cons x r =>
    rw [if_pos (by simp; omega)]
    rw [List.getLast?_eq_getElem?]
    have : (-1 + ((x :: r).length : Int)).toNat = (x :: r).length - 1 := by simp; omega
    rw [Option.bind_some, this]
@[simp] theorem ixN_0 {k : Nat} : ixN (k + 1) 0 = some 0 := by unfold ixN; rw [if_pos (by decide), if_pos (by omega)]; rfl
@[simp] theorem ixN_1 {k : Nat} : ixN (k + 1 + 1) 1 = some 1 := by unfold ixN; rw [if_pos (by decide), if_pos (by omega)]; rfl
theorem ixN_nat {n k : Nat} (h : k < n) : ixN n (k : Int) = some k := by unfold ixN; rw [if_pos (by omega), if_pos (by omega)]; rfl
end
/-! ### loops -/
section
variable {tgt : GM} {body : SM} {t : TM} {fe : EM} {X : Str → Prop}
/-- what a turn's end asks -/
def turnQ (nxt : S → Prop) (Q : Out × S → Prop) : Out × S → Prop := fun p => match p.1 with
  | .nx => nxt p.2
  | .ct => nxt p.2
  | .bk => Q (.nx, p.2)
  | .rt w => Q (.rt w, p.2)
@[simp] theorem turnQ_nx {nxt : S → Prop} {Q : Out × S → Prop} {s : S} : turnQ nxt Q (.nx, s) = nxt s := id rfl
@[simp] theorem turnQ_ct {nxt : S → Prop} {Q : Out × S → Prop} {s : S} : turnQ nxt Q (.ct, s) = nxt s := id rfl
@[simp] theorem turnQ_bk {nxt : S → Prop} {Q : Out × S → Prop} {s : S} : turnQ nxt Q (.bk, s) = Q (.nx, s) := id rfl
@[simp] theorem turnQ_rt {nxt : S → Prop} {Q : Out × S → Prop} {s : S} {w : W} : turnQ nxt Q (.rt w, s) = Q (.rt w, s) := id rfl
theorem forGo_wp {Q : Out × S → Prop} (I : List D → S → Prop) (step : ∀ d r s, I (d :: r) s → ∃ s1, tgt d s = some s1 ∧ (body s1).wp (turnQ (I r) Q) X) (done : ∀ s, I [] s → Q (.nx, s)) : ∀ (xs : List D) (s : S), I xs s → (forGo tgt body xs s).wp Q X
  | [], s, h => done s h
  | d :: r, s, h => by
    obtain ⟨s1, e, h1⟩ := step d r s h
    unfold forGo
    rw [e]
    dsimp only
    rw [Res.wp_bind]
    refine Res.wp_mono h1 (fun p hp => ?_) fun c hc => hc
    obtain ⟨o, s2⟩ := p
    cases o with
    | nx => exact forGo_wp I step done r s2 hp
    | ct => exact forGo_wp I step done r s2 hp
    | bk => exact hp
    | rt w => exact hp
theorem whGo_wp {Q : Out × S → Prop} (I : S → Prop) (μ : S → Nat) (step : ∀ s, I s → (t s).wp (fun b => if b.1 then (body b.2).wp (turnQ (fun s' => I s' ∧ μ s' < μ s) Q) X else Q (.nx, b.2)) X) : ∀ (n : Nat) (s : S), I s → μ s < n → (whGo t body n s).wp Q X
  | 0, s, _, h => by omega
  | n + 1, s, hI, h => by
    unfold whGo
    rw [Res.wp_bind]
    refine Res.wp_mono (step s hI) (fun b hb => ?_) fun c hc => hc
    obtain ⟨b, s1⟩ := b
    cases b with
    | false => exact hb
    | true =>
      dsimp only at hb ⊢
      rw [if_pos rfl] at hb ⊢
      rw [Res.wp_bind]
      refine Res.wp_mono hb (fun p hp => ?_) fun c hc => hc
      obtain ⟨o, s2⟩ := p
      cases o with
      | nx => exact whGo_wp I μ step n s2 hp.1 (by have := hp.2; dsimp only at this; omega)
      | ct => exact whGo_wp I μ step n s2 hp.1 (by have := hp.2; dsimp only at this; omega)
      | bk => exact hp
      | rt w => exact hp
/-- a comprehension: the rest, the state (its env is env0 between the turns), what is made -/
theorem lcGo_wp {own : List Nat} {env0 : List (Option W)} {Q : List D × S → Prop} (I : List D → List (Option Cell) → Nat → List D → Prop)
    (step : ∀ d r m b acc, I (d :: r) m b acc → ∃ s1, tgt d ⟨wipeE env0 own, m, b⟩ = some s1 ∧ (nox (t s1)).wp (fun c => if c.1 then (nox (fe c.2)).wp (fun p => ∃ x s3, toD p.1 p.2 = some (x, s3) ∧ acc.length < sizeLine ∧ I r s3.mem s3.base (acc ++ [x])) X else I r c.2.mem c.2.base acc) X)
    (done : ∀ m b acc, I [] m b acc → Q (acc, ⟨env0, m, b⟩)) : ∀ (xs : List D) (s : S) (acc : List D), s.env = env0 → I xs s.mem s.base acc → (lcGo own tgt t fe env0 xs s acc).wp Q X
  | [], s, acc, he, h => by
    obtain ⟨e, m, b⟩ := s
    dsimp only at he
    subst he
    exact done m b acc h
  | d :: r, s, acc, he, h => by
    obtain ⟨e, m, b⟩ := s
    obtain ⟨s1, e1, h1⟩ := step d r m b acc h
    unfold lcGo
    dsimp only
    rw [e1]
    dsimp only
    rw [Res.wp_bind]
    refine Res.wp_mono h1 (fun c hc => ?_) fun c hc => hc
    obtain ⟨c, s2⟩ := c
    cases c with
    | false => exact lcGo_wp I step done r ⟨env0, s2.mem, s2.base⟩ acc rfl hc
    | true =>
      dsimp only at hc ⊢
      rw [if_pos rfl] at hc ⊢
      rw [Res.wp_bind]
      refine Res.wp_mono hc (fun p hp => ?_) fun c hc => hc
      obtain ⟨x, s3, e3, hl, hI⟩ := hp
      rw [e3]
      dsimp only
      rw [if_pos hl]
      exact lcGo_wp I step done r ⟨env0, s3.mem, s3.base⟩ (acc ++ [x]) rfl hI
/-- .. that only looks: each item kept or not, and made -/
theorem lcGo_pure {own : List Nat} {env0 : List (Option W)} {m : List (Option Cell)} {b : Nat} (k : D → Option D) : ∀ (xs acc : List D)
    (_ : ∀ d ∈ xs, ∃ s1, tgt d ⟨wipeE env0 own, m, b⟩ = some s1 ∧ ((k d = none ∧ ∃ e2, t s1 = .ok (false, ⟨e2, m, b⟩)) ∨ ∃ x e2 w e3 e4, k d = some x ∧ t s1 = .ok (true, ⟨e2, m, b⟩) ∧ fe ⟨e2, m, b⟩ = .ok (w, ⟨e3, m, b⟩) ∧ toD w ⟨e3, m, b⟩ = some (x, ⟨e4, m, b⟩))) (_ : acc.length + xs.length ≤ sizeLine),
    lcGo own tgt t fe env0 xs ⟨env0, m, b⟩ acc = .ok (acc ++ xs.filterMap k, ⟨env0, m, b⟩)
  | [], acc, _, _ => by simp [lcGo]
  | d :: r, acc, h, hl => by
    obtain ⟨s1, e1, h1⟩ := h d (List.mem_cons_self ..)
    unfold lcGo
    dsimp only
    rw [e1]
    dsimp only
    rw [List.length_cons] at hl
    rcases h1 with ⟨kd, e2, ht⟩ | ⟨x, e2, w, e3, e4, kd, ht, hf, hd⟩
    · rw [ht, nox_ok, Res.bind_ok]
      dsimp only
      rw [if_neg Bool.false_ne_true, lcGo_pure k r acc (fun d hd => h d (List.mem_cons_of_mem _ hd)) (by omega), List.filterMap_cons, kd]
    · rw [ht, nox_ok, Res.bind_ok]
      dsimp only
      rw [if_pos rfl, hf, nox_ok, Res.bind_ok]
      dsimp only
      rw [hd]
      dsimp only
      rw [if_pos (by omega), lcGo_pure k r (acc ++ [x]) (fun d hd => h d (List.mem_cons_of_mem _ hd)) (by simp; omega), List.filterMap_cons, kd]
      simp
/-- .. without a test -/
theorem lcGo_map {own : List Nat} {env0 : List (Option W)} {m : List (Option Cell)} {b : Nat} (k : D → D) (xs : List D)
    (h : ∀ d ∈ xs, ∃ s1, tgt d ⟨wipeE env0 own, m, b⟩ = some s1 ∧ t s1 = .ok (true, s1) ∧ ∃ e3, s1 = ⟨s1.env, m, b⟩ ∧ fe s1 = .ok (.d (k d), ⟨e3, m, b⟩)) (hl : xs.length ≤ sizeLine) :
    lcGo own tgt t fe env0 xs ⟨env0, m, b⟩ [] = .ok (xs.map k, ⟨env0, m, b⟩) := by
  rw [lcGo_pure (fun d => some (k d)) xs [] (fun d hd => ?_) (by simpa using hl)]
  · simp
  · obtain ⟨s1, e1, ht, e3, es, hf⟩ := h d hd
    refine ⟨s1, e1, .inr ⟨k d, s1.env, .d (k d), e3, e3, rfl, ?_, ?_, rfl⟩⟩
    · rw [ht, ← es]
    · rw [← es]; exact hf
end
theorem sizeLine_big : 16777216 ≤ sizeLine := by rw [sizeLine_eq]; decide
theorem SL_big : 16777216 ≤ SL.1 := by rw [SL.2]; exact sizeLine_big
theorem cRep_ok {n : Nat} {k : Int} (h : -16777216 ≤ k) (h1 : k ≤ 16777216) (h2 : n * k.toNat ≤ 16777216) : cRep n k = true := by
  rw [cRep_eq]
  exact decide_eq_true ⟨by omega, by omega, Nat.le_trans h2 sizeLine_big⟩
theorem cRepT_ok {n : Nat} {k : Int} (h : n ≠ 0) (h1 : 2 ≤ k) (h2 : k ≤ 1000) (h3 : n ≤ 1000) : cRepT n k = true := by
  rw [cRepT_eq]
  exact decide_eq_true ⟨h, h1, h2, h3⟩
theorem SL_le {n : Nat} (h : n ≤ 16777216) : n ≤ SL.1 := Nat.le_trans h SL_big
theorem SL_lt {n : Nat} (h : n < 16777216) : n < SL.1 := Nat.lt_of_lt_of_le h SL_big
end
end PD

set_option Elab.async false
set_option linter.all false
set_option maxRecDepth 100000
set_option maxHeartbeats 4000000
/-! PDX: a call with a list that was just made, as a cell of its own -/
namespace PD
noncomputable section
open PySem PySem.Spec PyProof.Rows L2
section
variable {K : PySem.W.Frag} {F : Addr → Prop} {G H : Hp} {as : List Addr} {s : S} {σ : L2.St}
/-- an object that nobody knows may be anything -/
theorem Rep.touch {p : Addr} {o : HO} (R : Rep K F G H as σ s) (g : G p = none) (na : p ∉ as) (nf : ¬ F p) : Rep K F G (upd H p o) as σ s :=
  ⟨fun b u e => by
    have : b ≠ p := fun z => by rw [z, g] at e; cases e
    rw [upd_ne this]; exact R.same b u e, R.len, R.alen, R.nd, fun a h => by
    have : a ≠ p := fun z => na (z ▸ h)
    rw [upd_ne this]; exact R.dom a h, fun a h => by
    obtain ⟨k1, k2, k3⟩ := R.fo a h
    have : a ≠ p := fun z => nf (z ▸ h)
    exact ⟨k1, k2, by rw [upd_ne this]; exact k3⟩, fun n c e => by
    obtain ⟨a, k1, k2, k3⟩ := R.cell n c e
    have : a ≠ p := fun z => na (z ▸ List.mem_of_getElem? k1)
    exact ⟨a, k1, k2, k3.mono (Same.refl _) fun o z => by rw [upd_ne this]; exact z⟩, fun i w e => by
    obtain ⟨v, k1, k2, k3⟩ := R.env i w e
    refine ⟨v, k1, ?_, k3⟩
    cases w with
    | d x => exact k2
    | c n => exact k2
    | f ys => exact absurd rfl (k3 ys)⟩
/-- nothing is known of the cells any more -/
def forget (m : List (Option Cell)) : List (Option Cell) := m.map fun _ => none
theorem forget_no {m : List (Option Cell)} {n : Nat} {c : Cell} (h : (forget m)[n]? = some (some c)) : False := by
  unfold forget at h
  rw [List.getElem?_map] at h
  cases e : m[n]? with
  | none => rw [e] at h; cases h
  | some o => rw [e] at h; cases h
theorem Rep.forget (R : Rep K F G H as σ s) : Rep K F G H as σ { s with mem := PD.forget s.mem } :=
  ⟨R.same, R.len, by rw [R.alen]; unfold PD.forget; simp, R.nd, R.dom, R.fo, fun n c e => (forget_no e).elim, R.env⟩
theorem not_live_forget {m : List (Option Cell)} {env : List (Option W)} {b : Nat} {a : Addr} : ¬ live as ⟨env, PD.forget m, b⟩ a := fun ⟨n, c, e, _⟩ => forget_no e
end
def eCallF (Fm : FM) (f : EM) : EM := fun s => (f s).bind fun p => match p.1 with
  | .f xs => (Fm [some (.l xs)] [.c 0]).bind fun q => (match q.1 with
    | .d x => .ok (.d x, p.2)
    | _ => .bad)
  | _ => .bad
section
variable {X : Cx} {E : XK} {e : Expr} {fe : EM} {k j : Nat} {x : Str} {ps : List Str} {Fm : FM} {p pos : Pos}
theorem pd_callF (c : Df X.prog X.w X.K X.mg X.base k x ps Fm) (hr : Room j X.A) (ha : PDE X E e fe) (hx : Passes (L2.CX X.prog X.w) X E) (hn : ps.length = 1 := by rfl) (hkj : k ≤ j := by decide) (hg : Gl X x := by rfl) (hdb : (x == ("__debug__" : Str)) = false := by decide)
    (he : starEach [e] X.env = (false, eval e X.env) :: starEach [] X.env := by rfl) (hpl : (backTo pos (starEach [] X.env)).any (·.1) = false := by rfl) : PDE X E (.Call (.Name x p) [e] [] pos) (eCallF Fm fe) := by
  obtain ⟨fa, fd, Fn, hm, kp, b⟩ := c.ex
  refine ⟨PE.imp (pe_call Fn (hr.mono hkj) hg hm kp b .nil hx (pa_cons ha.pe pa_nil he) hdb he hpl) fun σ H Q h => ?_⟩
  obtain ⟨F, G, as, s, R, h⟩ := h
  refine ⟨F, G, as, s, R, ?_⟩
  unfold eCallF at h
  cases q : fe s with
  | exc c => rw [q] at h; exact h
  | bad => rw [q] at h; exact h
  | ok t =>
    obtain ⟨w, s1⟩ := t
    rw [q, Res.bind_ok] at h
    dsimp only at h
    intro v G1 H1 R1 X1 r1 n1
    cases w with
    | d y => exact h.elim
    | c n => exact h.elim
    | f xs =>
      dsimp only at h
      obtain ⟨a, vs, rfl, ha1, ga, nas, nF, ra⟩ := r1
      have Ha : H a = none := n1 xs a rfl rfl
      show spF X.K X.mg ps.length Fm ([V.ref a] ++ []) H1 Q E
      have R2 : Rep X.K (fun b => F b ∨ live as s1 b) G1 H1 [a] [] ⟨[], [some (.l xs)], 0⟩ :=
        ⟨R1.same, rfl, rfl, by simp, fun b hb => by rw [List.mem_singleton.mp hb]; exact ⟨_, ha1⟩, fun b hb => by
          rcases hb with hb | ⟨n, c, hb1, hb2⟩
          · obtain ⟨k1, k2, k3⟩ := R1.fo b hb
            exact ⟨k1, fun z => nF (List.mem_singleton.mp z ▸ hb), k3⟩
          · obtain ⟨k1, k2⟩ := R1.cellAt hb1 hb2
            exact ⟨k1, fun z => nas (List.mem_singleton.mp z ▸ List.mem_of_getElem? hb2), R1.dom b (List.mem_of_getElem? hb2)⟩, fun n c e => by
          (cases n with
          | zero =>
            have e : some (some (Cell.l xs)) = some (some c) := e
            cases e
            exact ⟨a, rfl, ga, vs, ha1, ra⟩
          | succ n => cases e), fun i w e => by simp at e⟩
      refine ⟨_, G1, [a], [some (.l xs)], [.c 0], by simp [hn], R2, .c rfl .nil, ?_⟩
      have liveA : ∀ b, live [a] ⟨[], [some (.l xs)], 0⟩ b → b = a := fun b ⟨n, c, _, z⟩ => by
        have := List.mem_of_getElem? z
        exact List.mem_singleton.mp this
      cases q2 : Fm [some (.l xs)] [.c 0] with
      | exc c =>
        rw [q2] at h
        exact fun C H' hc kk => h C H' hc fun b o hb nl => kk b o (X1.keep b o hb nl) fun z => by
          rw [liveA b z, Ha] at hb
          cases hb
      | bad => rw [q2] at h; exact h
      | ok t2 =>
        obtain ⟨w2, mem'⟩ := t2
        rw [q2, Res.bind_ok] at h
        dsimp only at h
        intro v2 G2 H2 R3 X3 r3 n3
        cases w2 with
        | c n => exact h.elim
        | f ys => exact h.elim
        | d y =>
          have kp2 : ∀ b o, H1 b = some o → b ≠ a → H2 b = some o := fun b o hb nb => X3.keep b o hb fun z => nb (liveA b z)
          refine h v2 G2 H2 ⟨R3.same, R1.len, R1.alen, R1.nd, fun b hb => ?_, fun b hb => ?_, fun n c e => ?_, fun i w e => ?_⟩ ⟨X1.same.trans X3.same, fun b o hb nl => kp2 b o (X1.keep b o hb nl) fun z => ?_, fun b hb => X1.new b hb⟩ r3 fun _ _ z _ => nomatch z
          · obtain ⟨o, e⟩ := R1.dom b hb
            exact ⟨o, kp2 b o e fun z => nas (z ▸ hb)⟩
          · obtain ⟨k1, k2, o, k3⟩ := R1.fo b hb
            exact ⟨(R3.fo b (.inl hb)).1, k2, o, kp2 b o k3 fun z => nF (z ▸ hb)⟩
          · obtain ⟨b, k1, k2, k3⟩ := R1.cell n c e
            have nb : b ≠ a := fun z => nas (z ▸ List.mem_of_getElem? k1)
            exact ⟨b, k1, (R3.fo b (.inr ⟨n, c, e, k1⟩)).1, k3.mono X3.same fun o z => kp2 b o z nb⟩
          · obtain ⟨u, k1, k2, k3⟩ := R1.env i w e
            refine ⟨u, k1, ?_, k3⟩
            cases w with
            | d x => exact Rp.mono X3.same k2
            | c n => exact k2
            | f ys => exact absurd rfl (k3 ys)
          · rw [z, Ha] at hb
            cases hb
end
end
end PD

set_option maxRecDepth 100000
set_option maxHeartbeats 4000000
set_option exponentiation.threshold 4000
/-! primes without a library: Fermat, Pocklington, 2 ^ 89 - 1 -/
namespace PR
def IsP (r : Nat) : Prop := 2 ≤ r ∧ ∀ d, d ∣ r → d = 1 ∨ d = r
theorem IsP.cop {r a : Nat} (h : IsP r) (n : ¬ r ∣ a) : Nat.Coprime r a := by
  rcases h.2 _ (Nat.gcd_dvd_left r a) with e | e
  · exact e
  · exact absurd (by rw [← e]; exact Nat.gcd_dvd_right r a) n
theorem IsP.of_small {q : Nat} (h2 : 2 ≤ q) (h : ∀ d, 2 ≤ d → d * d ≤ q → q % d ≠ 0) : IsP q := by
  refine ⟨h2, fun d hd => ?_⟩
  obtain ⟨e, rfl⟩ := hd
  by_cases h1 : d = 1
  · exact .inl h1
  by_cases h3 : e = 1
  · subst h3; exact .inr (by simp)
  have d0 : d ≠ 0 := fun z => by subst z; simp at h2
  have e0 : e ≠ 0 := fun z => by subst z; simp at h2
  rcases Nat.le_total d e with hle | hle
  · exact absurd (Nat.mul_mod_right d e) (h d (by omega) (Nat.mul_le_mul_left d hle))
  · exact absurd (Nat.mul_mod_left d e) (h e (by omega) (Nat.mul_le_mul_right e hle))
theorem factor : ∀ n : Nat, 2 ≤ n → ∃ r, IsP r ∧ r ∣ n := by
  intro n
  induction n using Nat.strongRecOn with
  | _ n ih =>
    intro h2
    by_cases h : IsP n
    · exact ⟨n, h, Nat.dvd_refl n⟩
    · have : ∃ d, d ∣ n ∧ d ≠ 1 ∧ d ≠ n := by
        apply Classical.byContradiction
        intro hn
        refine h ⟨h2, fun d hd => ?_⟩
        by_cases h1 : d = 1
        · exact .inl h1
        · by_cases h3 : d = n
          · exact .inr h3
          · exact absurd ⟨d, hd, h1, h3⟩ hn
      obtain ⟨d, hd, h1, h3⟩ := this
      have hle := Nat.le_of_dvd (by omega) hd
      have hd0 : d ≠ 0 := fun z => by subst z; have := Nat.eq_zero_of_zero_dvd hd; omega
      obtain ⟨r, hr, hrd⟩ := ih d (by omega) (by omega)
      exact ⟨r, hr, Nat.dvd_trans hrd hd⟩
theorem small_factor {n : Nat} (h2 : 2 ≤ n) (h : ¬ IsP n) : ∃ r, IsP r ∧ r ∣ n ∧ r * r ≤ n := by
  have : ∃ d, 2 ≤ d ∧ d * d ≤ n ∧ n % d = 0 := by
    apply Classical.byContradiction
    intro hn
    exact h (IsP.of_small h2 fun d h1 h3 h4 => hn ⟨d, h1, h3, h4⟩)
  obtain ⟨d, h1, h3, h4⟩ := this
  obtain ⟨r, hr, hrd⟩ := factor d h1
  have hle := Nat.le_of_dvd (by omega) hrd
  exact ⟨r, hr, Nat.dvd_trans hrd (Nat.dvd_of_mod_eq_zero h4), Nat.le_trans (Nat.mul_le_mul hle hle) h3⟩
/-! Fermat -/
def P (l : List Nat) : Nat := l.foldr (· * ·) 1
theorem P_perm {l m : List Nat} (h : l.Perm m) : P l = P m := by
  induction h with
  | nil => rfl
  | cons x _ ih => show x * P _ = x * P _; rw [ih]
  | swap x y l => show y * (x * P l) = x * (y * P l); rw [Nat.mul_left_comm]
  | trans _ _ h1 h2 => exact h1.trans h2
theorem perm_of : ∀ (l m : List Nat), l.Nodup → (∀ x ∈ l, x ∈ m) → l.length = m.length → l.Perm m
  | [], m, _, _, h => by
    have : m = [] := List.length_eq_zero_iff.mp h.symm
    subst this; exact .nil
  | x :: l, m, hn, hs, h => by
    have hx := hs x (List.mem_cons_self ..)
    have hn' := List.nodup_cons.mp hn
    have p1 := List.perm_cons_erase hx
    have l1 : (m.erase x).length = m.length - 1 := List.length_erase_of_mem hx
    have p2 := perm_of l (m.erase x) hn'.2 (fun y hy => by
      have : y ≠ x := fun e => hn'.1 (by rw [← e]; exact hy)
      exact (List.mem_erase_of_ne this).mpr (hs y (List.mem_cons_of_mem _ hy))) (by rw [l1]; simp at h; omega)
    exact (p2.cons x).trans p1.symm
theorem P_map (b r : Nat) : ∀ l : List Nat, P (l.map fun x => b * x % r) % r = b ^ l.length * P l % r
  | [] => by simp [P]
  | x :: l => by
    show (b * x % r) * P (l.map fun x => b * x % r) % r = b ^ (l.length + 1) * (x * P l) % r
    rw [Nat.mul_mod, P_map b r l, Nat.mod_mod, ← Nat.mul_mod, Nat.pow_succ]
    congr 1
    grind
theorem P_cop {r : Nat} : ∀ l : List Nat, (∀ x ∈ l, Nat.Coprime r x) → Nat.Coprime r (P l)
  | [], _ => Nat.coprime_one_right r
  | x :: l, h => Nat.Coprime.mul_right (h x (List.mem_cons_self ..)) (P_cop l fun y hy => h y (List.mem_cons_of_mem _ hy))
theorem fermat {r b : Nat} (hr : IsP r) (hb : ¬ r ∣ b) : b ^ (r - 1) % r = 1 := by
  have h2 := hr.1
  have hcb := hr.cop hb
  have hL : ∀ x, x ∈ List.range' 1 (r - 1) ↔ 1 ≤ x ∧ x < r := fun x => by rw [List.mem_range'_1]; omega
  have hcx : ∀ x ∈ List.range' 1 (r - 1), Nat.Coprime r x := fun x hx => by
    obtain ⟨a1, a2⟩ := (hL x).mp hx
    exact hr.cop fun hd => by have := Nat.le_of_dvd (by omega) hd; omega
  have hp : ((List.range' 1 (r - 1)).map fun x => b * x % r).Perm (List.range' 1 (r - 1)) := by
    refine perm_of _ _ ?_ (fun y hy => ?_) (by simp)
    · refine List.pairwise_map.mpr (List.Pairwise.imp_of_mem ?_ (List.nodup_range' (s := 1) (n := r - 1)))
      intro x y hx hy hne e
      obtain ⟨a1, a2⟩ := (hL x).mp hx
      obtain ⟨b1, b2⟩ := (hL y).mp hy
      have key : ∀ u v, u < v → v < r → b * u % r = b * v % r → False := fun u v h1 h2 e => by
        have h3 := Nat.sub_mod_eq_zero_of_mod_eq e.symm
        rw [← Nat.mul_sub] at h3
        have h4 := hcb.dvd_of_dvd_mul_left (Nat.dvd_of_mod_eq_zero h3)
        have := Nat.le_of_dvd (by omega) h4
        omega
      rcases Nat.lt_or_gt_of_ne hne with h | h
      · exact key x y h b2 e
      · exact key y x h a2 e.symm
    · obtain ⟨x, hx, rfl⟩ := List.mem_map.mp hy
      refine (hL _).mpr ⟨?_, Nat.mod_lt _ (by omega)⟩
      have : b * x % r ≠ 0 := fun e => by
        have hd := Nat.dvd_of_mod_eq_zero e
        have := hcb.dvd_of_dvd_mul_left hd
        obtain ⟨a1, a2⟩ := (hL x).mp hx
        have := Nat.le_of_dvd (by omega) this
        omega
      omega
  have e1 := P_map b r (List.range' 1 (r - 1))
  rw [P_perm hp, List.length_range'] at e1
  have hcP := P_cop _ hcx
  have b0 : b ≠ 0 := fun z => hb (by rw [z]; exact Nat.dvd_zero r)
  have hpos : 1 ≤ b ^ (r - 1) := Nat.one_le_iff_ne_zero.mpr (by simp [b0])
  have h3 := Nat.sub_mod_eq_zero_of_mod_eq e1.symm
  have e4 : b ^ (r - 1) * P (List.range' 1 (r - 1)) - P (List.range' 1 (r - 1)) = (b ^ (r - 1) - 1) * P (List.range' 1 (r - 1)) := by rw [Nat.sub_mul, Nat.one_mul]
  rw [e4] at h3
  have h4 := hcP.dvd_of_dvd_mul_right (Nat.dvd_of_mod_eq_zero h3)
  obtain ⟨k, hk⟩ := h4
  have e5 : b ^ (r - 1) = 1 + r * k := by omega
  rw [e5, Nat.add_mul_mod_self_left]
  exact Nat.mod_eq_of_lt (by omega)
/-- from two exponents to their gcd -/
theorem pow_gcd {b r : Nat} (h2 : 2 ≤ r) (i j : Nat) : b ^ i % r = 1 → b ^ j % r = 1 → b ^ Nat.gcd i j % r = 1 := by
  refine Nat.gcd.induction (P := fun i j => b ^ i % r = 1 → b ^ j % r = 1 → b ^ Nat.gcd i j % r = 1) i j (fun n _ h => by simpa using h) fun m n hm ih h1 h3 => ?_
  rw [Nat.gcd_rec]
  refine ih ?_ h1
  have e : b ^ n = (b ^ m) ^ (n / m) * b ^ (n % m) := by
    rw [← Nat.pow_mul, ← Nat.pow_add, Nat.div_add_mod]
  rw [e, Nat.mul_mod, Nat.pow_mod, h1, Nat.one_pow, Nat.mod_eq_of_lt (show 1 < r by omega), Nat.one_mul, Nat.mod_mod] at h3
  exact h3
/-- one prime of n - 1 divides r - 1 -/
theorem step {n r q b : Nat} (hr : IsP r) (hrn : r ∣ n) (hq : IsP q) (h1 : b ^ q % n = 1) (h2 : Nat.gcd (b - 1) n = 1) (hb : 1 ≤ b) : q ∣ r - 1 := by
  have r2 := hr.1
  have hq1 : b ^ q % r = 1 := by
    rw [← Nat.mod_mod_of_dvd _ hrn, h1]
    exact Nat.mod_eq_of_lt (by omega)
  have hrb : ¬ r ∣ b := fun h => by
    have h5 : b ^ q % r = 0 := Nat.mod_eq_zero_of_dvd (Nat.dvd_trans h ⟨b ^ (q - 1), by rw [← Nat.pow_succ']; congr 1; have := hq.1; omega⟩)
    omega
  have hf := fermat hr hrb
  apply Classical.byContradiction
  intro hn
  have hg : Nat.gcd q (r - 1) = 1 := hq.cop hn
  have h6 := pow_gcd r2 q (r - 1) hq1 hf
  rw [hg, Nat.pow_one] at h6
  have h7 : r ∣ b - 1 := by
    have := Nat.sub_mod_eq_zero_of_mod_eq (show b % r = 1 % r by rw [h6]; exact (Nat.mod_eq_of_lt (by omega)).symm)
    exact Nat.dvd_of_mod_eq_zero this
  have h8 := Nat.dvd_gcd h7 hrn
  rw [h2] at h8
  have := Nat.le_of_dvd (by decide) h8
  omega
/-- a ^ e modulo n, quickly -/
def pmod (n : Nat) : Nat → Nat → Nat → Nat
  | 0, _, _ => 1 % n
  | f + 1, a, e => if e = 0 then 1 % n else if e % 2 = 0 then pmod n f (a * a % n) (e / 2) else a * pmod n f (a * a % n) (e / 2) % n
theorem pmod_eq (n : Nat) : ∀ (f a e : Nat), e < 2 ^ f → pmod n f a e = a ^ e % n
  | 0, a, e, h => by
    have : e = 0 := by simp at h; exact h
    subst this; rfl
  | f + 1, a, e, h => by
    have h1 : e / 2 < 2 ^ f := by rw [Nat.pow_succ] at h; omega
    have e1 : (a * a % n) ^ (e / 2) % n = a ^ (2 * (e / 2)) % n := by
      rw [← Nat.pow_mod, Nat.pow_mul, Nat.pow_two]
    unfold pmod
    rw [pmod_eq n f _ _ h1]
    split
    · rename_i h0; subst h0; rfl
    · split
      · rw [e1]
        congr 2
        omega
      · rw [Nat.mul_mod, Nat.mod_mod, e1, ← Nat.mul_mod, ← Nat.pow_succ']
        congr 2
        omega
def M : Nat := 618970019642690137449562111
theorem sP {q : Nat} (k : Nat) (h2 : 2 ≤ q) (hk : q < k * k) (h : ((List.range k).all fun d => decide (d < 2) || decide (q % d ≠ 0)) = true) : IsP q := by
  refine IsP.of_small h2 fun d d2 dd => ?_
  have hd : d < k := by
    rcases Nat.lt_or_ge d k with h | h
    · exact h
    · have := Nat.mul_le_mul h h
      omega
  have := List.all_eq_true.mp h d (List.mem_range.mpr hd)
  rcases Bool.or_eq_true_iff.mp this with h | h
  · have := of_decide_eq_true h; omega
  · exact of_decide_eq_true h
theorem mst {r q : Nat} (hr : IsP r) (hrn : r ∣ M) (hq : IsP q) (e : Nat) (he : e * q = M - 1) (h2 : Nat.gcd (pmod M 90 3 e - 1) M = 1) (hb : 1 ≤ pmod M 90 3 e) (hl : e < 2 ^ 90) : q ∣ r - 1 := by
  refine step hr hrn hq (b := pmod M 90 3 e) ?_ h2 hb
  rw [pmod_eq M 90 3 e hl, ← Nat.pow_mod, ← Nat.pow_mul, he, ← pmod_eq M 90 3 (M - 1) (by decide +kernel)]
  decide +kernel
theorem last_step {r F n : Nat} (h : F ∣ r - 1) (h2 : 2 ≤ r) (hn : n < F * F) (hr : r * r ≤ n) : False := by
  have hle := Nat.le_of_dvd (by omega) h
  have h6 := Nat.mul_le_mul (show F ≤ r by omega) (show F ≤ r by omega)
  omega
theorem prime_M : IsP M := by
  apply Classical.byContradiction
  intro hn
  obtain ⟨r, hr, hrn, hrr⟩ := small_factor (n := M) (by decide +kernel) hn
  have p1 : IsP 2113 := sP 50 (by decide) (by decide) (by decide +kernel)
  have p2 : IsP 683 := sP 50 (by decide) (by decide) (by decide +kernel)
  have p3 : IsP 397 := sP 50 (by decide) (by decide) (by decide +kernel)
  have p4 : IsP 353 := sP 50 (by decide) (by decide) (by decide +kernel)
  have p5 : IsP 89 := sP 50 (by decide) (by decide) (by decide +kernel)
  have p6 : IsP 23 := sP 5 (by decide) (by decide) (by decide +kernel)
  have d1 := mst hr hrn p1 ((M - 1) / 2113) (by decide +kernel) (by decide +kernel) (by decide +kernel) (by decide +kernel)
  have d2 := mst hr hrn p2 ((M - 1) / 683) (by decide +kernel) (by decide +kernel) (by decide +kernel) (by decide +kernel)
  have d3 := mst hr hrn p3 ((M - 1) / 397) (by decide +kernel) (by decide +kernel) (by decide +kernel) (by decide +kernel)
  have d4 := mst hr hrn p4 ((M - 1) / 353) (by decide +kernel) (by decide +kernel) (by decide +kernel) (by decide +kernel)
  have d5 := mst hr hrn p5 ((M - 1) / 89) (by decide +kernel) (by decide +kernel) (by decide +kernel) (by decide +kernel)
  have d6 := mst hr hrn p6 ((M - 1) / 23) (by decide +kernel) (by decide +kernel) (by decide +kernel) (by decide +kernel)
  have c1 : 1443179 ∣ r - 1 := Nat.Coprime.mul_dvd_of_dvd_of_dvd (show Nat.Coprime 2113 683 by decide +kernel) d1 d2
  have c2 : 572942063 ∣ r - 1 := Nat.Coprime.mul_dvd_of_dvd_of_dvd (show Nat.Coprime 1443179 397 by decide +kernel) c1 d3
  have c3 : 202248548239 ∣ r - 1 := Nat.Coprime.mul_dvd_of_dvd_of_dvd (show Nat.Coprime 572942063 353 by decide +kernel) c2 d4
  have c4 : 18000120793271 ∣ r - 1 := Nat.Coprime.mul_dvd_of_dvd_of_dvd (show Nat.Coprime 202248548239 89 by decide +kernel) c3 d5
  have c5 : 414002778245233 ∣ r - 1 := Nat.Coprime.mul_dvd_of_dvd_of_dvd (show Nat.Coprime 18000120793271 23 by decide +kernel) c4 d6
  exact last_step c5 hr.1 (by decide +kernel) hrr
end PR

set_option Elab.async false
set_option linter.all false
set_option maxRecDepth 100000
set_option maxHeartbeats 4000000
namespace K43
open PySem PySem.Spec PyProof.Rows L2 PD

structure Txt (K : PySem.W.Frag) (mg : Str → Option Value) : Prop where
  b_ValueError : mg "ValueError" = none
  b_all : mg "all" = none
  b_any : mg "any" = none
  b_bool : mg "bool" = none
  b_enumerate : mg "enumerate" = none
  b_int : mg "int" = none
  b_isinstance : mg "isinstance" = none
  b_len : mg "len" = none
  b_list : mg "list" = none
  b_max : mg "max" = none
  b_min : mg "min" = none
  b_ord : mg "ord" = none
  b_range : mg "range" = none
  b_sorted : mg "sorted" = none
  b_str : mg "str" = none
  b_tuple : mg "tuple" = none
  b_zip : mg "zip" = none
  x_HomeError : ExcC K mg "HomeError"
  x_NoTable : ExcC K mg "NoTable"
  x_NoName : ExcC K mg "NoName"
  x_NoHomeNumber : ExcC K mg "NoHomeNumber"
  x_NoNumber : ExcC K mg "NoNumber"
  x_NoPrime : ExcC K mg "NoPrime"
  x_NoNumbers : ExcC K mg "NoNumbers"
  x_NoPlaces : ExcC K mg "NoPlaces"
  x_NoValues : ExcC K mg "NoValues"
  x_NoPolynomial : ExcC K mg "NoPolynomial"
  x_NoStamp : ExcC K mg "NoStamp"
  c_MOST_HOMES : ∃ t, mg "MOST_HOMES" = some (.int 9 t)
  c_MOST_HANDS : ∃ t, mg "MOST_HANDS" = some (.int 99 t)
  c_MOST_IN_NAME : ∃ t, mg "MOST_IN_NAME" = some (.int 8 t)
  c_MOST_IN_PIECE : ∃ t, mg "MOST_IN_PIECE" = some (.int 8 t)
  c_MOST_IN_ROW : ∃ t, mg "MOST_IN_ROW" = some (.int 12 t)
  c_LETTERS : ∃ t, mg "LETTERS" = some (.str "abcdefghijklmnopqrstuvwxyz" t)
  c_FIRST_STAMP : GTup K mg "FIRST_STAMP" [0, 0]
  c_GREAT_PRIME : ∃ t, mg "GREAT_PRIME" = some (.int 618970019642690137449562111 t)
  c_SMALL_PRIMES : ∃ t, mg "SMALL_PRIMES" = some (.int 10000 t)
  c_MOST_PLACES : ∃ t, mg "MOST_PLACES" = some (.int 64 t)
  c_MOST_NUMBERS : ∃ t, mg "MOST_NUMBERS" = some (.int 200 t)
  c_EPOCH : ∃ t, mg "EPOCH" = some (.int 0 t)
  c_MEMBERS : ∃ t, mg "MEMBERS" = some (.int 1 t)
  c_AHEAD : ∃ t, mg "AHEAD" = some (.int 2 t)
  c_CLOCK : ∃ t, mg "CLOCK" = some (.int 3 t)
  c_HEADS : ∃ t, mg "HEADS" = some (.int 4 t)
  c_BLOCKS : ∃ t, mg "BLOCKS" = some (.int 5 t)
  c_LEASES : ∃ t, mg "LEASES" = some (.int 6 t)
  c_PROMISE : ∃ t, mg "PROMISE" = some (.int 7 t)
  c_VOTED : ∃ t, mg "VOTED" = some (.int 8 t)
  c_NEXT : ∃ t, mg "NEXT" = some (.int 9 t)
  c_FIRST_MANY : ∃ t, mg "FIRST_MANY" = some (.int 2 t)
  c_HOME : ∃ t, mg "HOME" = some (.str "home" t)
  f_is_integer : ∃ f fd, Fun K "is_integer" "is_integer" st_is_integer f fd ∧ mg "is_integer" = some (.ref f)
  f_is_between : ∃ f fd, Fun K "is_between" "is_between" st_is_between f fd ∧ mg "is_between" = some (.ref f)
  f_is_count : ∃ f fd, Fun K "is_count" "is_count" st_is_count f fd ∧ mg "is_count" = some (.ref f)
  f_is_index : ∃ f fd, Fun K "is_index" "is_index" st_is_index f fd ∧ mg "is_index" = some (.ref f)
  f_is_tuple_of : ∃ f fd, Fun K "is_tuple_of" "is_tuple_of" st_is_tuple_of f fd ∧ mg "is_tuple_of" = some (.ref f)
  f_is_pair_of_numbers : ∃ f fd, Fun K "is_pair_of_numbers" "is_pair_of_numbers" st_is_pair_of_numbers f fd ∧ mg "is_pair_of_numbers" = some (.ref f)
  f_are_ascending : ∃ f fd, Fun K "are_ascending" "are_ascending" st_are_ascending f fd ∧ mg "are_ascending" = some (.ref f)
  f_is_home : ∃ f fd, Fun K "is_home" "is_home" st_is_home f fd ∧ mg "is_home" = some (.ref f)
  f_is_hand : ∃ f fd, Fun K "is_hand" "is_hand" st_is_hand f fd ∧ mg "is_hand" = some (.ref f)
  f_is_name : ∃ f fd, Fun K "is_name" "is_name" st_is_name f fd ∧ mg "is_name" = some (.ref f)
  f_are_signs : ∃ f fd, Fun K "are_signs" "are_signs" st_are_signs f fd ∧ mg "are_signs" = some (.ref f)
  f_is_piece : ∃ f fd, Fun K "is_piece" "is_piece" st_is_piece f fd ∧ mg "is_piece" = some (.ref f)
  f_is_id : ∃ f fd, Fun K "is_id" "is_id" st_is_id f fd ∧ mg "is_id" = some (.ref f)
  f_is_row : ∃ f fd, Fun K "is_row" "is_row" st_is_row f fd ∧ mg "is_row" = some (.ref f)
  f_is_stamp : ∃ f fd, Fun K "is_stamp" "is_stamp" st_is_stamp f fd ∧ mg "is_stamp" = some (.ref f)
  f_is_members : ∃ f fd, Fun K "is_members" "is_members" st_is_members f fd ∧ mg "is_members" = some (.ref f)
  f_is_small_prime : ∃ f fd, Fun K "is_small_prime" "is_small_prime" st_is_small_prime f fd ∧ mg "is_small_prime" = some (.ref f)
  f_inverse : ∃ f fd, Fun K "inverse" "inverse" st_inverse f fd ∧ mg "inverse" = some (.ref f)
  f_trimmed : ∃ f fd, Fun K "trimmed" "trimmed" st_trimmed f fd ∧ mg "trimmed" = some (.ref f)
  f_at_place : ∃ f fd, Fun K "at_place" "at_place" st_at_place f fd ∧ mg "at_place" = some (.ref f)
  f_monic : ∃ f fd, Fun K "monic" "monic" st_monic f fd ∧ mg "monic" = some (.ref f)
  f_parted : ∃ f fd, Fun K "parted" "parted" st_parted f fd ∧ mg "parted" = some (.ref f)
  f_common : ∃ f fd, Fun K "common" "common" st_common f fd ∧ mg "common" = some (.ref f)
  f_with_pivot : ∃ f fd, Fun K "with_pivot" "with_pivot" st_with_pivot f fd ∧ mg "with_pivot" = some (.ref f)
  f_solved : ∃ f fd, Fun K "solved" "solved" st_solved f fd ∧ mg "solved" = some (.ref f)
  f_check_prime : ∃ f fd, Fun K "check_prime" "check_prime" st_check_prime f fd ∧ mg "check_prime" = some (.ref f)
  f_check_numbers : ∃ f fd, Fun K "check_numbers" "check_numbers" st_check_numbers f fd ∧ mg "check_numbers" = some (.ref f)
  f_check_places : ∃ f fd, Fun K "check_places" "check_places" st_check_places f fd ∧ mg "check_places" = some (.ref f)
  f_check_value : ∃ f fd, Fun K "check_value" "check_value" st_check_value f fd ∧ mg "check_value" = some (.ref f)
  f_raw_values : ∃ f fd, Fun K "raw_values" "raw_values" st_raw_values f fd ∧ mg "raw_values" = some (.ref f)
  f_values : ∃ f fd, Fun K "values" "values" st_values f fd ∧ mg "values" = some (.ref f)
  f_powers : ∃ f fd, Fun K "powers" "powers" st_powers f fd ∧ mg "powers" = some (.ref f)
  f_equation : ∃ f fd, Fun K "equation" "equation" st_equation f fd ∧ mg "equation" = some (.ref f)
  f_reduced : ∃ f fd, Fun K "reduced" "reduced" st_reduced f fd ∧ mg "reduced" = some (.ref f)
  f_raw_roots : ∃ f fd, Fun K "raw_roots" "raw_roots" st_raw_roots f fd ∧ mg "raw_roots" = some (.ref f)
  f_fit : ∃ f fd, Fun K "fit" "fit" st_fit f fd ∧ mg "fit" = some (.ref f)
  f_raw_difference : ∃ f fd, Fun K "raw_difference" "raw_difference" st_raw_difference f fd ∧ mg "raw_difference" = some (.ref f)
  f_check_told : ∃ f fd, Fun K "check_told" "check_told" st_check_told f fd ∧ mg "check_told" = some (.ref f)
  f_difference : ∃ f fd, Fun K "difference" "difference" st_difference f fd ∧ mg "difference" = some (.ref f)
  f_check_polynomial : ∃ f fd, Fun K "check_polynomial" "check_polynomial" st_check_polynomial f fd ∧ mg "check_polynomial" = some (.ref f)
  f_roots : ∃ f fd, Fun K "roots" "roots" st_roots f fd ∧ mg "roots" = some (.ref f)
  f_number_of : ∃ f fd, Fun K "number_of" "number_of" st_number_of f fd ∧ mg "number_of" = some (.ref f)
  f_raw_number_of : ∃ f fd, Fun K "raw_number_of" "raw_number_of" st_raw_number_of f fd ∧ mg "raw_number_of" = some (.ref f)
  f_are_heads : ∃ f fd, Fun K "are_heads" "are_heads" st_are_heads f fd ∧ mg "are_heads" = some (.ref f)
  f_is_named_head : ∃ f fd, Fun K "is_named_head" "is_named_head" st_is_named_head f fd ∧ mg "is_named_head" = some (.ref f)
  f_are_blocks : ∃ f fd, Fun K "are_blocks" "are_blocks" st_are_blocks f fd ∧ mg "are_blocks" = some (.ref f)
  f_are_leases : ∃ f fd, Fun K "are_leases" "are_leases" st_are_leases f fd ∧ mg "are_leases" = some (.ref f)
  f_is_held : ∃ f fd, Fun K "is_held" "is_held" st_is_held f fd ∧ mg "is_held" = some (.ref f)
  f_is_vote : ∃ f fd, Fun K "is_vote" "is_vote" st_is_vote f fd ∧ mg "is_vote" = some (.ref f)
  f_is_ahead : ∃ f fd, Fun K "is_ahead" "is_ahead" st_is_ahead f fd ∧ mg "is_ahead" = some (.ref f)
  f_is_kept : ∃ f fd, Fun K "is_kept" "is_kept" st_is_kept f fd ∧ mg "is_kept" = some (.ref f)
  f_is_table : ∃ f fd, Fun K "is_table" "is_table" st_is_table f fd ∧ mg "is_table" = some (.ref f)
  f_check_table : ∃ f fd, Fun K "check_table" "check_table" st_check_table f fd ∧ mg "check_table" = some (.ref f)
  f_keeps : ∃ f fd, Fun K "keeps" "keeps" st_keeps f fd ∧ mg "keeps" = some (.ref f)
  f_written : ∃ f fd, Fun K "written" "written" st_written f fd ∧ mg "written" = some (.ref f)
  f_begin_mending : ∃ f fd, Fun K "begin_mending" "begin_mending" st_begin_mending f fd ∧ mg "begin_mending" = some (.ref f)
  f_w_hat : ∃ f fd, Fun K "_law_hat" "_law_hat" st_w_hat f fd ∧ mg "_law_hat" = some (.ref f)
  f_w_draw : ∃ f fd, Fun K "_law_draw" "_law_draw" st_w_draw f fd ∧ mg "_law_draw" = some (.ref f)
  f_w_same : ∃ f fd, Fun K "_law_same" "_law_same" st_w_same f fd ∧ mg "_law_same" = some (.ref f)
  f_w_prime : ∃ f fd, Fun K "_law_prime" "_law_prime" st_w_prime f fd ∧ mg "_law_prime" = some (.ref f)
  f_w_number : ∃ f fd, Fun K "_law_number" "_law_number" st_w_number f fd ∧ mg "_law_number" = some (.ref f)
  f_w_lot : ∃ f fd, Fun K "_law_lot" "_law_lot" st_w_lot f fd ∧ mg "_law_lot" = some (.ref f)
  f_w_places : ∃ f fd, Fun K "_law_places" "_law_places" st_w_places f fd ∧ mg "_law_places" = some (.ref f)
  f_w_product : ∃ f fd, Fun K "_law_product" "_law_product" st_w_product f fd ∧ mg "_law_product" = some (.ref f)
  f_w_at : ∃ f fd, Fun K "_law_at" "_law_at" st_w_at f fd ∧ mg "_law_at" = some (.ref f)
  f_w_bad_prime : ∃ f fd, Fun K "_law_bad_prime" "_law_bad_prime" st_w_bad_prime f fd ∧ mg "_law_bad_prime" = some (.ref f)
  f_w_spoilt : ∃ f fd, Fun K "_law_spoilt" "_law_spoilt" st_w_spoilt f fd ∧ mg "_law_spoilt" = some (.ref f)
  f_w_bad_lot : ∃ f fd, Fun K "_law_bad_lot" "_law_bad_lot" st_w_bad_lot f fd ∧ mg "_law_bad_lot" = some (.ref f)
  f_w_bad_places : ∃ f fd, Fun K "_law_bad_places" "_law_bad_places" st_w_bad_places f fd ∧ mg "_law_bad_places" = some (.ref f)
  f_w_bad_told : ∃ f fd, Fun K "_law_bad_told" "_law_bad_told" st_w_bad_told f fd ∧ mg "_law_bad_told" = some (.ref f)
  f_w_bad_polynomial : ∃ f fd, Fun K "_law_bad_polynomial" "_law_bad_polynomial" st_w_bad_polynomial f fd ∧ mg "_law_bad_polynomial" = some (.ref f)
  f_w_bad_count : ∃ f fd, Fun K "_law_bad_count" "_law_bad_count" st_w_bad_count f fd ∧ mg "_law_bad_count" = some (.ref f)
  f_w_called : ∃ f fd, Fun K "_law_called" "_law_called" st_w_called f fd ∧ mg "_law_called" = some (.ref f)
  f_w_refusal : ∃ f fd, Fun K "_law_refusal" "_law_refusal" st_w_refusal f fd ∧ mg "_law_refusal" = some (.ref f)
  f_w_lots : ∃ f fd, Fun K "_law_lots" "_law_lots" st_w_lots f fd ∧ mg "_law_lots" = some (.ref f)
  f_w_names : ∃ f fd, Fun K "_law_names" "_law_names" st_w_names f fd ∧ mg "_law_names" = some (.ref f)
  f_w_homes : ∃ f fd, Fun K "_law_homes" "_law_homes" st_w_homes f fd ∧ mg "_law_homes" = some (.ref f)
  f_w_good_right : ∃ f fd, Fun K "_law_good_right" "_law_good_right" st_w_good_right f fd ∧ mg "_law_good_right" = some (.ref f)
  f_w_one : ∃ f fd, Fun K "_law_one" "_law_one" st_w_one f fd ∧ mg "_law_one" = some (.ref f)
  f_law : ∃ f fd, Fun K "law" "law" st_law f fd ∧ mg "law" = some (.ref f)
theorem sc_is_integer : FnScope ["thing"] ["thing"] (defScope st_is_integer) := ⟨rfl, rfl, rfl, by decide +kernel, rfl, by decide +kernel, by decide +kernel⟩
noncomputable def b_is_integer : { g : SM // ∀ {P : Program} {w : World} {K : PySem.W.Frag} {mg : Str → Option Value} {base : Heap} (T : Txt K mg)  (f : Addr) (cdv : Value) (A : Around) (outer : List Env) (s : Shared) (H : Hp) (E : XK), Room 0 (A.deeper (envOfC "is_integer" (defScope st_is_integer) s.heap.objs.size f cdv)) → PDSs (cxOf (L2.CX P w) P w K mg base ["thing"] "is_integer" (defScope st_is_integer) f cdv A outer s H E) E (defBody st_is_integer) g } :=
  ⟨_, fun T  f cdv A outer s H E hr => by
    have Sc := sc_is_integer
    exact (pds_one (pds_ret (pd_and (pd_isi T.b_isinstance T.b_int (by decide +kernel) kInt (pd_var 0)) (pd_one (pd_not (pd_isi T.b_isinstance T.b_bool (by decide +kernel) kBool (pd_var 0)))))))⟩
@[irreducible] noncomputable def m_is_integer : FM := fnOf ["thing"] b_is_integer.1
theorem df_is_integer {P : Program} {w : World} {K : PySem.W.Frag} {mg : Str → Option Value} {base : Heap} (T : Txt K mg)  : Df P w K mg base 1 "is_integer" ["thing"] m_is_integer := by
  unfold m_is_integer
  obtain ⟨f, fd, Fn, hm⟩ := T.f_is_integer
  exact Df.mk' Fn sc_is_integer hm (Fn.binds fun _ _ _ _ _ _ us hl => match us, hl with | [_], _ => rfl) (fun cdv A outer s H E hr => b_is_integer.2 T  f cdv A outer s H E hr)
theorem sc_is_between : FnScope ["thing", "least", "most"] ["thing", "least", "most"] (defScope st_is_between) := ⟨rfl, rfl, rfl, by decide +kernel, rfl, by decide +kernel, by decide +kernel⟩
noncomputable def b_is_between : { g : SM // ∀ {P : Program} {w : World} {K : PySem.W.Frag} {mg : Str → Option Value} {base : Heap} (T : Txt K mg) (c_is_integer : Df P w K mg base 1 "is_integer" ["thing"] m_is_integer) (f : Addr) (cdv : Value) (A : Around) (outer : List Env) (s : Shared) (H : Hp) (E : XK), Room 1 (A.deeper (envOfC "is_between" (defScope st_is_between) s.heap.objs.size f cdv)) → PDSs (cxOf (L2.CX P w) P w K mg base ["thing", "least", "most"] "is_between" (defScope st_is_between) f cdv A outer s H E) E (defBody st_is_between) g } :=
  ⟨_, fun T c_is_integer f cdv A outer s H E hr => by
    have Sc := sc_is_between
    exact (pds_one (pds_ret (pd_and (pd_call c_is_integer hr (pda_cons false (pd_var 0) pda_nil) hx_cx (hlen := (aCons_len aNil_len))) (pd_one (pd_leLe (pd_var 1) (pd_var 0) (pd_var 2))))))⟩
@[irreducible] noncomputable def m_is_between : FM := fnOf ["thing", "least", "most"] b_is_between.1
theorem df_is_between {P : Program} {w : World} {K : PySem.W.Frag} {mg : Str → Option Value} {base : Heap} (T : Txt K mg) (c_is_integer : Df P w K mg base 1 "is_integer" ["thing"] m_is_integer) : Df P w K mg base 2 "is_between" ["thing", "least", "most"] m_is_between := by
  unfold m_is_between
  obtain ⟨f, fd, Fn, hm⟩ := T.f_is_between
  exact Df.mk' Fn sc_is_between hm (Fn.binds fun _ _ _ _ _ _ us hl => match us, hl with | [_, _, _], _ => rfl) (fun cdv A outer s H E hr => b_is_between.2 T c_is_integer f cdv A outer s H E hr)
theorem sc_is_count : FnScope ["thing"] ["thing"] (defScope st_is_count) := ⟨rfl, rfl, rfl, by decide +kernel, rfl, by decide +kernel, by decide +kernel⟩
noncomputable def b_is_count : { g : SM // ∀ {P : Program} {w : World} {K : PySem.W.Frag} {mg : Str → Option Value} {base : Heap} (T : Txt K mg) (c_is_integer : Df P w K mg base 1 "is_integer" ["thing"] m_is_integer) (f : Addr) (cdv : Value) (A : Around) (outer : List Env) (s : Shared) (H : Hp) (E : XK), Room 1 (A.deeper (envOfC "is_count" (defScope st_is_count) s.heap.objs.size f cdv)) → PDSs (cxOf (L2.CX P w) P w K mg base ["thing"] "is_count" (defScope st_is_count) f cdv A outer s H E) E (defBody st_is_count) g } :=
  ⟨_, fun T c_is_integer f cdv A outer s H E hr => by
    have Sc := sc_is_count
    exact (pds_one (pds_ret (pd_and (pd_call c_is_integer hr (pda_cons false (pd_var 0) pda_nil) hx_cx (hlen := (aCons_len aNil_len))) (pd_one (pd_geA (pd_var 0) pd_int)))))⟩
@[irreducible] noncomputable def m_is_count : FM := fnOf ["thing"] b_is_count.1
theorem df_is_count {P : Program} {w : World} {K : PySem.W.Frag} {mg : Str → Option Value} {base : Heap} (T : Txt K mg) (c_is_integer : Df P w K mg base 1 "is_integer" ["thing"] m_is_integer) : Df P w K mg base 2 "is_count" ["thing"] m_is_count := by
  unfold m_is_count
  obtain ⟨f, fd, Fn, hm⟩ := T.f_is_count
  exact Df.mk' Fn sc_is_count hm (Fn.binds fun _ _ _ _ _ _ us hl => match us, hl with | [_], _ => rfl) (fun cdv A outer s H E hr => b_is_count.2 T c_is_integer f cdv A outer s H E hr)
theorem sc_is_index : FnScope ["thing", "many"] ["thing", "many"] (defScope st_is_index) := ⟨rfl, rfl, rfl, by decide +kernel, rfl, by decide +kernel, by decide +kernel⟩
noncomputable def b_is_index : { g : SM // ∀ {P : Program} {w : World} {K : PySem.W.Frag} {mg : Str → Option Value} {base : Heap} (T : Txt K mg) (c_is_between : Df P w K mg base 2 "is_between" ["thing", "least", "most"] m_is_between) (f : Addr) (cdv : Value) (A : Around) (outer : List Env) (s : Shared) (H : Hp) (E : XK), Room 2 (A.deeper (envOfC "is_index" (defScope st_is_index) s.heap.objs.size f cdv)) → PDSs (cxOf (L2.CX P w) P w K mg base ["thing", "many"] "is_index" (defScope st_is_index) f cdv A outer s H E) E (defBody st_is_index) g } :=
  ⟨_, fun T c_is_between f cdv A outer s H E hr => by
    have Sc := sc_is_index
    exact (pds_one (pds_ret (pd_call c_is_between hr (pda_cons false (pd_var 0) (pda_cons false pd_int (pda_cons false (pd_subI (pd_var 1) pd_int) pda_nil))) hx_cx (hlen := (aCons_len (aCons_len (aCons_len aNil_len)))))))⟩
@[irreducible] noncomputable def m_is_index : FM := fnOf ["thing", "many"] b_is_index.1
theorem df_is_index {P : Program} {w : World} {K : PySem.W.Frag} {mg : Str → Option Value} {base : Heap} (T : Txt K mg) (c_is_between : Df P w K mg base 2 "is_between" ["thing", "least", "most"] m_is_between) : Df P w K mg base 3 "is_index" ["thing", "many"] m_is_index := by
  unfold m_is_index
  obtain ⟨f, fd, Fn, hm⟩ := T.f_is_index
  exact Df.mk' Fn sc_is_index hm (Fn.binds fun _ _ _ _ _ _ us hl => match us, hl with | [_, _], _ => rfl) (fun cdv A outer s H E hr => b_is_index.2 T c_is_between f cdv A outer s H E hr)
theorem sc_is_tuple_of : FnScope ["thing", "many"] ["thing", "many"] (defScope st_is_tuple_of) := ⟨rfl, rfl, rfl, by decide +kernel, rfl, by decide +kernel, by decide +kernel⟩
noncomputable def b_is_tuple_of : { g : SM // ∀ {P : Program} {w : World} {K : PySem.W.Frag} {mg : Str → Option Value} {base : Heap} (T : Txt K mg)  (f : Addr) (cdv : Value) (A : Around) (outer : List Env) (s : Shared) (H : Hp) (E : XK), Room 0 (A.deeper (envOfC "is_tuple_of" (defScope st_is_tuple_of) s.heap.objs.size f cdv)) → PDSs (cxOf (L2.CX P w) P w K mg base ["thing", "many"] "is_tuple_of" (defScope st_is_tuple_of) f cdv A outer s H E) E (defBody st_is_tuple_of) g } :=
  ⟨_, fun T  f cdv A outer s H E hr => by
    have Sc := sc_is_tuple_of
    exact (pds_one (pds_ret (pd_and (pd_isi T.b_isinstance T.b_tuple (by decide +kernel) kTup (pd_var 0)) (pd_one (pd_eq hr (pd_len T.b_len (pd_var 0)) (pd_var 1))))))⟩
@[irreducible] noncomputable def m_is_tuple_of : FM := fnOf ["thing", "many"] b_is_tuple_of.1
theorem df_is_tuple_of {P : Program} {w : World} {K : PySem.W.Frag} {mg : Str → Option Value} {base : Heap} (T : Txt K mg)  : Df P w K mg base 1 "is_tuple_of" ["thing", "many"] m_is_tuple_of := by
  unfold m_is_tuple_of
  obtain ⟨f, fd, Fn, hm⟩ := T.f_is_tuple_of
  exact Df.mk' Fn sc_is_tuple_of hm (Fn.binds fun _ _ _ _ _ _ us hl => match us, hl with | [_, _], _ => rfl) (fun cdv A outer s H E hr => b_is_tuple_of.2 T  f cdv A outer s H E hr)
theorem sc_is_pair_of_numbers : FnScope ["thing"] ["thing"] (defScope st_is_pair_of_numbers) := ⟨rfl, rfl, rfl, by decide +kernel, rfl, by decide +kernel, by decide +kernel⟩
noncomputable def b_is_pair_of_numbers : { g : SM // ∀ {P : Program} {w : World} {K : PySem.W.Frag} {mg : Str → Option Value} {base : Heap} (T : Txt K mg) (c_is_count : Df P w K mg base 2 "is_count" ["thing"] m_is_count) (c_is_tuple_of : Df P w K mg base 1 "is_tuple_of" ["thing", "many"] m_is_tuple_of) (f : Addr) (cdv : Value) (A : Around) (outer : List Env) (s : Shared) (H : Hp) (E : XK), Room 2 (A.deeper (envOfC "is_pair_of_numbers" (defScope st_is_pair_of_numbers) s.heap.objs.size f cdv)) → PDSs (cxOf (L2.CX P w) P w K mg base ["thing"] "is_pair_of_numbers" (defScope st_is_pair_of_numbers) f cdv A outer s H E) E (defBody st_is_pair_of_numbers) g } :=
  ⟨_, fun T c_is_count c_is_tuple_of f cdv A outer s H E hr => by
    have Sc := sc_is_pair_of_numbers
    exact (pds_one (pds_ret (pd_and (pd_call c_is_tuple_of hr (pda_cons false (pd_var 0) (pda_cons false pd_int pda_nil)) hx_cx (hlen := (aCons_len (aCons_len aNil_len)))) (pd_and (pd_call c_is_count hr (pda_cons false (pd_ix (pd_var 0) pd_int) pda_nil) hx_cx (hlen := (aCons_len aNil_len))) (pd_one (pd_call c_is_count hr (pda_cons false (pd_ix (pd_var 0) pd_int) pda_nil) hx_cx (hlen := (aCons_len aNil_len))))))))⟩
@[irreducible] noncomputable def m_is_pair_of_numbers : FM := fnOf ["thing"] b_is_pair_of_numbers.1
theorem df_is_pair_of_numbers {P : Program} {w : World} {K : PySem.W.Frag} {mg : Str → Option Value} {base : Heap} (T : Txt K mg) (c_is_count : Df P w K mg base 2 "is_count" ["thing"] m_is_count) (c_is_tuple_of : Df P w K mg base 1 "is_tuple_of" ["thing", "many"] m_is_tuple_of) : Df P w K mg base 3 "is_pair_of_numbers" ["thing"] m_is_pair_of_numbers := by
  unfold m_is_pair_of_numbers
  obtain ⟨f, fd, Fn, hm⟩ := T.f_is_pair_of_numbers
  exact Df.mk' Fn sc_is_pair_of_numbers hm (Fn.binds fun _ _ _ _ _ _ us hl => match us, hl with | [_], _ => rfl) (fun cdv A outer s H E hr => b_is_pair_of_numbers.2 T c_is_count c_is_tuple_of f cdv A outer s H E hr)
theorem sc_are_ascending : FnScope ["things", "at"] ["things"] (defScope st_are_ascending) := ⟨rfl, rfl, rfl, by decide +kernel, rfl, by decide +kernel, by decide +kernel⟩
noncomputable def b_are_ascending : { g : SM // ∀ {P : Program} {w : World} {K : PySem.W.Frag} {mg : Str → Option Value} {base : Heap} (T : Txt K mg)  (f : Addr) (cdv : Value) (A : Around) (outer : List Env) (s : Shared) (H : Hp) (E : XK), Room 0 (A.deeper (envOfC "are_ascending" (defScope st_are_ascending) s.heap.objs.size f cdv)) → PDSs (cxOf (L2.CX P w) P w K mg base ["things", "at"] "are_ascending" (defScope st_are_ascending) f cdv A outer s H E) E (defBody st_are_ascending) g } :=
  ⟨_, fun T  f cdv A outer s H E hr => by
    have Sc := sc_are_ascending
    exact (pds_one (pds_ret (pd_all T.b_all rfl (pd_lc rfl Sc.nd (pdi_range1 T.b_range (pd_subI (pd_len T.b_len (pd_var 0)) pd_int)) [("at", 1)] (blkOk_by (N := ["things", "at"]) (sc := defScope st_are_ascending) (by decide +kernel)) (fun _ _ _ _ _ => (pdg_name 1 Sc.nd)) (gT1_mem 1) (fun _ _ _ _ _ => pdts_nil) (fun _ _ _ _ _ => (pd_ltA (pd_ix (pd_var 0) (pd_var 1)) (pd_ix (pd_var 0) (pd_add (pd_var 1) pd_int))))))))⟩
@[irreducible] noncomputable def m_are_ascending : FM := fnOf ["things", "at"] b_are_ascending.1
theorem df_are_ascending {P : Program} {w : World} {K : PySem.W.Frag} {mg : Str → Option Value} {base : Heap} (T : Txt K mg)  : Df P w K mg base 1 "are_ascending" ["things"] m_are_ascending := by
  unfold m_are_ascending
  obtain ⟨f, fd, Fn, hm⟩ := T.f_are_ascending
  exact Df.mk' Fn sc_are_ascending hm (Fn.binds fun _ _ _ _ _ _ us hl => match us, hl with | [_], _ => rfl) (fun cdv A outer s H E hr => b_are_ascending.2 T  f cdv A outer s H E hr)
theorem sc_is_home : FnScope ["thing"] ["thing"] (defScope st_is_home) := ⟨rfl, rfl, rfl, by decide +kernel, rfl, by decide +kernel, by decide +kernel⟩
noncomputable def b_is_home : { g : SM // ∀ {P : Program} {w : World} {K : PySem.W.Frag} {mg : Str → Option Value} {base : Heap} (T : Txt K mg) (c_is_between : Df P w K mg base 2 "is_between" ["thing", "least", "most"] m_is_between) (f : Addr) (cdv : Value) (A : Around) (outer : List Env) (s : Shared) (H : Hp) (E : XK), Room 2 (A.deeper (envOfC "is_home" (defScope st_is_home) s.heap.objs.size f cdv)) → PDSs (cxOf (L2.CX P w) P w K mg base ["thing"] "is_home" (defScope st_is_home) f cdv A outer s H E) E (defBody st_is_home) g } :=
  ⟨_, fun T c_is_between f cdv A outer s H E hr => by
    have Sc := sc_is_home
    exact (pds_one (pds_ret (pd_call c_is_between hr (pda_cons false (pd_var 0) (pda_cons false pd_int (pda_cons false (pd_subI (pd_gint T.c_MOST_HOMES) pd_int) pda_nil))) hx_cx (hlen := (aCons_len (aCons_len (aCons_len aNil_len)))))))⟩
@[irreducible] noncomputable def m_is_home : FM := fnOf ["thing"] b_is_home.1
theorem df_is_home {P : Program} {w : World} {K : PySem.W.Frag} {mg : Str → Option Value} {base : Heap} (T : Txt K mg) (c_is_between : Df P w K mg base 2 "is_between" ["thing", "least", "most"] m_is_between) : Df P w K mg base 3 "is_home" ["thing"] m_is_home := by
  unfold m_is_home
  obtain ⟨f, fd, Fn, hm⟩ := T.f_is_home
  exact Df.mk' Fn sc_is_home hm (Fn.binds fun _ _ _ _ _ _ us hl => match us, hl with | [_], _ => rfl) (fun cdv A outer s H E hr => b_is_home.2 T c_is_between f cdv A outer s H E hr)
theorem sc_is_hand : FnScope ["thing"] ["thing"] (defScope st_is_hand) := ⟨rfl, rfl, rfl, by decide +kernel, rfl, by decide +kernel, by decide +kernel⟩
noncomputable def b_is_hand : { g : SM // ∀ {P : Program} {w : World} {K : PySem.W.Frag} {mg : Str → Option Value} {base : Heap} (T : Txt K mg) (c_is_between : Df P w K mg base 2 "is_between" ["thing", "least", "most"] m_is_between) (f : Addr) (cdv : Value) (A : Around) (outer : List Env) (s : Shared) (H : Hp) (E : XK), Room 2 (A.deeper (envOfC "is_hand" (defScope st_is_hand) s.heap.objs.size f cdv)) → PDSs (cxOf (L2.CX P w) P w K mg base ["thing"] "is_hand" (defScope st_is_hand) f cdv A outer s H E) E (defBody st_is_hand) g } :=
  ⟨_, fun T c_is_between f cdv A outer s H E hr => by
    have Sc := sc_is_hand
    exact (pds_one (pds_ret (pd_call c_is_between hr (pda_cons false (pd_var 0) (pda_cons false pd_int (pda_cons false (pd_gint T.c_MOST_HANDS) pda_nil))) hx_cx (hlen := (aCons_len (aCons_len (aCons_len aNil_len)))))))⟩
@[irreducible] noncomputable def m_is_hand : FM := fnOf ["thing"] b_is_hand.1
theorem df_is_hand {P : Program} {w : World} {K : PySem.W.Frag} {mg : Str → Option Value} {base : Heap} (T : Txt K mg) (c_is_between : Df P w K mg base 2 "is_between" ["thing", "least", "most"] m_is_between) : Df P w K mg base 3 "is_hand" ["thing"] m_is_hand := by
  unfold m_is_hand
  obtain ⟨f, fd, Fn, hm⟩ := T.f_is_hand
  exact Df.mk' Fn sc_is_hand hm (Fn.binds fun _ _ _ _ _ _ us hl => match us, hl with | [_], _ => rfl) (fun cdv A outer s H E hr => b_is_hand.2 T c_is_between f cdv A outer s H E hr)
theorem sc_is_name : FnScope ["thing", "sign"] ["thing"] (defScope st_is_name) := ⟨rfl, rfl, rfl, by decide +kernel, rfl, by decide +kernel, by decide +kernel⟩
noncomputable def b_is_name : { g : SM // ∀ {P : Program} {w : World} {K : PySem.W.Frag} {mg : Str → Option Value} {base : Heap} (T : Txt K mg)  (f : Addr) (cdv : Value) (A : Around) (outer : List Env) (s : Shared) (H : Hp) (E : XK), Room 0 (A.deeper (envOfC "is_name" (defScope st_is_name) s.heap.objs.size f cdv)) → PDSs (cxOf (L2.CX P w) P w K mg base ["thing", "sign"] "is_name" (defScope st_is_name) f cdv A outer s H E) E (defBody st_is_name) g } :=
  ⟨_, fun T  f cdv A outer s H E hr => by
    have Sc := sc_is_name
    exact (pds_one (pds_ret (pd_and (pd_isi T.b_isinstance T.b_str (by decide +kernel) kStr (pd_var 0)) (pd_and (pd_leLe pd_int (pd_len T.b_len (pd_var 0)) (pd_gint T.c_MOST_IN_NAME)) (pd_one (pd_all T.b_all rfl (pd_lc rfl Sc.nd (pdi_any (pd_var 0)) [("sign", 1)] (blkOk_by (N := ["thing", "sign"]) (sc := defScope st_is_name) (by decide +kernel)) (fun _ _ _ _ _ => (pdg_name 1 Sc.nd)) (gT1_mem 1) (fun _ _ _ _ _ => pdts_nil) (fun _ _ _ _ _ => (pd_in (pd_var 1) (pd_gstr T.c_LETTERS))))))))))⟩
@[irreducible] noncomputable def m_is_name : FM := fnOf ["thing", "sign"] b_is_name.1
theorem df_is_name {P : Program} {w : World} {K : PySem.W.Frag} {mg : Str → Option Value} {base : Heap} (T : Txt K mg)  : Df P w K mg base 1 "is_name" ["thing"] m_is_name := by
  unfold m_is_name
  obtain ⟨f, fd, Fn, hm⟩ := T.f_is_name
  exact Df.mk' Fn sc_is_name hm (Fn.binds fun _ _ _ _ _ _ us hl => match us, hl with | [_], _ => rfl) (fun cdv A outer s H E hr => b_is_name.2 T  f cdv A outer s H E hr)
theorem sc_are_signs : FnScope ["thing", "least", "most", "sign"] ["thing", "least", "most"] (defScope st_are_signs) := ⟨rfl, rfl, rfl, by decide +kernel, rfl, by decide +kernel, by decide +kernel⟩
noncomputable def b_are_signs : { g : SM // ∀ {P : Program} {w : World} {K : PySem.W.Frag} {mg : Str → Option Value} {base : Heap} (T : Txt K mg)  (f : Addr) (cdv : Value) (A : Around) (outer : List Env) (s : Shared) (H : Hp) (E : XK), Room 0 (A.deeper (envOfC "are_signs" (defScope st_are_signs) s.heap.objs.size f cdv)) → PDSs (cxOf (L2.CX P w) P w K mg base ["thing", "least", "most", "sign"] "are_signs" (defScope st_are_signs) f cdv A outer s H E) E (defBody st_are_signs) g } :=
  ⟨_, fun T  f cdv A outer s H E hr => by
    have Sc := sc_are_signs
    exact (pds_one (pds_ret (pd_and (pd_isi T.b_isinstance T.b_str (by decide +kernel) kStr (pd_var 0)) (pd_and (pd_leLe (pd_var 1) (pd_len T.b_len (pd_var 0)) (pd_var 2)) (pd_one (pd_all T.b_all rfl (pd_lc rfl Sc.nd (pdi_any (pd_var 0)) [("sign", 3)] (blkOk_by (N := ["thing", "least", "most", "sign"]) (sc := defScope st_are_signs) (by decide +kernel)) (fun _ _ _ _ _ => (pdg_name 3 Sc.nd)) (gT1_mem 3) (fun _ _ _ _ _ => pdts_nil) (fun _ _ _ _ _ => (pd_leLe pd_str (pd_var 3) pd_str)))))))))⟩
@[irreducible] noncomputable def m_are_signs : FM := fnOf ["thing", "least", "most", "sign"] b_are_signs.1
theorem df_are_signs {P : Program} {w : World} {K : PySem.W.Frag} {mg : Str → Option Value} {base : Heap} (T : Txt K mg)  : Df P w K mg base 1 "are_signs" ["thing", "least", "most"] m_are_signs := by
  unfold m_are_signs
  obtain ⟨f, fd, Fn, hm⟩ := T.f_are_signs
  exact Df.mk' Fn sc_are_signs hm (Fn.binds fun _ _ _ _ _ _ us hl => match us, hl with | [_, _, _], _ => rfl) (fun cdv A outer s H E hr => b_are_signs.2 T  f cdv A outer s H E hr)
theorem sc_is_piece : FnScope ["thing"] ["thing"] (defScope st_is_piece) := ⟨rfl, rfl, rfl, by decide +kernel, rfl, by decide +kernel, by decide +kernel⟩
noncomputable def b_is_piece : { g : SM // ∀ {P : Program} {w : World} {K : PySem.W.Frag} {mg : Str → Option Value} {base : Heap} (T : Txt K mg) (c_are_signs : Df P w K mg base 1 "are_signs" ["thing", "least", "most"] m_are_signs) (f : Addr) (cdv : Value) (A : Around) (outer : List Env) (s : Shared) (H : Hp) (E : XK), Room 1 (A.deeper (envOfC "is_piece" (defScope st_is_piece) s.heap.objs.size f cdv)) → PDSs (cxOf (L2.CX P w) P w K mg base ["thing"] "is_piece" (defScope st_is_piece) f cdv A outer s H E) E (defBody st_is_piece) g } :=
  ⟨_, fun T c_are_signs f cdv A outer s H E hr => by
    have Sc := sc_is_piece
    exact (pds_one (pds_ret (pd_call c_are_signs hr (pda_cons false (pd_var 0) (pda_cons false pd_int (pda_cons false (pd_gint T.c_MOST_IN_PIECE) pda_nil))) hx_cx (hlen := (aCons_len (aCons_len (aCons_len aNil_len)))))))⟩
@[irreducible] noncomputable def m_is_piece : FM := fnOf ["thing"] b_is_piece.1
theorem df_is_piece {P : Program} {w : World} {K : PySem.W.Frag} {mg : Str → Option Value} {base : Heap} (T : Txt K mg) (c_are_signs : Df P w K mg base 1 "are_signs" ["thing", "least", "most"] m_are_signs) : Df P w K mg base 2 "is_piece" ["thing"] m_is_piece := by
  unfold m_is_piece
  obtain ⟨f, fd, Fn, hm⟩ := T.f_is_piece
  exact Df.mk' Fn sc_is_piece hm (Fn.binds fun _ _ _ _ _ _ us hl => match us, hl with | [_], _ => rfl) (fun cdv A outer s H E hr => b_is_piece.2 T c_are_signs f cdv A outer s H E hr)
theorem sc_is_id : FnScope ["thing"] ["thing"] (defScope st_is_id) := ⟨rfl, rfl, rfl, by decide +kernel, rfl, by decide +kernel, by decide +kernel⟩
noncomputable def b_is_id : { g : SM // ∀ {P : Program} {w : World} {K : PySem.W.Frag} {mg : Str → Option Value} {base : Heap} (T : Txt K mg) (c_is_hand : Df P w K mg base 3 "is_hand" ["thing"] m_is_hand) (c_is_pair_of_numbers : Df P w K mg base 3 "is_pair_of_numbers" ["thing"] m_is_pair_of_numbers) (f : Addr) (cdv : Value) (A : Around) (outer : List Env) (s : Shared) (H : Hp) (E : XK), Room 3 (A.deeper (envOfC "is_id" (defScope st_is_id) s.heap.objs.size f cdv)) → PDSs (cxOf (L2.CX P w) P w K mg base ["thing"] "is_id" (defScope st_is_id) f cdv A outer s H E) E (defBody st_is_id) g } :=
  ⟨_, fun T c_is_hand c_is_pair_of_numbers f cdv A outer s H E hr => by
    have Sc := sc_is_id
    exact (pds_one (pds_ret (pd_and (pd_call c_is_pair_of_numbers hr (pda_cons false (pd_var 0) pda_nil) hx_cx (hlen := (aCons_len aNil_len))) (pd_and (pd_call c_is_hand hr (pda_cons false (pd_ix (pd_var 0) pd_int) pda_nil) hx_cx (hlen := (aCons_len aNil_len))) (pd_one (pd_geA (pd_ix (pd_var 0) pd_int) pd_int))))))⟩
@[irreducible] noncomputable def m_is_id : FM := fnOf ["thing"] b_is_id.1
theorem df_is_id {P : Program} {w : World} {K : PySem.W.Frag} {mg : Str → Option Value} {base : Heap} (T : Txt K mg) (c_is_hand : Df P w K mg base 3 "is_hand" ["thing"] m_is_hand) (c_is_pair_of_numbers : Df P w K mg base 3 "is_pair_of_numbers" ["thing"] m_is_pair_of_numbers) : Df P w K mg base 4 "is_id" ["thing"] m_is_id := by
  unfold m_is_id
  obtain ⟨f, fd, Fn, hm⟩ := T.f_is_id
  exact Df.mk' Fn sc_is_id hm (Fn.binds fun _ _ _ _ _ _ us hl => match us, hl with | [_], _ => rfl) (fun cdv A outer s H E hr => b_is_id.2 T c_is_hand c_is_pair_of_numbers f cdv A outer s H E hr)
theorem sc_is_row : FnScope ["thing", "one"] ["thing"] (defScope st_is_row) := ⟨rfl, rfl, rfl, by decide +kernel, rfl, by decide +kernel, by decide +kernel⟩
noncomputable def b_is_row : { g : SM // ∀ {P : Program} {w : World} {K : PySem.W.Frag} {mg : Str → Option Value} {base : Heap} (T : Txt K mg) (c_is_id : Df P w K mg base 4 "is_id" ["thing"] m_is_id) (f : Addr) (cdv : Value) (A : Around) (outer : List Env) (s : Shared) (H : Hp) (E : XK), Room 4 (A.deeper (envOfC "is_row" (defScope st_is_row) s.heap.objs.size f cdv)) → PDSs (cxOf (L2.CX P w) P w K mg base ["thing", "one"] "is_row" (defScope st_is_row) f cdv A outer s H E) E (defBody st_is_row) g } :=
  ⟨_, fun T c_is_id f cdv A outer s H E hr => by
    have Sc := sc_is_row
    exact (pds_cons (pds_if (pdt_isN (pd_var 0) pd_non) (pds_one (pds_ret pd_bl)) pds_nil)
    (pds_one (pds_ret (pd_and (pd_isi T.b_isinstance T.b_tuple (by decide +kernel) kTup (pd_var 0)) (pd_and (pd_leA (pd_len T.b_len (pd_var 0)) (pd_gint T.c_MOST_IN_ROW)) (pd_one (pd_all T.b_all rfl (pd_lc rfl Sc.nd (pdi_any (pd_var 0)) [("one", 1)] (blkOk_by (N := ["thing", "one"]) (sc := defScope st_is_row) (by decide +kernel)) (fun _ _ _ _ _ => (pdg_name 1 Sc.nd)) (gT1_mem 1) (fun _ _ _ _ _ => pdts_nil) (fun _ _ _ _ _ => (pd_call c_is_id hr (pda_cons false (pd_var 1) pda_nil) passL (hlen := (aCons_len aNil_len))))))))))))⟩
@[irreducible] noncomputable def m_is_row : FM := fnOf ["thing", "one"] b_is_row.1
theorem df_is_row {P : Program} {w : World} {K : PySem.W.Frag} {mg : Str → Option Value} {base : Heap} (T : Txt K mg) (c_is_id : Df P w K mg base 4 "is_id" ["thing"] m_is_id) : Df P w K mg base 5 "is_row" ["thing"] m_is_row := by
  unfold m_is_row
  obtain ⟨f, fd, Fn, hm⟩ := T.f_is_row
  exact Df.mk' Fn sc_is_row hm (Fn.binds fun _ _ _ _ _ _ us hl => match us, hl with | [_], _ => rfl) (fun cdv A outer s H E hr => b_is_row.2 T c_is_id f cdv A outer s H E hr)
theorem sc_is_stamp : FnScope ["thing"] ["thing"] (defScope st_is_stamp) := ⟨rfl, rfl, rfl, by decide +kernel, rfl, by decide +kernel, by decide +kernel⟩
noncomputable def b_is_stamp : { g : SM // ∀ {P : Program} {w : World} {K : PySem.W.Frag} {mg : Str → Option Value} {base : Heap} (T : Txt K mg) (c_is_pair_of_numbers : Df P w K mg base 3 "is_pair_of_numbers" ["thing"] m_is_pair_of_numbers) (c_is_hand : Df P w K mg base 3 "is_hand" ["thing"] m_is_hand) (f : Addr) (cdv : Value) (A : Around) (outer : List Env) (s : Shared) (H : Hp) (E : XK), Room 3 (A.deeper (envOfC "is_stamp" (defScope st_is_stamp) s.heap.objs.size f cdv)) → PDSs (cxOf (L2.CX P w) P w K mg base ["thing"] "is_stamp" (defScope st_is_stamp) f cdv A outer s H E) E (defBody st_is_stamp) g } :=
  ⟨_, fun T c_is_pair_of_numbers c_is_hand f cdv A outer s H E hr => by
    have Sc := sc_is_stamp
    exact (pds_cons (pds_if (pdt_not (pdt_val (pd_call c_is_pair_of_numbers hr (pda_cons false (pd_var 0) pda_nil) hx_cx (hlen := (aCons_len aNil_len))))) (pds_one (pds_ret pd_bl)) pds_nil)
    (pds_one (pds_ret (pd_or (pd_eq hr (pd_var 0) (pd_gtup T.c_FIRST_STAMP)) (pd_one (pd_and (pd_geA (pd_ix (pd_var 0) pd_int) pd_int) (pd_one (pd_call c_is_hand hr (pda_cons false (pd_ix (pd_var 0) pd_int) pda_nil) hx_cx (hlen := (aCons_len aNil_len))))))))))⟩
@[irreducible] noncomputable def m_is_stamp : FM := fnOf ["thing"] b_is_stamp.1
theorem df_is_stamp {P : Program} {w : World} {K : PySem.W.Frag} {mg : Str → Option Value} {base : Heap} (T : Txt K mg) (c_is_pair_of_numbers : Df P w K mg base 3 "is_pair_of_numbers" ["thing"] m_is_pair_of_numbers) (c_is_hand : Df P w K mg base 3 "is_hand" ["thing"] m_is_hand) : Df P w K mg base 4 "is_stamp" ["thing"] m_is_stamp := by
  unfold m_is_stamp
  obtain ⟨f, fd, Fn, hm⟩ := T.f_is_stamp
  exact Df.mk' Fn sc_is_stamp hm (Fn.binds fun _ _ _ _ _ _ us hl => match us, hl with | [_], _ => rfl) (fun cdv A outer s H E hr => b_is_stamp.2 T c_is_pair_of_numbers c_is_hand f cdv A outer s H E hr)
theorem sc_is_members : FnScope ["thing", "one"] ["thing"] (defScope st_is_members) := ⟨rfl, rfl, rfl, by decide +kernel, rfl, by decide +kernel, by decide +kernel⟩
noncomputable def b_is_members : { g : SM // ∀ {P : Program} {w : World} {K : PySem.W.Frag} {mg : Str → Option Value} {base : Heap} (T : Txt K mg) (c_are_ascending : Df P w K mg base 1 "are_ascending" ["things"] m_are_ascending) (c_is_home : Df P w K mg base 3 "is_home" ["thing"] m_is_home) (f : Addr) (cdv : Value) (A : Around) (outer : List Env) (s : Shared) (H : Hp) (E : XK), Room 3 (A.deeper (envOfC "is_members" (defScope st_is_members) s.heap.objs.size f cdv)) → PDSs (cxOf (L2.CX P w) P w K mg base ["thing", "one"] "is_members" (defScope st_is_members) f cdv A outer s H E) E (defBody st_is_members) g } :=
  ⟨_, fun T c_are_ascending c_is_home f cdv A outer s H E hr => by
    have Sc := sc_is_members
    exact (pds_cons (pds_if (PDW.t (pdw_or (pdt_not (pdt_val (pd_isi T.b_isinstance T.b_tuple (by decide +kernel) kTup (pd_var 0)))) (pdw_or1 (pdt_not (pdt_leLe pd_int (pd_len T.b_len (pd_var 0)) (pd_gint T.c_MOST_HOMES)))))) (pds_one (pds_ret pd_bl)) pds_nil)
    (pds_one (pds_ret (pd_and (pd_all T.b_all rfl (pd_lc rfl Sc.nd (pdi_any (pd_var 0)) [("one", 1)] (blkOk_by (N := ["thing", "one"]) (sc := defScope st_is_members) (by decide +kernel)) (fun _ _ _ _ _ => (pdg_name 1 Sc.nd)) (gT1_mem 1) (fun _ _ _ _ _ => pdts_nil) (fun _ _ _ _ _ => (pd_call c_is_home hr (pda_cons false (pd_var 1) pda_nil) passL (hlen := (aCons_len aNil_len)))))) (pd_one (pd_call c_are_ascending hr (pda_cons false (pd_var 0) pda_nil) hx_cx (hlen := (aCons_len aNil_len))))))))⟩
@[irreducible] noncomputable def m_is_members : FM := fnOf ["thing", "one"] b_is_members.1
theorem df_is_members {P : Program} {w : World} {K : PySem.W.Frag} {mg : Str → Option Value} {base : Heap} (T : Txt K mg) (c_are_ascending : Df P w K mg base 1 "are_ascending" ["things"] m_are_ascending) (c_is_home : Df P w K mg base 3 "is_home" ["thing"] m_is_home) : Df P w K mg base 4 "is_members" ["thing"] m_is_members := by
  unfold m_is_members
  obtain ⟨f, fd, Fn, hm⟩ := T.f_is_members
  exact Df.mk' Fn sc_is_members hm (Fn.binds fun _ _ _ _ _ _ us hl => match us, hl with | [_], _ => rfl) (fun cdv A outer s H E hr => b_is_members.2 T c_are_ascending c_is_home f cdv A outer s H E hr)
end K43

set_option Elab.async false
set_option linter.all false
set_option maxRecDepth 100000
set_option maxHeartbeats 4000000
namespace K43
open PySem PySem.Spec PyProof.Rows L2 PD

theorem sc_is_small_prime : FnScope ["number", "at"] ["number"] (defScope st_is_small_prime) := ⟨rfl, rfl, rfl, by decide +kernel, rfl, by decide +kernel, by decide +kernel⟩
noncomputable def b_is_small_prime : { g : SM // ∀ {P : Program} {w : World} {K : PySem.W.Frag} {mg : Str → Option Value} {base : Heap} (T : Txt K mg)  (f : Addr) (cdv : Value) (A : Around) (outer : List Env) (s : Shared) (H : Hp) (E : XK), Room 0 (A.deeper (envOfC "is_small_prime" (defScope st_is_small_prime) s.heap.objs.size f cdv)) → PDSs (cxOf (L2.CX P w) P w K mg base ["number", "at"] "is_small_prime" (defScope st_is_small_prime) f cdv A outer s H E) E (defBody st_is_small_prime) g } :=
  ⟨_, fun T  f cdv A outer s H E hr => by
    have Sc := sc_is_small_prime
    exact (pds_cons (pds_set false 1 Sc.nd pd_int)
    (pds_cons (pds_while rounds.1 (pdt_leA (pd_mul (pd_var 1) (pd_var 1)) (pd_var 0)) (pds_cons (pds_if (pdt_eq hr (pd_mod (pd_var 0) (pd_var 1)) pd_int) (pds_one (pds_ret pd_bl)) pds_nil)
    (pds_one (pds_augAdd 1 Sc.nd pd_int))) (passes_of rfl))
    (pds_one (pds_ret (pd_gtA (pd_var 0) pd_int)))))⟩
@[irreducible] noncomputable def m_is_small_prime : FM := fnOf ["number", "at"] b_is_small_prime.1
theorem df_is_small_prime {P : Program} {w : World} {K : PySem.W.Frag} {mg : Str → Option Value} {base : Heap} (T : Txt K mg)  : Df P w K mg base 1 "is_small_prime" ["number"] m_is_small_prime := by
  unfold m_is_small_prime
  obtain ⟨f, fd, Fn, hm⟩ := T.f_is_small_prime
  exact Df.mk' Fn sc_is_small_prime hm (Fn.binds fun _ _ _ _ _ _ us hl => match us, hl with | [_], _ => rfl) (fun cdv A outer s H E hr => b_is_small_prime.2 T  f cdv A outer s H E hr)
theorem sc_inverse : FnScope ["prime", "number", "left", "right", "one", "other", "times"] ["prime", "number"] (defScope st_inverse) := ⟨rfl, rfl, rfl, by decide +kernel, rfl, by decide +kernel, by decide +kernel⟩
noncomputable def b_inverse : { g : SM // ∀ {P : Program} {w : World} {K : PySem.W.Frag} {mg : Str → Option Value} {base : Heap} (T : Txt K mg)  (f : Addr) (cdv : Value) (A : Around) (outer : List Env) (s : Shared) (H : Hp) (E : XK), Room 0 (A.deeper (envOfC "inverse" (defScope st_inverse) s.heap.objs.size f cdv)) → PDSs (cxOf (L2.CX P w) P w K mg base ["prime", "number", "left", "right", "one", "other", "times"] "inverse" (defScope st_inverse) f cdv A outer s H E) E (defBody st_inverse) g } :=
  ⟨_, fun T  f cdv A outer s H E hr => by
    have Sc := sc_inverse
    exact (pds_cons (pds_par false false 2 3 rfl Sc.nd (pd_var 0) (pd_mod (pd_var 1) (pd_var 0)))
    (pds_cons (pds_tup (pdg_tup rfl (pdgs_cons 4 Sc.nd (pdgs_cons 5 Sc.nd pdgs_nil))) (pd_tup (pda_cons false pd_int (pda_cons false pd_int pda_nil))))
    (pds_cons (pds_while rounds.1 (pdt_gtA (pd_var 3) pd_int) (pds_cons (pds_set false 6 Sc.nd (pd_div (pd_var 2) (pd_var 3)))
    (pds_cons (pds_par false false 2 3 rfl Sc.nd (pd_var 3) (pd_subI (pd_var 2) (pd_mul (pd_var 6) (pd_var 3))))
    (pds_one (pds_par false false 4 5 rfl Sc.nd (pd_var 5) (pd_subI (pd_var 4) (pd_mul (pd_var 6) (pd_var 5))))))) (passes_of rfl))
    (pds_one (pds_ret (pd_mod (pd_var 4) (pd_var 0)))))))⟩
@[irreducible] noncomputable def m_inverse : FM := fnOf ["prime", "number", "left", "right", "one", "other", "times"] b_inverse.1
theorem df_inverse {P : Program} {w : World} {K : PySem.W.Frag} {mg : Str → Option Value} {base : Heap} (T : Txt K mg)  : Df P w K mg base 1 "inverse" ["prime", "number"] m_inverse := by
  unfold m_inverse
  obtain ⟨f, fd, Fn, hm⟩ := T.f_inverse
  exact Df.mk' Fn sc_inverse hm (Fn.binds fun _ _ _ _ _ _ us hl => match us, hl with | [_, _], _ => rfl) (fun cdv A outer s H E hr => b_inverse.2 T  f cdv A outer s H E hr)
theorem sc_trimmed : FnScope ["coefficients", "many"] ["coefficients"] (defScope st_trimmed) := ⟨rfl, rfl, rfl, by decide +kernel, rfl, by decide +kernel, by decide +kernel⟩
noncomputable def b_trimmed : { g : SM // ∀ {P : Program} {w : World} {K : PySem.W.Frag} {mg : Str → Option Value} {base : Heap} (T : Txt K mg)  (f : Addr) (cdv : Value) (A : Around) (outer : List Env) (s : Shared) (H : Hp) (E : XK), Room 0 (A.deeper (envOfC "trimmed" (defScope st_trimmed) s.heap.objs.size f cdv)) → PDSs (cxOf (L2.CX P w) P w K mg base ["coefficients", "many"] "trimmed" (defScope st_trimmed) f cdv A outer s H E) E (defBody st_trimmed) g } :=
  ⟨_, fun T  f cdv A outer s H E hr => by
    have Sc := sc_trimmed
    exact (pds_cons (pds_set false 1 Sc.nd (pd_len T.b_len (pd_var 0)))
    (pds_cons (pds_while rounds.1 (PDW.t (pdw_and (pdt_gtA (pd_var 1) pd_int) (pdw_and1 (pdt_eq hr (pd_ix (pd_var 0) (pd_subI (pd_var 1) pd_int)) pd_int)))) (pds_one (pds_augSub 1 Sc.nd pd_int)) (passes_of rfl))
    (pds_one (pds_ret (pd_list T.b_list (pd_slice (pd_var 0) pdo_none (pdo_some (pd_var 1))))))))⟩
@[irreducible] noncomputable def m_trimmed : FM := fnOf ["coefficients", "many"] b_trimmed.1
theorem df_trimmed {P : Program} {w : World} {K : PySem.W.Frag} {mg : Str → Option Value} {base : Heap} (T : Txt K mg)  : Df P w K mg base 1 "trimmed" ["coefficients"] m_trimmed := by
  unfold m_trimmed
  obtain ⟨f, fd, Fn, hm⟩ := T.f_trimmed
  exact Df.mk' Fn sc_trimmed hm (Fn.binds fun _ _ _ _ _ _ us hl => match us, hl with | [_], _ => rfl) (fun cdv A outer s H E hr => b_trimmed.2 T  f cdv A outer s H E hr)
theorem sc_at_place : FnScope ["prime", "polynomial", "place", "total", "coefficient"] ["prime", "polynomial", "place"] (defScope st_at_place) := ⟨rfl, rfl, rfl, by decide +kernel, rfl, by decide +kernel, by decide +kernel⟩
noncomputable def b_at_place : { g : SM // ∀ {P : Program} {w : World} {K : PySem.W.Frag} {mg : Str → Option Value} {base : Heap} (T : Txt K mg)  (f : Addr) (cdv : Value) (A : Around) (outer : List Env) (s : Shared) (H : Hp) (E : XK), Room 0 (A.deeper (envOfC "at_place" (defScope st_at_place) s.heap.objs.size f cdv)) → PDSs (cxOf (L2.CX P w) P w K mg base ["prime", "polynomial", "place", "total", "coefficient"] "at_place" (defScope st_at_place) f cdv A outer s H E) E (defBody st_at_place) g } :=
  ⟨_, fun T  f cdv A outer s H E hr => by
    have Sc := sc_at_place
    exact (pds_cons (pds_set false 3 Sc.nd pd_int)
    (pds_cons (pds_for (pdi_any (pd_rev (pd_var 1))) (pdg_name 4 Sc.nd) (pds_one (pds_set false 3 Sc.nd (pd_mod (pd_add (pd_mul (pd_var 3) (pd_var 2)) (pd_var 4)) (pd_var 0)))) rfl (passes_of rfl))
    (pds_one (pds_ret (pd_var 3)))))⟩
@[irreducible] noncomputable def m_at_place : FM := fnOf ["prime", "polynomial", "place", "total", "coefficient"] b_at_place.1
theorem df_at_place {P : Program} {w : World} {K : PySem.W.Frag} {mg : Str → Option Value} {base : Heap} (T : Txt K mg)  : Df P w K mg base 1 "at_place" ["prime", "polynomial", "place"] m_at_place := by
  unfold m_at_place
  obtain ⟨f, fd, Fn, hm⟩ := T.f_at_place
  exact Df.mk' Fn sc_at_place hm (Fn.binds fun _ _ _ _ _ _ us hl => match us, hl with | [_, _, _], _ => rfl) (fun cdv A outer s H E hr => b_at_place.2 T  f cdv A outer s H E hr)
theorem sc_monic : FnScope ["prime", "polynomial", "factor", "coefficient"] ["prime", "polynomial"] (defScope st_monic) := ⟨rfl, rfl, rfl, by decide +kernel, rfl, by decide +kernel, by decide +kernel⟩
noncomputable def b_monic : { g : SM // ∀ {P : Program} {w : World} {K : PySem.W.Frag} {mg : Str → Option Value} {base : Heap} (T : Txt K mg) (c_inverse : Df P w K mg base 1 "inverse" ["prime", "number"] m_inverse) (f : Addr) (cdv : Value) (A : Around) (outer : List Env) (s : Shared) (H : Hp) (E : XK), Room 1 (A.deeper (envOfC "monic" (defScope st_monic) s.heap.objs.size f cdv)) → PDSs (cxOf (L2.CX P w) P w K mg base ["prime", "polynomial", "factor", "coefficient"] "monic" (defScope st_monic) f cdv A outer s H E) E (defBody st_monic) g } :=
  ⟨_, fun T c_inverse f cdv A outer s H E hr => by
    have Sc := sc_monic
    exact (pds_cons (pds_set false 2 Sc.nd (pd_call c_inverse hr (pda_cons false (pd_var 0) (pda_cons false (pd_ix (pd_var 1) (pd_neg pd_int)) pda_nil)) hx_cx (hlen := (aCons_len (aCons_len aNil_len)))))
    (pds_one (pds_ret (pd_lc rfl Sc.nd (pdi_any (pd_var 1)) [("coefficient", 3)] (blkOk_by (N := ["prime", "polynomial", "factor", "coefficient"]) (sc := defScope st_monic) (by decide +kernel)) (fun _ _ _ _ _ => (pdg_name 3 Sc.nd)) (gT1_mem 3) (fun _ _ _ _ _ => pdts_nil) (fun _ _ _ _ _ => (pd_mod (pd_mul (pd_var 3) (pd_var 2)) (pd_var 0)))))))⟩
@[irreducible] noncomputable def m_monic : FM := fnOf ["prime", "polynomial", "factor", "coefficient"] b_monic.1
theorem df_monic {P : Program} {w : World} {K : PySem.W.Frag} {mg : Str → Option Value} {base : Heap} (T : Txt K mg) (c_inverse : Df P w K mg base 1 "inverse" ["prime", "number"] m_inverse) : Df P w K mg base 2 "monic" ["prime", "polynomial"] m_monic := by
  unfold m_monic
  obtain ⟨f, fd, Fn, hm⟩ := T.f_monic
  exact Df.mk' Fn sc_monic hm (Fn.binds fun _ _ _ _ _ _ us hl => match us, hl with | [_, _], _ => rfl) (fun cdv A outer s H E hr => b_monic.2 T c_inverse f cdv A outer s H E hr)
theorem sc_parted : FnScope ["prime", "polynomial", "divisor", "rest", "factor", "quotient", "shift", "times", "lower", "coefficient", "one", "other"] ["prime", "polynomial", "divisor"] (defScope st_parted) := ⟨rfl, rfl, rfl, by decide +kernel, rfl, by decide +kernel, by decide +kernel⟩
noncomputable def b_parted : { g : SM // ∀ {P : Program} {w : World} {K : PySem.W.Frag} {mg : Str → Option Value} {base : Heap} (T : Txt K mg) (c_trimmed : Df P w K mg base 1 "trimmed" ["coefficients"] m_trimmed) (c_inverse : Df P w K mg base 1 "inverse" ["prime", "number"] m_inverse) (f : Addr) (cdv : Value) (A : Around) (outer : List Env) (s : Shared) (H : Hp) (E : XK), Room 1 (A.deeper (envOfC "parted" (defScope st_parted) s.heap.objs.size f cdv)) → PDSs (cxOf (L2.CX P w) P w K mg base ["prime", "polynomial", "divisor", "rest", "factor", "quotient", "shift", "times", "lower", "coefficient", "one", "other"] "parted" (defScope st_parted) f cdv A outer s H E) E (defBody st_parted) g } :=
  ⟨_, fun T c_trimmed c_inverse f cdv A outer s H E hr => by
    have Sc := sc_parted
    exact (pds_cons (pds_set false 3 Sc.nd (pd_call c_trimmed hr (pda_cons false (pd_var 1) pda_nil) hx_cx (hlen := (aCons_len aNil_len))))
    (pds_cons (pds_set false 4 Sc.nd (pd_call c_inverse hr (pda_cons false (pd_var 0) (pda_cons false (pd_ix (pd_var 2) (pd_neg pd_int)) pda_nil)) hx_cx (hlen := (aCons_len (aCons_len aNil_len)))))
    (pds_cons (pds_set true 5 Sc.nd (pd_mul (pd_lst (pda_cons false pd_int pda_nil)) (pd_max2 T.b_max rfl (pd_add (pd_subI (pd_len T.b_len (pd_var 3)) (pd_len T.b_len (pd_var 2))) pd_int) pd_int)))
    (pds_cons (pds_while rounds.1 (pdt_geA (pd_len T.b_len (pd_var 3)) (pd_len T.b_len (pd_var 2))) (pds_cons (pds_set false 6 Sc.nd (pd_subI (pd_len T.b_len (pd_var 3)) (pd_len T.b_len (pd_var 2))))
    (pds_cons (pds_set false 7 Sc.nd (pd_mod (pd_mul (pd_ix (pd_var 3) (pd_neg pd_int)) (pd_var 4)) (pd_var 0)))
    (pds_cons (pds_item (pd_var 7) (pd_var 5) (pd_var 6))
    (pds_cons (pds_set false 8 Sc.nd (pd_add (pd_mul (pd_lst (pda_cons false pd_int pda_nil)) (pd_var 6)) (pd_lc rfl Sc.nd (pdi_any (pd_var 2)) [("coefficient", 9)] (blkOk_by (N := ["prime", "polynomial", "divisor", "rest", "factor", "quotient", "shift", "times", "lower", "coefficient", "one", "other"]) (sc := defScope st_parted) (by decide +kernel)) (fun _ _ _ _ _ => (pdg_name 9 Sc.nd)) (gT1_mem 9) (fun _ _ _ _ _ => pdts_nil) (fun _ _ _ _ _ => (pd_mul (pd_var 9) (pd_var 7))))))
    (pds_one (pds_set false 3 Sc.nd (pd_call c_trimmed hr (pda_cons false (pd_lc rfl Sc.nd (pdi_zip T.b_zip (pd_var 3) (pd_var 8)) [("one", 10), ("other", 11)] (blkOk_by (N := ["prime", "polynomial", "divisor", "rest", "factor", "quotient", "shift", "times", "lower", "coefficient", "one", "other"]) (sc := defScope st_parted) (by decide +kernel)) (fun _ _ _ _ _ => (pdg_tup rfl (pdgs_cons 10 Sc.nd (pdgs_cons 11 Sc.nd pdgs_nil)))) (gTupT_mem [10, 11]) (fun _ _ _ _ _ => pdts_nil) (fun _ _ _ _ _ => (pd_mod (pd_subI (pd_var 10) (pd_var 11)) (pd_var 0)))) pda_nil) hx_cx (hlen := (aCons_len aNil_len))))))))) (passes_of rfl))
    (pds_one (pds_ret (pd_tup (pda_cons false (pd_var 5) (pda_cons false (pd_var 3) pda_nil)))))))))⟩
@[irreducible] noncomputable def m_parted : FM := fnOf ["prime", "polynomial", "divisor", "rest", "factor", "quotient", "shift", "times", "lower", "coefficient", "one", "other"] b_parted.1
theorem df_parted {P : Program} {w : World} {K : PySem.W.Frag} {mg : Str → Option Value} {base : Heap} (T : Txt K mg) (c_trimmed : Df P w K mg base 1 "trimmed" ["coefficients"] m_trimmed) (c_inverse : Df P w K mg base 1 "inverse" ["prime", "number"] m_inverse) : Df P w K mg base 2 "parted" ["prime", "polynomial", "divisor"] m_parted := by
  unfold m_parted
  obtain ⟨f, fd, Fn, hm⟩ := T.f_parted
  exact Df.mk' Fn sc_parted hm (Fn.binds fun _ _ _ _ _ _ us hl => match us, hl with | [_, _, _], _ => rfl) (fun cdv A outer s H E hr => b_parted.2 T c_trimmed c_inverse f cdv A outer s H E hr)
theorem sc_common : FnScope ["prime", "one", "other"] ["prime", "one", "other"] (defScope st_common) := ⟨rfl, rfl, rfl, by decide +kernel, rfl, by decide +kernel, by decide +kernel⟩
noncomputable def b_common : { g : SM // ∀ {P : Program} {w : World} {K : PySem.W.Frag} {mg : Str → Option Value} {base : Heap} (T : Txt K mg) (c_trimmed : Df P w K mg base 1 "trimmed" ["coefficients"] m_trimmed) (c_parted : Df P w K mg base 2 "parted" ["prime", "polynomial", "divisor"] m_parted) (c_monic : Df P w K mg base 2 "monic" ["prime", "polynomial"] m_monic) (f : Addr) (cdv : Value) (A : Around) (outer : List Env) (s : Shared) (H : Hp) (E : XK), Room 2 (A.deeper (envOfC "common" (defScope st_common) s.heap.objs.size f cdv)) → PDSs (cxOf (L2.CX P w) P w K mg base ["prime", "one", "other"] "common" (defScope st_common) f cdv A outer s H E) E (defBody st_common) g } :=
  ⟨_, fun T c_trimmed c_parted c_monic f cdv A outer s H E hr => by
    have Sc := sc_common
    exact (pds_cons (pds_par false false 1 2 rfl Sc.nd (pd_call c_trimmed hr (pda_cons false (pd_var 1) pda_nil) hx_cx (hlen := (aCons_len aNil_len))) (pd_call c_trimmed hr (pda_cons false (pd_var 2) pda_nil) hx_cx (hlen := (aCons_len aNil_len))))
    (pds_cons (pds_while rounds.1 (pdt_gtA (pd_len T.b_len (pd_var 2)) pd_int) (pds_one (pds_par false false 1 2 rfl Sc.nd (pd_var 2) (pd_ix (pd_call c_parted hr (pda_cons false (pd_var 0) (pda_cons false (pd_var 1) (pda_cons false (pd_var 2) pda_nil))) hx_cx (hlen := (aCons_len (aCons_len (aCons_len aNil_len))))) pd_int))) (passes_of rfl))
    (pds_one (pds_ret (pd_call c_monic hr (pda_cons false (pd_var 0) (pda_cons false (pd_var 1) pda_nil)) hx_cx (hlen := (aCons_len (aCons_len aNil_len))))))))⟩
@[irreducible] noncomputable def m_common : FM := fnOf ["prime", "one", "other"] b_common.1
theorem df_common {P : Program} {w : World} {K : PySem.W.Frag} {mg : Str → Option Value} {base : Heap} (T : Txt K mg) (c_trimmed : Df P w K mg base 1 "trimmed" ["coefficients"] m_trimmed) (c_parted : Df P w K mg base 2 "parted" ["prime", "polynomial", "divisor"] m_parted) (c_monic : Df P w K mg base 2 "monic" ["prime", "polynomial"] m_monic) : Df P w K mg base 3 "common" ["prime", "one", "other"] m_common := by
  unfold m_common
  obtain ⟨f, fd, Fn, hm⟩ := T.f_common
  exact Df.mk' Fn sc_common hm (Fn.binds fun _ _ _ _ _ _ us hl => match us, hl with | [_, _, _], _ => rfl) (fun cdv A outer s H E hr => b_common.2 T c_trimmed c_parted c_monic f cdv A outer s H E hr)
theorem sc_with_pivot : FnScope ["prime", "rows", "at", "column", "factor", "pivot", "found", "k", "row", "times", "entry", "other"] ["prime", "rows", "at", "column"] (defScope st_with_pivot) := ⟨rfl, rfl, rfl, by decide +kernel, rfl, by decide +kernel, by decide +kernel⟩
noncomputable def b_with_pivot : { g : SM // ∀ {P : Program} {w : World} {K : PySem.W.Frag} {mg : Str → Option Value} {base : Heap} (T : Txt K mg) (c_inverse : Df P w K mg base 1 "inverse" ["prime", "number"] m_inverse) (f : Addr) (cdv : Value) (A : Around) (outer : List Env) (s : Shared) (H : Hp) (E : XK), Room 1 (A.deeper (envOfC "with_pivot" (defScope st_with_pivot) s.heap.objs.size f cdv)) → PDSs (cxOf (L2.CX P w) P w K mg base ["prime", "rows", "at", "column", "factor", "pivot", "found", "k", "row", "times", "entry", "other"] "with_pivot" (defScope st_with_pivot) f cdv A outer s H E) E (defBody st_with_pivot) g } :=
  ⟨_, fun T c_inverse f cdv A outer s H E hr => by
    have Sc := sc_with_pivot
    exact (pds_cons (pds_set false 4 Sc.nd (pd_call c_inverse hr (pda_cons false (pd_var 0) (pda_cons false (pd_ix (pd_ix (pd_var 1) (pd_var 2)) (pd_var 3)) pda_nil)) hx_cx (hlen := (aCons_len (aCons_len aNil_len)))))
    (pds_cons (pds_setLc false 5 rfl Sc.nd (pdi_any (pd_ix (pd_var 1) (pd_var 2))) [("entry", 10)] (blkOk_by (N := ["prime", "rows", "at", "column", "factor", "pivot", "found", "k", "row", "times", "entry", "other"]) (sc := defScope st_with_pivot) (by decide +kernel)) (fun _ _ _ _ _ => (pdg_name 10 Sc.nd)) (gT1_mem 10) (fun _ _ _ _ _ => pdts_nil) (fun _ _ _ _ _ => (pd_mod (pd_mul (pd_var 10) (pd_var 4)) (pd_var 0))) (sw_true rfl rfl rfl (by decide +kernel)))
    (pds_cons (pds_set true 6 Sc.nd (pd_lst pda_nil))
    (pds_cons (pds_for (pdi_enum T.b_enumerate (pd_var 1)) (pdg_tup rfl (pdgs_cons 7 Sc.nd (pdgs_cons 8 Sc.nd pdgs_nil))) (pds_cons (pds_set false 9 Sc.nd (pd_ix (pd_var 8) (pd_var 3)))
    (pds_one (pds_if (pdt_eq hr (pd_var 7) (pd_var 2)) (pds_one (pds_expr (pd_append (pd_var 6) (pd_var 5)))) (pds_one (pds_expr (pd_append (pd_var 6) (pd_lc rfl Sc.nd (pdi_zip T.b_zip (pd_var 8) (pd_var 5)) [("entry", 10), ("other", 11)] (blkOk_by (N := ["prime", "rows", "at", "column", "factor", "pivot", "found", "k", "row", "times", "entry", "other"]) (sc := defScope st_with_pivot) (by decide +kernel)) (fun _ _ _ _ _ => (pdg_tup rfl (pdgs_cons 10 Sc.nd (pdgs_cons 11 Sc.nd pdgs_nil)))) (gTupT_mem [10, 11]) (fun _ _ _ _ _ => pdts_nil) (fun _ _ _ _ _ => (pd_mod (pd_subI (pd_var 10) (pd_mul (pd_var 9) (pd_var 11))) (pd_var 0)))))))))) rfl (passes_of rfl))
    (pds_one (pds_ret (pd_var 6)))))))⟩
@[irreducible] noncomputable def m_with_pivot : FM := fnOf ["prime", "rows", "at", "column", "factor", "pivot", "found", "k", "row", "times", "entry", "other"] b_with_pivot.1
theorem df_with_pivot {P : Program} {w : World} {K : PySem.W.Frag} {mg : Str → Option Value} {base : Heap} (T : Txt K mg) (c_inverse : Df P w K mg base 1 "inverse" ["prime", "number"] m_inverse) : Df P w K mg base 2 "with_pivot" ["prime", "rows", "at", "column"] m_with_pivot := by
  unfold m_with_pivot
  obtain ⟨f, fd, Fn, hm⟩ := T.f_with_pivot
  exact Df.mk' Fn sc_with_pivot hm (Fn.binds fun _ _ _ _ _ _ us hl => match us, hl with | [_, _, _, _], _ => rfl) (fun cdv A outer s H E hr => b_with_pivot.2 T c_inverse f cdv A outer s H E hr)
theorem sc_solved : FnScope ["prime", "rows", "many", "places", "column", "free", "k", "row"] ["prime", "rows", "many"] (defScope st_solved) := ⟨rfl, rfl, rfl, by decide +kernel, rfl, by decide +kernel, by decide +kernel⟩
noncomputable def b_solved : { g : SM // ∀ {P : Program} {w : World} {K : PySem.W.Frag} {mg : Str → Option Value} {base : Heap} (T : Txt K mg) (c_with_pivot : Df P w K mg base 2 "with_pivot" ["prime", "rows", "at", "column"] m_with_pivot) (f : Addr) (cdv : Value) (A : Around) (outer : List Env) (s : Shared) (H : Hp) (E : XK), Room 2 (A.deeper (envOfC "solved" (defScope st_solved) s.heap.objs.size f cdv)) → PDSs (cxOf (L2.CX P w) P w K mg base ["prime", "rows", "many", "places", "column", "free", "k", "row"] "solved" (defScope st_solved) f cdv A outer s H E) E (defBody st_solved) g } :=
  ⟨_, fun T c_with_pivot f cdv A outer s H E hr => by
    have Sc := sc_solved
    exact (pds_cons (pds_set true 3 Sc.nd (pd_lst pda_nil))
    (pds_cons (pds_for (pdi_range1 T.b_range (pd_var 2)) (pdg_name 4 Sc.nd) (pds_cons (pds_setLc false 5 rfl Sc.nd (pdi_enum T.b_enumerate (pd_var 1)) [("k", 6), ("row", 7)] (blkOk_by (N := ["prime", "rows", "many", "places", "column", "free", "k", "row"]) (sc := defScope st_solved) (by decide +kernel)) (fun _ _ _ _ _ => (pdg_tup rfl (pdgs_cons 6 Sc.nd (pdgs_cons 7 Sc.nd pdgs_nil)))) (gTupT_mem [6, 7]) (fun _ _ _ _ _ => (pdts_one (PDW.t (pdw_and (pdt_ne hr (pd_ix (pd_var 7) (pd_var 4)) pd_int) (pdw_and1 (pdt_notIn (pd_var 6) (pd_var 3))))))) (fun _ _ _ _ _ => (pd_var 6)) (sw_true rfl rfl rfl (by decide +kernel)))
    (pds_one (pds_if (pdt_gtA (pd_len T.b_len (pd_var 5)) pd_int) (pds_cons (pds_set false 1 Sc.nd (pd_call c_with_pivot hr (pda_cons false (pd_var 0) (pda_cons false (pd_var 1) (pda_cons false (pd_ix (pd_var 5) pd_int) (pda_cons false (pd_var 4) pda_nil)))) hx_cx (hlen := (aCons_len (aCons_len (aCons_len (aCons_len aNil_len)))))))
    (pds_one (pds_expr (pd_append (pd_var 3) (pd_ix (pd_var 5) pd_int))))) (pds_one (pds_expr (pd_append (pd_var 3) pd_non)))))) rfl (passes_of rfl))
    (pds_cons (pds_if (pdt_val (pd_any T.b_any rfl (pd_lc rfl Sc.nd (pdi_enum T.b_enumerate (pd_var 1)) [("k", 6), ("row", 7)] (blkOk_by (N := ["prime", "rows", "many", "places", "column", "free", "k", "row"]) (sc := defScope st_solved) (by decide +kernel)) (fun _ _ _ _ _ => (pdg_tup rfl (pdgs_cons 6 Sc.nd (pdgs_cons 7 Sc.nd pdgs_nil)))) (gTupT_mem [6, 7]) (fun _ _ _ _ _ => (pdts_one (pdt_notIn (pd_var 6) (pd_var 3)))) (fun _ _ _ _ _ => (pd_ne hr (pd_ix (pd_var 7) (pd_neg pd_int)) pd_int))))) (pds_one (pds_ret pd_non)) pds_nil)
    (pds_one (pds_ret (pd_lc rfl Sc.nd (pdi_any (pd_var 3)) [("k", 6)] (blkOk_by (N := ["prime", "rows", "many", "places", "column", "free", "k", "row"]) (sc := defScope st_solved) (by decide +kernel)) (fun _ _ _ _ _ => (pdg_name 6 Sc.nd)) (gT1_mem 6) (fun _ _ _ _ _ => pdts_nil) (fun _ _ _ _ _ => (pd_if (pdt_isN (pd_var 6) pd_non) pd_int (pd_ix (pd_ix (pd_var 1) (pd_var 6)) (pd_neg pd_int))))))))))⟩
@[irreducible] noncomputable def m_solved : FM := fnOf ["prime", "rows", "many", "places", "column", "free", "k", "row"] b_solved.1
theorem df_solved {P : Program} {w : World} {K : PySem.W.Frag} {mg : Str → Option Value} {base : Heap} (T : Txt K mg) (c_with_pivot : Df P w K mg base 2 "with_pivot" ["prime", "rows", "at", "column"] m_with_pivot) : Df P w K mg base 3 "solved" ["prime", "rows", "many"] m_solved := by
  unfold m_solved
  obtain ⟨f, fd, Fn, hm⟩ := T.f_solved
  exact Df.mk' Fn sc_solved hm (Fn.binds fun _ _ _ _ _ _ us hl => match us, hl with | [_, _, _], _ => rfl) (fun cdv A outer s H E hr => b_solved.2 T c_with_pivot f cdv A outer s H E hr)
end K43

set_option Elab.async false
set_option linter.all false
set_option maxRecDepth 100000
set_option maxHeartbeats 4000000
namespace K43
open PySem PySem.Spec PyProof.Rows L2 PD

theorem sc_check_prime : FnScope ["thing"] ["thing"] (defScope st_check_prime) := ⟨rfl, rfl, rfl, by decide +kernel, rfl, by decide +kernel, by decide +kernel⟩
noncomputable def b_check_prime : { g : SM // ∀ {P : Program} {w : World} {K : PySem.W.Frag} {mg : Str → Option Value} {base : Heap} (T : Txt K mg) (c_is_small_prime : Df P w K mg base 1 "is_small_prime" ["number"] m_is_small_prime) (c_is_integer : Df P w K mg base 1 "is_integer" ["thing"] m_is_integer) (f : Addr) (cdv : Value) (A : Around) (outer : List Env) (s : Shared) (H : Hp) (E : XK), Room 1 (A.deeper (envOfC "check_prime" (defScope st_check_prime) s.heap.objs.size f cdv)) → PDSs (cxOf (L2.CX P w) P w K mg base ["thing"] "check_prime" (defScope st_check_prime) f cdv A outer s H E) E (defBody st_check_prime) g } :=
  ⟨_, fun T c_is_small_prime c_is_integer f cdv A outer s H E hr => by
    have Sc := sc_check_prime
    exact (pds_one (pds_if (PDW.t (pdw_or (pdt_not (pdt_val (pd_call c_is_integer hr (pda_cons false (pd_var 0) pda_nil) hx_cx (hlen := (aCons_len aNil_len))))) (pdw_or1 (PDW.t (pdw_and (pdt_ne hr (pd_var 0) (pd_gint T.c_GREAT_PRIME)) (pdw_and1 (PDW.t (pdw_or (pdt_geA (pd_var 0) (pd_gint T.c_SMALL_PRIMES)) (pdw_or1 (pdt_not (pdt_val (pd_call c_is_small_prime hr (pda_cons false (pd_var 0) pda_nil) hx_cx (hlen := (aCons_len aNil_len)))))))))))))) (pds_one (pds_raise T.x_NoPrime rfl tk_cx)) pds_nil))⟩
@[irreducible] noncomputable def m_check_prime : FM := fnOf ["thing"] b_check_prime.1
theorem df_check_prime {P : Program} {w : World} {K : PySem.W.Frag} {mg : Str → Option Value} {base : Heap} (T : Txt K mg) (c_is_small_prime : Df P w K mg base 1 "is_small_prime" ["number"] m_is_small_prime) (c_is_integer : Df P w K mg base 1 "is_integer" ["thing"] m_is_integer) : Df P w K mg base 2 "check_prime" ["thing"] m_check_prime := by
  unfold m_check_prime
  obtain ⟨f, fd, Fn, hm⟩ := T.f_check_prime
  exact Df.mk' Fn sc_check_prime hm (Fn.binds fun _ _ _ _ _ _ us hl => match us, hl with | [_], _ => rfl) (fun cdv A outer s H E hr => b_check_prime.2 T c_is_small_prime c_is_integer f cdv A outer s H E hr)
theorem sc_check_numbers : FnScope ["prime", "thing", "number"] ["prime", "thing"] (defScope st_check_numbers) := ⟨rfl, rfl, rfl, by decide +kernel, rfl, by decide +kernel, by decide +kernel⟩
noncomputable def b_check_numbers : { g : SM // ∀ {P : Program} {w : World} {K : PySem.W.Frag} {mg : Str → Option Value} {base : Heap} (T : Txt K mg) (c_are_ascending : Df P w K mg base 1 "are_ascending" ["things"] m_are_ascending) (c_is_index : Df P w K mg base 3 "is_index" ["thing", "many"] m_is_index) (f : Addr) (cdv : Value) (A : Around) (outer : List Env) (s : Shared) (H : Hp) (E : XK), Room 3 (A.deeper (envOfC "check_numbers" (defScope st_check_numbers) s.heap.objs.size f cdv)) → PDSs (cxOf (L2.CX P w) P w K mg base ["prime", "thing", "number"] "check_numbers" (defScope st_check_numbers) f cdv A outer s H E) E (defBody st_check_numbers) g } :=
  ⟨_, fun T c_are_ascending c_is_index f cdv A outer s H E hr => by
    have Sc := sc_check_numbers
    exact (pds_cons (pds_if (PDW.t (pdw_or (pdt_not (pdt_val (pd_isi T.b_isinstance T.b_tuple (by decide +kernel) kTup (pd_var 1)))) (pdw_or1 (pdt_gtA (pd_len T.b_len (pd_var 1)) (pd_gint T.c_MOST_NUMBERS))))) (pds_one (pds_raise T.x_NoNumbers rfl tk_cx)) pds_nil)
    (pds_one (pds_if (PDW.t (pdw_or (pdt_not (pdt_val (pd_all T.b_all rfl (pd_lc rfl Sc.nd (pdi_any (pd_var 1)) [("number", 2)] (blkOk_by (N := ["prime", "thing", "number"]) (sc := defScope st_check_numbers) (by decide +kernel)) (fun _ _ _ _ _ => (pdg_name 2 Sc.nd)) (gT1_mem 2) (fun _ _ _ _ _ => pdts_nil) (fun _ _ _ _ _ => (pd_call c_is_index hr (pda_cons false (pd_var 2) (pda_cons false (pd_var 0) pda_nil)) passL (hlen := (aCons_len (aCons_len aNil_len))))))))) (pdw_or1 (pdt_not (pdt_val (pd_call c_are_ascending hr (pda_cons false (pd_var 1) pda_nil) hx_cx (hlen := (aCons_len aNil_len)))))))) (pds_one (pds_raise T.x_NoNumbers rfl tk_cx)) pds_nil)))⟩
@[irreducible] noncomputable def m_check_numbers : FM := fnOf ["prime", "thing", "number"] b_check_numbers.1
theorem df_check_numbers {P : Program} {w : World} {K : PySem.W.Frag} {mg : Str → Option Value} {base : Heap} (T : Txt K mg) (c_are_ascending : Df P w K mg base 1 "are_ascending" ["things"] m_are_ascending) (c_is_index : Df P w K mg base 3 "is_index" ["thing", "many"] m_is_index) : Df P w K mg base 4 "check_numbers" ["prime", "thing"] m_check_numbers := by
  unfold m_check_numbers
  obtain ⟨f, fd, Fn, hm⟩ := T.f_check_numbers
  exact Df.mk' Fn sc_check_numbers hm (Fn.binds fun _ _ _ _ _ _ us hl => match us, hl with | [_, _], _ => rfl) (fun cdv A outer s H E hr => b_check_numbers.2 T c_are_ascending c_is_index f cdv A outer s H E hr)
theorem sc_check_places : FnScope ["prime", "numbers", "thing", "place"] ["prime", "numbers", "thing"] (defScope st_check_places) := ⟨rfl, rfl, rfl, by decide +kernel, rfl, by decide +kernel, by decide +kernel⟩
noncomputable def b_check_places : { g : SM // ∀ {P : Program} {w : World} {K : PySem.W.Frag} {mg : Str → Option Value} {base : Heap} (T : Txt K mg) (c_is_index : Df P w K mg base 3 "is_index" ["thing", "many"] m_is_index) (f : Addr) (cdv : Value) (A : Around) (outer : List Env) (s : Shared) (H : Hp) (E : XK), Room 3 (A.deeper (envOfC "check_places" (defScope st_check_places) s.heap.objs.size f cdv)) → PDSs (cxOf (L2.CX P w) P w K mg base ["prime", "numbers", "thing", "place"] "check_places" (defScope st_check_places) f cdv A outer s H E) E (defBody st_check_places) g } :=
  ⟨_, fun T c_is_index f cdv A outer s H E hr => by
    have Sc := sc_check_places
    exact (pds_cons (pds_if (PDW.t (pdw_or (pdt_not (pdt_val (pd_isi T.b_isinstance T.b_tuple (by decide +kernel) kTup (pd_var 2)))) (pdw_or1 (pdt_gtA (pd_len T.b_len (pd_var 2)) (pd_gint T.c_MOST_PLACES))))) (pds_one (pds_raise T.x_NoPlaces rfl tk_cx)) pds_nil)
    (pds_cons (pds_if (pdt_not (pdt_val (pd_all T.b_all rfl (pd_lc rfl Sc.nd (pdi_any (pd_var 2)) [("place", 3)] (blkOk_by (N := ["prime", "numbers", "thing", "place"]) (sc := defScope st_check_places) (by decide +kernel)) (fun _ _ _ _ _ => (pdg_name 3 Sc.nd)) (gT1_mem 3) (fun _ _ _ _ _ => pdts_nil) (fun _ _ _ _ _ => (pd_and (pd_call c_is_index hr (pda_cons false (pd_var 3) (pda_cons false (pd_var 0) pda_nil)) passL (hlen := (aCons_len (aCons_len aNil_len)))) (pd_one (pd_notIn (pd_var 3) (pd_var 1))))))))) (pds_one (pds_raise T.x_NoPlaces rfl tk_cx)) pds_nil)
    (pds_one (pds_if (pdt_ne hr (pd_lenKeys 3 T.b_len rfl Sc.nd (pd_var 2) (blkOk_by (N := ["prime", "numbers", "thing", "place"]) (sc := defScope st_check_places) (by decide +kernel)) (by intros; exact pg_name Sc.nd rfl (by first | exact Or.inl rfl | exact Or.inr rfl)) (by intros; exact pe_var rfl (by first | exact Or.inl rfl | exact Or.inr (Or.inl rfl) | exact Or.inr (Or.inr rfl)))) (pd_len T.b_len (pd_var 2))) (pds_one (pds_raise T.x_NoPlaces rfl tk_cx)) pds_nil))))⟩
@[irreducible] noncomputable def m_check_places : FM := fnOf ["prime", "numbers", "thing", "place"] b_check_places.1
theorem df_check_places {P : Program} {w : World} {K : PySem.W.Frag} {mg : Str → Option Value} {base : Heap} (T : Txt K mg) (c_is_index : Df P w K mg base 3 "is_index" ["thing", "many"] m_is_index) : Df P w K mg base 4 "check_places" ["prime", "numbers", "thing"] m_check_places := by
  unfold m_check_places
  obtain ⟨f, fd, Fn, hm⟩ := T.f_check_places
  exact Df.mk' Fn sc_check_places hm (Fn.binds fun _ _ _ _ _ _ us hl => match us, hl with | [_, _, _], _ => rfl) (fun cdv A outer s H E hr => b_check_places.2 T c_is_index f cdv A outer s H E hr)
theorem sc_check_value : FnScope ["thing", "most"] ["thing", "most"] (defScope st_check_value) := ⟨rfl, rfl, rfl, by decide +kernel, rfl, by decide +kernel, by decide +kernel⟩
noncomputable def b_check_value : { g : SM // ∀ {P : Program} {w : World} {K : PySem.W.Frag} {mg : Str → Option Value} {base : Heap} (T : Txt K mg) (c_is_between : Df P w K mg base 2 "is_between" ["thing", "least", "most"] m_is_between) (f : Addr) (cdv : Value) (A : Around) (outer : List Env) (s : Shared) (H : Hp) (E : XK), Room 2 (A.deeper (envOfC "check_value" (defScope st_check_value) s.heap.objs.size f cdv)) → PDSs (cxOf (L2.CX P w) P w K mg base ["thing", "most"] "check_value" (defScope st_check_value) f cdv A outer s H E) E (defBody st_check_value) g } :=
  ⟨_, fun T c_is_between f cdv A outer s H E hr => by
    have Sc := sc_check_value
    exact (pds_one (pds_if (pdt_not (pdt_val (pd_call c_is_between hr (pda_cons false (pd_var 0) (pda_cons false pd_int (pda_cons false (pd_var 1) pda_nil))) hx_cx (hlen := (aCons_len (aCons_len (aCons_len aNil_len))))))) (pds_one (pds_raise T.x_NoNumber rfl tk_cx)) pds_nil))⟩
@[irreducible] noncomputable def m_check_value : FM := fnOf ["thing", "most"] b_check_value.1
theorem df_check_value {P : Program} {w : World} {K : PySem.W.Frag} {mg : Str → Option Value} {base : Heap} (T : Txt K mg) (c_is_between : Df P w K mg base 2 "is_between" ["thing", "least", "most"] m_is_between) : Df P w K mg base 3 "check_value" ["thing", "most"] m_check_value := by
  unfold m_check_value
  obtain ⟨f, fd, Fn, hm⟩ := T.f_check_value
  exact Df.mk' Fn sc_check_value hm (Fn.binds fun _ _ _ _ _ _ us hl => match us, hl with | [_, _], _ => rfl) (fun cdv A outer s H E hr => b_check_value.2 T c_is_between f cdv A outer s H E hr)
theorem sc_raw_values : FnScope ["prime", "numbers", "places", "found", "place", "total", "number"] ["prime", "numbers", "places"] (defScope st_raw_values) := ⟨rfl, rfl, rfl, by decide +kernel, rfl, by decide +kernel, by decide +kernel⟩
noncomputable def b_raw_values : { g : SM // ∀ {P : Program} {w : World} {K : PySem.W.Frag} {mg : Str → Option Value} {base : Heap} (T : Txt K mg)  (f : Addr) (cdv : Value) (A : Around) (outer : List Env) (s : Shared) (H : Hp) (E : XK), Room 0 (A.deeper (envOfC "raw_values" (defScope st_raw_values) s.heap.objs.size f cdv)) → PDSs (cxOf (L2.CX P w) P w K mg base ["prime", "numbers", "places", "found", "place", "total", "number"] "raw_values" (defScope st_raw_values) f cdv A outer s H E) E (defBody st_raw_values) g } :=
  ⟨_, fun T  f cdv A outer s H E hr => by
    have Sc := sc_raw_values
    exact (pds_cons (pds_set true 3 Sc.nd (pd_lst pda_nil))
    (pds_cons (pds_for (pdi_any (pd_var 2)) (pdg_name 4 Sc.nd) (pds_cons (pds_set false 5 Sc.nd pd_int)
    (pds_cons (pds_for (pdi_any (pd_var 1)) (pdg_name 6 Sc.nd) (pds_one (pds_set false 5 Sc.nd (pd_mod (pd_mul (pd_var 5) (pd_subI (pd_var 4) (pd_var 6))) (pd_var 0)))) rfl (passes_of rfl))
    (pds_one (pds_expr (pd_append (pd_var 3) (pd_var 5)))))) rfl (passes_of rfl))
    (pds_one (pds_ret (pd_tuple T.b_tuple (pd_var 3))))))⟩
@[irreducible] noncomputable def m_raw_values : FM := fnOf ["prime", "numbers", "places", "found", "place", "total", "number"] b_raw_values.1
theorem df_raw_values {P : Program} {w : World} {K : PySem.W.Frag} {mg : Str → Option Value} {base : Heap} (T : Txt K mg)  : Df P w K mg base 1 "raw_values" ["prime", "numbers", "places"] m_raw_values := by
  unfold m_raw_values
  obtain ⟨f, fd, Fn, hm⟩ := T.f_raw_values
  exact Df.mk' Fn sc_raw_values hm (Fn.binds fun _ _ _ _ _ _ us hl => match us, hl with | [_, _, _], _ => rfl) (fun cdv A outer s H E hr => b_raw_values.2 T  f cdv A outer s H E hr)
theorem sc_values : FnScope ["prime", "numbers", "places"] ["prime", "numbers", "places"] (defScope st_values) := ⟨rfl, rfl, rfl, by decide +kernel, rfl, by decide +kernel, by decide +kernel⟩
noncomputable def b_values : { g : SM // ∀ {P : Program} {w : World} {K : PySem.W.Frag} {mg : Str → Option Value} {base : Heap} (T : Txt K mg) (c_check_prime : Df P w K mg base 2 "check_prime" ["thing"] m_check_prime) (c_check_numbers : Df P w K mg base 4 "check_numbers" ["prime", "thing"] m_check_numbers) (c_check_places : Df P w K mg base 4 "check_places" ["prime", "numbers", "thing"] m_check_places) (c_raw_values : Df P w K mg base 1 "raw_values" ["prime", "numbers", "places"] m_raw_values) (f : Addr) (cdv : Value) (A : Around) (outer : List Env) (s : Shared) (H : Hp) (E : XK), Room 4 (A.deeper (envOfC "values" (defScope st_values) s.heap.objs.size f cdv)) → PDSs (cxOf (L2.CX P w) P w K mg base ["prime", "numbers", "places"] "values" (defScope st_values) f cdv A outer s H E) E (defBody st_values) g } :=
  ⟨_, fun T c_check_prime c_check_numbers c_check_places c_raw_values f cdv A outer s H E hr => by
    have Sc := sc_values
    exact (pds_cons (pds_expr (pd_call c_check_prime hr (pda_cons false (pd_var 0) pda_nil) hx_cx (hlen := (aCons_len aNil_len))))
    (pds_cons (pds_expr (pd_call c_check_numbers hr (pda_cons false (pd_var 0) (pda_cons false (pd_var 1) pda_nil)) hx_cx (hlen := (aCons_len (aCons_len aNil_len)))))
    (pds_cons (pds_expr (pd_call c_check_places hr (pda_cons false (pd_var 0) (pda_cons false (pd_var 1) (pda_cons false (pd_var 2) pda_nil))) hx_cx (hlen := (aCons_len (aCons_len (aCons_len aNil_len))))))
    (pds_one (pds_ret (pd_call c_raw_values hr (pda_cons false (pd_var 0) (pda_cons false (pd_var 1) (pda_cons false (pd_var 2) pda_nil))) hx_cx (hlen := (aCons_len (aCons_len (aCons_len aNil_len))))))))))⟩
@[irreducible] noncomputable def m_values : FM := fnOf ["prime", "numbers", "places"] b_values.1
theorem df_values {P : Program} {w : World} {K : PySem.W.Frag} {mg : Str → Option Value} {base : Heap} (T : Txt K mg) (c_check_prime : Df P w K mg base 2 "check_prime" ["thing"] m_check_prime) (c_check_numbers : Df P w K mg base 4 "check_numbers" ["prime", "thing"] m_check_numbers) (c_check_places : Df P w K mg base 4 "check_places" ["prime", "numbers", "thing"] m_check_places) (c_raw_values : Df P w K mg base 1 "raw_values" ["prime", "numbers", "places"] m_raw_values) : Df P w K mg base 5 "values" ["prime", "numbers", "places"] m_values := by
  unfold m_values
  obtain ⟨f, fd, Fn, hm⟩ := T.f_values
  exact Df.mk' Fn sc_values hm (Fn.binds fun _ _ _ _ _ _ us hl => match us, hl with | [_, _, _], _ => rfl) (fun cdv A outer s H E hr => b_values.2 T c_check_prime c_check_numbers c_check_places c_raw_values f cdv A outer s H E hr)
theorem sc_powers : FnScope ["prime", "place", "many", "found", "power", "_"] ["prime", "place", "many"] (defScope st_powers) := ⟨rfl, rfl, rfl, by decide +kernel, rfl, by decide +kernel, by decide +kernel⟩
noncomputable def b_powers : { g : SM // ∀ {P : Program} {w : World} {K : PySem.W.Frag} {mg : Str → Option Value} {base : Heap} (T : Txt K mg)  (f : Addr) (cdv : Value) (A : Around) (outer : List Env) (s : Shared) (H : Hp) (E : XK), Room 0 (A.deeper (envOfC "powers" (defScope st_powers) s.heap.objs.size f cdv)) → PDSs (cxOf (L2.CX P w) P w K mg base ["prime", "place", "many", "found", "power", "_"] "powers" (defScope st_powers) f cdv A outer s H E) E (defBody st_powers) g } :=
  ⟨_, fun T  f cdv A outer s H E hr => by
    have Sc := sc_powers
    exact (pds_cons (pds_set true 3 Sc.nd (pd_lst pda_nil))
    (pds_cons (pds_set false 4 Sc.nd pd_int)
    (pds_cons (pds_for (pdi_range1 T.b_range (pd_var 2)) (pdg_name 5 Sc.nd) (pds_cons (pds_expr (pd_append (pd_var 3) (pd_var 4)))
    (pds_one (pds_set false 4 Sc.nd (pd_mod (pd_mul (pd_var 4) (pd_var 1)) (pd_var 0))))) rfl (passes_of rfl))
    (pds_one (pds_ret (pd_var 3))))))⟩
@[irreducible] noncomputable def m_powers : FM := fnOf ["prime", "place", "many", "found", "power", "_"] b_powers.1
theorem df_powers {P : Program} {w : World} {K : PySem.W.Frag} {mg : Str → Option Value} {base : Heap} (T : Txt K mg)  : Df P w K mg base 1 "powers" ["prime", "place", "many"] m_powers := by
  unfold m_powers
  obtain ⟨f, fd, Fn, hm⟩ := T.f_powers
  exact Df.mk' Fn sc_powers hm (Fn.binds fun _ _ _ _ _ _ us hl => match us, hl with | [_, _, _], _ => rfl) (fun cdv A outer s H E hr => b_powers.2 T  f cdv A outer s H E hr)
theorem sc_equation : FnScope ["prime", "place", "ratio", "high", "low", "top", "bottom", "row", "power"] ["prime", "place", "ratio", "high", "low"] (defScope st_equation) := ⟨rfl, rfl, rfl, by decide +kernel, rfl, by decide +kernel, by decide +kernel⟩
noncomputable def b_equation : { g : SM // ∀ {P : Program} {w : World} {K : PySem.W.Frag} {mg : Str → Option Value} {base : Heap} (T : Txt K mg) (c_powers : Df P w K mg base 1 "powers" ["prime", "place", "many"] m_powers) (f : Addr) (cdv : Value) (A : Around) (outer : List Env) (s : Shared) (H : Hp) (E : XK), Room 1 (A.deeper (envOfC "equation" (defScope st_equation) s.heap.objs.size f cdv)) → PDSs (cxOf (L2.CX P w) P w K mg base ["prime", "place", "ratio", "high", "low", "top", "bottom", "row", "power"] "equation" (defScope st_equation) f cdv A outer s H E) E (defBody st_equation) g } :=
  ⟨_, fun T c_powers f cdv A outer s H E hr => by
    have Sc := sc_equation
    exact (pds_cons (pds_set false 5 Sc.nd (pd_call c_powers hr (pda_cons false (pd_var 0) (pda_cons false (pd_var 1) (pda_cons false (pd_add (pd_var 3) pd_int) pda_nil))) hx_cx (hlen := (aCons_len (aCons_len (aCons_len aNil_len))))))
    (pds_cons (pds_set false 6 Sc.nd (pd_call c_powers hr (pda_cons false (pd_var 0) (pda_cons false (pd_var 1) (pda_cons false (pd_add (pd_var 4) pd_int) pda_nil))) hx_cx (hlen := (aCons_len (aCons_len (aCons_len aNil_len))))))
    (pds_cons (pds_set false 7 Sc.nd (pd_add (pd_slice (pd_var 5) pdo_none (pdo_some (pd_var 3))) (pd_lc rfl Sc.nd (pdi_any (pd_slice (pd_var 6) pdo_none (pdo_some (pd_var 4)))) [("power", 8)] (blkOk_by (N := ["prime", "place", "ratio", "high", "low", "top", "bottom", "row", "power"]) (sc := defScope st_equation) (by decide +kernel)) (fun _ _ _ _ _ => (pdg_name 8 Sc.nd)) (gT1_mem 8) (fun _ _ _ _ _ => pdts_nil) (fun _ _ _ _ _ => (pd_mod (pd_mul (pd_neg (pd_var 8)) (pd_var 2)) (pd_var 0))))))
    (pds_one (pds_ret (pd_add (pd_var 7) (pd_lst (pda_cons false (pd_mod (pd_subI (pd_mul (pd_ix (pd_var 6) (pd_var 4)) (pd_var 2)) (pd_ix (pd_var 5) (pd_var 3))) (pd_var 0)) pda_nil))))))))⟩
@[irreducible] noncomputable def m_equation : FM := fnOf ["prime", "place", "ratio", "high", "low", "top", "bottom", "row", "power"] b_equation.1
theorem df_equation {P : Program} {w : World} {K : PySem.W.Frag} {mg : Str → Option Value} {base : Heap} (T : Txt K mg) (c_powers : Df P w K mg base 1 "powers" ["prime", "place", "many"] m_powers) : Df P w K mg base 2 "equation" ["prime", "place", "ratio", "high", "low"] m_equation := by
  unfold m_equation
  obtain ⟨f, fd, Fn, hm⟩ := T.f_equation
  exact Df.mk' Fn sc_equation hm (Fn.binds fun _ _ _ _ _ _ us hl => match us, hl with | [_, _, _, _, _], _ => rfl) (fun cdv A outer s H E hr => b_equation.2 T c_powers f cdv A outer s H E hr)
theorem sc_reduced : FnScope ["prime", "high", "low", "solution", "divisor", "one", "other"] ["prime", "high", "low", "solution"] (defScope st_reduced) := ⟨rfl, rfl, rfl, by decide +kernel, rfl, by decide +kernel, by decide +kernel⟩
noncomputable def b_reduced : { g : SM // ∀ {P : Program} {w : World} {K : PySem.W.Frag} {mg : Str → Option Value} {base : Heap} (T : Txt K mg) (c_common : Df P w K mg base 3 "common" ["prime", "one", "other"] m_common) (c_monic : Df P w K mg base 2 "monic" ["prime", "polynomial"] m_monic) (c_parted : Df P w K mg base 2 "parted" ["prime", "polynomial", "divisor"] m_parted) (f : Addr) (cdv : Value) (A : Around) (outer : List Env) (s : Shared) (H : Hp) (E : XK), Room 3 (A.deeper (envOfC "reduced" (defScope st_reduced) s.heap.objs.size f cdv)) → PDSs (cxOf (L2.CX P w) P w K mg base ["prime", "high", "low", "solution", "divisor", "one", "other"] "reduced" (defScope st_reduced) f cdv A outer s H E) E (defBody st_reduced) g } :=
  ⟨_, fun T c_common c_monic c_parted f cdv A outer s H E hr => by
    have Sc := sc_reduced
    exact (pds_cons (pds_par false false 5 6 rfl Sc.nd (pd_add (pd_slice (pd_var 3) pdo_none (pdo_some (pd_var 1))) (pd_lst (pda_cons false pd_int pda_nil))) (pd_add (pd_slice (pd_var 3) (pdo_some (pd_var 1)) pdo_none) (pd_lst (pda_cons false pd_int pda_nil))))
    (pds_cons (pds_set false 4 Sc.nd (pd_call c_common hr (pda_cons false (pd_var 0) (pda_cons false (pd_var 5) (pda_cons false (pd_var 6) pda_nil))) hx_cx (hlen := (aCons_len (aCons_len (aCons_len aNil_len))))))
    (pds_one (pds_ret (pd_tup (pda_cons false (pd_call c_monic hr (pda_cons false (pd_var 0) (pda_cons false (pd_ix (pd_call c_parted hr (pda_cons false (pd_var 0) (pda_cons false (pd_var 5) (pda_cons false (pd_var 4) pda_nil))) hx_cx (hlen := (aCons_len (aCons_len (aCons_len aNil_len))))) pd_int) pda_nil)) hx_cx (hlen := (aCons_len (aCons_len aNil_len)))) (pda_cons false (pd_call c_monic hr (pda_cons false (pd_var 0) (pda_cons false (pd_ix (pd_call c_parted hr (pda_cons false (pd_var 0) (pda_cons false (pd_var 6) (pda_cons false (pd_var 4) pda_nil))) hx_cx (hlen := (aCons_len (aCons_len (aCons_len aNil_len))))) pd_int) pda_nil)) hx_cx (hlen := (aCons_len (aCons_len aNil_len)))) pda_nil)))))))⟩
@[irreducible] noncomputable def m_reduced : FM := fnOf ["prime", "high", "low", "solution", "divisor", "one", "other"] b_reduced.1
theorem df_reduced {P : Program} {w : World} {K : PySem.W.Frag} {mg : Str → Option Value} {base : Heap} (T : Txt K mg) (c_common : Df P w K mg base 3 "common" ["prime", "one", "other"] m_common) (c_monic : Df P w K mg base 2 "monic" ["prime", "polynomial"] m_monic) (c_parted : Df P w K mg base 2 "parted" ["prime", "polynomial", "divisor"] m_parted) : Df P w K mg base 4 "reduced" ["prime", "high", "low", "solution"] m_reduced := by
  unfold m_reduced
  obtain ⟨f, fd, Fn, hm⟩ := T.f_reduced
  exact Df.mk' Fn sc_reduced hm (Fn.binds fun _ _ _ _ _ _ us hl => match us, hl with | [_, _, _, _], _ => rfl) (fun cdv A outer s H E hr => b_reduced.2 T c_common c_monic c_parted f cdv A outer s H E hr)
theorem sc_raw_roots : FnScope ["prime", "polynomial", "numbers", "number"] ["prime", "polynomial", "numbers"] (defScope st_raw_roots) := ⟨rfl, rfl, rfl, by decide +kernel, rfl, by decide +kernel, by decide +kernel⟩
noncomputable def b_raw_roots : { g : SM // ∀ {P : Program} {w : World} {K : PySem.W.Frag} {mg : Str → Option Value} {base : Heap} (T : Txt K mg) (c_at_place : Df P w K mg base 1 "at_place" ["prime", "polynomial", "place"] m_at_place) (f : Addr) (cdv : Value) (A : Around) (outer : List Env) (s : Shared) (H : Hp) (E : XK), Room 1 (A.deeper (envOfC "raw_roots" (defScope st_raw_roots) s.heap.objs.size f cdv)) → PDSs (cxOf (L2.CX P w) P w K mg base ["prime", "polynomial", "numbers", "number"] "raw_roots" (defScope st_raw_roots) f cdv A outer s H E) E (defBody st_raw_roots) g } :=
  ⟨_, fun T c_at_place f cdv A outer s H E hr => by
    have Sc := sc_raw_roots
    exact (pds_one (pds_ret (pd_tuple T.b_tuple (pd_lc rfl Sc.nd (pdi_any (pd_var 2)) [("number", 3)] (blkOk_by (N := ["prime", "polynomial", "numbers", "number"]) (sc := defScope st_raw_roots) (by decide +kernel)) (fun _ _ _ _ _ => (pdg_name 3 Sc.nd)) (gT1_mem 3) (fun _ _ _ _ _ => (pdts_one (pdt_eq hr (pd_call c_at_place hr (pda_cons false (pd_var 0) (pda_cons false (pd_var 1) (pda_cons false (pd_var 3) pda_nil))) passL (hlen := (aCons_len (aCons_len (aCons_len aNil_len))))) pd_int))) (fun _ _ _ _ _ => (pd_var 3))))))⟩
@[irreducible] noncomputable def m_raw_roots : FM := fnOf ["prime", "polynomial", "numbers", "number"] b_raw_roots.1
theorem df_raw_roots {P : Program} {w : World} {K : PySem.W.Frag} {mg : Str → Option Value} {base : Heap} (T : Txt K mg) (c_at_place : Df P w K mg base 1 "at_place" ["prime", "polynomial", "place"] m_at_place) : Df P w K mg base 2 "raw_roots" ["prime", "polynomial", "numbers"] m_raw_roots := by
  unfold m_raw_roots
  obtain ⟨f, fd, Fn, hm⟩ := T.f_raw_roots
  exact Df.mk' Fn sc_raw_roots hm (Fn.binds fun _ _ _ _ _ _ us hl => match us, hl with | [_, _, _], _ => rfl) (fun cdv A outer s H E hr => b_raw_roots.2 T c_at_place f cdv A outer s H E hr)
theorem sc_fit : FnScope ["prime", "pair", "own", "places", "told", "place", "value", "mine"] ["prime", "pair", "own", "places", "told"] (defScope st_fit) := ⟨rfl, rfl, rfl, by decide +kernel, rfl, by decide +kernel, by decide +kernel⟩
noncomputable def b_fit : { g : SM // ∀ {P : Program} {w : World} {K : PySem.W.Frag} {mg : Str → Option Value} {base : Heap} (T : Txt K mg) (c_raw_values : Df P w K mg base 1 "raw_values" ["prime", "numbers", "places"] m_raw_values) (c_at_place : Df P w K mg base 1 "at_place" ["prime", "polynomial", "place"] m_at_place) (f : Addr) (cdv : Value) (A : Around) (outer : List Env) (s : Shared) (H : Hp) (E : XK), Room 1 (A.deeper (envOfC "fit" (defScope st_fit) s.heap.objs.size f cdv)) → PDSs (cxOf (L2.CX P w) P w K mg base ["prime", "pair", "own", "places", "told", "place", "value", "mine"] "fit" (defScope st_fit) f cdv A outer s H E) E (defBody st_fit) g } :=
  ⟨_, fun T c_raw_values c_at_place f cdv A outer s H E hr => by
    have Sc := sc_fit
    exact (pds_cons (pds_for (pdi_zip3 T.b_zip (pd_var 3) (pd_var 4) (pd_call c_raw_values hr (pda_cons false (pd_var 0) (pda_cons false (pd_var 2) (pda_cons false (pd_var 3) pda_nil))) hx_cx (hlen := (aCons_len (aCons_len (aCons_len aNil_len)))))) (pdg_tup rfl (pdgs_cons 5 Sc.nd (pdgs_cons 6 Sc.nd (pdgs_cons 7 Sc.nd pdgs_nil)))) (pds_one (pds_if (pdt_ne hr (pd_mod (pd_subI (pd_mul (pd_call c_at_place hr (pda_cons false (pd_var 0) (pda_cons false (pd_ix (pd_var 1) pd_int) (pda_cons false (pd_var 5) pda_nil))) hx_cx (hlen := (aCons_len (aCons_len (aCons_len aNil_len))))) (pd_var 7)) (pd_mul (pd_call c_at_place hr (pda_cons false (pd_var 0) (pda_cons false (pd_ix (pd_var 1) pd_int) (pda_cons false (pd_var 5) pda_nil))) hx_cx (hlen := (aCons_len (aCons_len (aCons_len aNil_len))))) (pd_var 6))) (pd_var 0)) pd_int) (pds_one (pds_ret pd_bl)) pds_nil)) rfl (passes_of rfl))
    (pds_one (pds_ret pd_bl)))⟩
@[irreducible] noncomputable def m_fit : FM := fnOf ["prime", "pair", "own", "places", "told", "place", "value", "mine"] b_fit.1
theorem df_fit {P : Program} {w : World} {K : PySem.W.Frag} {mg : Str → Option Value} {base : Heap} (T : Txt K mg) (c_raw_values : Df P w K mg base 1 "raw_values" ["prime", "numbers", "places"] m_raw_values) (c_at_place : Df P w K mg base 1 "at_place" ["prime", "polynomial", "place"] m_at_place) : Df P w K mg base 2 "fit" ["prime", "pair", "own", "places", "told"] m_fit := by
  unfold m_fit
  obtain ⟨f, fd, Fn, hm⟩ := T.f_fit
  exact Df.mk' Fn sc_fit hm (Fn.binds fun _ _ _ _ _ _ us hl => match us, hl with | [_, _, _, _, _], _ => rfl) (fun cdv A outer s H E hr => b_fit.2 T c_raw_values c_at_place f cdv A outer s H E hr)
theorem sc_raw_difference : FnScope ["prime", "own", "many", "places", "told", "most", "apart", "total", "rows", "solution", "high", "low", "place", "value", "mine", "one", "other"] ["prime", "own", "many", "places", "told", "most"] (defScope st_raw_difference) := ⟨rfl, rfl, rfl, by decide +kernel, rfl, by decide +kernel, by decide +kernel⟩
noncomputable def b_raw_difference : { g : SM // ∀ {P : Program} {w : World} {K : PySem.W.Frag} {mg : Str → Option Value} {base : Heap} (T : Txt K mg) (c_raw_values : Df P w K mg base 1 "raw_values" ["prime", "numbers", "places"] m_raw_values) (c_equation : Df P w K mg base 2 "equation" ["prime", "place", "ratio", "high", "low"] m_equation) (c_inverse : Df P w K mg base 1 "inverse" ["prime", "number"] m_inverse) (c_solved : Df P w K mg base 3 "solved" ["prime", "rows", "many"] m_solved) (c_reduced : Df P w K mg base 4 "reduced" ["prime", "high", "low", "solution"] m_reduced) (c_fit : Df P w K mg base 2 "fit" ["prime", "pair", "own", "places", "told"] m_fit) (c_raw_roots : Df P w K mg base 2 "raw_roots" ["prime", "polynomial", "numbers"] m_raw_roots) (f : Addr) (cdv : Value) (A : Around) (outer : List Env) (s : Shared) (H : Hp) (E : XK), Room 4 (A.deeper (envOfC "raw_difference" (defScope st_raw_difference) s.heap.objs.size f cdv)) → PDSs (cxOf (L2.CX P w) P w K mg base ["prime", "own", "many", "places", "told", "most", "apart", "total", "rows", "solution", "high", "low", "place", "value", "mine", "one", "other"] "raw_difference" (defScope st_raw_difference) f cdv A outer s H E) E (defBody st_raw_difference) g } :=
  ⟨_, fun T c_raw_values c_equation c_inverse c_solved c_reduced c_fit c_raw_roots f cdv A outer s H E hr => by
    have Sc := sc_raw_difference
    exact (pds_cons (pds_set false 6 Sc.nd (pd_subI (pd_var 2) (pd_len T.b_len (pd_var 1))))
    (pds_cons (pds_set false 7 Sc.nd (pd_if (pdt_eq hr (pd_mod (pd_subI (pd_var 5) (pd_var 6)) pd_int) pd_int) (pd_var 5) (pd_subI (pd_var 5) pd_int)))
    (pds_cons (pds_if (PDW.t (pdw_or (pdt_ltA (pd_var 7) pd_int) (pdw_or (pdt_ltA (pd_var 7) (pd_var 6)) (pdw_or1 (pdt_ltA (pd_var 7) (pd_neg (pd_var 6))))))) (pds_one (pds_ret pd_non)) pds_nil)
    (pds_cons (pds_par false false 10 11 rfl Sc.nd (pd_div (pd_add (pd_var 7) (pd_var 6)) pd_int) (pd_div (pd_subI (pd_var 7) (pd_var 6)) pd_int))
    (pds_cons (pds_set true 8 Sc.nd (pd_lst pda_nil))
    (pds_cons (pds_for (pdi_zip3 T.b_zip (pd_var 3) (pd_var 4) (pd_call c_raw_values hr (pda_cons false (pd_var 0) (pda_cons false (pd_var 1) (pda_cons false (pd_var 3) pda_nil))) hx_cx (hlen := (aCons_len (aCons_len (aCons_len aNil_len)))))) (pdg_tup rfl (pdgs_cons 12 Sc.nd (pdgs_cons 13 Sc.nd (pdgs_cons 14 Sc.nd pdgs_nil)))) (pds_one (pds_expr (pd_append (pd_var 8) (pd_call c_equation hr (pda_cons false (pd_var 0) (pda_cons false (pd_var 12) (pda_cons false (pd_mod (pd_mul (pd_var 13) (pd_call c_inverse hr (pda_cons false (pd_var 0) (pda_cons false (pd_var 14) pda_nil)) hx_cx (hlen := (aCons_len (aCons_len aNil_len))))) (pd_var 0)) (pda_cons false (pd_var 10) (pda_cons false (pd_var 11) pda_nil))))) hx_cx (hlen := (aCons_len (aCons_len (aCons_len (aCons_len (aCons_len aNil_len)))))))))) rfl (passes_of rfl))
    (pds_cons (pds_set false 9 Sc.nd (pd_call c_solved hr (pda_cons false (pd_var 0) (pda_cons false (pd_var 8) (pda_cons false (pd_var 7) pda_nil))) hx_cx (hlen := (aCons_len (aCons_len (aCons_len aNil_len))))))
    (pds_cons (pds_if (pdt_isN (pd_var 9) pd_non) (pds_one (pds_ret pd_non)) pds_nil)
    (pds_cons (pds_tup (pdg_tup rfl (pdgs_cons 15 Sc.nd (pdgs_cons 16 Sc.nd pdgs_nil))) (pd_call c_reduced hr (pda_cons false (pd_var 0) (pda_cons false (pd_var 10) (pda_cons false (pd_var 11) (pda_cons false (pd_var 9) pda_nil)))) hx_cx (hlen := (aCons_len (aCons_len (aCons_len (aCons_len aNil_len)))))))
    (pds_cons (pds_if (PDW.t (pdw_or (pdt_ne hr (pd_len T.b_len (pd_call c_raw_roots hr (pda_cons false (pd_var 0) (pda_cons false (pd_var 16) (pda_cons false (pd_var 1) pda_nil))) hx_cx (hlen := (aCons_len (aCons_len (aCons_len aNil_len)))))) (pd_subI (pd_len T.b_len (pd_var 16)) pd_int)) (pdw_or1 (pdt_not (pdt_val (pd_call c_fit hr (pda_cons false (pd_var 0) (pda_cons false (pd_tup (pda_cons false (pd_var 15) (pda_cons false (pd_var 16) pda_nil))) (pda_cons false (pd_var 1) (pda_cons false (pd_var 3) (pda_cons false (pd_var 4) pda_nil))))) hx_cx (hlen := (aCons_len (aCons_len (aCons_len (aCons_len (aCons_len aNil_len)))))))))))) (pds_one (pds_ret pd_non)) pds_nil)
    (pds_one (pds_ret (pd_tup (pda_cons false (pd_tuple T.b_tuple (pd_var 15)) (pda_cons false (pd_tuple T.b_tuple (pd_var 16)) pda_nil)))))))))))))))⟩
@[irreducible] noncomputable def m_raw_difference : FM := fnOf ["prime", "own", "many", "places", "told", "most", "apart", "total", "rows", "solution", "high", "low", "place", "value", "mine", "one", "other"] b_raw_difference.1
theorem df_raw_difference {P : Program} {w : World} {K : PySem.W.Frag} {mg : Str → Option Value} {base : Heap} (T : Txt K mg) (c_raw_values : Df P w K mg base 1 "raw_values" ["prime", "numbers", "places"] m_raw_values) (c_equation : Df P w K mg base 2 "equation" ["prime", "place", "ratio", "high", "low"] m_equation) (c_inverse : Df P w K mg base 1 "inverse" ["prime", "number"] m_inverse) (c_solved : Df P w K mg base 3 "solved" ["prime", "rows", "many"] m_solved) (c_reduced : Df P w K mg base 4 "reduced" ["prime", "high", "low", "solution"] m_reduced) (c_fit : Df P w K mg base 2 "fit" ["prime", "pair", "own", "places", "told"] m_fit) (c_raw_roots : Df P w K mg base 2 "raw_roots" ["prime", "polynomial", "numbers"] m_raw_roots) : Df P w K mg base 5 "raw_difference" ["prime", "own", "many", "places", "told", "most"] m_raw_difference := by
  unfold m_raw_difference
  obtain ⟨f, fd, Fn, hm⟩ := T.f_raw_difference
  exact Df.mk' Fn sc_raw_difference hm (Fn.binds fun _ _ _ _ _ _ us hl => match us, hl with | [_, _, _, _, _, _], _ => rfl) (fun cdv A outer s H E hr => b_raw_difference.2 T c_raw_values c_equation c_inverse c_solved c_reduced c_fit c_raw_roots f cdv A outer s H E hr)
theorem sc_check_told : FnScope ["prime", "thing", "many", "value"] ["prime", "thing", "many"] (defScope st_check_told) := ⟨rfl, rfl, rfl, by decide +kernel, rfl, by decide +kernel, by decide +kernel⟩
noncomputable def b_check_told : { g : SM // ∀ {P : Program} {w : World} {K : PySem.W.Frag} {mg : Str → Option Value} {base : Heap} (T : Txt K mg) (c_is_between : Df P w K mg base 2 "is_between" ["thing", "least", "most"] m_is_between) (c_is_tuple_of : Df P w K mg base 1 "is_tuple_of" ["thing", "many"] m_is_tuple_of) (f : Addr) (cdv : Value) (A : Around) (outer : List Env) (s : Shared) (H : Hp) (E : XK), Room 2 (A.deeper (envOfC "check_told" (defScope st_check_told) s.heap.objs.size f cdv)) → PDSs (cxOf (L2.CX P w) P w K mg base ["prime", "thing", "many", "value"] "check_told" (defScope st_check_told) f cdv A outer s H E) E (defBody st_check_told) g } :=
  ⟨_, fun T c_is_between c_is_tuple_of f cdv A outer s H E hr => by
    have Sc := sc_check_told
    exact (pds_one (pds_if (PDW.t (pdw_or (pdt_not (pdt_val (pd_call c_is_tuple_of hr (pda_cons false (pd_var 1) (pda_cons false (pd_var 2) pda_nil)) hx_cx (hlen := (aCons_len (aCons_len aNil_len)))))) (pdw_or1 (pdt_not (pdt_val (pd_all T.b_all rfl (pd_lc rfl Sc.nd (pdi_any (pd_var 1)) [("value", 3)] (blkOk_by (N := ["prime", "thing", "many", "value"]) (sc := defScope st_check_told) (by decide +kernel)) (fun _ _ _ _ _ => (pdg_name 3 Sc.nd)) (gT1_mem 3) (fun _ _ _ _ _ => pdts_nil) (fun _ _ _ _ _ => (pd_call c_is_between hr (pda_cons false (pd_var 3) (pda_cons false pd_int (pda_cons false (pd_subI (pd_var 0) pd_int) pda_nil))) passL (hlen := (aCons_len (aCons_len (aCons_len aNil_len))))))))))))) (pds_one (pds_raise T.x_NoValues rfl tk_cx)) pds_nil))⟩
@[irreducible] noncomputable def m_check_told : FM := fnOf ["prime", "thing", "many", "value"] b_check_told.1
theorem df_check_told {P : Program} {w : World} {K : PySem.W.Frag} {mg : Str → Option Value} {base : Heap} (T : Txt K mg) (c_is_between : Df P w K mg base 2 "is_between" ["thing", "least", "most"] m_is_between) (c_is_tuple_of : Df P w K mg base 1 "is_tuple_of" ["thing", "many"] m_is_tuple_of) : Df P w K mg base 3 "check_told" ["prime", "thing", "many"] m_check_told := by
  unfold m_check_told
  obtain ⟨f, fd, Fn, hm⟩ := T.f_check_told
  exact Df.mk' Fn sc_check_told hm (Fn.binds fun _ _ _ _ _ _ us hl => match us, hl with | [_, _, _], _ => rfl) (fun cdv A outer s H E hr => b_check_told.2 T c_is_between c_is_tuple_of f cdv A outer s H E hr)
theorem sc_difference : FnScope ["prime", "own", "many", "places", "told", "most"] ["prime", "own", "many", "places", "told", "most"] (defScope st_difference) := ⟨rfl, rfl, rfl, by decide +kernel, rfl, by decide +kernel, by decide +kernel⟩
noncomputable def b_difference : { g : SM // ∀ {P : Program} {w : World} {K : PySem.W.Frag} {mg : Str → Option Value} {base : Heap} (T : Txt K mg) (c_check_prime : Df P w K mg base 2 "check_prime" ["thing"] m_check_prime) (c_check_numbers : Df P w K mg base 4 "check_numbers" ["prime", "thing"] m_check_numbers) (c_check_value : Df P w K mg base 3 "check_value" ["thing", "most"] m_check_value) (c_check_places : Df P w K mg base 4 "check_places" ["prime", "numbers", "thing"] m_check_places) (c_check_told : Df P w K mg base 3 "check_told" ["prime", "thing", "many"] m_check_told) (c_raw_difference : Df P w K mg base 5 "raw_difference" ["prime", "own", "many", "places", "told", "most"] m_raw_difference) (f : Addr) (cdv : Value) (A : Around) (outer : List Env) (s : Shared) (H : Hp) (E : XK), Room 5 (A.deeper (envOfC "difference" (defScope st_difference) s.heap.objs.size f cdv)) → PDSs (cxOf (L2.CX P w) P w K mg base ["prime", "own", "many", "places", "told", "most"] "difference" (defScope st_difference) f cdv A outer s H E) E (defBody st_difference) g } :=
  ⟨_, fun T c_check_prime c_check_numbers c_check_value c_check_places c_check_told c_raw_difference f cdv A outer s H E hr => by
    have Sc := sc_difference
    exact (pds_cons (pds_expr (pd_call c_check_prime hr (pda_cons false (pd_var 0) pda_nil) hx_cx (hlen := (aCons_len aNil_len))))
    (pds_cons (pds_expr (pd_call c_check_numbers hr (pda_cons false (pd_var 0) (pda_cons false (pd_var 1) pda_nil)) hx_cx (hlen := (aCons_len (aCons_len aNil_len)))))
    (pds_cons (pds_expr (pd_call c_check_value hr (pda_cons false (pd_var 2) (pda_cons false (pd_gint T.c_MOST_NUMBERS) pda_nil)) hx_cx (hlen := (aCons_len (aCons_len aNil_len)))))
    (pds_cons (pds_expr (pd_call c_check_places hr (pda_cons false (pd_var 0) (pda_cons false (pd_var 1) (pda_cons false (pd_var 3) pda_nil))) hx_cx (hlen := (aCons_len (aCons_len (aCons_len aNil_len))))))
    (pds_cons (pds_expr (pd_call c_check_told hr (pda_cons false (pd_var 0) (pda_cons false (pd_var 4) (pda_cons false (pd_len T.b_len (pd_var 3)) pda_nil))) hx_cx (hlen := (aCons_len (aCons_len (aCons_len aNil_len))))))
    (pds_cons (pds_expr (pd_call c_check_value hr (pda_cons false (pd_var 5) (pda_cons false (pd_len T.b_len (pd_var 3)) pda_nil)) hx_cx (hlen := (aCons_len (aCons_len aNil_len)))))
    (pds_one (pds_ret (pd_call c_raw_difference hr (pda_cons false (pd_var 0) (pda_cons false (pd_var 1) (pda_cons false (pd_var 2) (pda_cons false (pd_var 3) (pda_cons false (pd_var 4) (pda_cons false (pd_var 5) pda_nil)))))) hx_cx (hlen := (aCons_len (aCons_len (aCons_len (aCons_len (aCons_len (aCons_len aNil_len))))))))))))))))⟩
@[irreducible] noncomputable def m_difference : FM := fnOf ["prime", "own", "many", "places", "told", "most"] b_difference.1
theorem df_difference {P : Program} {w : World} {K : PySem.W.Frag} {mg : Str → Option Value} {base : Heap} (T : Txt K mg) (c_check_prime : Df P w K mg base 2 "check_prime" ["thing"] m_check_prime) (c_check_numbers : Df P w K mg base 4 "check_numbers" ["prime", "thing"] m_check_numbers) (c_check_value : Df P w K mg base 3 "check_value" ["thing", "most"] m_check_value) (c_check_places : Df P w K mg base 4 "check_places" ["prime", "numbers", "thing"] m_check_places) (c_check_told : Df P w K mg base 3 "check_told" ["prime", "thing", "many"] m_check_told) (c_raw_difference : Df P w K mg base 5 "raw_difference" ["prime", "own", "many", "places", "told", "most"] m_raw_difference) : Df P w K mg base 6 "difference" ["prime", "own", "many", "places", "told", "most"] m_difference := by
  unfold m_difference
  obtain ⟨f, fd, Fn, hm⟩ := T.f_difference
  exact Df.mk' Fn sc_difference hm (Fn.binds fun _ _ _ _ _ _ us hl => match us, hl with | [_, _, _, _, _, _], _ => rfl) (fun cdv A outer s H E hr => b_difference.2 T c_check_prime c_check_numbers c_check_value c_check_places c_check_told c_raw_difference f cdv A outer s H E hr)
theorem sc_check_polynomial : FnScope ["prime", "thing", "coefficient"] ["prime", "thing"] (defScope st_check_polynomial) := ⟨rfl, rfl, rfl, by decide +kernel, rfl, by decide +kernel, by decide +kernel⟩
noncomputable def b_check_polynomial : { g : SM // ∀ {P : Program} {w : World} {K : PySem.W.Frag} {mg : Str → Option Value} {base : Heap} (T : Txt K mg) (c_is_index : Df P w K mg base 3 "is_index" ["thing", "many"] m_is_index) (f : Addr) (cdv : Value) (A : Around) (outer : List Env) (s : Shared) (H : Hp) (E : XK), Room 3 (A.deeper (envOfC "check_polynomial" (defScope st_check_polynomial) s.heap.objs.size f cdv)) → PDSs (cxOf (L2.CX P w) P w K mg base ["prime", "thing", "coefficient"] "check_polynomial" (defScope st_check_polynomial) f cdv A outer s H E) E (defBody st_check_polynomial) g } :=
  ⟨_, fun T c_is_index f cdv A outer s H E hr => by
    have Sc := sc_check_polynomial
    exact (pds_cons (pds_if (PDW.t (pdw_or (pdt_not (pdt_val (pd_isi T.b_isinstance T.b_tuple (by decide +kernel) kTup (pd_var 1)))) (pdw_or1 (pdt_not (pdt_leLe pd_int (pd_len T.b_len (pd_var 1)) (pd_add (pd_gint T.c_MOST_PLACES) pd_int)))))) (pds_one (pds_raise T.x_NoPolynomial rfl tk_cx)) pds_nil)
    (pds_one (pds_if (PDW.t (pdw_or (pdt_not (pdt_val (pd_all T.b_all rfl (pd_lc rfl Sc.nd (pdi_any (pd_var 1)) [("coefficient", 2)] (blkOk_by (N := ["prime", "thing", "coefficient"]) (sc := defScope st_check_polynomial) (by decide +kernel)) (fun _ _ _ _ _ => (pdg_name 2 Sc.nd)) (gT1_mem 2) (fun _ _ _ _ _ => pdts_nil) (fun _ _ _ _ _ => (pd_call c_is_index hr (pda_cons false (pd_var 2) (pda_cons false (pd_var 0) pda_nil)) passL (hlen := (aCons_len (aCons_len aNil_len))))))))) (pdw_or1 (pdt_ne hr (pd_ix (pd_var 1) (pd_neg pd_int)) pd_int)))) (pds_one (pds_raise T.x_NoPolynomial rfl tk_cx)) pds_nil)))⟩
@[irreducible] noncomputable def m_check_polynomial : FM := fnOf ["prime", "thing", "coefficient"] b_check_polynomial.1
theorem df_check_polynomial {P : Program} {w : World} {K : PySem.W.Frag} {mg : Str → Option Value} {base : Heap} (T : Txt K mg) (c_is_index : Df P w K mg base 3 "is_index" ["thing", "many"] m_is_index) : Df P w K mg base 4 "check_polynomial" ["prime", "thing"] m_check_polynomial := by
  unfold m_check_polynomial
  obtain ⟨f, fd, Fn, hm⟩ := T.f_check_polynomial
  exact Df.mk' Fn sc_check_polynomial hm (Fn.binds fun _ _ _ _ _ _ us hl => match us, hl with | [_, _], _ => rfl) (fun cdv A outer s H E hr => b_check_polynomial.2 T c_is_index f cdv A outer s H E hr)
theorem sc_roots : FnScope ["prime", "polynomial", "numbers"] ["prime", "polynomial", "numbers"] (defScope st_roots) := ⟨rfl, rfl, rfl, by decide +kernel, rfl, by decide +kernel, by decide +kernel⟩
noncomputable def b_roots : { g : SM // ∀ {P : Program} {w : World} {K : PySem.W.Frag} {mg : Str → Option Value} {base : Heap} (T : Txt K mg) (c_check_prime : Df P w K mg base 2 "check_prime" ["thing"] m_check_prime) (c_check_polynomial : Df P w K mg base 4 "check_polynomial" ["prime", "thing"] m_check_polynomial) (c_check_numbers : Df P w K mg base 4 "check_numbers" ["prime", "thing"] m_check_numbers) (c_raw_roots : Df P w K mg base 2 "raw_roots" ["prime", "polynomial", "numbers"] m_raw_roots) (f : Addr) (cdv : Value) (A : Around) (outer : List Env) (s : Shared) (H : Hp) (E : XK), Room 4 (A.deeper (envOfC "roots" (defScope st_roots) s.heap.objs.size f cdv)) → PDSs (cxOf (L2.CX P w) P w K mg base ["prime", "polynomial", "numbers"] "roots" (defScope st_roots) f cdv A outer s H E) E (defBody st_roots) g } :=
  ⟨_, fun T c_check_prime c_check_polynomial c_check_numbers c_raw_roots f cdv A outer s H E hr => by
    have Sc := sc_roots
    exact (pds_cons (pds_expr (pd_call c_check_prime hr (pda_cons false (pd_var 0) pda_nil) hx_cx (hlen := (aCons_len aNil_len))))
    (pds_cons (pds_expr (pd_call c_check_polynomial hr (pda_cons false (pd_var 0) (pda_cons false (pd_var 1) pda_nil)) hx_cx (hlen := (aCons_len (aCons_len aNil_len)))))
    (pds_cons (pds_expr (pd_call c_check_numbers hr (pda_cons false (pd_var 0) (pda_cons false (pd_var 2) pda_nil)) hx_cx (hlen := (aCons_len (aCons_len aNil_len)))))
    (pds_one (pds_ret (pd_call c_raw_roots hr (pda_cons false (pd_var 0) (pda_cons false (pd_var 1) (pda_cons false (pd_var 2) pda_nil))) hx_cx (hlen := (aCons_len (aCons_len (aCons_len aNil_len))))))))))⟩
@[irreducible] noncomputable def m_roots : FM := fnOf ["prime", "polynomial", "numbers"] b_roots.1
theorem df_roots {P : Program} {w : World} {K : PySem.W.Frag} {mg : Str → Option Value} {base : Heap} (T : Txt K mg) (c_check_prime : Df P w K mg base 2 "check_prime" ["thing"] m_check_prime) (c_check_polynomial : Df P w K mg base 4 "check_polynomial" ["prime", "thing"] m_check_polynomial) (c_check_numbers : Df P w K mg base 4 "check_numbers" ["prime", "thing"] m_check_numbers) (c_raw_roots : Df P w K mg base 2 "raw_roots" ["prime", "polynomial", "numbers"] m_raw_roots) : Df P w K mg base 5 "roots" ["prime", "polynomial", "numbers"] m_roots := by
  unfold m_roots
  obtain ⟨f, fd, Fn, hm⟩ := T.f_roots
  exact Df.mk' Fn sc_roots hm (Fn.binds fun _ _ _ _ _ _ us hl => match us, hl with | [_, _, _], _ => rfl) (fun cdv A outer s H E hr => b_roots.2 T c_check_prime c_check_polynomial c_check_numbers c_raw_roots f cdv A outer s H E hr)
theorem sc_raw_number_of : FnScope ["name", "stamp", "total", "sign"] ["name", "stamp"] (defScope st_raw_number_of) := ⟨rfl, rfl, rfl, by decide +kernel, rfl, by decide +kernel, by decide +kernel⟩
noncomputable def b_raw_number_of : { g : SM // ∀ {P : Program} {w : World} {K : PySem.W.Frag} {mg : Str → Option Value} {base : Heap} (T : Txt K mg)  (f : Addr) (cdv : Value) (A : Around) (outer : List Env) (s : Shared) (H : Hp) (E : XK), Room 0 (A.deeper (envOfC "raw_number_of" (defScope st_raw_number_of) s.heap.objs.size f cdv)) → PDSs (cxOf (L2.CX P w) P w K mg base ["name", "stamp", "total", "sign"] "raw_number_of" (defScope st_raw_number_of) f cdv A outer s H E) E (defBody st_raw_number_of) g } :=
  ⟨_, fun T  f cdv A outer s H E hr => by
    have Sc := sc_raw_number_of
    exact (pds_cons (pds_set false 2 Sc.nd pd_int)
    (pds_cons (pds_for (pdi_any (pd_var 0)) (pdg_name 3 Sc.nd) (pds_one (pds_set false 2 Sc.nd (pd_subI (pd_add (pd_mul (pd_var 2) pd_int) (pd_ord T.b_ord (pd_var 3))) pd_int))) rfl (passes_of rfl))
    (pds_one (pds_ret (pd_add (pd_mul (pd_add (pd_mul (pd_var 2) (pd_pow pd_int pd_int)) (pd_ix (pd_var 1) pd_int)) pd_int) (pd_ix (pd_var 1) pd_int))))))⟩
@[irreducible] noncomputable def m_raw_number_of : FM := fnOf ["name", "stamp", "total", "sign"] b_raw_number_of.1
theorem df_raw_number_of {P : Program} {w : World} {K : PySem.W.Frag} {mg : Str → Option Value} {base : Heap} (T : Txt K mg)  : Df P w K mg base 1 "raw_number_of" ["name", "stamp"] m_raw_number_of := by
  unfold m_raw_number_of
  obtain ⟨f, fd, Fn, hm⟩ := T.f_raw_number_of
  exact Df.mk' Fn sc_raw_number_of hm (Fn.binds fun _ _ _ _ _ _ us hl => match us, hl with | [_, _], _ => rfl) (fun cdv A outer s H E hr => b_raw_number_of.2 T  f cdv A outer s H E hr)
theorem sc_number_of : FnScope ["name", "stamp"] ["name", "stamp"] (defScope st_number_of) := ⟨rfl, rfl, rfl, by decide +kernel, rfl, by decide +kernel, by decide +kernel⟩
noncomputable def b_number_of : { g : SM // ∀ {P : Program} {w : World} {K : PySem.W.Frag} {mg : Str → Option Value} {base : Heap} (T : Txt K mg) (c_is_name : Df P w K mg base 1 "is_name" ["thing"] m_is_name) (c_is_stamp : Df P w K mg base 4 "is_stamp" ["thing"] m_is_stamp) (c_raw_number_of : Df P w K mg base 1 "raw_number_of" ["name", "stamp"] m_raw_number_of) (f : Addr) (cdv : Value) (A : Around) (outer : List Env) (s : Shared) (H : Hp) (E : XK), Room 4 (A.deeper (envOfC "number_of" (defScope st_number_of) s.heap.objs.size f cdv)) → PDSs (cxOf (L2.CX P w) P w K mg base ["name", "stamp"] "number_of" (defScope st_number_of) f cdv A outer s H E) E (defBody st_number_of) g } :=
  ⟨_, fun T c_is_name c_is_stamp c_raw_number_of f cdv A outer s H E hr => by
    have Sc := sc_number_of
    exact (pds_cons (pds_if (pdt_not (pdt_val (pd_call c_is_name hr (pda_cons false (pd_var 0) pda_nil) hx_cx (hlen := (aCons_len aNil_len))))) (pds_one (pds_raise T.x_NoName rfl tk_cx)) pds_nil)
    (pds_cons (pds_if (pdt_not (pdt_val (pd_call c_is_stamp hr (pda_cons false (pd_var 1) pda_nil) hx_cx (hlen := (aCons_len aNil_len))))) (pds_one (pds_raise T.x_NoStamp rfl tk_cx)) pds_nil)
    (pds_one (pds_ret (pd_call c_raw_number_of hr (pda_cons false (pd_var 0) (pda_cons false (pd_var 1) pda_nil)) hx_cx (hlen := (aCons_len (aCons_len aNil_len))))))))⟩
@[irreducible] noncomputable def m_number_of : FM := fnOf ["name", "stamp"] b_number_of.1
theorem df_number_of {P : Program} {w : World} {K : PySem.W.Frag} {mg : Str → Option Value} {base : Heap} (T : Txt K mg) (c_is_name : Df P w K mg base 1 "is_name" ["thing"] m_is_name) (c_is_stamp : Df P w K mg base 4 "is_stamp" ["thing"] m_is_stamp) (c_raw_number_of : Df P w K mg base 1 "raw_number_of" ["name", "stamp"] m_raw_number_of) : Df P w K mg base 5 "number_of" ["name", "stamp"] m_number_of := by
  unfold m_number_of
  obtain ⟨f, fd, Fn, hm⟩ := T.f_number_of
  exact Df.mk' Fn sc_number_of hm (Fn.binds fun _ _ _ _ _ _ us hl => match us, hl with | [_, _], _ => rfl) (fun cdv A outer s H E hr => b_number_of.2 T c_is_name c_is_stamp c_raw_number_of f cdv A outer s H E hr)
theorem sc_is_named_head : FnScope ["thing"] ["thing"] (defScope st_is_named_head) := ⟨rfl, rfl, rfl, by decide +kernel, rfl, by decide +kernel, by decide +kernel⟩
noncomputable def b_is_named_head : { g : SM // ∀ {P : Program} {w : World} {K : PySem.W.Frag} {mg : Str → Option Value} {base : Heap} (T : Txt K mg) (c_is_row : Df P w K mg base 5 "is_row" ["thing"] m_is_row) (c_is_stamp : Df P w K mg base 4 "is_stamp" ["thing"] m_is_stamp) (c_is_name : Df P w K mg base 1 "is_name" ["thing"] m_is_name) (c_is_tuple_of : Df P w K mg base 1 "is_tuple_of" ["thing", "many"] m_is_tuple_of) (f : Addr) (cdv : Value) (A : Around) (outer : List Env) (s : Shared) (H : Hp) (E : XK), Room 5 (A.deeper (envOfC "is_named_head" (defScope st_is_named_head) s.heap.objs.size f cdv)) → PDSs (cxOf (L2.CX P w) P w K mg base ["thing"] "is_named_head" (defScope st_is_named_head) f cdv A outer s H E) E (defBody st_is_named_head) g } :=
  ⟨_, fun T c_is_row c_is_stamp c_is_name c_is_tuple_of f cdv A outer s H E hr => by
    have Sc := sc_is_named_head
    exact (pds_one (pds_ret (pd_and (pd_call c_is_tuple_of hr (pda_cons false (pd_var 0) (pda_cons false pd_int pda_nil)) hx_cx (hlen := (aCons_len (aCons_len aNil_len)))) (pd_and (pd_call c_is_name hr (pda_cons false (pd_ix (pd_var 0) pd_int) pda_nil) hx_cx (hlen := (aCons_len aNil_len))) (pd_and (pd_call c_is_stamp hr (pda_cons false (pd_ix (pd_var 0) pd_int) pda_nil) hx_cx (hlen := (aCons_len aNil_len))) (pd_one (pd_call c_is_row hr (pda_cons false (pd_ix (pd_var 0) pd_int) pda_nil) hx_cx (hlen := (aCons_len aNil_len)))))))))⟩
@[irreducible] noncomputable def m_is_named_head : FM := fnOf ["thing"] b_is_named_head.1
theorem df_is_named_head {P : Program} {w : World} {K : PySem.W.Frag} {mg : Str → Option Value} {base : Heap} (T : Txt K mg) (c_is_row : Df P w K mg base 5 "is_row" ["thing"] m_is_row) (c_is_stamp : Df P w K mg base 4 "is_stamp" ["thing"] m_is_stamp) (c_is_name : Df P w K mg base 1 "is_name" ["thing"] m_is_name) (c_is_tuple_of : Df P w K mg base 1 "is_tuple_of" ["thing", "many"] m_is_tuple_of) : Df P w K mg base 6 "is_named_head" ["thing"] m_is_named_head := by
  unfold m_is_named_head
  obtain ⟨f, fd, Fn, hm⟩ := T.f_is_named_head
  exact Df.mk' Fn sc_is_named_head hm (Fn.binds fun _ _ _ _ _ _ us hl => match us, hl with | [_], _ => rfl) (fun cdv A outer s H E hr => b_is_named_head.2 T c_is_row c_is_stamp c_is_name c_is_tuple_of f cdv A outer s H E hr)
theorem sc_are_heads : FnScope ["thing", "one"] ["thing"] (defScope st_are_heads) := ⟨rfl, rfl, rfl, by decide +kernel, rfl, by decide +kernel, by decide +kernel⟩
noncomputable def b_are_heads : { g : SM // ∀ {P : Program} {w : World} {K : PySem.W.Frag} {mg : Str → Option Value} {base : Heap} (T : Txt K mg) (c_is_named_head : Df P w K mg base 6 "is_named_head" ["thing"] m_is_named_head) (c_are_ascending : Df P w K mg base 1 "are_ascending" ["things"] m_are_ascending) (f : Addr) (cdv : Value) (A : Around) (outer : List Env) (s : Shared) (H : Hp) (E : XK), Room 6 (A.deeper (envOfC "are_heads" (defScope st_are_heads) s.heap.objs.size f cdv)) → PDSs (cxOf (L2.CX P w) P w K mg base ["thing", "one"] "are_heads" (defScope st_are_heads) f cdv A outer s H E) E (defBody st_are_heads) g } :=
  ⟨_, fun T c_is_named_head c_are_ascending f cdv A outer s H E hr => by
    have Sc := sc_are_heads
    exact (pds_cons (pds_if (PDW.t (pdw_or (pdt_not (pdt_val (pd_isi T.b_isinstance T.b_tuple (by decide +kernel) kTup (pd_var 0)))) (pdw_or1 (pdt_not (pdt_val (pd_all T.b_all rfl (pd_lc rfl Sc.nd (pdi_any (pd_var 0)) [("one", 1)] (blkOk_by (N := ["thing", "one"]) (sc := defScope st_are_heads) (by decide +kernel)) (fun _ _ _ _ _ => (pdg_name 1 Sc.nd)) (gT1_mem 1) (fun _ _ _ _ _ => pdts_nil) (fun _ _ _ _ _ => (pd_call c_is_named_head hr (pda_cons false (pd_var 1) pda_nil) passL (hlen := (aCons_len aNil_len))))))))))) (pds_one (pds_ret pd_bl)) pds_nil)
    (pds_one (pds_ret (pd_call c_are_ascending hr (pda_cons false (pd_lc rfl Sc.nd (pdi_any (pd_var 0)) [("one", 1)] (blkOk_by (N := ["thing", "one"]) (sc := defScope st_are_heads) (by decide +kernel)) (fun _ _ _ _ _ => (pdg_name 1 Sc.nd)) (gT1_mem 1) (fun _ _ _ _ _ => pdts_nil) (fun _ _ _ _ _ => (pd_ix (pd_var 1) pd_int))) pda_nil) hx_cx (hlen := (aCons_len aNil_len))))))⟩
@[irreducible] noncomputable def m_are_heads : FM := fnOf ["thing", "one"] b_are_heads.1
theorem df_are_heads {P : Program} {w : World} {K : PySem.W.Frag} {mg : Str → Option Value} {base : Heap} (T : Txt K mg) (c_is_named_head : Df P w K mg base 6 "is_named_head" ["thing"] m_is_named_head) (c_are_ascending : Df P w K mg base 1 "are_ascending" ["things"] m_are_ascending) : Df P w K mg base 7 "are_heads" ["thing"] m_are_heads := by
  unfold m_are_heads
  obtain ⟨f, fd, Fn, hm⟩ := T.f_are_heads
  exact Df.mk' Fn sc_are_heads hm (Fn.binds fun _ _ _ _ _ _ us hl => match us, hl with | [_], _ => rfl) (fun cdv A outer s H E hr => b_are_heads.2 T c_is_named_head c_are_ascending f cdv A outer s H E hr)
theorem sc_are_blocks : FnScope ["thing", "one"] ["thing"] (defScope st_are_blocks) := ⟨rfl, rfl, rfl, by decide +kernel, rfl, by decide +kernel, by decide +kernel⟩
noncomputable def b_are_blocks : { g : SM // ∀ {P : Program} {w : World} {K : PySem.W.Frag} {mg : Str → Option Value} {base : Heap} (T : Txt K mg) (c_is_piece : Df P w K mg base 2 "is_piece" ["thing"] m_is_piece) (c_is_id : Df P w K mg base 4 "is_id" ["thing"] m_is_id) (c_is_tuple_of : Df P w K mg base 1 "is_tuple_of" ["thing", "many"] m_is_tuple_of) (c_are_ascending : Df P w K mg base 1 "are_ascending" ["things"] m_are_ascending) (f : Addr) (cdv : Value) (A : Around) (outer : List Env) (s : Shared) (H : Hp) (E : XK), Room 4 (A.deeper (envOfC "are_blocks" (defScope st_are_blocks) s.heap.objs.size f cdv)) → PDSs (cxOf (L2.CX P w) P w K mg base ["thing", "one"] "are_blocks" (defScope st_are_blocks) f cdv A outer s H E) E (defBody st_are_blocks) g } :=
  ⟨_, fun T c_is_piece c_is_id c_is_tuple_of c_are_ascending f cdv A outer s H E hr => by
    have Sc := sc_are_blocks
    exact (pds_cons (pds_if (pdt_not (pdt_val (pd_isi T.b_isinstance T.b_tuple (by decide +kernel) kTup (pd_var 0)))) (pds_one (pds_ret pd_bl)) pds_nil)
    (pds_cons (pds_if (pdt_not (pdt_val (pd_all T.b_all rfl (pd_lc rfl Sc.nd (pdi_any (pd_var 0)) [("one", 1)] (blkOk_by (N := ["thing", "one"]) (sc := defScope st_are_blocks) (by decide +kernel)) (fun _ _ _ _ _ => (pdg_name 1 Sc.nd)) (gT1_mem 1) (fun _ _ _ _ _ => pdts_nil) (fun _ _ _ _ _ => (pd_and (pd_call c_is_tuple_of hr (pda_cons false (pd_var 1) (pda_cons false pd_int pda_nil)) passL (hlen := (aCons_len (aCons_len aNil_len)))) (pd_and (pd_call c_is_id hr (pda_cons false (pd_ix (pd_var 1) pd_int) pda_nil) passL (hlen := (aCons_len aNil_len))) (pd_one (pd_call c_is_piece hr (pda_cons false (pd_ix (pd_var 1) pd_int) pda_nil) passL (hlen := (aCons_len aNil_len))))))))))) (pds_one (pds_ret pd_bl)) pds_nil)
    (pds_one (pds_ret (pd_call c_are_ascending hr (pda_cons false (pd_lc rfl Sc.nd (pdi_any (pd_var 0)) [("one", 1)] (blkOk_by (N := ["thing", "one"]) (sc := defScope st_are_blocks) (by decide +kernel)) (fun _ _ _ _ _ => (pdg_name 1 Sc.nd)) (gT1_mem 1) (fun _ _ _ _ _ => pdts_nil) (fun _ _ _ _ _ => (pd_ix (pd_var 1) pd_int))) pda_nil) hx_cx (hlen := (aCons_len aNil_len)))))))⟩
@[irreducible] noncomputable def m_are_blocks : FM := fnOf ["thing", "one"] b_are_blocks.1
theorem df_are_blocks {P : Program} {w : World} {K : PySem.W.Frag} {mg : Str → Option Value} {base : Heap} (T : Txt K mg) (c_is_piece : Df P w K mg base 2 "is_piece" ["thing"] m_is_piece) (c_is_id : Df P w K mg base 4 "is_id" ["thing"] m_is_id) (c_is_tuple_of : Df P w K mg base 1 "is_tuple_of" ["thing", "many"] m_is_tuple_of) (c_are_ascending : Df P w K mg base 1 "are_ascending" ["things"] m_are_ascending) : Df P w K mg base 5 "are_blocks" ["thing"] m_are_blocks := by
  unfold m_are_blocks
  obtain ⟨f, fd, Fn, hm⟩ := T.f_are_blocks
  exact Df.mk' Fn sc_are_blocks hm (Fn.binds fun _ _ _ _ _ _ us hl => match us, hl with | [_], _ => rfl) (fun cdv A outer s H E hr => b_are_blocks.2 T c_is_piece c_is_id c_is_tuple_of c_are_ascending f cdv A outer s H E hr)
theorem sc_is_held : FnScope ["thing"] ["thing"] (defScope st_is_held) := ⟨rfl, rfl, rfl, by decide +kernel, rfl, by decide +kernel, by decide +kernel⟩
noncomputable def b_is_held : { g : SM // ∀ {P : Program} {w : World} {K : PySem.W.Frag} {mg : Str → Option Value} {base : Heap} (T : Txt K mg) (c_is_count : Df P w K mg base 2 "is_count" ["thing"] m_is_count) (c_is_hand : Df P w K mg base 3 "is_hand" ["thing"] m_is_hand) (c_is_name : Df P w K mg base 1 "is_name" ["thing"] m_is_name) (c_is_tuple_of : Df P w K mg base 1 "is_tuple_of" ["thing", "many"] m_is_tuple_of) (f : Addr) (cdv : Value) (A : Around) (outer : List Env) (s : Shared) (H : Hp) (E : XK), Room 3 (A.deeper (envOfC "is_held" (defScope st_is_held) s.heap.objs.size f cdv)) → PDSs (cxOf (L2.CX P w) P w K mg base ["thing"] "is_held" (defScope st_is_held) f cdv A outer s H E) E (defBody st_is_held) g } :=
  ⟨_, fun T c_is_count c_is_hand c_is_name c_is_tuple_of f cdv A outer s H E hr => by
    have Sc := sc_is_held
    exact (pds_one (pds_ret (pd_and (pd_call c_is_tuple_of hr (pda_cons false (pd_var 0) (pda_cons false pd_int pda_nil)) hx_cx (hlen := (aCons_len (aCons_len aNil_len)))) (pd_and (pd_call c_is_name hr (pda_cons false (pd_ix (pd_var 0) pd_int) pda_nil) hx_cx (hlen := (aCons_len aNil_len))) (pd_and (pd_call c_is_hand hr (pda_cons false (pd_ix (pd_var 0) pd_int) pda_nil) hx_cx (hlen := (aCons_len aNil_len))) (pd_one (pd_call c_is_count hr (pda_cons false (pd_ix (pd_var 0) pd_int) pda_nil) hx_cx (hlen := (aCons_len aNil_len)))))))))⟩
@[irreducible] noncomputable def m_is_held : FM := fnOf ["thing"] b_is_held.1
theorem df_is_held {P : Program} {w : World} {K : PySem.W.Frag} {mg : Str → Option Value} {base : Heap} (T : Txt K mg) (c_is_count : Df P w K mg base 2 "is_count" ["thing"] m_is_count) (c_is_hand : Df P w K mg base 3 "is_hand" ["thing"] m_is_hand) (c_is_name : Df P w K mg base 1 "is_name" ["thing"] m_is_name) (c_is_tuple_of : Df P w K mg base 1 "is_tuple_of" ["thing", "many"] m_is_tuple_of) : Df P w K mg base 4 "is_held" ["thing"] m_is_held := by
  unfold m_is_held
  obtain ⟨f, fd, Fn, hm⟩ := T.f_is_held
  exact Df.mk' Fn sc_is_held hm (Fn.binds fun _ _ _ _ _ _ us hl => match us, hl with | [_], _ => rfl) (fun cdv A outer s H E hr => b_is_held.2 T c_is_count c_is_hand c_is_name c_is_tuple_of f cdv A outer s H E hr)
theorem sc_are_leases : FnScope ["thing", "one"] ["thing"] (defScope st_are_leases) := ⟨rfl, rfl, rfl, by decide +kernel, rfl, by decide +kernel, by decide +kernel⟩
noncomputable def b_are_leases : { g : SM // ∀ {P : Program} {w : World} {K : PySem.W.Frag} {mg : Str → Option Value} {base : Heap} (T : Txt K mg) (c_is_held : Df P w K mg base 4 "is_held" ["thing"] m_is_held) (c_is_tuple_of : Df P w K mg base 1 "is_tuple_of" ["thing", "many"] m_is_tuple_of) (c_are_ascending : Df P w K mg base 1 "are_ascending" ["things"] m_are_ascending) (c_is_count : Df P w K mg base 2 "is_count" ["thing"] m_is_count) (f : Addr) (cdv : Value) (A : Around) (outer : List Env) (s : Shared) (H : Hp) (E : XK), Room 4 (A.deeper (envOfC "are_leases" (defScope st_are_leases) s.heap.objs.size f cdv)) → PDSs (cxOf (L2.CX P w) P w K mg base ["thing", "one"] "are_leases" (defScope st_are_leases) f cdv A outer s H E) E (defBody st_are_leases) g } :=
  ⟨_, fun T c_is_held c_is_tuple_of c_are_ascending c_is_count f cdv A outer s H E hr => by
    have Sc := sc_are_leases
    exact (pds_cons (pds_if (PDW.t (pdw_or (pdt_not (pdt_val (pd_isi T.b_isinstance T.b_tuple (by decide +kernel) kTup (pd_var 0)))) (pdw_or1 (pdt_not (pdt_val (pd_all T.b_all rfl (pd_lc rfl Sc.nd (pdi_any (pd_var 0)) [("one", 1)] (blkOk_by (N := ["thing", "one"]) (sc := defScope st_are_leases) (by decide +kernel)) (fun _ _ _ _ _ => (pdg_name 1 Sc.nd)) (gT1_mem 1) (fun _ _ _ _ _ => pdts_nil) (fun _ _ _ _ _ => (pd_and (pd_call c_is_tuple_of hr (pda_cons false (pd_var 1) (pda_cons false pd_int pda_nil)) passL (hlen := (aCons_len (aCons_len aNil_len)))) (pd_one (pd_call c_is_held hr (pda_cons false (pd_slice (pd_var 1) pdo_none (pdo_some pd_int)) pda_nil) passL (hlen := (aCons_len aNil_len))))))))))))) (pds_one (pds_ret pd_bl)) pds_nil)
    (pds_one (pds_ret (pd_and (pd_all T.b_all rfl (pd_lc rfl Sc.nd (pdi_any (pd_var 0)) [("one", 1)] (blkOk_by (N := ["thing", "one"]) (sc := defScope st_are_leases) (by decide +kernel)) (fun _ _ _ _ _ => (pdg_name 1 Sc.nd)) (gT1_mem 1) (fun _ _ _ _ _ => pdts_nil) (fun _ _ _ _ _ => (pd_call c_is_count hr (pda_cons false (pd_ix (pd_var 1) pd_int) pda_nil) passL (hlen := (aCons_len aNil_len)))))) (pd_one (pd_call c_are_ascending hr (pda_cons false (pd_lc rfl Sc.nd (pdi_any (pd_var 0)) [("one", 1)] (blkOk_by (N := ["thing", "one"]) (sc := defScope st_are_leases) (by decide +kernel)) (fun _ _ _ _ _ => (pdg_name 1 Sc.nd)) (gT1_mem 1) (fun _ _ _ _ _ => pdts_nil) (fun _ _ _ _ _ => (pd_slice (pd_var 1) pdo_none (pdo_some pd_int)))) pda_nil) hx_cx (hlen := (aCons_len aNil_len))))))))⟩
@[irreducible] noncomputable def m_are_leases : FM := fnOf ["thing", "one"] b_are_leases.1
theorem df_are_leases {P : Program} {w : World} {K : PySem.W.Frag} {mg : Str → Option Value} {base : Heap} (T : Txt K mg) (c_is_held : Df P w K mg base 4 "is_held" ["thing"] m_is_held) (c_is_tuple_of : Df P w K mg base 1 "is_tuple_of" ["thing", "many"] m_is_tuple_of) (c_are_ascending : Df P w K mg base 1 "are_ascending" ["things"] m_are_ascending) (c_is_count : Df P w K mg base 2 "is_count" ["thing"] m_is_count) : Df P w K mg base 5 "are_leases" ["thing"] m_are_leases := by
  unfold m_are_leases
  obtain ⟨f, fd, Fn, hm⟩ := T.f_are_leases
  exact Df.mk' Fn sc_are_leases hm (Fn.binds fun _ _ _ _ _ _ us hl => match us, hl with | [_], _ => rfl) (fun cdv A outer s H E hr => b_are_leases.2 T c_is_held c_is_tuple_of c_are_ascending c_is_count f cdv A outer s H E hr)
theorem sc_is_vote : FnScope ["thing"] ["thing"] (defScope st_is_vote) := ⟨rfl, rfl, rfl, by decide +kernel, rfl, by decide +kernel, by decide +kernel⟩
noncomputable def b_is_vote : { g : SM // ∀ {P : Program} {w : World} {K : PySem.W.Frag} {mg : Str → Option Value} {base : Heap} (T : Txt K mg) (c_is_members : Df P w K mg base 4 "is_members" ["thing"] m_is_members) (c_is_stamp : Df P w K mg base 4 "is_stamp" ["thing"] m_is_stamp) (c_is_tuple_of : Df P w K mg base 1 "is_tuple_of" ["thing", "many"] m_is_tuple_of) (f : Addr) (cdv : Value) (A : Around) (outer : List Env) (s : Shared) (H : Hp) (E : XK), Room 4 (A.deeper (envOfC "is_vote" (defScope st_is_vote) s.heap.objs.size f cdv)) → PDSs (cxOf (L2.CX P w) P w K mg base ["thing"] "is_vote" (defScope st_is_vote) f cdv A outer s H E) E (defBody st_is_vote) g } :=
  ⟨_, fun T c_is_members c_is_stamp c_is_tuple_of f cdv A outer s H E hr => by
    have Sc := sc_is_vote
    exact (pds_one (pds_ret (pd_and (pd_call c_is_tuple_of hr (pda_cons false (pd_var 0) (pda_cons false pd_int pda_nil)) hx_cx (hlen := (aCons_len (aCons_len aNil_len)))) (pd_and (pd_call c_is_stamp hr (pda_cons false (pd_ix (pd_var 0) pd_int) pda_nil) hx_cx (hlen := (aCons_len aNil_len))) (pd_one (pd_call c_is_members hr (pda_cons false (pd_ix (pd_var 0) pd_int) pda_nil) hx_cx (hlen := (aCons_len aNil_len))))))))⟩
@[irreducible] noncomputable def m_is_vote : FM := fnOf ["thing"] b_is_vote.1
theorem df_is_vote {P : Program} {w : World} {K : PySem.W.Frag} {mg : Str → Option Value} {base : Heap} (T : Txt K mg) (c_is_members : Df P w K mg base 4 "is_members" ["thing"] m_is_members) (c_is_stamp : Df P w K mg base 4 "is_stamp" ["thing"] m_is_stamp) (c_is_tuple_of : Df P w K mg base 1 "is_tuple_of" ["thing", "many"] m_is_tuple_of) : Df P w K mg base 5 "is_vote" ["thing"] m_is_vote := by
  unfold m_is_vote
  obtain ⟨f, fd, Fn, hm⟩ := T.f_is_vote
  exact Df.mk' Fn sc_is_vote hm (Fn.binds fun _ _ _ _ _ _ us hl => match us, hl with | [_], _ => rfl) (fun cdv A outer s H E hr => b_is_vote.2 T c_is_members c_is_stamp c_is_tuple_of f cdv A outer s H E hr)
theorem sc_is_ahead : FnScope ["thing"] ["thing"] (defScope st_is_ahead) := ⟨rfl, rfl, rfl, by decide +kernel, rfl, by decide +kernel, by decide +kernel⟩
noncomputable def b_is_ahead : { g : SM // ∀ {P : Program} {w : World} {K : PySem.W.Frag} {mg : Str → Option Value} {base : Heap} (T : Txt K mg) (c_is_members : Df P w K mg base 4 "is_members" ["thing"] m_is_members) (f : Addr) (cdv : Value) (A : Around) (outer : List Env) (s : Shared) (H : Hp) (E : XK), Room 4 (A.deeper (envOfC "is_ahead" (defScope st_is_ahead) s.heap.objs.size f cdv)) → PDSs (cxOf (L2.CX P w) P w K mg base ["thing"] "is_ahead" (defScope st_is_ahead) f cdv A outer s H E) E (defBody st_is_ahead) g } :=
  ⟨_, fun T c_is_members f cdv A outer s H E hr => by
    have Sc := sc_is_ahead
    exact (pds_one (pds_ret (pd_or (pd_call c_is_members hr (pda_cons false (pd_var 0) pda_nil) hx_cx (hlen := (aCons_len aNil_len))) (pd_one (pd_and (pd_isi T.b_isinstance T.b_tuple (by decide +kernel) kTup (pd_var 0)) (pd_one (pd_eq hr (pd_len T.b_len (pd_var 0)) pd_int)))))))⟩
@[irreducible] noncomputable def m_is_ahead : FM := fnOf ["thing"] b_is_ahead.1
theorem df_is_ahead {P : Program} {w : World} {K : PySem.W.Frag} {mg : Str → Option Value} {base : Heap} (T : Txt K mg) (c_is_members : Df P w K mg base 4 "is_members" ["thing"] m_is_members) : Df P w K mg base 5 "is_ahead" ["thing"] m_is_ahead := by
  unfold m_is_ahead
  obtain ⟨f, fd, Fn, hm⟩ := T.f_is_ahead
  exact Df.mk' Fn sc_is_ahead hm (Fn.binds fun _ _ _ _ _ _ us hl => match us, hl with | [_], _ => rfl) (fun cdv A outer s H E hr => b_is_ahead.2 T c_is_members f cdv A outer s H E hr)
theorem sc_is_kept : FnScope ["thing"] ["thing"] (defScope st_is_kept) := ⟨rfl, rfl, rfl, by decide +kernel, rfl, by decide +kernel, by decide +kernel⟩
noncomputable def b_is_kept : { g : SM // ∀ {P : Program} {w : World} {K : PySem.W.Frag} {mg : Str → Option Value} {base : Heap} (T : Txt K mg) (c_is_count : Df P w K mg base 2 "is_count" ["thing"] m_is_count) (c_is_ahead : Df P w K mg base 5 "is_ahead" ["thing"] m_is_ahead) (c_is_tuple_of : Df P w K mg base 1 "is_tuple_of" ["thing", "many"] m_is_tuple_of) (c_are_leases : Df P w K mg base 5 "are_leases" ["thing"] m_are_leases) (c_are_blocks : Df P w K mg base 5 "are_blocks" ["thing"] m_are_blocks) (c_are_heads : Df P w K mg base 7 "are_heads" ["thing"] m_are_heads) (c_is_vote : Df P w K mg base 5 "is_vote" ["thing"] m_is_vote) (c_is_stamp : Df P w K mg base 4 "is_stamp" ["thing"] m_is_stamp) (c_is_members : Df P w K mg base 4 "is_members" ["thing"] m_is_members) (f : Addr) (cdv : Value) (A : Around) (outer : List Env) (s : Shared) (H : Hp) (E : XK), Room 7 (A.deeper (envOfC "is_kept" (defScope st_is_kept) s.heap.objs.size f cdv)) → PDSs (cxOf (L2.CX P w) P w K mg base ["thing"] "is_kept" (defScope st_is_kept) f cdv A outer s H E) E (defBody st_is_kept) g } :=
  ⟨_, fun T c_is_count c_is_ahead c_is_tuple_of c_are_leases c_are_blocks c_are_heads c_is_vote c_is_stamp c_is_members f cdv A outer s H E hr => by
    have Sc := sc_is_kept
    exact (pds_cons (pds_if (PDW.t (pdw_or (pdt_not (pdt_val (pd_call c_is_tuple_of hr (pda_cons false (pd_var 0) (pda_cons false pd_int pda_nil)) hx_cx (hlen := (aCons_len (aCons_len aNil_len)))))) (pdw_or (pdt_not (pdt_val (pd_call c_is_ahead hr (pda_cons false (pd_ix (pd_var 0) (pd_gint T.c_AHEAD)) pda_nil) hx_cx (hlen := (aCons_len aNil_len))))) (pdw_or1 (pdt_not (pdt_val (pd_call c_is_count hr (pda_cons false (pd_ix (pd_var 0) (pd_gint T.c_CLOCK)) pda_nil) hx_cx (hlen := (aCons_len aNil_len))))))))) (pds_one (pds_ret pd_bl)) pds_nil)
    (pds_cons (pds_if (PDW.t (pdw_or (pdt_not (pdt_val (pd_call c_are_heads hr (pda_cons false (pd_ix (pd_var 0) (pd_gint T.c_HEADS)) pda_nil) hx_cx (hlen := (aCons_len aNil_len))))) (pdw_or (pdt_not (pdt_val (pd_call c_are_blocks hr (pda_cons false (pd_ix (pd_var 0) (pd_gint T.c_BLOCKS)) pda_nil) hx_cx (hlen := (aCons_len aNil_len))))) (pdw_or1 (pdt_not (pdt_val (pd_call c_are_leases hr (pda_cons false (pd_ix (pd_var 0) (pd_gint T.c_LEASES)) pda_nil) hx_cx (hlen := (aCons_len aNil_len))))))))) (pds_one (pds_ret pd_bl)) pds_nil)
    (pds_cons (pds_if (PDW.t (pdw_or (pdt_not (pdt_val (pd_call c_is_stamp hr (pda_cons false (pd_ix (pd_var 0) (pd_gint T.c_PROMISE)) pda_nil) hx_cx (hlen := (aCons_len aNil_len))))) (pdw_or1 (PDW.t (pdw_and (pdt_notN (pd_ix (pd_var 0) (pd_gint T.c_VOTED)) pd_non) (pdw_and1 (pdt_not (pdt_val (pd_call c_is_vote hr (pda_cons false (pd_ix (pd_var 0) (pd_gint T.c_VOTED)) pda_nil) hx_cx (hlen := (aCons_len aNil_len))))))))))) (pds_one (pds_ret pd_bl)) pds_nil)
    (pds_one (pds_ret (pd_or (pd_isN (pd_ix (pd_var 0) (pd_gint T.c_NEXT)) pd_non) (pd_one (pd_call c_is_members hr (pda_cons false (pd_ix (pd_var 0) (pd_gint T.c_NEXT)) pda_nil) hx_cx (hlen := (aCons_len aNil_len))))))))))⟩
@[irreducible] noncomputable def m_is_kept : FM := fnOf ["thing"] b_is_kept.1
theorem df_is_kept {P : Program} {w : World} {K : PySem.W.Frag} {mg : Str → Option Value} {base : Heap} (T : Txt K mg) (c_is_count : Df P w K mg base 2 "is_count" ["thing"] m_is_count) (c_is_ahead : Df P w K mg base 5 "is_ahead" ["thing"] m_is_ahead) (c_is_tuple_of : Df P w K mg base 1 "is_tuple_of" ["thing", "many"] m_is_tuple_of) (c_are_leases : Df P w K mg base 5 "are_leases" ["thing"] m_are_leases) (c_are_blocks : Df P w K mg base 5 "are_blocks" ["thing"] m_are_blocks) (c_are_heads : Df P w K mg base 7 "are_heads" ["thing"] m_are_heads) (c_is_vote : Df P w K mg base 5 "is_vote" ["thing"] m_is_vote) (c_is_stamp : Df P w K mg base 4 "is_stamp" ["thing"] m_is_stamp) (c_is_members : Df P w K mg base 4 "is_members" ["thing"] m_is_members) : Df P w K mg base 8 "is_kept" ["thing"] m_is_kept := by
  unfold m_is_kept
  obtain ⟨f, fd, Fn, hm⟩ := T.f_is_kept
  exact Df.mk' Fn sc_is_kept hm (Fn.binds fun _ _ _ _ _ _ us hl => match us, hl with | [_], _ => rfl) (fun cdv A outer s H E hr => b_is_kept.2 T c_is_count c_is_ahead c_is_tuple_of c_are_leases c_are_blocks c_are_heads c_is_vote c_is_stamp c_is_members f cdv A outer s H E hr)
theorem sc_is_table : FnScope ["thing", "at"] ["thing"] (defScope st_is_table) := ⟨rfl, rfl, rfl, by decide +kernel, rfl, by decide +kernel, by decide +kernel⟩
noncomputable def b_is_table : { g : SM // ∀ {P : Program} {w : World} {K : PySem.W.Frag} {mg : Str → Option Value} {base : Heap} (T : Txt K mg) (c_is_kept : Df P w K mg base 8 "is_kept" ["thing"] m_is_kept) (c_is_count : Df P w K mg base 2 "is_count" ["thing"] m_is_count) (c_is_members : Df P w K mg base 4 "is_members" ["thing"] m_is_members) (f : Addr) (cdv : Value) (A : Around) (outer : List Env) (s : Shared) (H : Hp) (E : XK), Room 8 (A.deeper (envOfC "is_table" (defScope st_is_table) s.heap.objs.size f cdv)) → PDSs (cxOf (L2.CX P w) P w K mg base ["thing", "at"] "is_table" (defScope st_is_table) f cdv A outer s H E) E (defBody st_is_table) g } :=
  ⟨_, fun T c_is_kept c_is_count c_is_members f cdv A outer s H E hr => by
    have Sc := sc_is_table
    exact (pds_cons (pds_if (pdt_not (pdt_val (pd_call c_is_kept hr (pda_cons false (pd_var 0) pda_nil) hx_cx (hlen := (aCons_len aNil_len))))) (pds_one (pds_ret pd_bl)) pds_nil)
    (pds_cons (pds_if (pdt_val (pd_call c_is_count hr (pda_cons false (pd_ix (pd_var 0) (pd_gint T.c_EPOCH)) pda_nil) hx_cx (hlen := (aCons_len aNil_len)))) (pds_one (pds_ret (pd_call c_is_members hr (pda_cons false (pd_ix (pd_var 0) (pd_gint T.c_MEMBERS)) pda_nil) hx_cx (hlen := (aCons_len aNil_len))))) pds_nil)
    (pds_cons (pds_if (PDW.t (pdw_or (pdt_not (pdt_val (pd_isi T.b_isinstance T.b_int (by decide +kernel) kInt (pd_ix (pd_var 0) (pd_gint T.c_EPOCH))))) (pdw_or1 (pdt_ne hr (pd_ix (pd_var 0) (pd_gint T.c_EPOCH)) (pd_neg pd_int))))) (pds_one (pds_ret pd_bl)) pds_nil)
    (pds_one (pds_ret (pd_eq hr (pd_lc rfl Sc.nd (pdi_any (pd_tup (pda_cons false (pd_gint T.c_MEMBERS) (pda_cons false (pd_gint T.c_AHEAD) (pda_cons false (pd_gint T.c_HEADS) (pda_cons false (pd_gint T.c_BLOCKS) pda_nil)))))) [("at", 1)] (blkOk_by (N := ["thing", "at"]) (sc := defScope st_is_table) (by decide +kernel)) (fun _ _ _ _ _ => (pdg_name 1 Sc.nd)) (gT1_mem 1) (fun _ _ _ _ _ => pdts_nil) (fun _ _ _ _ _ => (pd_ix (pd_var 0) (pd_var 1)))) (pd_lst (pda_cons false (pd_tup pda_nil) (pda_cons false (pd_tup pda_nil) (pda_cons false (pd_tup pda_nil) (pda_cons false (pd_tup pda_nil) pda_nil)))))))))))⟩
@[irreducible] noncomputable def m_is_table : FM := fnOf ["thing", "at"] b_is_table.1
theorem df_is_table {P : Program} {w : World} {K : PySem.W.Frag} {mg : Str → Option Value} {base : Heap} (T : Txt K mg) (c_is_kept : Df P w K mg base 8 "is_kept" ["thing"] m_is_kept) (c_is_count : Df P w K mg base 2 "is_count" ["thing"] m_is_count) (c_is_members : Df P w K mg base 4 "is_members" ["thing"] m_is_members) : Df P w K mg base 9 "is_table" ["thing"] m_is_table := by
  unfold m_is_table
  obtain ⟨f, fd, Fn, hm⟩ := T.f_is_table
  exact Df.mk' Fn sc_is_table hm (Fn.binds fun _ _ _ _ _ _ us hl => match us, hl with | [_], _ => rfl) (fun cdv A outer s H E hr => b_is_table.2 T c_is_kept c_is_count c_is_members f cdv A outer s H E hr)
theorem sc_check_table : FnScope ["thing"] ["thing"] (defScope st_check_table) := ⟨rfl, rfl, rfl, by decide +kernel, rfl, by decide +kernel, by decide +kernel⟩
noncomputable def b_check_table : { g : SM // ∀ {P : Program} {w : World} {K : PySem.W.Frag} {mg : Str → Option Value} {base : Heap} (T : Txt K mg) (c_is_table : Df P w K mg base 9 "is_table" ["thing"] m_is_table) (f : Addr) (cdv : Value) (A : Around) (outer : List Env) (s : Shared) (H : Hp) (E : XK), Room 9 (A.deeper (envOfC "check_table" (defScope st_check_table) s.heap.objs.size f cdv)) → PDSs (cxOf (L2.CX P w) P w K mg base ["thing"] "check_table" (defScope st_check_table) f cdv A outer s H E) E (defBody st_check_table) g } :=
  ⟨_, fun T c_is_table f cdv A outer s H E hr => by
    have Sc := sc_check_table
    exact (pds_one (pds_if (pdt_not (pdt_val (pd_call c_is_table hr (pda_cons false (pd_var 0) pda_nil) hx_cx (hlen := (aCons_len aNil_len))))) (pds_one (pds_raise T.x_NoTable rfl tk_cx)) pds_nil))⟩
@[irreducible] noncomputable def m_check_table : FM := fnOf ["thing"] b_check_table.1
theorem df_check_table {P : Program} {w : World} {K : PySem.W.Frag} {mg : Str → Option Value} {base : Heap} (T : Txt K mg) (c_is_table : Df P w K mg base 9 "is_table" ["thing"] m_is_table) : Df P w K mg base 10 "check_table" ["thing"] m_check_table := by
  unfold m_check_table
  obtain ⟨f, fd, Fn, hm⟩ := T.f_check_table
  exact Df.mk' Fn sc_check_table hm (Fn.binds fun _ _ _ _ _ _ us hl => match us, hl with | [_], _ => rfl) (fun cdv A outer s H E hr => b_check_table.2 T c_is_table f cdv A outer s H E hr)
theorem sc_keeps : FnScope ["table"] ["table"] (defScope st_keeps) := ⟨rfl, rfl, rfl, by decide +kernel, rfl, by decide +kernel, by decide +kernel⟩
noncomputable def b_keeps : { g : SM // ∀ {P : Program} {w : World} {K : PySem.W.Frag} {mg : Str → Option Value} {base : Heap} (T : Txt K mg)  (f : Addr) (cdv : Value) (A : Around) (outer : List Env) (s : Shared) (H : Hp) (E : XK), Room 0 (A.deeper (envOfC "keeps" (defScope st_keeps) s.heap.objs.size f cdv)) → PDSs (cxOf (L2.CX P w) P w K mg base ["table"] "keeps" (defScope st_keeps) f cdv A outer s H E) E (defBody st_keeps) g } :=
  ⟨_, fun T  f cdv A outer s H E hr => by
    have Sc := sc_keeps
    exact (pds_one (pds_ret (pd_and (pd_geA (pd_ix (pd_var 0) (pd_gint T.c_EPOCH)) pd_int) (pd_one (pd_isN (pd_ix (pd_var 0) (pd_gint T.c_NEXT)) pd_non)))))⟩
@[irreducible] noncomputable def m_keeps : FM := fnOf ["table"] b_keeps.1
theorem df_keeps {P : Program} {w : World} {K : PySem.W.Frag} {mg : Str → Option Value} {base : Heap} (T : Txt K mg)  : Df P w K mg base 1 "keeps" ["table"] m_keeps := by
  unfold m_keeps
  obtain ⟨f, fd, Fn, hm⟩ := T.f_keeps
  exact Df.mk' Fn sc_keeps hm (Fn.binds fun _ _ _ _ _ _ us hl => match us, hl with | [_], _ => rfl) (fun cdv A outer s H E hr => b_keeps.2 T  f cdv A outer s H E hr)
theorem sc_written : FnScope ["home", "other", "word", "rest"] ["home", "other", "word", "rest"] (defScope st_written) := ⟨rfl, rfl, rfl, by decide +kernel, rfl, by decide +kernel, by decide +kernel⟩
noncomputable def b_written : { g : SM // ∀ {P : Program} {w : World} {K : PySem.W.Frag} {mg : Str → Option Value} {base : Heap} (T : Txt K mg)  (f : Addr) (cdv : Value) (A : Around) (outer : List Env) (s : Shared) (H : Hp) (E : XK), Room 0 (A.deeper (envOfC "written" (defScope st_written) s.heap.objs.size f cdv)) → PDSs (cxOf (L2.CX P w) P w K mg base ["home", "other", "word", "rest"] "written" (defScope st_written) f cdv A outer s H E) E (defBody st_written) g } :=
  ⟨_, fun T  f cdv A outer s H E hr => by
    have Sc := sc_written
    exact (pds_one (pds_ret (pd_tup (pda_cons false (pd_tup (pda_cons false (pd_tup (pda_cons false (pd_gstr T.c_HOME) (pda_cons false (pd_var 1) pda_nil))) (pda_cons false (pd_tup (pda_cons false (pd_gstr T.c_HOME) (pda_cons false (pd_var 0) pda_nil))) (pda_cons false pd_int (pda_cons false (pd_var 2) (pda_cons false (pd_var 3) pda_nil)))))) pda_nil))))⟩
@[irreducible] noncomputable def m_written : FM := fnOf ["home", "other", "word", "rest"] b_written.1
theorem df_written {P : Program} {w : World} {K : PySem.W.Frag} {mg : Str → Option Value} {base : Heap} (T : Txt K mg)  : Df P w K mg base 1 "written" ["home", "other", "word", "rest"] m_written := by
  unfold m_written
  obtain ⟨f, fd, Fn, hm⟩ := T.f_written
  exact Df.mk' Fn sc_written hm (Fn.binds fun _ _ _ _ _ _ us hl => match us, hl with | [_, _, _, _], _ => rfl) (fun cdv A outer s H E hr => b_written.2 T  f cdv A outer s H E hr)
theorem sc_begin_mending : FnScope ["home", "table", "other"] ["home", "table", "other"] (defScope st_begin_mending) := ⟨rfl, rfl, rfl, by decide +kernel, rfl, by decide +kernel, by decide +kernel⟩
noncomputable def b_begin_mending : { g : SM // ∀ {P : Program} {w : World} {K : PySem.W.Frag} {mg : Str → Option Value} {base : Heap} (T : Txt K mg) (c_is_home : Df P w K mg base 3 "is_home" ["thing"] m_is_home) (c_check_table : Df P w K mg base 10 "check_table" ["thing"] m_check_table) (c_keeps : Df P w K mg base 1 "keeps" ["table"] m_keeps) (c_written : Df P w K mg base 1 "written" ["home", "other", "word", "rest"] m_written) (f : Addr) (cdv : Value) (A : Around) (outer : List Env) (s : Shared) (H : Hp) (E : XK), Room 10 (A.deeper (envOfC "begin_mending" (defScope st_begin_mending) s.heap.objs.size f cdv)) → PDSs (cxOf (L2.CX P w) P w K mg base ["home", "table", "other"] "begin_mending" (defScope st_begin_mending) f cdv A outer s H E) E (defBody st_begin_mending) g } :=
  ⟨_, fun T c_is_home c_check_table c_keeps c_written f cdv A outer s H E hr => by
    have Sc := sc_begin_mending
    exact (pds_cons (pds_if (pdt_not (pdt_val (pd_call c_is_home hr (pda_cons false (pd_var 0) pda_nil) hx_cx (hlen := (aCons_len aNil_len))))) (pds_one (pds_raise T.x_NoHomeNumber rfl tk_cx)) pds_nil)
    (pds_cons (pds_expr (pd_call c_check_table hr (pda_cons false (pd_var 1) pda_nil) hx_cx (hlen := (aCons_len aNil_len))))
    (pds_cons (pds_if (PDW.t (pdw_or (pdt_not (pdt_val (pd_call c_is_home hr (pda_cons false (pd_var 2) pda_nil) hx_cx (hlen := (aCons_len aNil_len))))) (pdw_or1 (pdt_eq hr (pd_var 2) (pd_var 0))))) (pds_one (pds_raise T.x_NoHomeNumber rfl tk_cx)) pds_nil)
    (pds_one (pds_ret (pd_if (pdt_val (pd_call c_keeps hr (pda_cons false (pd_var 1) pda_nil) hx_cx (hlen := (aCons_len aNil_len)))) (pd_call c_written hr (pda_cons false (pd_var 0) (pda_cons false (pd_var 2) (pda_cons false pd_str (pda_cons false (pd_tup (pda_cons false (pd_ix (pd_var 1) (pd_gint T.c_EPOCH)) (pda_cons false (pd_gint T.c_FIRST_MANY) pda_nil))) pda_nil)))) hx_cx (hlen := (aCons_len (aCons_len (aCons_len (aCons_len aNil_len)))))) (pd_tup pda_nil)))))))⟩
@[irreducible] noncomputable def m_begin_mending : FM := fnOf ["home", "table", "other"] b_begin_mending.1
theorem df_begin_mending {P : Program} {w : World} {K : PySem.W.Frag} {mg : Str → Option Value} {base : Heap} (T : Txt K mg) (c_is_home : Df P w K mg base 3 "is_home" ["thing"] m_is_home) (c_check_table : Df P w K mg base 10 "check_table" ["thing"] m_check_table) (c_keeps : Df P w K mg base 1 "keeps" ["table"] m_keeps) (c_written : Df P w K mg base 1 "written" ["home", "other", "word", "rest"] m_written) : Df P w K mg base 11 "begin_mending" ["home", "table", "other"] m_begin_mending := by
  unfold m_begin_mending
  obtain ⟨f, fd, Fn, hm⟩ := T.f_begin_mending
  exact Df.mk' Fn sc_begin_mending hm (Fn.binds fun _ _ _ _ _ _ us hl => match us, hl with | [_, _, _], _ => rfl) (fun cdv A outer s H E hr => b_begin_mending.2 T c_is_home c_check_table c_keeps c_written f cdv A outer s H E hr)
end K43

set_option Elab.async false
set_option linter.all false
set_option maxRecDepth 100000
set_option maxHeartbeats 4000000
namespace K43
open PySem PySem.Spec PyProof.Rows L2 PD

theorem sc_w_hat : FnScope ["_law_cell", "_law_k", "_law_wide", "_law_number_here"] ["_law_cell", "_law_k"] (defScope st_w_hat) := ⟨rfl, rfl, rfl, by decide +kernel, rfl, by decide +kernel, by decide +kernel⟩
noncomputable def b_w_hat : { g : SM // ∀ {P : Program} {w : World} {K : PySem.W.Frag} {mg : Str → Option Value} {base : Heap} (T : Txt K mg)  (f : Addr) (cdv : Value) (A : Around) (outer : List Env) (s : Shared) (H : Hp) (E : XK), Room 0 (A.deeper (envOfC "_law_hat" (defScope st_w_hat) s.heap.objs.size f cdv)) → PDSs (cxOf (L2.CX P w) P w K mg base ["_law_cell", "_law_k", "_law_wide", "_law_number_here"] "_law_hat" (defScope st_w_hat) f cdv A outer s H E) E (defBody st_w_hat) g } :=
  ⟨_, fun T  f cdv A outer s H E hr => by
    have Sc := sc_w_hat
    exact (pds_cons (pds_set false 2 Sc.nd (pd_mul (pd_mul (pd_mul (pd_pow pd_int pd_int) (pd_pow pd_int pd_int)) (pd_pow pd_int pd_int)) (pd_pow pd_int pd_int)))
    (pds_cons (pds_set false 3 Sc.nd (pd_mod (pd_intC T.b_int (pd_var 0)) (pd_var 2)))
    (pds_cons (pds_if (pdt_geA (pd_var 3) (pd_pow pd_int pd_int)) (pds_one (pds_ret (pd_lst (pda_cons false (pd_var 3) (pda_cons false (pd_add (pd_mod (pd_intC T.b_int (pd_var 3)) pd_int) (pd_var 1)) pda_nil))))) pds_nil)
    (pds_one (pds_ret (pd_lst (pda_cons false pd_int (pda_cons false (pd_mod (pd_add (pd_add (pd_mul (pd_mod (pd_intC T.b_int (pd_var 3)) pd_int) pd_int) (pd_mul pd_int (pd_var 1))) pd_int) pd_int) pda_nil))))))))⟩
@[irreducible] noncomputable def m_w_hat : FM := fnOf ["_law_cell", "_law_k", "_law_wide", "_law_number_here"] b_w_hat.1
theorem df_w_hat {P : Program} {w : World} {K : PySem.W.Frag} {mg : Str → Option Value} {base : Heap} (T : Txt K mg)  : Df P w K mg base 1 "_law_hat" ["_law_cell", "_law_k"] m_w_hat := by
  unfold m_w_hat
  obtain ⟨f, fd, Fn, hm⟩ := T.f_w_hat
  exact Df.mk' Fn sc_w_hat hm (Fn.binds fun _ _ _ _ _ _ us hl => match us, hl with | [_, _], _ => rfl) (fun cdv A outer s H E hr => b_w_hat.2 T  f cdv A outer s H E hr)
theorem sc_w_draw : FnScope ["_law_hat_here", "_law_many", "_law_digit"] ["_law_hat_here", "_law_many"] (defScope st_w_draw) := ⟨rfl, rfl, rfl, by decide +kernel, rfl, by decide +kernel, by decide +kernel⟩
noncomputable def b_w_draw : { g : SM // ∀ {P : Program} {w : World} {K : PySem.W.Frag} {mg : Str → Option Value} {base : Heap} (T : Txt K mg)  (f : Addr) (cdv : Value) (A : Around) (outer : List Env) (s : Shared) (H : Hp) (E : XK), Room 0 (A.deeper (envOfC "_law_draw" (defScope st_w_draw) s.heap.objs.size f cdv)) → PDSs (cxOf (L2.CX P w) P w K mg base ["_law_hat_here", "_law_many", "_law_digit"] "_law_draw" (defScope st_w_draw) f cdv A outer s H E) E (defBody st_w_draw) g } :=
  ⟨_, fun T  f cdv A outer s H E hr => by
    have Sc := sc_w_draw
    exact (pds_cons (pds_if (pdt_gtA (pd_ix (pd_var 0) pd_int) pd_int) (pds_cons (pds_set false 2 Sc.nd (pd_mod (pd_intC T.b_int (pd_ix (pd_var 0) pd_int)) (pd_var 1)))
    (pds_cons (pds_item (pd_div (pd_ix (pd_var 0) pd_int) (pd_var 1)) (pd_var 0) pd_int)
    (pds_one (pds_ret (pd_var 2))))) pds_nil)
    (pds_cons (pds_item (pd_mod (pd_add (pd_mul (pd_intC T.b_int (pd_ix (pd_var 0) pd_int)) pd_int) pd_int) pd_int) (pd_var 0) pd_int)
    (pds_cons (pds_item (pd_mod (pd_add (pd_mul (pd_intC T.b_int (pd_ix (pd_var 0) pd_int)) (pd_add (pd_mod (pd_div (pd_ix (pd_var 0) pd_int) pd_int) pd_int) pd_int)) pd_int) pd_int) (pd_var 0) pd_int)
    (pds_one (pds_ret (pd_mod (pd_div (pd_ix (pd_var 0) pd_int) pd_int) (pd_var 1)))))))⟩
@[irreducible] noncomputable def m_w_draw : FM := fnOf ["_law_hat_here", "_law_many", "_law_digit"] b_w_draw.1
theorem df_w_draw {P : Program} {w : World} {K : PySem.W.Frag} {mg : Str → Option Value} {base : Heap} (T : Txt K mg)  : Df P w K mg base 1 "_law_draw" ["_law_hat_here", "_law_many"] m_w_draw := by
  unfold m_w_draw
  obtain ⟨f, fd, Fn, hm⟩ := T.f_w_draw
  exact Df.mk' Fn sc_w_draw hm (Fn.binds fun _ _ _ _ _ _ us hl => match us, hl with | [_, _], _ => rfl) (fun cdv A outer s H E hr => b_w_draw.2 T  f cdv A outer s H E hr)
theorem sc_w_same : FnScope ["_law_actual", "_law_due", "_law_one_here", "_law_other"] ["_law_actual", "_law_due"] (defScope st_w_same) := ⟨rfl, rfl, rfl, by decide +kernel, rfl, by decide +kernel, by decide +kernel⟩
noncomputable def b_w_same (m : FM) : { g : SM // ∀ {P : Program} {w : World} {K : PySem.W.Frag} {mg : Str → Option Value} {base : Heap} (T : Txt K mg) (l : Nat) (c_w_same : Df P w K mg base l "_law_same" ["_law_actual", "_law_due"] m) (f : Addr) (cdv : Value) (A : Around) (outer : List Env) (s : Shared) (H : Hp) (E : XK), Room l (A.deeper (envOfC "_law_same" (defScope st_w_same) s.heap.objs.size f cdv)) → PDSs (cxOf (L2.CX P w) P w K mg base ["_law_actual", "_law_due", "_law_one_here", "_law_other"] "_law_same" (defScope st_w_same) f cdv A outer s H E) E (defBody st_w_same) g } :=
  ⟨_, fun T l c_w_same f cdv A outer s H E hr => by
    have Sc := sc_w_same
    exact (pds_cons (pds_if (pdt_val (pd_isi T.b_isinstance T.b_tuple (by decide +kernel) kTup (pd_var 1))) (pds_cons (pds_if (PDW.t (pdw_or (pdt_not (pdt_val (pd_isi T.b_isinstance T.b_tuple (by decide +kernel) kTup (pd_var 0)))) (pdw_or1 (pdt_ne hr (pd_len T.b_len (pd_var 0)) (pd_len T.b_len (pd_var 1)))))) (pds_one (pds_ret pd_bl)) pds_nil)
    (pds_cons (pds_for (pdi_zip T.b_zip (pd_var 0) (pd_var 1)) (pdg_tup rfl (pdgs_cons 2 Sc.nd (pdgs_cons 3 Sc.nd pdgs_nil))) (pds_one (pds_if (pdt_not (pdt_val (pd_call c_w_same hr (pda_cons false (pd_var 2) (pda_cons false (pd_var 3) pda_nil)) hx_cx (hlen := (aCons_len (aCons_len aNil_len))) (hkj := Nat.le_refl _)))) (pds_one (pds_ret pd_bl)) pds_nil)) rfl (passes_of rfl))
    (pds_one (pds_ret pd_bl)))) pds_nil)
    (pds_cons (pds_if (pdt_isN (pd_var 1) pd_non) (pds_one (pds_ret (pd_isN (pd_var 0) pd_non))) pds_nil)
    (pds_cons (pds_if (pdt_val (pd_isi T.b_isinstance T.b_str (by decide +kernel) kStr (pd_var 1))) (pds_one (pds_ret (pd_and (pd_isi T.b_isinstance T.b_str (by decide +kernel) kStr (pd_var 0)) (pd_one (pd_eq hr (pd_var 0) (pd_var 1)))))) pds_nil)
    (pds_one (pds_ret (pd_and (pd_isi T.b_isinstance T.b_int (by decide +kernel) kInt (pd_var 0)) (pd_and (pd_not (pd_isi T.b_isinstance T.b_bool (by decide +kernel) kBool (pd_var 0))) (pd_one (pd_eq hr (pd_var 0) (pd_var 1))))))))))⟩
noncomputable def m_w_same : Nat → FM
  | 0 => fun _ _ => .bad
  | n + 1 => fnOf ["_law_actual", "_law_due", "_law_one_here", "_law_other"] (b_w_same (m_w_same n)).1
theorem df_w_same {P : Program} {w : World} {K : PySem.W.Frag} {mg : Str → Option Value} {base : Heap} (T : Txt K mg) : ∀ n, Df P w K mg base n "_law_same" ["_law_actual", "_law_due"] (m_w_same n)
  | 0 => by
    obtain ⟨f, fd, Fn, hm⟩ := T.f_w_same
    exact Df.bad Fn sc_w_same hm (Fn.binds fun _ _ _ _ _ _ us hl => match us, hl with | [_, _], _ => rfl)
  | n + 1 => by
    obtain ⟨f, fd, Fn, hm⟩ := T.f_w_same
    exact Df.mk' Fn sc_w_same hm (Fn.binds fun _ _ _ _ _ _ us hl => match us, hl with | [_, _], _ => rfl) (fun cdv A outer s H E hr => (b_w_same (m_w_same n)).2 T n (df_w_same T n) f cdv A outer s H E hr)
theorem sc_w_prime : FnScope ["_law_hat_here", "_law_kind", "_law_number_here", "_law_divisor"] ["_law_hat_here"] (defScope st_w_prime) := ⟨rfl, rfl, rfl, by decide +kernel, rfl, by decide +kernel, by decide +kernel⟩
noncomputable def b_w_prime : { g : SM // ∀ {P : Program} {w : World} {K : PySem.W.Frag} {mg : Str → Option Value} {base : Heap} (T : Txt K mg) (c_w_draw : Df P w K mg base 1 "_law_draw" ["_law_hat_here", "_law_many"] m_w_draw) (f : Addr) (cdv : Value) (A : Around) (outer : List Env) (s : Shared) (H : Hp) (E : XK), Room 1 (A.deeper (envOfC "_law_prime" (defScope st_w_prime) s.heap.objs.size f cdv)) → PDSs (cxOf (L2.CX P w) P w K mg base ["_law_hat_here", "_law_kind", "_law_number_here", "_law_divisor"] "_law_prime" (defScope st_w_prime) f cdv A outer s H E) E (defBody st_w_prime) g } :=
  ⟨_, fun T c_w_draw f cdv A outer s H E hr => by
    have Sc := sc_w_prime
    exact (pds_cons (pds_set false 1 Sc.nd (pd_call c_w_draw hr (pda_cons true (pd_var 0) (pda_cons false pd_int pda_nil)) hx_cx (hlen := (aCons_len (aCons_len aNil_len)))))
    (pds_cons (pds_if (pdt_eq hr (pd_var 1) pd_int) (pds_one (pds_ret (pd_ix (pd_lst (pda_cons false pd_int (pda_cons false pd_int (pda_cons false pd_int (pda_cons false pd_int (pda_cons false pd_int pda_nil)))))) (pd_call c_w_draw hr (pda_cons true (pd_var 0) (pda_cons false pd_int pda_nil)) hx_cx (hlen := (aCons_len (aCons_len aNil_len))))))) pds_nil)
    (pds_cons (pds_if (pdt_eq hr (pd_var 1) pd_int) (pds_one (pds_ret (pd_ix (pd_lst (pda_cons false pd_int (pda_cons false pd_int pda_nil))) (pd_call c_w_draw hr (pda_cons true (pd_var 0) (pda_cons false pd_int pda_nil)) hx_cx (hlen := (aCons_len (aCons_len aNil_len))))))) pds_nil)
    (pds_cons (pds_if (pdt_ltA (pd_var 1) pd_int) (pds_one (pds_ret (pd_subI (pd_mul (pd_pow pd_int pd_int) (pd_pow pd_int pd_int)) pd_int))) pds_nil)
    (pds_cons (pds_for (pdi_range3 T.b_range (pd_add pd_int (pd_call c_w_draw hr (pda_cons true (pd_var 0) (pda_cons false pd_int pda_nil)) hx_cx (hlen := (aCons_len (aCons_len aNil_len))))) pd_int (pd_neg pd_int)) (pdg_name 2 Sc.nd) (pds_one (pds_if (pdt_val (pd_all T.b_all rfl (pd_lc rfl Sc.nd (pdi_range2 T.b_range pd_int pd_int) [("_law_divisor", 3)] (blkOk_by (N := ["_law_hat_here", "_law_kind", "_law_number_here", "_law_divisor"]) (sc := defScope st_w_prime) (by decide +kernel)) (fun _ _ _ _ _ => (pdg_name 3 Sc.nd)) (gT1_mem 3) (fun _ _ _ _ _ => (pdts_one (pdt_ltA (pd_var 3) (pd_var 2)))) (fun _ _ _ _ _ => (pd_ne hr (pd_mod (pd_var 2) (pd_var 3)) pd_int))))) (pds_one (pds_ret (pd_var 2))) pds_nil)) rfl (passes_of rfl))
    (pds_one (pds_ret pd_int)))))))⟩
@[irreducible] noncomputable def m_w_prime : FM := fnOf ["_law_hat_here", "_law_kind", "_law_number_here", "_law_divisor"] b_w_prime.1
theorem df_w_prime {P : Program} {w : World} {K : PySem.W.Frag} {mg : Str → Option Value} {base : Heap} (T : Txt K mg) (c_w_draw : Df P w K mg base 1 "_law_draw" ["_law_hat_here", "_law_many"] m_w_draw) : Df P w K mg base 2 "_law_prime" ["_law_hat_here"] m_w_prime := by
  unfold m_w_prime
  obtain ⟨f, fd, Fn, hm⟩ := T.f_w_prime
  exact Df.mk' Fn sc_w_prime hm (Fn.binds fun _ _ _ _ _ _ us hl => match us, hl with | [_], _ => rfl) (fun cdv A outer s H E hr => b_w_prime.2 T c_w_draw f cdv A outer s H E hr)
theorem sc_w_number : FnScope ["_law_hat_here", "_law_prime_here", "_law_kind"] ["_law_hat_here", "_law_prime_here"] (defScope st_w_number) := ⟨rfl, rfl, rfl, by decide +kernel, rfl, by decide +kernel, by decide +kernel⟩
noncomputable def b_w_number : { g : SM // ∀ {P : Program} {w : World} {K : PySem.W.Frag} {mg : Str → Option Value} {base : Heap} (T : Txt K mg) (c_w_draw : Df P w K mg base 1 "_law_draw" ["_law_hat_here", "_law_many"] m_w_draw) (f : Addr) (cdv : Value) (A : Around) (outer : List Env) (s : Shared) (H : Hp) (E : XK), Room 1 (A.deeper (envOfC "_law_number" (defScope st_w_number) s.heap.objs.size f cdv)) → PDSs (cxOf (L2.CX P w) P w K mg base ["_law_hat_here", "_law_prime_here", "_law_kind"] "_law_number" (defScope st_w_number) f cdv A outer s H E) E (defBody st_w_number) g } :=
  ⟨_, fun T c_w_draw f cdv A outer s H E hr => by
    have Sc := sc_w_number
    exact (pds_cons (pds_set false 2 Sc.nd (pd_call c_w_draw hr (pda_cons true (pd_var 0) (pda_cons false pd_int pda_nil)) hx_cx (hlen := (aCons_len (aCons_len aNil_len)))))
    (pds_cons (pds_if (pdt_eq hr (pd_var 2) pd_int) (pds_one (pds_ret (pd_call c_w_draw hr (pda_cons true (pd_var 0) (pda_cons false (pd_min2 T.b_min rfl (pd_var 1) pd_int) pda_nil)) hx_cx (hlen := (aCons_len (aCons_len aNil_len)))))) pds_nil)
    (pds_cons (pds_if (pdt_eq hr (pd_var 2) pd_int) (pds_one (pds_ret (pd_subI (pd_subI (pd_var 1) pd_int) (pd_call c_w_draw hr (pda_cons true (pd_var 0) (pda_cons false (pd_min2 T.b_min rfl (pd_var 1) pd_int) pda_nil)) hx_cx (hlen := (aCons_len (aCons_len aNil_len))))))) pds_nil)
    (pds_one (pds_ret (pd_call c_w_draw hr (pda_cons true (pd_var 0) (pda_cons false (pd_var 1) pda_nil)) hx_cx (hlen := (aCons_len (aCons_len aNil_len)))))))))⟩
@[irreducible] noncomputable def m_w_number : FM := fnOf ["_law_hat_here", "_law_prime_here", "_law_kind"] b_w_number.1
theorem df_w_number {P : Program} {w : World} {K : PySem.W.Frag} {mg : Str → Option Value} {base : Heap} (T : Txt K mg) (c_w_draw : Df P w K mg base 1 "_law_draw" ["_law_hat_here", "_law_many"] m_w_draw) : Df P w K mg base 2 "_law_number" ["_law_hat_here", "_law_prime_here"] m_w_number := by
  unfold m_w_number
  obtain ⟨f, fd, Fn, hm⟩ := T.f_w_number
  exact Df.mk' Fn sc_w_number hm (Fn.binds fun _ _ _ _ _ _ us hl => match us, hl with | [_, _], _ => rfl) (fun cdv A outer s H E hr => b_w_number.2 T c_w_draw f cdv A outer s H E hr)
theorem sc_w_lot : FnScope ["_law_hat_here", "_law_prime_here", "_law_many", "_law_barred", "_law_found", "_law_k", "_law_number_here"] ["_law_hat_here", "_law_prime_here", "_law_many", "_law_barred"] (defScope st_w_lot) := ⟨rfl, rfl, rfl, by decide +kernel, rfl, by decide +kernel, by decide +kernel⟩
noncomputable def b_w_lot : { g : SM // ∀ {P : Program} {w : World} {K : PySem.W.Frag} {mg : Str → Option Value} {base : Heap} (T : Txt K mg) (c_w_number : Df P w K mg base 2 "_law_number" ["_law_hat_here", "_law_prime_here"] m_w_number) (f : Addr) (cdv : Value) (A : Around) (outer : List Env) (s : Shared) (H : Hp) (E : XK), Room 2 (A.deeper (envOfC "_law_lot" (defScope st_w_lot) s.heap.objs.size f cdv)) → PDSs (cxOf (L2.CX P w) P w K mg base ["_law_hat_here", "_law_prime_here", "_law_many", "_law_barred", "_law_found", "_law_k", "_law_number_here"] "_law_lot" (defScope st_w_lot) f cdv A outer s H E) E (defBody st_w_lot) g } :=
  ⟨_, fun T c_w_number f cdv A outer s H E hr => by
    have Sc := sc_w_lot
    exact (pds_cons (pds_newD 4 Sc.nd)
    (pds_cons (pds_for (pdi_range1 T.b_range (pd_var 2)) (pdg_name 5 Sc.nd) (pds_cons (pds_set false 6 Sc.nd (pd_call c_w_number hr (pda_cons true (pd_var 0) (pda_cons false (pd_var 1) pda_nil)) hx_cx (hlen := (aCons_len (aCons_len aNil_len)))))
    (pds_one (pds_if (pdt_notIn (pd_var 6) (pd_var 3)) (pds_one (pds_put hr pd_bl (pd_var 4) (pd_var 6))) pds_nil))) rfl (passes_of rfl))
    (pds_one (pds_ret (pd_tuple T.b_tuple (pd_sorted T.b_sorted (pd_listM T.b_list rfl (pd_var 4))))))))⟩
@[irreducible] noncomputable def m_w_lot : FM := fnOf ["_law_hat_here", "_law_prime_here", "_law_many", "_law_barred", "_law_found", "_law_k", "_law_number_here"] b_w_lot.1
theorem df_w_lot {P : Program} {w : World} {K : PySem.W.Frag} {mg : Str → Option Value} {base : Heap} (T : Txt K mg) (c_w_number : Df P w K mg base 2 "_law_number" ["_law_hat_here", "_law_prime_here"] m_w_number) : Df P w K mg base 3 "_law_lot" ["_law_hat_here", "_law_prime_here", "_law_many", "_law_barred"] m_w_lot := by
  unfold m_w_lot
  obtain ⟨f, fd, Fn, hm⟩ := T.f_w_lot
  exact Df.mk' Fn sc_w_lot hm (Fn.binds fun _ _ _ _ _ _ us hl => match us, hl with | [_, _, _, _], _ => rfl) (fun cdv A outer s H E hr => b_w_lot.2 T c_w_number f cdv A outer s H E hr)
theorem sc_w_places : FnScope ["_law_hat_here", "_law_prime_here", "_law_many", "_law_barred", "_law_found", "_law_k", "_law_place"] ["_law_hat_here", "_law_prime_here", "_law_many", "_law_barred"] (defScope st_w_places) := ⟨rfl, rfl, rfl, by decide +kernel, rfl, by decide +kernel, by decide +kernel⟩
noncomputable def b_w_places : { g : SM // ∀ {P : Program} {w : World} {K : PySem.W.Frag} {mg : Str → Option Value} {base : Heap} (T : Txt K mg) (c_w_number : Df P w K mg base 2 "_law_number" ["_law_hat_here", "_law_prime_here"] m_w_number) (f : Addr) (cdv : Value) (A : Around) (outer : List Env) (s : Shared) (H : Hp) (E : XK), Room 2 (A.deeper (envOfC "_law_places" (defScope st_w_places) s.heap.objs.size f cdv)) → PDSs (cxOf (L2.CX P w) P w K mg base ["_law_hat_here", "_law_prime_here", "_law_many", "_law_barred", "_law_found", "_law_k", "_law_place"] "_law_places" (defScope st_w_places) f cdv A outer s H E) E (defBody st_w_places) g } :=
  ⟨_, fun T c_w_number f cdv A outer s H E hr => by
    have Sc := sc_w_places
    exact (pds_cons (pds_set true 4 Sc.nd (pd_lst pda_nil))
    (pds_cons (pds_for (pdi_range1 T.b_range (pd_var 2)) (pdg_name 5 Sc.nd) (pds_cons (pds_set false 6 Sc.nd (pd_call c_w_number hr (pda_cons true (pd_var 0) (pda_cons false (pd_var 1) pda_nil)) hx_cx (hlen := (aCons_len (aCons_len aNil_len)))))
    (pds_one (pds_if (PDW.t (pdw_and (pdt_notIn (pd_var 6) (pd_var 3)) (pdw_and1 (pdt_notIn (pd_var 6) (pd_var 4))))) (pds_one (pds_expr (pd_append (pd_var 4) (pd_var 6)))) pds_nil))) rfl (passes_of rfl))
    (pds_one (pds_ret (pd_tuple T.b_tuple (pd_var 4))))))⟩
@[irreducible] noncomputable def m_w_places : FM := fnOf ["_law_hat_here", "_law_prime_here", "_law_many", "_law_barred", "_law_found", "_law_k", "_law_place"] b_w_places.1
theorem df_w_places {P : Program} {w : World} {K : PySem.W.Frag} {mg : Str → Option Value} {base : Heap} (T : Txt K mg) (c_w_number : Df P w K mg base 2 "_law_number" ["_law_hat_here", "_law_prime_here"] m_w_number) : Df P w K mg base 3 "_law_places" ["_law_hat_here", "_law_prime_here", "_law_many", "_law_barred"] m_w_places := by
  unfold m_w_places
  obtain ⟨f, fd, Fn, hm⟩ := T.f_w_places
  exact Df.mk' Fn sc_w_places hm (Fn.binds fun _ _ _ _ _ _ us hl => match us, hl with | [_, _, _, _], _ => rfl) (fun cdv A outer s H E hr => b_w_places.2 T c_w_number f cdv A outer s H E hr)
theorem sc_w_product : FnScope ["_law_prime_here", "_law_lot_here", "_law_found", "_law_number_here", "_law_shifted", "_law_lower", "_law_coefficient", "_law_one_here", "_law_other"] ["_law_prime_here", "_law_lot_here"] (defScope st_w_product) := ⟨rfl, rfl, rfl, by decide +kernel, rfl, by decide +kernel, by decide +kernel⟩
noncomputable def b_w_product : { g : SM // ∀ {P : Program} {w : World} {K : PySem.W.Frag} {mg : Str → Option Value} {base : Heap} (T : Txt K mg)  (f : Addr) (cdv : Value) (A : Around) (outer : List Env) (s : Shared) (H : Hp) (E : XK), Room 0 (A.deeper (envOfC "_law_product" (defScope st_w_product) s.heap.objs.size f cdv)) → PDSs (cxOf (L2.CX P w) P w K mg base ["_law_prime_here", "_law_lot_here", "_law_found", "_law_number_here", "_law_shifted", "_law_lower", "_law_coefficient", "_law_one_here", "_law_other"] "_law_product" (defScope st_w_product) f cdv A outer s H E) E (defBody st_w_product) g } :=
  ⟨_, fun T  f cdv A outer s H E hr => by
    have Sc := sc_w_product
    exact (pds_cons (pds_set false 2 Sc.nd (pd_lst (pda_cons false pd_int pda_nil)))
    (pds_cons (pds_for (pdi_any (pd_var 1)) (pdg_name 3 Sc.nd) (pds_cons (pds_set false 4 Sc.nd (pd_add (pd_lst (pda_cons false pd_int pda_nil)) (pd_var 2)))
    (pds_cons (pds_set false 5 Sc.nd (pd_add (pd_lc rfl Sc.nd (pdi_any (pd_var 2)) [("_law_coefficient", 6)] (blkOk_by (N := ["_law_prime_here", "_law_lot_here", "_law_found", "_law_number_here", "_law_shifted", "_law_lower", "_law_coefficient", "_law_one_here", "_law_other"]) (sc := defScope st_w_product) (by decide +kernel)) (fun _ _ _ _ _ => (pdg_name 6 Sc.nd)) (gT1_mem 6) (fun _ _ _ _ _ => pdts_nil) (fun _ _ _ _ _ => (pd_mul (pd_var 6) (pd_var 3)))) (pd_lst (pda_cons false pd_int pda_nil))))
    (pds_one (pds_setLc false 2 rfl Sc.nd (pdi_zip T.b_zip (pd_var 4) (pd_var 5)) [("_law_one_here", 7), ("_law_other", 8)] (blkOk_by (N := ["_law_prime_here", "_law_lot_here", "_law_found", "_law_number_here", "_law_shifted", "_law_lower", "_law_coefficient", "_law_one_here", "_law_other"]) (sc := defScope st_w_product) (by decide +kernel)) (fun _ _ _ _ _ => (pdg_tup rfl (pdgs_cons 7 Sc.nd (pdgs_cons 8 Sc.nd pdgs_nil)))) (gTupT_mem [7, 8]) (fun _ _ _ _ _ => pdts_nil) (fun _ _ _ _ _ => (pd_mod (pd_subI (pd_var 7) (pd_var 8)) (pd_var 0))) (sw_true rfl rfl rfl (by decide +kernel)))))) rfl (passes_of rfl))
    (pds_one (pds_ret (pd_tuple T.b_tuple (pd_var 2))))))⟩
@[irreducible] noncomputable def m_w_product : FM := fnOf ["_law_prime_here", "_law_lot_here", "_law_found", "_law_number_here", "_law_shifted", "_law_lower", "_law_coefficient", "_law_one_here", "_law_other"] b_w_product.1
theorem df_w_product {P : Program} {w : World} {K : PySem.W.Frag} {mg : Str → Option Value} {base : Heap} (T : Txt K mg)  : Df P w K mg base 1 "_law_product" ["_law_prime_here", "_law_lot_here"] m_w_product := by
  unfold m_w_product
  obtain ⟨f, fd, Fn, hm⟩ := T.f_w_product
  exact Df.mk' Fn sc_w_product hm (Fn.binds fun _ _ _ _ _ _ us hl => match us, hl with | [_, _], _ => rfl) (fun cdv A outer s H E hr => b_w_product.2 T  f cdv A outer s H E hr)
theorem sc_w_at : FnScope ["_law_prime_here", "_law_polynomial", "_law_place", "_law_total", "_law_power", "_law_coefficient"] ["_law_prime_here", "_law_polynomial", "_law_place"] (defScope st_w_at) := ⟨rfl, rfl, rfl, by decide +kernel, rfl, by decide +kernel, by decide +kernel⟩
noncomputable def b_w_at : { g : SM // ∀ {P : Program} {w : World} {K : PySem.W.Frag} {mg : Str → Option Value} {base : Heap} (T : Txt K mg)  (f : Addr) (cdv : Value) (A : Around) (outer : List Env) (s : Shared) (H : Hp) (E : XK), Room 0 (A.deeper (envOfC "_law_at" (defScope st_w_at) s.heap.objs.size f cdv)) → PDSs (cxOf (L2.CX P w) P w K mg base ["_law_prime_here", "_law_polynomial", "_law_place", "_law_total", "_law_power", "_law_coefficient"] "_law_at" (defScope st_w_at) f cdv A outer s H E) E (defBody st_w_at) g } :=
  ⟨_, fun T  f cdv A outer s H E hr => by
    have Sc := sc_w_at
    exact (pds_cons (pds_set false 3 Sc.nd pd_int)
    (pds_cons (pds_set false 4 Sc.nd pd_int)
    (pds_cons (pds_for (pdi_any (pd_var 1)) (pdg_name 5 Sc.nd) (pds_cons (pds_set false 3 Sc.nd (pd_mod (pd_add (pd_var 3) (pd_mul (pd_var 5) (pd_var 4))) (pd_var 0)))
    (pds_one (pds_set false 4 Sc.nd (pd_mod (pd_mul (pd_var 4) (pd_var 2)) (pd_var 0))))) rfl (passes_of rfl))
    (pds_one (pds_ret (pd_var 3))))))⟩
@[irreducible] noncomputable def m_w_at : FM := fnOf ["_law_prime_here", "_law_polynomial", "_law_place", "_law_total", "_law_power", "_law_coefficient"] b_w_at.1
theorem df_w_at {P : Program} {w : World} {K : PySem.W.Frag} {mg : Str → Option Value} {base : Heap} (T : Txt K mg)  : Df P w K mg base 1 "_law_at" ["_law_prime_here", "_law_polynomial", "_law_place"] m_w_at := by
  unfold m_w_at
  obtain ⟨f, fd, Fn, hm⟩ := T.f_w_at
  exact Df.mk' Fn sc_w_at hm (Fn.binds fun _ _ _ _ _ _ us hl => match us, hl with | [_, _, _], _ => rfl) (fun cdv A outer s H E hr => b_w_at.2 T  f cdv A outer s H E hr)
theorem sc_w_bad_prime : FnScope ["_law_hat_here", "_law_composite", "_law_bad"] ["_law_hat_here"] (defScope st_w_bad_prime) := ⟨rfl, rfl, rfl, by decide +kernel, rfl, by decide +kernel, by decide +kernel⟩
noncomputable def b_w_bad_prime : { g : SM // ∀ {P : Program} {w : World} {K : PySem.W.Frag} {mg : Str → Option Value} {base : Heap} (T : Txt K mg) (c_w_draw : Df P w K mg base 1 "_law_draw" ["_law_hat_here", "_law_many"] m_w_draw) (f : Addr) (cdv : Value) (A : Around) (outer : List Env) (s : Shared) (H : Hp) (E : XK), Room 1 (A.deeper (envOfC "_law_bad_prime" (defScope st_w_bad_prime) s.heap.objs.size f cdv)) → PDSs (cxOf (L2.CX P w) P w K mg base ["_law_hat_here", "_law_composite", "_law_bad"] "_law_bad_prime" (defScope st_w_bad_prime) f cdv A outer s H E) E (defBody st_w_bad_prime) g } :=
  ⟨_, fun T c_w_draw f cdv A outer s H E hr => by
    have Sc := sc_w_bad_prime
    exact (pds_cons (pds_set false 1 Sc.nd (pd_mul (pd_add pd_int (pd_call c_w_draw hr (pda_cons true (pd_var 0) (pda_cons false pd_int pda_nil)) hx_cx (hlen := (aCons_len (aCons_len aNil_len))))) (pd_add pd_int (pd_call c_w_draw hr (pda_cons true (pd_var 0) (pda_cons false pd_int pda_nil)) hx_cx (hlen := (aCons_len (aCons_len aNil_len)))))))
    (pds_cons (pds_set false 2 Sc.nd (pd_lst (pda_cons false (pd_var 1) (pda_cons false (pd_var 1) (pda_cons false (pd_var 1) (pda_cons false pd_int (pda_cons false pd_int (pda_cons false (pd_neg pd_int) (pda_cons false pd_int (pda_cons false (pd_subI (pd_pow pd_int pd_int) pd_int) (pda_cons false (pd_pow pd_int pd_int) (pda_cons false pd_bl (pda_cons false pd_non (pda_cons false pd_str (pda_cons false (pd_tup (pda_cons false pd_int pda_nil)) pda_nil)))))))))))))))
    (pds_one (pds_ret (pd_ix (pd_var 2) (pd_call c_w_draw hr (pda_cons true (pd_var 0) (pda_cons false pd_int pda_nil)) hx_cx (hlen := (aCons_len (aCons_len aNil_len)))))))))⟩
@[irreducible] noncomputable def m_w_bad_prime : FM := fnOf ["_law_hat_here", "_law_composite", "_law_bad"] b_w_bad_prime.1
theorem df_w_bad_prime {P : Program} {w : World} {K : PySem.W.Frag} {mg : Str → Option Value} {base : Heap} (T : Txt K mg) (c_w_draw : Df P w K mg base 1 "_law_draw" ["_law_hat_here", "_law_many"] m_w_draw) : Df P w K mg base 2 "_law_bad_prime" ["_law_hat_here"] m_w_bad_prime := by
  unfold m_w_bad_prime
  obtain ⟨f, fd, Fn, hm⟩ := T.f_w_bad_prime
  exact Df.mk' Fn sc_w_bad_prime hm (Fn.binds fun _ _ _ _ _ _ us hl => match us, hl with | [_], _ => rfl) (fun cdv A outer s H E hr => b_w_bad_prime.2 T c_w_draw f cdv A outer s H E hr)
theorem sc_w_spoilt : FnScope ["_law_hat_here", "_law_things", "_law_bad", "_law_at_here"] ["_law_hat_here", "_law_things", "_law_bad"] (defScope st_w_spoilt) := ⟨rfl, rfl, rfl, by decide +kernel, rfl, by decide +kernel, by decide +kernel⟩
noncomputable def b_w_spoilt : { g : SM // ∀ {P : Program} {w : World} {K : PySem.W.Frag} {mg : Str → Option Value} {base : Heap} (T : Txt K mg) (c_w_draw : Df P w K mg base 1 "_law_draw" ["_law_hat_here", "_law_many"] m_w_draw) (f : Addr) (cdv : Value) (A : Around) (outer : List Env) (s : Shared) (H : Hp) (E : XK), Room 1 (A.deeper (envOfC "_law_spoilt" (defScope st_w_spoilt) s.heap.objs.size f cdv)) → PDSs (cxOf (L2.CX P w) P w K mg base ["_law_hat_here", "_law_things", "_law_bad", "_law_at_here"] "_law_spoilt" (defScope st_w_spoilt) f cdv A outer s H E) E (defBody st_w_spoilt) g } :=
  ⟨_, fun T c_w_draw f cdv A outer s H E hr => by
    have Sc := sc_w_spoilt
    exact (pds_cons (pds_set false 3 Sc.nd (pd_call c_w_draw hr (pda_cons true (pd_var 0) (pda_cons false (pd_add (pd_len T.b_len (pd_var 1)) pd_int) pda_nil)) hx_cx (hlen := (aCons_len (aCons_len aNil_len)))))
    (pds_one (pds_ret (pd_add (pd_add (pd_slice (pd_var 1) pdo_none (pdo_some (pd_var 3))) (pd_tup (pda_cons false (pd_var 2) pda_nil))) (pd_slice (pd_var 1) (pdo_some (pd_add (pd_var 3) (pd_call c_w_draw hr (pda_cons true (pd_var 0) (pda_cons false pd_int pda_nil)) hx_cx (hlen := (aCons_len (aCons_len aNil_len)))))) pdo_none)))))⟩
@[irreducible] noncomputable def m_w_spoilt : FM := fnOf ["_law_hat_here", "_law_things", "_law_bad", "_law_at_here"] b_w_spoilt.1
theorem df_w_spoilt {P : Program} {w : World} {K : PySem.W.Frag} {mg : Str → Option Value} {base : Heap} (T : Txt K mg) (c_w_draw : Df P w K mg base 1 "_law_draw" ["_law_hat_here", "_law_many"] m_w_draw) : Df P w K mg base 2 "_law_spoilt" ["_law_hat_here", "_law_things", "_law_bad"] m_w_spoilt := by
  unfold m_w_spoilt
  obtain ⟨f, fd, Fn, hm⟩ := T.f_w_spoilt
  exact Df.mk' Fn sc_w_spoilt hm (Fn.binds fun _ _ _ _ _ _ us hl => match us, hl with | [_, _, _], _ => rfl) (fun cdv A outer s H E hr => b_w_spoilt.2 T c_w_draw f cdv A outer s H E hr)
theorem sc_w_bad_lot : FnScope ["_law_hat_here", "_law_prime_here", "_law_lot_here", "_law_kind", "_law_at_here"] ["_law_hat_here", "_law_prime_here", "_law_lot_here"] (defScope st_w_bad_lot) := ⟨rfl, rfl, rfl, by decide +kernel, rfl, by decide +kernel, by decide +kernel⟩
noncomputable def b_w_bad_lot : { g : SM // ∀ {P : Program} {w : World} {K : PySem.W.Frag} {mg : Str → Option Value} {base : Heap} (T : Txt K mg) (c_w_draw : Df P w K mg base 1 "_law_draw" ["_law_hat_here", "_law_many"] m_w_draw) (c_w_spoilt : Df P w K mg base 2 "_law_spoilt" ["_law_hat_here", "_law_things", "_law_bad"] m_w_spoilt) (f : Addr) (cdv : Value) (A : Around) (outer : List Env) (s : Shared) (H : Hp) (E : XK), Room 2 (A.deeper (envOfC "_law_bad_lot" (defScope st_w_bad_lot) s.heap.objs.size f cdv)) → PDSs (cxOf (L2.CX P w) P w K mg base ["_law_hat_here", "_law_prime_here", "_law_lot_here", "_law_kind", "_law_at_here"] "_law_bad_lot" (defScope st_w_bad_lot) f cdv A outer s H E) E (defBody st_w_bad_lot) g } :=
  ⟨_, fun T c_w_draw c_w_spoilt f cdv A outer s H E hr => by
    have Sc := sc_w_bad_lot
    exact (pds_cons (pds_set false 3 Sc.nd (pd_call c_w_draw hr (pda_cons true (pd_var 0) (pda_cons false pd_int pda_nil)) hx_cx (hlen := (aCons_len (aCons_len aNil_len)))))
    (pds_cons (pds_if (pdt_eq hr (pd_var 3) pd_int) (pds_one (pds_ret (pd_list T.b_list (pd_var 2)))) pds_nil)
    (pds_cons (pds_if (PDW.t (pdw_and (pdt_eq hr (pd_var 3) pd_int) (pdw_and1 (pdt_gtA (pd_len T.b_len (pd_var 2)) pd_int)))) (pds_one (pds_ret (pd_add (pd_slice (pd_var 2) (pdo_some pd_int) pdo_none) (pd_slice (pd_var 2) pdo_none (pdo_some pd_int))))) pds_nil)
    (pds_cons (pds_if (PDW.t (pdw_and (pdt_eq hr (pd_var 3) pd_int) (pdw_and1 (pdt_gtA (pd_len T.b_len (pd_var 2)) pd_int)))) (pds_cons (pds_set false 4 Sc.nd (pd_call c_w_draw hr (pda_cons true (pd_var 0) (pda_cons false (pd_len T.b_len (pd_var 2)) pda_nil)) hx_cx (hlen := (aCons_len (aCons_len aNil_len)))))
    (pds_one (pds_ret (pd_add (pd_add (pd_slice (pd_var 2) pdo_none (pdo_some (pd_var 4))) (pd_tup (pda_cons false (pd_ix (pd_var 2) (pd_var 4)) pda_nil))) (pd_slice (pd_var 2) (pdo_some (pd_var 4)) pdo_none))))) pds_nil)
    (pds_cons (pds_if (pdt_eq hr (pd_var 3) pd_int) (pds_one (pds_ret (pd_tupRg T.b_tuple T.b_range rfl pd_int))) pds_nil)
    (pds_cons (pds_if (pdt_eq hr (pd_var 3) pd_int) (pds_one (pds_ret (pd_ix (pd_lst (pda_cons false pd_non (pda_cons false pd_int (pda_cons false pd_str (pda_cons false pd_dic pda_nil))))) (pd_call c_w_draw hr (pda_cons true (pd_var 0) (pda_cons false pd_int pda_nil)) hx_cx (hlen := (aCons_len (aCons_len aNil_len))))))) pds_nil)
    (pds_one (pds_ret (pd_call c_w_spoilt hr (pda_cons true (pd_var 0) (pda_cons false (pd_var 2) (pda_cons false (pd_ix (pd_lst (pda_cons false (pd_neg pd_int) (pda_cons false (pd_var 1) (pda_cons false pd_bl (pda_cons false pd_non (pda_cons false pd_str (pda_cons false (pd_tup (pda_cons false pd_int pda_nil)) pda_nil))))))) (pd_call c_w_draw hr (pda_cons true (pd_var 0) (pda_cons false pd_int pda_nil)) hx_cx (hlen := (aCons_len (aCons_len aNil_len))))) pda_nil))) hx_cx (hlen := (aCons_len (aCons_len (aCons_len aNil_len)))))))))))))⟩
@[irreducible] noncomputable def m_w_bad_lot : FM := fnOf ["_law_hat_here", "_law_prime_here", "_law_lot_here", "_law_kind", "_law_at_here"] b_w_bad_lot.1
theorem df_w_bad_lot {P : Program} {w : World} {K : PySem.W.Frag} {mg : Str → Option Value} {base : Heap} (T : Txt K mg) (c_w_draw : Df P w K mg base 1 "_law_draw" ["_law_hat_here", "_law_many"] m_w_draw) (c_w_spoilt : Df P w K mg base 2 "_law_spoilt" ["_law_hat_here", "_law_things", "_law_bad"] m_w_spoilt) : Df P w K mg base 3 "_law_bad_lot" ["_law_hat_here", "_law_prime_here", "_law_lot_here"] m_w_bad_lot := by
  unfold m_w_bad_lot
  obtain ⟨f, fd, Fn, hm⟩ := T.f_w_bad_lot
  exact Df.mk' Fn sc_w_bad_lot hm (Fn.binds fun _ _ _ _ _ _ us hl => match us, hl with | [_, _, _], _ => rfl) (fun cdv A outer s H E hr => b_w_bad_lot.2 T c_w_draw c_w_spoilt f cdv A outer s H E hr)
theorem sc_w_bad_places : FnScope ["_law_hat_here", "_law_prime_here", "_law_lot_here", "_law_places_here", "_law_kind", "_law_k"] ["_law_hat_here", "_law_prime_here", "_law_lot_here", "_law_places_here"] (defScope st_w_bad_places) := ⟨rfl, rfl, rfl, by decide +kernel, rfl, by decide +kernel, by decide +kernel⟩
noncomputable def b_w_bad_places : { g : SM // ∀ {P : Program} {w : World} {K : PySem.W.Frag} {mg : Str → Option Value} {base : Heap} (T : Txt K mg) (c_w_draw : Df P w K mg base 1 "_law_draw" ["_law_hat_here", "_law_many"] m_w_draw) (c_w_spoilt : Df P w K mg base 2 "_law_spoilt" ["_law_hat_here", "_law_things", "_law_bad"] m_w_spoilt) (f : Addr) (cdv : Value) (A : Around) (outer : List Env) (s : Shared) (H : Hp) (E : XK), Room 2 (A.deeper (envOfC "_law_bad_places" (defScope st_w_bad_places) s.heap.objs.size f cdv)) → PDSs (cxOf (L2.CX P w) P w K mg base ["_law_hat_here", "_law_prime_here", "_law_lot_here", "_law_places_here", "_law_kind", "_law_k"] "_law_bad_places" (defScope st_w_bad_places) f cdv A outer s H E) E (defBody st_w_bad_places) g } :=
  ⟨_, fun T c_w_draw c_w_spoilt f cdv A outer s H E hr => by
    have Sc := sc_w_bad_places
    exact (pds_cons (pds_set false 4 Sc.nd (pd_call c_w_draw hr (pda_cons true (pd_var 0) (pda_cons false pd_int pda_nil)) hx_cx (hlen := (aCons_len (aCons_len aNil_len)))))
    (pds_cons (pds_if (pdt_eq hr (pd_var 4) pd_int) (pds_one (pds_ret (pd_list T.b_list (pd_var 3)))) pds_nil)
    (pds_cons (pds_if (PDW.t (pdw_and (pdt_eq hr (pd_var 4) pd_int) (pdw_and1 (pdt_gtA (pd_len T.b_len (pd_var 3)) pd_int)))) (pds_one (pds_ret (pd_add (pd_var 3) (pd_tup (pda_cons false (pd_ix (pd_var 3) (pd_call c_w_draw hr (pda_cons true (pd_var 0) (pda_cons false (pd_len T.b_len (pd_var 3)) pda_nil)) hx_cx (hlen := (aCons_len (aCons_len aNil_len))))) pda_nil))))) pds_nil)
    (pds_cons (pds_if (PDW.t (pdw_and (pdt_eq hr (pd_var 4) pd_int) (pdw_and1 (pdt_gtA (pd_len T.b_len (pd_var 2)) pd_int)))) (pds_one (pds_ret (pd_call c_w_spoilt hr (pda_cons true (pd_var 0) (pda_cons false (pd_var 3) (pda_cons false (pd_ix (pd_var 2) (pd_call c_w_draw hr (pda_cons true (pd_var 0) (pda_cons false (pd_len T.b_len (pd_var 2)) pda_nil)) hx_cx (hlen := (aCons_len (aCons_len aNil_len))))) pda_nil))) hx_cx (hlen := (aCons_len (aCons_len (aCons_len aNil_len))))))) pds_nil)
    (pds_cons (pds_if (pdt_eq hr (pd_var 4) pd_int) (pds_one (pds_ret (pd_tuple T.b_tuple (pd_lc rfl Sc.nd (pdi_range1 T.b_range pd_int) [("_law_k", 5)] (blkOk_by (N := ["_law_hat_here", "_law_prime_here", "_law_lot_here", "_law_places_here", "_law_kind", "_law_k"]) (sc := defScope st_w_bad_places) (by decide +kernel)) (fun _ _ _ _ _ => (pdg_name 5 Sc.nd)) (gT1_mem 5) (fun _ _ _ _ _ => pdts_nil) (fun _ _ _ _ _ => (pd_subI (pd_subI (pd_var 1) pd_int) (pd_var 5))))))) pds_nil)
    (pds_cons (pds_if (pdt_eq hr (pd_var 4) pd_int) (pds_one (pds_ret (pd_ix (pd_lst (pda_cons false pd_non (pda_cons false pd_int (pda_cons false pd_str (pda_cons false pd_dic pda_nil))))) (pd_call c_w_draw hr (pda_cons true (pd_var 0) (pda_cons false pd_int pda_nil)) hx_cx (hlen := (aCons_len (aCons_len aNil_len))))))) pds_nil)
    (pds_one (pds_ret (pd_call c_w_spoilt hr (pda_cons true (pd_var 0) (pda_cons false (pd_var 3) (pda_cons false (pd_ix (pd_lst (pda_cons false (pd_neg pd_int) (pda_cons false (pd_var 1) (pda_cons false pd_bl (pda_cons false pd_non (pda_cons false pd_str (pda_cons false (pd_tup (pda_cons false pd_int pda_nil)) pda_nil))))))) (pd_call c_w_draw hr (pda_cons true (pd_var 0) (pda_cons false pd_int pda_nil)) hx_cx (hlen := (aCons_len (aCons_len aNil_len))))) pda_nil))) hx_cx (hlen := (aCons_len (aCons_len (aCons_len aNil_len)))))))))))))⟩
@[irreducible] noncomputable def m_w_bad_places : FM := fnOf ["_law_hat_here", "_law_prime_here", "_law_lot_here", "_law_places_here", "_law_kind", "_law_k"] b_w_bad_places.1
theorem df_w_bad_places {P : Program} {w : World} {K : PySem.W.Frag} {mg : Str → Option Value} {base : Heap} (T : Txt K mg) (c_w_draw : Df P w K mg base 1 "_law_draw" ["_law_hat_here", "_law_many"] m_w_draw) (c_w_spoilt : Df P w K mg base 2 "_law_spoilt" ["_law_hat_here", "_law_things", "_law_bad"] m_w_spoilt) : Df P w K mg base 3 "_law_bad_places" ["_law_hat_here", "_law_prime_here", "_law_lot_here", "_law_places_here"] m_w_bad_places := by
  unfold m_w_bad_places
  obtain ⟨f, fd, Fn, hm⟩ := T.f_w_bad_places
  exact Df.mk' Fn sc_w_bad_places hm (Fn.binds fun _ _ _ _ _ _ us hl => match us, hl with | [_, _, _, _], _ => rfl) (fun cdv A outer s H E hr => b_w_bad_places.2 T c_w_draw c_w_spoilt f cdv A outer s H E hr)
end K43

set_option Elab.async false
set_option linter.all false
set_option maxRecDepth 100000
set_option maxHeartbeats 4000000
namespace K43
open PySem PySem.Spec PyProof.Rows L2 PD

theorem sc_w_bad_told : FnScope ["_law_hat_here", "_law_prime_here", "_law_told", "_law_kind", "_law_at_here"] ["_law_hat_here", "_law_prime_here", "_law_told"] (defScope st_w_bad_told) := ⟨rfl, rfl, rfl, by decide +kernel, rfl, by decide +kernel, by decide +kernel⟩
noncomputable def b_w_bad_told : { g : SM // ∀ {P : Program} {w : World} {K : PySem.W.Frag} {mg : Str → Option Value} {base : Heap} (T : Txt K mg) (c_w_draw : Df P w K mg base 1 "_law_draw" ["_law_hat_here", "_law_many"] m_w_draw) (f : Addr) (cdv : Value) (A : Around) (outer : List Env) (s : Shared) (H : Hp) (E : XK), Room 1 (A.deeper (envOfC "_law_bad_told" (defScope st_w_bad_told) s.heap.objs.size f cdv)) → PDSs (cxOf (L2.CX P w) P w K mg base ["_law_hat_here", "_law_prime_here", "_law_told", "_law_kind", "_law_at_here"] "_law_bad_told" (defScope st_w_bad_told) f cdv A outer s H E) E (defBody st_w_bad_told) g } :=
  ⟨_, fun T c_w_draw f cdv A outer s H E hr => by
    have Sc := sc_w_bad_told
    exact (pds_cons (pds_set false 3 Sc.nd (pd_call c_w_draw hr (pda_cons true (pd_var 0) (pda_cons false pd_int pda_nil)) hx_cx (hlen := (aCons_len (aCons_len aNil_len)))))
    (pds_cons (pds_if (pdt_eq hr (pd_var 3) pd_int) (pds_one (pds_ret (pd_list T.b_list (pd_var 2)))) pds_nil)
    (pds_cons (pds_if (pdt_eq hr (pd_var 3) pd_int) (pds_one (pds_ret (pd_add (pd_var 2) (pd_tup (pda_cons false pd_int pda_nil))))) pds_nil)
    (pds_cons (pds_if (PDW.t (pdw_and (pdt_eq hr (pd_var 3) pd_int) (pdw_and1 (pdt_gtA (pd_len T.b_len (pd_var 2)) pd_int)))) (pds_one (pds_ret (pd_slice (pd_var 2) (pdo_some pd_int) pdo_none))) pds_nil)
    (pds_cons (pds_if (pdt_eq hr (pd_len T.b_len (pd_var 2)) pd_int) (pds_one (pds_ret (pd_ix (pd_lst (pda_cons false pd_non (pda_cons false pd_int (pda_cons false pd_str (pda_cons false (pd_tup (pda_cons false pd_int pda_nil)) pda_nil))))) (pd_call c_w_draw hr (pda_cons true (pd_var 0) (pda_cons false pd_int pda_nil)) hx_cx (hlen := (aCons_len (aCons_len aNil_len))))))) pds_nil)
    (pds_cons (pds_set false 4 Sc.nd (pd_call c_w_draw hr (pda_cons true (pd_var 0) (pda_cons false (pd_len T.b_len (pd_var 2)) pda_nil)) hx_cx (hlen := (aCons_len (aCons_len aNil_len)))))
    (pds_one (pds_ret (pd_add (pd_add (pd_slice (pd_var 2) pdo_none (pdo_some (pd_var 4))) (pd_tup (pda_cons false (pd_ix (pd_lst (pda_cons false pd_int (pda_cons false (pd_var 1) (pda_cons false (pd_neg pd_int) (pda_cons false pd_bl (pda_cons false pd_non (pda_cons false pd_str pda_nil))))))) (pd_call c_w_draw hr (pda_cons true (pd_var 0) (pda_cons false pd_int pda_nil)) hx_cx (hlen := (aCons_len (aCons_len aNil_len))))) pda_nil))) (pd_slice (pd_var 2) (pdo_some (pd_add (pd_var 4) pd_int)) pdo_none))))))))))⟩
@[irreducible] noncomputable def m_w_bad_told : FM := fnOf ["_law_hat_here", "_law_prime_here", "_law_told", "_law_kind", "_law_at_here"] b_w_bad_told.1
theorem df_w_bad_told {P : Program} {w : World} {K : PySem.W.Frag} {mg : Str → Option Value} {base : Heap} (T : Txt K mg) (c_w_draw : Df P w K mg base 1 "_law_draw" ["_law_hat_here", "_law_many"] m_w_draw) : Df P w K mg base 2 "_law_bad_told" ["_law_hat_here", "_law_prime_here", "_law_told"] m_w_bad_told := by
  unfold m_w_bad_told
  obtain ⟨f, fd, Fn, hm⟩ := T.f_w_bad_told
  exact Df.mk' Fn sc_w_bad_told hm (Fn.binds fun _ _ _ _ _ _ us hl => match us, hl with | [_, _, _], _ => rfl) (fun cdv A outer s H E hr => b_w_bad_told.2 T c_w_draw f cdv A outer s H E hr)
theorem sc_w_bad_polynomial : FnScope ["_law_hat_here", "_law_prime_here", "_law_polynomial", "_law_kind", "_law_at_here"] ["_law_hat_here", "_law_prime_here", "_law_polynomial"] (defScope st_w_bad_polynomial) := ⟨rfl, rfl, rfl, by decide +kernel, rfl, by decide +kernel, by decide +kernel⟩
noncomputable def b_w_bad_polynomial : { g : SM // ∀ {P : Program} {w : World} {K : PySem.W.Frag} {mg : Str → Option Value} {base : Heap} (T : Txt K mg) (c_w_draw : Df P w K mg base 1 "_law_draw" ["_law_hat_here", "_law_many"] m_w_draw) (f : Addr) (cdv : Value) (A : Around) (outer : List Env) (s : Shared) (H : Hp) (E : XK), Room 1 (A.deeper (envOfC "_law_bad_polynomial" (defScope st_w_bad_polynomial) s.heap.objs.size f cdv)) → PDSs (cxOf (L2.CX P w) P w K mg base ["_law_hat_here", "_law_prime_here", "_law_polynomial", "_law_kind", "_law_at_here"] "_law_bad_polynomial" (defScope st_w_bad_polynomial) f cdv A outer s H E) E (defBody st_w_bad_polynomial) g } :=
  ⟨_, fun T c_w_draw f cdv A outer s H E hr => by
    have Sc := sc_w_bad_polynomial
    exact (pds_cons (pds_set false 3 Sc.nd (pd_call c_w_draw hr (pda_cons true (pd_var 0) (pda_cons false pd_int pda_nil)) hx_cx (hlen := (aCons_len (aCons_len aNil_len)))))
    (pds_cons (pds_if (pdt_eq hr (pd_var 3) pd_int) (pds_one (pds_ret (pd_ix (pd_lst (pda_cons false (pd_list T.b_list (pd_var 2)) (pda_cons false (pd_tup pda_nil) (pda_cons false pd_non (pda_cons false pd_int (pda_cons false pd_str pda_nil)))))) (pd_call c_w_draw hr (pda_cons true (pd_var 0) (pda_cons false pd_int pda_nil)) hx_cx (hlen := (aCons_len (aCons_len aNil_len))))))) pds_nil)
    (pds_cons (pds_if (pdt_eq hr (pd_var 3) pd_int) (pds_one (pds_ret (pd_add (pd_slice (pd_var 2) pdo_none (pdo_some (pd_subI (pd_len T.b_len (pd_var 2)) pd_int))) (pd_tup (pda_cons false (pd_ix (pd_lst (pda_cons false pd_int (pda_cons false pd_int (pda_cons false (pd_neg pd_int) (pda_cons false pd_bl (pda_cons false pd_non pda_nil)))))) (pd_call c_w_draw hr (pda_cons true (pd_var 0) (pda_cons false pd_int pda_nil)) hx_cx (hlen := (aCons_len (aCons_len aNil_len))))) pda_nil))))) pds_nil)
    (pds_cons (pds_if (pdt_eq hr (pd_var 3) pd_int) (pds_one (pds_ret (pd_add (pd_mul (pd_tup (pda_cons false pd_int pda_nil)) (pd_subI pd_int (pd_len T.b_len (pd_var 2)))) (pd_var 2)))) pds_nil)
    (pds_cons (pds_set false 4 Sc.nd (pd_call c_w_draw hr (pda_cons true (pd_var 0) (pda_cons false (pd_len T.b_len (pd_var 2)) pda_nil)) hx_cx (hlen := (aCons_len (aCons_len aNil_len)))))
    (pds_one (pds_ret (pd_add (pd_add (pd_slice (pd_var 2) pdo_none (pdo_some (pd_var 4))) (pd_tup (pda_cons false (pd_ix (pd_lst (pda_cons false (pd_var 1) (pda_cons false (pd_neg pd_int) (pda_cons false pd_bl (pda_cons false pd_non (pda_cons false pd_str pda_nil)))))) (pd_call c_w_draw hr (pda_cons true (pd_var 0) (pda_cons false pd_int pda_nil)) hx_cx (hlen := (aCons_len (aCons_len aNil_len))))) pda_nil))) (pd_slice (pd_var 2) (pdo_some (pd_var 4)) pdo_none)))))))))⟩
@[irreducible] noncomputable def m_w_bad_polynomial : FM := fnOf ["_law_hat_here", "_law_prime_here", "_law_polynomial", "_law_kind", "_law_at_here"] b_w_bad_polynomial.1
theorem df_w_bad_polynomial {P : Program} {w : World} {K : PySem.W.Frag} {mg : Str → Option Value} {base : Heap} (T : Txt K mg) (c_w_draw : Df P w K mg base 1 "_law_draw" ["_law_hat_here", "_law_many"] m_w_draw) : Df P w K mg base 2 "_law_bad_polynomial" ["_law_hat_here", "_law_prime_here", "_law_polynomial"] m_w_bad_polynomial := by
  unfold m_w_bad_polynomial
  obtain ⟨f, fd, Fn, hm⟩ := T.f_w_bad_polynomial
  exact Df.mk' Fn sc_w_bad_polynomial hm (Fn.binds fun _ _ _ _ _ _ us hl => match us, hl with | [_, _, _], _ => rfl) (fun cdv A outer s H E hr => b_w_bad_polynomial.2 T c_w_draw f cdv A outer s H E hr)
theorem sc_w_bad_count : FnScope ["_law_hat_here", "_law_most"] ["_law_hat_here", "_law_most"] (defScope st_w_bad_count) := ⟨rfl, rfl, rfl, by decide +kernel, rfl, by decide +kernel, by decide +kernel⟩
noncomputable def b_w_bad_count : { g : SM // ∀ {P : Program} {w : World} {K : PySem.W.Frag} {mg : Str → Option Value} {base : Heap} (T : Txt K mg) (c_w_draw : Df P w K mg base 1 "_law_draw" ["_law_hat_here", "_law_many"] m_w_draw) (f : Addr) (cdv : Value) (A : Around) (outer : List Env) (s : Shared) (H : Hp) (E : XK), Room 1 (A.deeper (envOfC "_law_bad_count" (defScope st_w_bad_count) s.heap.objs.size f cdv)) → PDSs (cxOf (L2.CX P w) P w K mg base ["_law_hat_here", "_law_most"] "_law_bad_count" (defScope st_w_bad_count) f cdv A outer s H E) E (defBody st_w_bad_count) g } :=
  ⟨_, fun T c_w_draw f cdv A outer s H E hr => by
    have Sc := sc_w_bad_count
    exact (pds_one (pds_ret (pd_ix (pd_lst (pda_cons false (pd_neg pd_int) (pda_cons false (pd_add (pd_var 1) pd_int) (pda_cons false pd_bl (pda_cons false pd_non (pda_cons false pd_str (pda_cons false (pd_tup (pda_cons false pd_int pda_nil)) pda_nil))))))) (pd_call c_w_draw hr (pda_cons true (pd_var 0) (pda_cons false pd_int pda_nil)) hx_cx (hlen := (aCons_len (aCons_len aNil_len)))))))⟩
@[irreducible] noncomputable def m_w_bad_count : FM := fnOf ["_law_hat_here", "_law_most"] b_w_bad_count.1
theorem df_w_bad_count {P : Program} {w : World} {K : PySem.W.Frag} {mg : Str → Option Value} {base : Heap} (T : Txt K mg) (c_w_draw : Df P w K mg base 1 "_law_draw" ["_law_hat_here", "_law_many"] m_w_draw) : Df P w K mg base 2 "_law_bad_count" ["_law_hat_here", "_law_most"] m_w_bad_count := by
  unfold m_w_bad_count
  obtain ⟨f, fd, Fn, hm⟩ := T.f_w_bad_count
  exact Df.mk' Fn sc_w_bad_count hm (Fn.binds fun _ _ _ _ _ _ us hl => match us, hl with | [_, _], _ => rfl) (fun cdv A outer s H E hr => b_w_bad_count.2 T c_w_draw f cdv A outer s H E hr)
theorem sc_w_called : FnScope ["_law_word", "_law_args"] ["_law_word", "_law_args"] (defScope st_w_called) := ⟨rfl, rfl, rfl, by decide +kernel, rfl, by decide +kernel, by decide +kernel⟩
noncomputable def b_w_called : { g : SM // ∀ {P : Program} {w : World} {K : PySem.W.Frag} {mg : Str → Option Value} {base : Heap} (T : Txt K mg) (c_values : Df P w K mg base 5 "values" ["prime", "numbers", "places"] m_values) (c_roots : Df P w K mg base 5 "roots" ["prime", "polynomial", "numbers"] m_roots) (c_number_of : Df P w K mg base 5 "number_of" ["name", "stamp"] m_number_of) (c_begin_mending : Df P w K mg base 11 "begin_mending" ["home", "table", "other"] m_begin_mending) (c_difference : Df P w K mg base 6 "difference" ["prime", "own", "many", "places", "told", "most"] m_difference) (f : Addr) (cdv : Value) (A : Around) (outer : List Env) (s : Shared) (H : Hp) (E : XK), Room 11 (A.deeper (envOfC "_law_called" (defScope st_w_called) s.heap.objs.size f cdv)) → PDSs (cxOf (L2.CX P w) P w K mg base ["_law_word", "_law_args"] "_law_called" (defScope st_w_called) f cdv A outer s H E) E (defBody st_w_called) g } :=
  ⟨_, fun T c_values c_roots c_number_of c_begin_mending c_difference f cdv A outer s H E hr => by
    have Sc := sc_w_called
    exact (pds_cons (pds_if (pdt_eq hr (pd_var 0) pd_str) (pds_one (pds_ret (pd_call c_values hr (pda_cons false (pd_ix (pd_var 1) pd_int) (pda_cons false (pd_ix (pd_var 1) pd_int) (pda_cons false (pd_ix (pd_var 1) pd_int) pda_nil))) hx_cx (hlen := (aCons_len (aCons_len (aCons_len aNil_len))))))) pds_nil)
    (pds_cons (pds_if (pdt_eq hr (pd_var 0) pd_str) (pds_one (pds_ret (pd_call c_roots hr (pda_cons false (pd_ix (pd_var 1) pd_int) (pda_cons false (pd_ix (pd_var 1) pd_int) (pda_cons false (pd_ix (pd_var 1) pd_int) pda_nil))) hx_cx (hlen := (aCons_len (aCons_len (aCons_len aNil_len))))))) pds_nil)
    (pds_cons (pds_if (pdt_eq hr (pd_var 0) pd_str) (pds_one (pds_ret (pd_call c_number_of hr (pda_cons false (pd_ix (pd_var 1) pd_int) (pda_cons false (pd_ix (pd_var 1) pd_int) pda_nil)) hx_cx (hlen := (aCons_len (aCons_len aNil_len)))))) pds_nil)
    (pds_cons (pds_if (pdt_eq hr (pd_var 0) pd_str) (pds_one (pds_ret (pd_call c_begin_mending hr (pda_cons false (pd_ix (pd_var 1) pd_int) (pda_cons false (pd_ix (pd_var 1) pd_int) (pda_cons false (pd_ix (pd_var 1) pd_int) pda_nil))) hx_cx (hlen := (aCons_len (aCons_len (aCons_len aNil_len))))))) pds_nil)
    (pds_one (pds_ret (pd_call c_difference hr (pda_cons false (pd_ix (pd_var 1) pd_int) (pda_cons false (pd_ix (pd_var 1) pd_int) (pda_cons false (pd_ix (pd_var 1) pd_int) (pda_cons false (pd_ix (pd_var 1) pd_int) (pda_cons false (pd_ix (pd_var 1) pd_int) (pda_cons false (pd_ix (pd_var 1) pd_int) pda_nil)))))) hx_cx (hlen := (aCons_len (aCons_len (aCons_len (aCons_len (aCons_len (aCons_len aNil_len))))))))))))))⟩
@[irreducible] noncomputable def m_w_called : FM := fnOf ["_law_word", "_law_args"] b_w_called.1
theorem df_w_called {P : Program} {w : World} {K : PySem.W.Frag} {mg : Str → Option Value} {base : Heap} (T : Txt K mg) (c_values : Df P w K mg base 5 "values" ["prime", "numbers", "places"] m_values) (c_roots : Df P w K mg base 5 "roots" ["prime", "polynomial", "numbers"] m_roots) (c_number_of : Df P w K mg base 5 "number_of" ["name", "stamp"] m_number_of) (c_begin_mending : Df P w K mg base 11 "begin_mending" ["home", "table", "other"] m_begin_mending) (c_difference : Df P w K mg base 6 "difference" ["prime", "own", "many", "places", "told", "most"] m_difference) : Df P w K mg base 12 "_law_called" ["_law_word", "_law_args"] m_w_called := by
  unfold m_w_called
  obtain ⟨f, fd, Fn, hm⟩ := T.f_w_called
  exact Df.mk' Fn sc_w_called hm (Fn.binds fun _ _ _ _ _ _ us hl => match us, hl with | [_, _], _ => rfl) (fun cdv A outer s H E hr => b_w_called.2 T c_values c_roots c_number_of c_begin_mending c_difference f cdv A outer s H E hr)
theorem sc_w_lots : FnScope ["_law_hat_here", "_law_word", "_law_prime_here", "_law_places_here", "_law_lot_here", "_law_told", "_law_good", "_law_bad", "_law_polynomial", "_law_place"] ["_law_hat_here", "_law_word"] (defScope st_w_lots) := ⟨rfl, rfl, rfl, by decide +kernel, rfl, by decide +kernel, by decide +kernel⟩
noncomputable def b_w_lots : { g : SM // ∀ {P : Program} {w : World} {K : PySem.W.Frag} {mg : Str → Option Value} {base : Heap} (T : Txt K mg) (c_w_prime : Df P w K mg base 2 "_law_prime" ["_law_hat_here"] m_w_prime) (c_w_places : Df P w K mg base 3 "_law_places" ["_law_hat_here", "_law_prime_here", "_law_many", "_law_barred"] m_w_places) (c_w_draw : Df P w K mg base 1 "_law_draw" ["_law_hat_here", "_law_many"] m_w_draw) (c_w_lot : Df P w K mg base 3 "_law_lot" ["_law_hat_here", "_law_prime_here", "_law_many", "_law_barred"] m_w_lot) (c_w_bad_places : Df P w K mg base 3 "_law_bad_places" ["_law_hat_here", "_law_prime_here", "_law_lot_here", "_law_places_here"] m_w_bad_places) (c_w_bad_lot : Df P w K mg base 3 "_law_bad_lot" ["_law_hat_here", "_law_prime_here", "_law_lot_here"] m_w_bad_lot) (c_w_bad_prime : Df P w K mg base 2 "_law_bad_prime" ["_law_hat_here"] m_w_bad_prime) (c_w_product : Df P w K mg base 1 "_law_product" ["_law_prime_here", "_law_lot_here"] m_w_product) (c_w_bad_polynomial : Df P w K mg base 2 "_law_bad_polynomial" ["_law_hat_here", "_law_prime_here", "_law_polynomial"] m_w_bad_polynomial) (c_w_bad_count : Df P w K mg base 2 "_law_bad_count" ["_law_hat_here", "_law_most"] m_w_bad_count) (c_w_bad_told : Df P w K mg base 2 "_law_bad_told" ["_law_hat_here", "_law_prime_here", "_law_told"] m_w_bad_told) (f : Addr) (cdv : Value) (A : Around) (outer : List Env) (s : Shared) (H : Hp) (E : XK), Room 3 (A.deeper (envOfC "_law_lots" (defScope st_w_lots) s.heap.objs.size f cdv)) → PDSs (cxOf (L2.CX P w) P w K mg base ["_law_hat_here", "_law_word", "_law_prime_here", "_law_places_here", "_law_lot_here", "_law_told", "_law_good", "_law_bad", "_law_polynomial", "_law_place"] "_law_lots" (defScope st_w_lots) f cdv A outer s H E) E (defBody st_w_lots) g } :=
  ⟨_, fun T c_w_prime c_w_places c_w_draw c_w_lot c_w_bad_places c_w_bad_lot c_w_bad_prime c_w_product c_w_bad_polynomial c_w_bad_count c_w_bad_told f cdv A outer s H E hr => by
    have Sc := sc_w_lots
    exact (pds_cons (pds_set false 2 Sc.nd (pd_call c_w_prime hr (pda_cons true (pd_var 0) pda_nil) hx_cx (hlen := (aCons_len aNil_len))))
    (pds_cons (pds_set false 3 Sc.nd (pd_call c_w_places hr (pda_cons true (pd_var 0) (pda_cons false (pd_var 2) (pda_cons false (pd_call c_w_draw hr (pda_cons true (pd_var 0) (pda_cons false pd_int pda_nil)) hx_cx (hlen := (aCons_len (aCons_len aNil_len)))) (pda_cons false (pd_lst pda_nil) pda_nil)))) hx_cx (hlen := (aCons_len (aCons_len (aCons_len (aCons_len aNil_len)))))))
    (pds_cons (pds_set false 4 Sc.nd (pd_call c_w_lot hr (pda_cons true (pd_var 0) (pda_cons false (pd_var 2) (pda_cons false (pd_ix (pd_lst (pda_cons false pd_int (pda_cons false pd_int (pda_cons false pd_int (pda_cons false pd_int pda_nil))))) (pd_call c_w_draw hr (pda_cons true (pd_var 0) (pda_cons false pd_int pda_nil)) hx_cx (hlen := (aCons_len (aCons_len aNil_len))))) (pda_cons false (pd_var 3) pda_nil)))) hx_cx (hlen := (aCons_len (aCons_len (aCons_len (aCons_len aNil_len)))))))
    (pds_cons (pds_if (pdt_eq hr (pd_var 1) pd_str) (pds_cons (pds_set true 7 Sc.nd (pd_lst (pda_cons false (pd_call c_w_bad_prime hr (pda_cons true (pd_var 0) pda_nil) hx_cx (hlen := (aCons_len aNil_len))) (pda_cons false (pd_call c_w_bad_lot hr (pda_cons true (pd_var 0) (pda_cons false (pd_var 2) (pda_cons false (pd_var 4) pda_nil))) hx_cx (hlen := (aCons_len (aCons_len (aCons_len aNil_len))))) (pda_cons false (pd_call c_w_bad_places hr (pda_cons true (pd_var 0) (pda_cons false (pd_var 2) (pda_cons false (pd_var 4) (pda_cons false (pd_var 3) pda_nil)))) hx_cx (hlen := (aCons_len (aCons_len (aCons_len (aCons_len aNil_len)))))) pda_nil)))))
    (pds_one (pds_ret (pd_tup (pda_cons false (pd_lst (pda_cons false (pd_var 2) (pda_cons false (pd_var 4) (pda_cons false (pd_var 3) pda_nil)))) (pda_cons false (pd_var 7) (pda_cons false (pd_lst (pda_cons false pd_int (pda_cons false pd_int (pda_cons false pd_int pda_nil)))) pda_nil))))))) pds_nil)
    (pds_cons (pds_if (pdt_eq hr (pd_var 1) pd_str) (pds_cons (pds_set false 8 Sc.nd (pd_call c_w_product hr (pda_cons false (pd_var 2) (pda_cons false (pd_call c_w_places hr (pda_cons true (pd_var 0) (pda_cons false (pd_var 2) (pda_cons false (pd_call c_w_draw hr (pda_cons true (pd_var 0) (pda_cons false pd_int pda_nil)) hx_cx (hlen := (aCons_len (aCons_len aNil_len)))) (pda_cons false (pd_lst pda_nil) pda_nil)))) hx_cx (hlen := (aCons_len (aCons_len (aCons_len (aCons_len aNil_len)))))) pda_nil)) hx_cx (hlen := (aCons_len (aCons_len aNil_len)))))
    (pds_cons (pds_set true 7 Sc.nd (pd_lst (pda_cons false (pd_call c_w_bad_prime hr (pda_cons true (pd_var 0) pda_nil) hx_cx (hlen := (aCons_len aNil_len))) (pda_cons false (pd_call c_w_bad_polynomial hr (pda_cons true (pd_var 0) (pda_cons false (pd_var 2) (pda_cons false (pd_var 8) pda_nil))) hx_cx (hlen := (aCons_len (aCons_len (aCons_len aNil_len))))) (pda_cons false (pd_call c_w_bad_lot hr (pda_cons true (pd_var 0) (pda_cons false (pd_var 2) (pda_cons false (pd_var 4) pda_nil))) hx_cx (hlen := (aCons_len (aCons_len (aCons_len aNil_len))))) pda_nil)))))
    (pds_one (pds_ret (pd_tup (pda_cons false (pd_lst (pda_cons false (pd_var 2) (pda_cons false (pd_var 8) (pda_cons false (pd_var 4) pda_nil)))) (pda_cons false (pd_var 7) (pda_cons false (pd_lst (pda_cons false pd_int (pda_cons false pd_int (pda_cons false pd_int pda_nil)))) pda_nil)))))))) pds_nil)
    (pds_cons (pds_set false 5 Sc.nd (pd_tuple T.b_tuple (pd_lc rfl Sc.nd (pdi_any (pd_var 3)) [("_law_place", 9)] (blkOk_by (N := ["_law_hat_here", "_law_word", "_law_prime_here", "_law_places_here", "_law_lot_here", "_law_told", "_law_good", "_law_bad", "_law_polynomial", "_law_place"]) (sc := defScope st_w_lots) (by decide +kernel)) (fun _ _ _ _ _ => (pdg_name 9 Sc.nd)) (gT1_mem 9) (fun _ _ _ _ _ => pdts_nil) (fun _ _ _ _ _ => (pd_add pd_int (pd_call c_w_draw hr (pda_cons true (pd_var 0) (pda_cons false (pd_subI (pd_var 2) pd_int) pda_nil)) passL (hlen := (aCons_len (aCons_len aNil_len)))))))))
    (pds_cons (pds_set false 6 Sc.nd (pd_lst (pda_cons false (pd_var 2) (pda_cons false (pd_var 4) (pda_cons false (pd_call c_w_draw hr (pda_cons true (pd_var 0) (pda_cons false pd_int pda_nil)) hx_cx (hlen := (aCons_len (aCons_len aNil_len)))) (pda_cons false (pd_var 3) (pda_cons false (pd_var 5) (pda_cons false (pd_call c_w_draw hr (pda_cons true (pd_var 0) (pda_cons false (pd_add (pd_len T.b_len (pd_var 3)) pd_int) pda_nil)) hx_cx (hlen := (aCons_len (aCons_len aNil_len)))) pda_nil))))))))
    (pds_cons (pds_set true 7 Sc.nd (pd_lst (pda_cons false (pd_call c_w_bad_prime hr (pda_cons true (pd_var 0) pda_nil) hx_cx (hlen := (aCons_len aNil_len))) (pda_cons false (pd_call c_w_bad_lot hr (pda_cons true (pd_var 0) (pda_cons false (pd_var 2) (pda_cons false (pd_var 4) pda_nil))) hx_cx (hlen := (aCons_len (aCons_len (aCons_len aNil_len))))) (pda_cons false (pd_call c_w_bad_count hr (pda_cons true (pd_var 0) (pda_cons false pd_int pda_nil)) hx_cx (hlen := (aCons_len (aCons_len aNil_len)))) pda_nil)))))
    (pds_cons (pds_expr (pd_extend (pd_var 7) (pd_lst (pda_cons false (pd_call c_w_bad_places hr (pda_cons true (pd_var 0) (pda_cons false (pd_var 2) (pda_cons false (pd_var 4) (pda_cons false (pd_var 3) pda_nil)))) hx_cx (hlen := (aCons_len (aCons_len (aCons_len (aCons_len aNil_len)))))) (pda_cons false (pd_call c_w_bad_told hr (pda_cons true (pd_var 0) (pda_cons false (pd_var 2) (pda_cons false (pd_var 5) pda_nil))) hx_cx (hlen := (aCons_len (aCons_len (aCons_len aNil_len))))) pda_nil)))))
    (pds_cons (pds_expr (pd_append (pd_var 7) (pd_call c_w_bad_count hr (pda_cons true (pd_var 0) (pda_cons false (pd_len T.b_len (pd_var 3)) pda_nil)) hx_cx (hlen := (aCons_len (aCons_len aNil_len))))))
    (pds_one (pds_ret (pd_tup (pda_cons false (pd_var 6) (pda_cons false (pd_var 7) (pda_cons false (pd_lst (pda_cons false pd_int (pda_cons false pd_int (pda_cons false pd_int (pda_cons false pd_int (pda_cons false pd_int (pda_cons false pd_int pda_nil))))))) pda_nil))))))))))))))))⟩
@[irreducible] noncomputable def m_w_lots : FM := fnOf ["_law_hat_here", "_law_word", "_law_prime_here", "_law_places_here", "_law_lot_here", "_law_told", "_law_good", "_law_bad", "_law_polynomial", "_law_place"] b_w_lots.1
theorem df_w_lots {P : Program} {w : World} {K : PySem.W.Frag} {mg : Str → Option Value} {base : Heap} (T : Txt K mg) (c_w_prime : Df P w K mg base 2 "_law_prime" ["_law_hat_here"] m_w_prime) (c_w_places : Df P w K mg base 3 "_law_places" ["_law_hat_here", "_law_prime_here", "_law_many", "_law_barred"] m_w_places) (c_w_draw : Df P w K mg base 1 "_law_draw" ["_law_hat_here", "_law_many"] m_w_draw) (c_w_lot : Df P w K mg base 3 "_law_lot" ["_law_hat_here", "_law_prime_here", "_law_many", "_law_barred"] m_w_lot) (c_w_bad_places : Df P w K mg base 3 "_law_bad_places" ["_law_hat_here", "_law_prime_here", "_law_lot_here", "_law_places_here"] m_w_bad_places) (c_w_bad_lot : Df P w K mg base 3 "_law_bad_lot" ["_law_hat_here", "_law_prime_here", "_law_lot_here"] m_w_bad_lot) (c_w_bad_prime : Df P w K mg base 2 "_law_bad_prime" ["_law_hat_here"] m_w_bad_prime) (c_w_product : Df P w K mg base 1 "_law_product" ["_law_prime_here", "_law_lot_here"] m_w_product) (c_w_bad_polynomial : Df P w K mg base 2 "_law_bad_polynomial" ["_law_hat_here", "_law_prime_here", "_law_polynomial"] m_w_bad_polynomial) (c_w_bad_count : Df P w K mg base 2 "_law_bad_count" ["_law_hat_here", "_law_most"] m_w_bad_count) (c_w_bad_told : Df P w K mg base 2 "_law_bad_told" ["_law_hat_here", "_law_prime_here", "_law_told"] m_w_bad_told) : Df P w K mg base 4 "_law_lots" ["_law_hat_here", "_law_word"] m_w_lots := by
  unfold m_w_lots
  obtain ⟨f, fd, Fn, hm⟩ := T.f_w_lots
  exact Df.mk' Fn sc_w_lots hm (Fn.binds fun _ _ _ _ _ _ us hl => match us, hl with | [_, _], _ => rfl) (fun cdv A outer s H E hr => b_w_lots.2 T c_w_prime c_w_places c_w_draw c_w_lot c_w_bad_places c_w_bad_lot c_w_bad_prime c_w_product c_w_bad_polynomial c_w_bad_count c_w_bad_told f cdv A outer s H E hr)
theorem sc_w_names : FnScope ["_law_hat_here", "_law_name", "_law_bad_name", "_law_bad_stamp", "_law_stamp", "_law_k"] ["_law_hat_here"] (defScope st_w_names) := ⟨rfl, rfl, rfl, by decide +kernel, rfl, by decide +kernel, by decide +kernel⟩
noncomputable def b_w_names : { g : SM // ∀ {P : Program} {w : World} {K : PySem.W.Frag} {mg : Str → Option Value} {base : Heap} (T : Txt K mg) (c_w_draw : Df P w K mg base 1 "_law_draw" ["_law_hat_here", "_law_many"] m_w_draw) (f : Addr) (cdv : Value) (A : Around) (outer : List Env) (s : Shared) (H : Hp) (E : XK), Room 1 (A.deeper (envOfC "_law_names" (defScope st_w_names) s.heap.objs.size f cdv)) → PDSs (cxOf (L2.CX P w) P w K mg base ["_law_hat_here", "_law_name", "_law_bad_name", "_law_bad_stamp", "_law_stamp", "_law_k"] "_law_names" (defScope st_w_names) f cdv A outer s H E) E (defBody st_w_names) g } :=
  ⟨_, fun T c_w_draw f cdv A outer s H E hr => by
    have Sc := sc_w_names
    exact (pds_cons (pds_set false 1 Sc.nd (pd_join pd_str (pd_lc rfl Sc.nd (pdi_range1 T.b_range (pd_add pd_int (pd_call c_w_draw hr (pda_cons true (pd_var 0) (pda_cons false pd_int pda_nil)) hx_cx (hlen := (aCons_len (aCons_len aNil_len)))))) [("_law_k", 5)] (blkOk_by (N := ["_law_hat_here", "_law_name", "_law_bad_name", "_law_bad_stamp", "_law_stamp", "_law_k"]) (sc := defScope st_w_names) (by decide +kernel)) (fun _ _ _ _ _ => (pdg_name 5 Sc.nd)) (gT1_mem 5) (fun _ _ _ _ _ => pdts_nil) (fun _ _ _ _ _ => (pd_ix pd_str (pd_call c_w_draw hr (pda_cons true (pd_var 0) (pda_cons false pd_int pda_nil)) passL (hlen := (aCons_len (aCons_len aNil_len)))))))))
    (pds_cons (pds_set false 2 Sc.nd (pd_ix (pd_lst (pda_cons false pd_str (pda_cons false pd_str (pda_cons false pd_str (pda_cons false pd_str (pda_cons false pd_str (pda_cons false pd_non (pda_cons false pd_int (pda_cons false (pd_tup (pda_cons false pd_str pda_nil)) pda_nil))))))))) (pd_call c_w_draw hr (pda_cons true (pd_var 0) (pda_cons false pd_int pda_nil)) hx_cx (hlen := (aCons_len (aCons_len aNil_len))))))
    (pds_cons (pds_set false 3 Sc.nd (pd_ix (pd_lst (pda_cons false (pd_tup (pda_cons false pd_int (pda_cons false pd_int pda_nil))) (pda_cons false (pd_tup (pda_cons false pd_int (pda_cons false pd_int pda_nil))) (pda_cons false (pd_tup (pda_cons false pd_int (pda_cons false pd_int pda_nil))) (pda_cons false (pd_tup (pda_cons false (pd_neg pd_int) (pda_cons false pd_int pda_nil))) (pda_cons false (pd_tup (pda_cons false pd_bl (pda_cons false pd_int pda_nil))) (pda_cons false (pd_tup (pda_cons false pd_int pda_nil)) (pda_cons false (pd_tup (pda_cons false pd_int (pda_cons false pd_int (pda_cons false pd_int pda_nil)))) (pda_cons false (pd_lst (pda_cons false pd_int (pda_cons false pd_int pda_nil))) (pda_cons false pd_non (pda_cons false pd_int pda_nil))))))))))) (pd_call c_w_draw hr (pda_cons true (pd_var 0) (pda_cons false pd_int pda_nil)) hx_cx (hlen := (aCons_len (aCons_len aNil_len))))))
    (pds_cons (pds_set false 4 Sc.nd (pd_ix (pd_lst (pda_cons false (pd_tup (pda_cons false pd_int (pda_cons false pd_int pda_nil))) (pda_cons false (pd_tup (pda_cons false (pd_add pd_int (pd_call c_w_draw hr (pda_cons true (pd_var 0) (pda_cons false pd_int pda_nil)) hx_cx (hlen := (aCons_len (aCons_len aNil_len))))) (pda_cons false (pd_add pd_int (pd_call c_w_draw hr (pda_cons true (pd_var 0) (pda_cons false pd_int pda_nil)) hx_cx (hlen := (aCons_len (aCons_len aNil_len))))) pda_nil))) pda_nil))) (pd_call c_w_draw hr (pda_cons true (pd_var 0) (pda_cons false pd_int pda_nil)) hx_cx (hlen := (aCons_len (aCons_len aNil_len))))))
    (pds_one (pds_ret (pd_tup (pda_cons false (pd_lst (pda_cons false (pd_var 1) (pda_cons false (pd_var 4) pda_nil))) (pda_cons false (pd_lst (pda_cons false (pd_var 2) (pda_cons false (pd_var 3) pda_nil))) (pda_cons false (pd_lst (pda_cons false pd_int (pda_cons false pd_int pda_nil))) pda_nil))))))))))⟩
@[irreducible] noncomputable def m_w_names : FM := fnOf ["_law_hat_here", "_law_name", "_law_bad_name", "_law_bad_stamp", "_law_stamp", "_law_k"] b_w_names.1
theorem df_w_names {P : Program} {w : World} {K : PySem.W.Frag} {mg : Str → Option Value} {base : Heap} (T : Txt K mg) (c_w_draw : Df P w K mg base 1 "_law_draw" ["_law_hat_here", "_law_many"] m_w_draw) : Df P w K mg base 2 "_law_names" ["_law_hat_here"] m_w_names := by
  unfold m_w_names
  obtain ⟨f, fd, Fn, hm⟩ := T.f_w_names
  exact Df.mk' Fn sc_w_names hm (Fn.binds fun _ _ _ _ _ _ us hl => match us, hl with | [_], _ => rfl) (fun cdv A outer s H E hr => b_w_names.2 T c_w_draw f cdv A outer s H E hr)
theorem sc_w_homes : FnScope ["_law_hat_here", "_law_home", "_law_later", "_law_epoch", "_law_table", "_law_bad_home", "_law_bad_tables", "_law_bad_table", "_law_bad_other"] ["_law_hat_here"] (defScope st_w_homes) := ⟨rfl, rfl, rfl, by decide +kernel, rfl, by decide +kernel, by decide +kernel⟩
noncomputable def b_w_homes : { g : SM // ∀ {P : Program} {w : World} {K : PySem.W.Frag} {mg : Str → Option Value} {base : Heap} (T : Txt K mg) (c_w_draw : Df P w K mg base 1 "_law_draw" ["_law_hat_here", "_law_many"] m_w_draw) (f : Addr) (cdv : Value) (A : Around) (outer : List Env) (s : Shared) (H : Hp) (E : XK), Room 1 (A.deeper (envOfC "_law_homes" (defScope st_w_homes) s.heap.objs.size f cdv)) → PDSs (cxOf (L2.CX P w) P w K mg base ["_law_hat_here", "_law_home", "_law_later", "_law_epoch", "_law_table", "_law_bad_home", "_law_bad_tables", "_law_bad_table", "_law_bad_other"] "_law_homes" (defScope st_w_homes) f cdv A outer s H E) E (defBody st_w_homes) g } :=
  ⟨_, fun T c_w_draw f cdv A outer s H E hr => by
    have Sc := sc_w_homes
    exact (pds_cons (pds_set false 1 Sc.nd (pd_call c_w_draw hr (pda_cons true (pd_var 0) (pda_cons false pd_int pda_nil)) hx_cx (hlen := (aCons_len (aCons_len aNil_len)))))
    (pds_cons (pds_set false 2 Sc.nd (pd_ix (pd_lst (pda_cons false pd_non (pda_cons false pd_non (pda_cons false (pd_tup (pda_cons false pd_int (pda_cons false pd_int pda_nil))) pda_nil)))) (pd_call c_w_draw hr (pda_cons true (pd_var 0) (pda_cons false pd_int pda_nil)) hx_cx (hlen := (aCons_len (aCons_len aNil_len))))))
    (pds_cons (pds_set false 3 Sc.nd (pd_call c_w_draw hr (pda_cons true (pd_var 0) (pda_cons false (pd_pow pd_int pd_int) pda_nil)) hx_cx (hlen := (aCons_len (aCons_len aNil_len)))))
    (pds_cons (pds_set false 4 Sc.nd (pd_tup (pda_cons false (pd_var 3) (pda_cons false (pd_tup (pda_cons false pd_int (pda_cons false pd_int pda_nil))) (pda_cons false (pd_tup pda_nil) (pda_cons false pd_int (pda_cons false (pd_tup (pda_cons false (pd_tup (pda_cons false pd_str (pda_cons false (pd_tup (pda_cons false pd_int (pda_cons false pd_int pda_nil))) (pda_cons false pd_non pda_nil)))) pda_nil)) (pda_cons false (pd_tup pda_nil) (pda_cons false (pd_tup pda_nil) (pda_cons false (pd_tup (pda_cons false pd_int (pda_cons false pd_int pda_nil))) (pda_cons false pd_non (pda_cons false (pd_var 2) pda_nil))))))))))))
    (pds_cons (pds_if (pdt_eq hr (pd_call c_w_draw hr (pda_cons true (pd_var 0) (pda_cons false pd_int pda_nil)) hx_cx (hlen := (aCons_len (aCons_len aNil_len)))) pd_int) (pds_one (pds_set false 4 Sc.nd (pd_tup (pda_cons false (pd_neg pd_int) (pda_cons false (pd_tup pda_nil) (pda_cons false (pd_tup pda_nil) (pda_cons false pd_int (pda_cons false (pd_tup pda_nil) (pda_cons false (pd_tup pda_nil) (pda_cons false (pd_tup pda_nil) (pda_cons false (pd_tup (pda_cons false pd_int (pda_cons false pd_int pda_nil))) (pda_cons false pd_non (pda_cons false pd_non pda_nil))))))))))))) pds_nil)
    (pds_cons (pds_set false 5 Sc.nd (pd_ix (pd_lst (pda_cons false (pd_neg pd_int) (pda_cons false pd_int (pda_cons false pd_bl (pda_cons false pd_non (pda_cons false pd_str (pda_cons false (pd_tup (pda_cons false pd_int pda_nil)) pda_nil))))))) (pd_call c_w_draw hr (pda_cons true (pd_var 0) (pda_cons false pd_int pda_nil)) hx_cx (hlen := (aCons_len (aCons_len aNil_len))))))
    (pds_cons (pds_set false 6 Sc.nd (pd_lst (pda_cons false (pd_list T.b_list (pd_var 4)) (pda_cons false (pd_slice (pd_var 4) pdo_none (pdo_some pd_int)) (pda_cons false (pd_add (pd_var 4) (pd_tup (pda_cons false pd_int pda_nil))) (pda_cons false (pd_add (pd_tup (pda_cons false (pd_neg pd_int) pda_nil)) (pd_slice (pd_var 4) (pdo_some pd_int) pdo_none)) (pda_cons false (pd_add (pd_add (pd_slice (pd_var 4) pdo_none (pdo_some pd_int)) (pd_tup (pda_cons false (pd_neg pd_int) pda_nil))) (pd_slice (pd_var 4) (pdo_some pd_int) pdo_none)) (pda_cons false pd_non pda_nil))))))))
    (pds_cons (pds_set false 7 Sc.nd (pd_ix (pd_var 6) (pd_call c_w_draw hr (pda_cons true (pd_var 0) (pda_cons false pd_int pda_nil)) hx_cx (hlen := (aCons_len (aCons_len aNil_len))))))
    (pds_cons (pds_set false 8 Sc.nd (pd_ix (pd_lst (pda_cons false (pd_var 1) (pda_cons false (pd_var 1) (pda_cons false (pd_neg pd_int) (pda_cons false pd_int (pda_cons false pd_bl (pda_cons false pd_non (pda_cons false pd_str (pda_cons false (pd_tup (pda_cons false pd_int pda_nil)) pda_nil))))))))) (pd_call c_w_draw hr (pda_cons true (pd_var 0) (pda_cons false pd_int pda_nil)) hx_cx (hlen := (aCons_len (aCons_len aNil_len))))))
    (pds_one (pds_ret (pd_tup (pda_cons false (pd_lst (pda_cons false (pd_var 1) (pda_cons false (pd_var 4) (pda_cons false (pd_mod (pd_add (pd_add (pd_var 1) pd_int) (pd_call c_w_draw hr (pda_cons true (pd_var 0) (pda_cons false pd_int pda_nil)) hx_cx (hlen := (aCons_len (aCons_len aNil_len))))) pd_int) pda_nil)))) (pda_cons false (pd_lst (pda_cons false (pd_var 5) (pda_cons false (pd_var 7) (pda_cons false (pd_var 8) pda_nil)))) (pda_cons false (pd_lst (pda_cons false pd_int (pda_cons false pd_int (pda_cons false pd_int pda_nil)))) pda_nil)))))))))))))))⟩
@[irreducible] noncomputable def m_w_homes : FM := fnOf ["_law_hat_here", "_law_home", "_law_later", "_law_epoch", "_law_table", "_law_bad_home", "_law_bad_tables", "_law_bad_table", "_law_bad_other"] b_w_homes.1
theorem df_w_homes {P : Program} {w : World} {K : PySem.W.Frag} {mg : Str → Option Value} {base : Heap} (T : Txt K mg) (c_w_draw : Df P w K mg base 1 "_law_draw" ["_law_hat_here", "_law_many"] m_w_draw) : Df P w K mg base 2 "_law_homes" ["_law_hat_here"] m_w_homes := by
  unfold m_w_homes
  obtain ⟨f, fd, Fn, hm⟩ := T.f_w_homes
  exact Df.mk' Fn sc_w_homes hm (Fn.binds fun _ _ _ _ _ _ us hl => match us, hl with | [_], _ => rfl) (fun cdv A outer s H E hr => b_w_homes.2 T c_w_draw f cdv A outer s H E hr)
theorem sc_w_good_right : FnScope ["_law_word", "_law_args", "_law_told", "_law_due", "_law_home", "_law_table", "_law_other"] ["_law_word", "_law_args"] (defScope st_w_good_right) := ⟨rfl, rfl, rfl, by decide +kernel, rfl, by decide +kernel, by decide +kernel⟩
noncomputable def b_w_good_right : { g : SM // ∀ {P : Program} {w : World} {K : PySem.W.Frag} {mg : Str → Option Value} {base : Heap} (T : Txt K mg) (c_w_called : Df P w K mg base 12 "_law_called" ["_law_word", "_law_args"] m_w_called) (c_w_same : Df P w K mg base 6 "_law_same" ["_law_actual", "_law_due"] (m_w_same 6)) (f : Addr) (cdv : Value) (A : Around) (outer : List Env) (s : Shared) (H : Hp) (E : XK), Room 12 (A.deeper (envOfC "_law_good_right" (defScope st_w_good_right) s.heap.objs.size f cdv)) → PDSs (cxOf (L2.CX P w) P w K mg base ["_law_word", "_law_args", "_law_told", "_law_due", "_law_home", "_law_table", "_law_other"] "_law_good_right" (defScope st_w_good_right) f cdv A outer s H E) E (defBody st_w_good_right) g } :=
  ⟨_, fun T c_w_called c_w_same f cdv A outer s H E hr => by
    have Sc := sc_w_good_right
    exact (pds_cons (pds_set false 2 Sc.nd (pd_call c_w_called hr (pda_cons false (pd_var 0) (pda_cons false (pd_var 1) pda_nil)) hx_cx (hlen := (aCons_len (aCons_len aNil_len)))))
    (pds_cons (pds_if (pdt_eq hr (pd_var 0) pd_str) (pds_cons (pds_tup (pdg_tup rfl (pdgs_cons 4 Sc.nd (pdgs_cons 5 Sc.nd (pdgs_cons 6 Sc.nd pdgs_nil)))) (pd_var 1))
    (pds_cons (pds_set false 3 Sc.nd (pd_tup (pda_cons false (pd_tup (pda_cons false (pd_tup (pda_cons false pd_str (pda_cons false (pd_var 6) pda_nil))) (pda_cons false (pd_tup (pda_cons false pd_str (pda_cons false (pd_var 4) pda_nil))) (pda_cons false pd_int (pda_cons false pd_str (pda_cons false (pd_tup (pda_cons false (pd_ix (pd_var 5) pd_int) (pda_cons false pd_int pda_nil))) pda_nil)))))) pda_nil)))
    (pds_cons (pds_if (PDW.t (pdw_or (pdt_ltA (pd_ix (pd_var 5) pd_int) pd_int) (pdw_or1 (pdt_notN (pd_ix (pd_var 5) pd_int) pd_non)))) (pds_one (pds_set false 3 Sc.nd (pd_tup pda_nil))) pds_nil)
    (pds_one (pds_ret (pd_call c_w_same hr (pda_cons false (pd_var 2) (pda_cons false (pd_var 3) pda_nil)) hx_cx (hlen := (aCons_len (aCons_len aNil_len))))))))) pds_nil)
    (pds_cons (pds_if (pdt_eq hr (pd_var 0) pd_str) (pds_one (pds_ret (pd_and (pd_isi T.b_isinstance T.b_int (by decide +kernel) kInt (pd_var 2)) (pd_one (pd_not (pd_isi T.b_isinstance T.b_bool (by decide +kernel) kBool (pd_var 2))))))) pds_nil)
    (pds_cons (pds_if (pdt_ne hr (pd_var 0) pd_str) (pds_one (pds_ret (pd_isi T.b_isinstance T.b_tuple (by decide +kernel) kTup (pd_var 2)))) pds_nil)
    (pds_one (pds_ret (pd_or (pd_isN (pd_var 2) pd_non) (pd_one (pd_and (pd_isi T.b_isinstance T.b_tuple (by decide +kernel) kTup (pd_var 2)) (pd_one (pd_eq hr (pd_len T.b_len (pd_var 2)) pd_int)))))))))))⟩
@[irreducible] noncomputable def m_w_good_right : FM := fnOf ["_law_word", "_law_args", "_law_told", "_law_due", "_law_home", "_law_table", "_law_other"] b_w_good_right.1
theorem df_w_good_right {P : Program} {w : World} {K : PySem.W.Frag} {mg : Str → Option Value} {base : Heap} (T : Txt K mg) (c_w_called : Df P w K mg base 12 "_law_called" ["_law_word", "_law_args"] m_w_called) (c_w_same : Df P w K mg base 6 "_law_same" ["_law_actual", "_law_due"] (m_w_same 6)) : Df P w K mg base 13 "_law_good_right" ["_law_word", "_law_args"] m_w_good_right := by
  unfold m_w_good_right
  obtain ⟨f, fd, Fn, hm⟩ := T.f_w_good_right
  exact Df.mk' Fn sc_w_good_right hm (Fn.binds fun _ _ _ _ _ _ us hl => match us, hl with | [_, _], _ => rfl) (fun cdv A outer s H E hr => b_w_good_right.2 T c_w_called c_w_same f cdv A outer s H E hr)
end K43

set_option Elab.async false
set_option linter.all false
set_option maxRecDepth 100000
set_option maxHeartbeats 400000
namespace K43
open PySem PySem.Spec PyProof.Rows L2 PD
/-- what the law's look at an error of the class c gives -/
@[irreducible] def flagsOf (c : Str) : List Bool := (ksL.map fun k => decide (c = k)) ++ [true]
@[irreducible] noncomputable def m_w_refusal : FM := fun mem ws => match m_w_called (forget mem) ws with
  | .ok (_, mem') => .ok (.d .none, mem')
  | .exc c => if c ∈ ksL then .ok (.f ((flagsOf c).map PyData.bool), forget mem) else .bad
  | .bad => .bad
/-- the head's word on an error's class -/
structure ErrT (K : PySem.W.Frag) (mg : Str → Option Value) : Prop where
  top : mg "HomeError" = some (.ref (He.ga K "HomeError"))
  cls : ∀ c ∈ ksL, mg c = some (.ref (He.ga K c)) ∧ HK.ErrC K "HomeError" ksL c
theorem sc_w_refusal : FnScope ["_law_word", "_law_args", "_law_found", "e"] ["_law_word", "_law_args"] (defScope st_w_refusal) := ⟨rfl, rfl, rfl, by decide +kernel, rfl, by decide +kernel, by decide +kernel⟩
/-- isinstance(e, k) -/
def rIs (K : PySem.W.Frag) (D a : Addr) := rIsE K D a
abbrev tIs (K : PySem.W.Frag) (D a : Addr) (c : V) : TE := tCB (rIsE K D a) (tCons (tVar 3) (tCons (tC c) tNil))
def tFour (K : PySem.W.Frag) (D a : Addr) : List V → TA
  | [] => tNil
  | c :: r => tCons (tIs K D a c) (tFour K D a r)
@[irreducible] def l1 : List Str := ["NoPrime", "NoNumbers", "NoNumber", "NoPlaces"]
@[irreducible] def l2 : List Str := ["NoValues", "NoPolynomial", "NoName"]
@[irreducible] def l3 : List Str := ["NoStamp", "NoHomeNumber", "NoTable"]
def tSuite (K : PySem.W.Frag) (D a : Addr) : TS := tSeq (tAsg (tLst (tFour K D a (l1.map fun c => V.ref (He.ga K c)))) (gName 2))
  (tSeq (tDrop (tBM K "list" (rExtendS K) (tVar 2) (tCons (tLst (tFour K D a (l2.map fun c => V.ref (He.ga K c)))) tNil)))
  (tSeq (tDrop (tBM K "list" (rExtendS K) (tVar 2) (tCons (tLst (tFour K D a (l3.map fun c => V.ref (He.ga K c)))) tNil)))
  (tDrop (tBM K "list" rAppend (tVar 2) (tCons (tIs K D a (.ty "ValueError")) tNil)))))
section
variable {P : Program} {w : World} {K : PySem.W.Frag} {mg : Str → Option Value} {base : Heap}
theorem suite_ok (T : Txt K mg) (Er : ErrT K mg) (f : Addr) (cdv : Value) (A : Around) (outer : List Env) (s : Shared) (H : Hp) (E : XK) (a : Addr) (oe : Obj) (D : Addr) (pn : List (Addr × Obj)) (hz : Zc (.ref D) none oe) (hf : ∃ vs, oe.data = .fields vs) (C : L2.ExcC K D) (b : Stmt) (hb : (defBody st_w_refusal)[1]? = some b) :
    ∀ body np n b0 suite p1 p2, b = .Try body [.ExceptHandler np n (b0 :: suite) p1] [] [] p2 → PSs ((cxOf (L2.CX P w) P w K mg base ["_law_word", "_law_args", "_law_found", "e"] "_law_refusal" (defScope st_w_refusal) f cdv A outer s H E).suite a ((a, oe) :: pn)) (b0 :: suite) (tSuite K D a) := by
  have hb := Option.some.inj hb
  intro body np n b0 suite p1 p2 e
  rw [← hb] at e
  cases e
  have g : ∀ c ∈ ksL, mg c = some (.ref (He.ga K c)) := fun c hc => (Er.cls c hc).1
  have Sc := sc_w_refusal
  unfold tSuite l1 l2 l3
  exact pss_cons (ps_set (i := 2) Sc.nd rfl (.inl rfl) (pe_lst (pa_cons (pe_callB (call_isE C hz hf) rfl T.b_isinstance (by decide +kernel) (pa_cons (pv 3) (pa_cons (pe_glob rfl (g "NoPrime" (by simp [ksL])) rfl) pa_nil))) (pa_cons (pe_callB (call_isE C hz hf) rfl T.b_isinstance (by decide +kernel) (pa_cons (pv 3) (pa_cons (pe_glob rfl (g "NoNumbers" (by simp [ksL])) rfl) pa_nil))) (pa_cons (pe_callB (call_isE C hz hf) rfl T.b_isinstance (by decide +kernel) (pa_cons (pv 3) (pa_cons (pe_glob rfl (g "NoNumber" (by simp [ksL])) rfl) pa_nil))) (pa_cons (pe_callB (call_isE C hz hf) rfl T.b_isinstance (by decide +kernel) (pa_cons (pv 3) (pa_cons (pe_glob rfl (g "NoPlaces" (by simp [ksL])) rfl) pa_nil))) pa_nil))))))
    (pss_cons (ps_expr (pe_bm PySem.F.plainAttrs_list PySem.F.slot_list_extend PySem.F.type_list_extend mt_extendS (pv 2) (pa_cons (pe_lst (pa_cons (pe_callB (call_isE C hz hf) rfl T.b_isinstance (by decide +kernel) (pa_cons (pv 3) (pa_cons (pe_glob rfl (g "NoValues" (by simp [ksL])) rfl) pa_nil))) (pa_cons (pe_callB (call_isE C hz hf) rfl T.b_isinstance (by decide +kernel) (pa_cons (pv 3) (pa_cons (pe_glob rfl (g "NoPolynomial" (by simp [ksL])) rfl) pa_nil))) (pa_cons (pe_callB (call_isE C hz hf) rfl T.b_isinstance (by decide +kernel) (pa_cons (pv 3) (pa_cons (pe_glob rfl (g "NoName" (by simp [ksL])) rfl) pa_nil))) pa_nil)))) pa_nil)))
    (pss_cons (ps_expr (pe_bm PySem.F.plainAttrs_list PySem.F.slot_list_extend PySem.F.type_list_extend mt_extendS (pv 2) (pa_cons (pe_lst (pa_cons (pe_callB (call_isE C hz hf) rfl T.b_isinstance (by decide +kernel) (pa_cons (pv 3) (pa_cons (pe_glob rfl (g "NoStamp" (by simp [ksL])) rfl) pa_nil))) (pa_cons (pe_callB (call_isE C hz hf) rfl T.b_isinstance (by decide +kernel) (pa_cons (pv 3) (pa_cons (pe_glob rfl (g "NoHomeNumber" (by simp [ksL])) rfl) pa_nil))) (pa_cons (pe_callB (call_isE C hz hf) rfl T.b_isinstance (by decide +kernel) (pa_cons (pv 3) (pa_cons (pe_glob rfl (g "NoTable" (by simp [ksL])) rfl) pa_nil))) pa_nil)))) pa_nil)))
    (pss_one (ps_expr (pe_bm PySem.F.plainAttrs_list PySem.F.slot_list_append PySem.F.type_list_append mt_append (pv 2) (pa_cons (pe_callB (call_isE C hz hf) rfl T.b_isinstance (by decide +kernel) (pa_cons (pv 3) (pa_cons (pe_bltn (v := .ty "ValueError") rfl T.b_ValueError (by decide +kernel) rfl) pa_nil))) pa_nil))))))
/-- four answers in a row -/
theorem four_ok {D a : Addr} {σ : L2.St} {H : Hp} (e3 : σ[3]? = some (some (.ref a))) : ∀ (cs : List Str) (Q : List V → Hp → Prop), (∀ c ∈ cs, ∃ b, PySem.W.kitOne K (.ref D) (.ref (He.ga K c)) = some b) → (∀ bs : List Bool, (∀ (i : Nat) (c : Str), cs[i]? = some c → ∃ b : Bool, bs[i]? = some b ∧ PySem.W.kitOne K (.ref D) (.ref (He.ga K c)) = some b) → bs.length = cs.length → Q (bs.map V.bl) H) → tFour K D a (cs.map fun c => V.ref (He.ga K c)) σ H Q
  | [], Q, _, h => h [] (fun i c e => by simp at e) rfl
  | c :: cs, Q, hk, h => by
    obtain ⟨b, hb⟩ := hk c (List.mem_cons_self ..)
    refine ⟨.ref a, e3, ?_⟩
    refine ⟨.ref (He.ga K c), .ref (He.ga K c), b, rfl, fun u r => r, hb, ?_⟩
    refine four_ok e3 cs _ (fun c hc => hk c (List.mem_cons_of_mem _ hc)) fun bs h1 h2 => ?_
    refine h (b :: bs) (fun i c' e => ?_) (by simp [h2])
    cases i with
    | zero => cases e; exact ⟨b, rfl, hb⟩
    | succ i => exact h1 i c' e
theorem bools_of {D : Addr} {c0 : Str} (hk : ∀ k ∈ ksL, PySem.W.kitOne K (.ref D) (.ref (He.ga K k)) = some (decide (c0 = k))) {cs : List Str} {bs : List Bool} (hs : ∀ c ∈ cs, c ∈ ksL) (h1 : ∀ (i : Nat) (c : Str), cs[i]? = some c → ∃ b : Bool, bs[i]? = some b ∧ PySem.W.kitOne K (.ref D) (.ref (He.ga K c)) = some b) (h2 : bs.length = cs.length) : bs = cs.map fun k => decide (c0 = k) := by
  apply List.ext_getElem?
  intro i
  rw [List.getElem?_map]
  cases e : cs[i]? with
  | none => rw [List.getElem?_eq_none (by rw [h2]; exact List.getElem?_eq_none_iff.mp e)]; rfl
  | some c =>
    obtain ⟨b, e2, e3⟩ := h1 i c e
    rw [hk c (hs c (List.mem_of_getElem? e))] at e3
    rw [e2]
    cases e3
    rfl
theorem m1 : ∀ c ∈ l1, c ∈ ksL := by decide +kernel
theorem m2 : ∀ c ∈ l2, c ∈ ksL := by decide +kernel
theorem m3 : ∀ c ∈ l3, c ∈ ksL := by decide +kernel
theorem z12 : 12 ≤ sizeLine := by rw [sizeLine_eq]; decide
theorem l1len : l1.length = 4 := by unfold l1; rfl
theorem l2len : l2.length = 3 := by unfold l2; rfl
theorem l3len : l3.length = 3 := by unfold l3; rfl
theorem lst_new {D a : Addr} {σ : L2.St} {H : Hp} {c0 : Str} {Q : VK} {cs : List Str} (hk : ∀ k ∈ ksL, PySem.W.kitOne K (.ref D) (.ref (He.ga K k)) = some (decide (c0 = k))) (hs : ∀ c ∈ cs, c ∈ ksL) (hl : cs.length ≤ 12) (e3 : σ[3]? = some (some (.ref a)))
    (h : ∀ p, H p = none → Q (.ref p) (upd H p (.lst ((cs.map fun k => decide (c0 = k)).map V.bl)))) : tLst (tFour K D a (cs.map fun c => V.ref (He.ga K c))) σ H Q := by
  refine four_ok e3 cs _ (fun c hc => ⟨_, hk c (hs c hc)⟩) fun bs h1 h2 => ?_
  have eb := bools_of hk hs h1 h2
  subst eb
  exact ⟨Nat.le_trans (by simpa using hl) z12, h⟩
theorem suite_run {c0 : Str} {D a : Addr} {σ : L2.St} {H : Hp} {Ed : Ends} (hD : He.ga K c0 = D) (hc : c0 ∈ ksL) (Er : ErrT K mg) (e3 : σ[3]? = some (some (.ref a))) (hl : σ.length = 4)
    (h : ∀ p H', H p = none → H' p = some (.lst (((((l1 ++ l2) ++ l3).map fun k => decide (c0 = k)) ++ [true]).map V.bl)) → (∀ b o, H b = some o → H' b = some o) → (∀ (F : Addr → Prop) (G : Hp) (as : List Addr) (s : S), Rep K F G H as [] s → Rep K F G H' as [] s) → Ed.nx (σ.set 2 (some (V.ref p))) H') : tSuite K D a Ed σ H := by
  obtain ⟨hm, he⟩ := Er.cls c0 hc
  have hk := he.k
  rw [hD] at hk
  have hv := he.v
  rw [hD] at hv
  have g1 := l1len
  have g2 := l2len
  have g3 := l3len
  have z := z12
  unfold tSuite tSeq tAsg tDrop tBM gName tVar tIs tCB tVar
  dsimp only
  refine lst_new hk m1 (by omega) e3 fun p hp => ?_
  have hp2 : (σ.set 2 (some (V.ref p)))[2]? = some (some (.ref p)) := List.getElem?_set_self (by omega)
  have e3' : (σ.set 2 (some (V.ref p)))[3]? = some (some (.ref a)) := by rw [List.getElem?_set_ne (by decide)]; exact e3
  have hfin := fun H' => h p H' hp
  clear h
  generalize σ.set 2 (some (V.ref p)) = σ' at *
  have hH : ∀ b o, H b = some o → b ≠ p := fun b o z e => by rw [e, hp] at z; cases z
  refine ⟨.ref p, hp2, Or.inl ⟨rfl, _, SqL.of upd_same⟩, ?_⟩
  refine lst_new (Q := _) hk m2 (by omega) e3' fun p2 hq2 => ?_
  have n2 : p2 ≠ p := fun e => by rw [e, upd_same] at hq2; cases hq2
  have Hp2 : H p2 = none := by rw [upd_ne n2] at hq2; exact hq2
  refine ⟨p, p2, _, _, rfl, rfl, by rw [upd_ne (Ne.symm n2), upd_same], SqL.of upd_same, by simp; omega, ?_⟩
  refine ⟨.ref p, hp2, Or.inl ⟨rfl, _, SqL.of upd_same⟩, ?_⟩
  refine lst_new (Q := _) hk m3 (by omega) e3' fun p3 hq3 => ?_
  have n3 : p3 ≠ p := fun e => by rw [e, upd_same] at hq3; cases hq3
  have n32 : p3 ≠ p2 := fun e => by rw [e, upd_ne n2, upd_same] at hq3; cases hq3
  have Hp3 : H p3 = none := by rw [upd_ne n3, upd_ne n32, upd_ne n3] at hq3; exact hq3
  refine ⟨p, p3, _, _, rfl, rfl, by rw [upd_ne (Ne.symm n3), upd_same], SqL.of upd_same, by simp; omega, ?_⟩
  refine ⟨.ref p, hp2, Or.inl ⟨rfl, _, SqL.of upd_same⟩, ?_⟩
  refine ⟨.ref a, e3', ?_⟩
  refine ⟨.ty "ValueError", .type "ValueError", true, rfl, fun u r => r, hv, ?_⟩
  refine ⟨p, _, _, rfl, rfl, upd_same, by simp; omega, ?_⟩
  refine hfin _ ?_ (fun b o e => ?_) fun F G as s R => ?_
  · rw [upd_same]
    simp
  · have b1 := hH b o e
    have b2 : b ≠ p2 := fun z => by rw [z, Hp2] at e; cases e
    have b3 : b ≠ p3 := fun z => by rw [z, Hp3] at e; cases e
    rw [upd_ne b1, upd_ne b1, upd_ne b3, upd_ne b1, upd_ne b2, upd_ne b1]
    exact e
  · obtain ⟨f1, f2, f3⟩ := R.fresh hp
    obtain ⟨f4, f5, f6⟩ := R.fresh Hp2
    obtain ⟨f7, f8, f9⟩ := R.fresh Hp3
    exact ((((((R.touch f1 f2 f3).touch f4 f5 f6).touch f1 f2 f3).touch f7 f8 f9).touch f1 f2 f3).touch f1 f2 f3)
theorem flags_eq (c : Str) : ((((l1 ++ l2) ++ l3).map fun k => decide (c = k)) ++ [true]) = flagsOf c := by
  unfold l1 l2 l3 flagsOf ksL
  rfl
theorem bl_rp {G : Hp} : ∀ bs : List Bool, RpA K G (bs.map V.bl) (bs.map PyData.bool)
  | [] => .nil
  | b :: bs => .cons (.bl b) (bl_rp bs)
theorem df_w_refusal (T : Txt K mg) (Er : ErrT K mg) (c_w_called : Df P w K mg base 12 "_law_called" ["_law_word", "_law_args"] m_w_called) : Df P w K mg base 13 "_law_refusal" ["_law_word", "_law_args"] m_w_refusal := by
  obtain ⟨f, fd, Fn, hm⟩ := T.f_w_refusal
  have Sc := sc_w_refusal
  have hb : Binds K fd ["_law_word", "_law_args"] [] := Fn.binds fun _ _ _ _ _ _ us hl => match us, hl with | [_, _], _ => rfl
  obtain ⟨fc, fdc, FC, mc, kc, bc⟩ := c_w_called.ex
  refine ⟨f, fd, Fn.okX Sc (fun vs H Q E h => ?_) (fun cdv A outer s H vs Q E hr h => ?_), hm, Fn.kp, hb⟩
  · obtain ⟨_, _, _, _, _, hl, _⟩ := h
    exact hl
  · obtain ⟨F, G, as, mem, ws, hl, R, r, h⟩ := h
    refine ⟨_, pss_cons (ps_set (i := 2) Sc.nd rfl (.inl rfl) pe_non) (pss_cons (ps_try_as (i := 3) rfl rfl Sc.nd rfl rfl ⟨rfl, by decide, .inl Er.top⟩ takes0
      (fun W pn xe tk _ => pss_one (ps_expr (pe_callS FC (hr.mono (Nat.le_refl _)) rfl mc kc bc (fun σ => passAt tk σ) (pa_cons (pv 0) (pa_cons (pv 1) pa_nil)))))
      (fun a oe cls d pn hz hf => (⟨fun pins s' σ' H' D' I h' => ?_⟩ : PSs _ _ (fun D' σ' H' => ∃ Dc, cls = .ref Dc ∧ d = none ∧ L2.ExcC K Dc ∧ tSuite K Dc a D' σ' H')))) (pss_one (ps_ret (pv 2)))), ?_⟩
    · obtain ⟨Dc, e1, e2, C, h'⟩ := h'
      subst e1 e2
      exact (suite_ok T Er f cdv A outer s H E a oe Dc pn hz hf C _ rfl _ _ _ _ _ _ _ rfl).run pins s' σ' H' D' I h'
    · match vs, hl with
      | [v0, v1], _ =>
      unfold tSeq tAsg tC gName tDrop tCallS tCons tVar tNil tRet
      refine ⟨v0, rfl, v1, rfl, ?_⟩
      refine ⟨F, G, as, forget mem, ws, rfl, R.forget, r, ?_⟩
      unfold m_w_refusal at h
      have xt : ∀ {G' H' : Hp} {mem' : List (Option Cell)}, Ext G H (live as ⟨[], forget mem, 0⟩) G' H' (live as ⟨[], mem', 0⟩) → Ext G H (live as ⟨[], mem, 0⟩) G' H' (live as ⟨[], mem', 0⟩) := fun X => ⟨X.same, fun a o z _ => X.keep a o z not_live_forget, fun a z => (X.new a z).elim (fun l => (not_live_forget l).elim) .inr⟩
      cases e : m_w_called (forget mem) ws with
      | bad => rw [e] at h; exact h
      | ok q =>
        obtain ⟨w0, mem'⟩ := q
        rw [e] at h
        dsimp only at h ⊢
        intro v G' H' R' X' r' n'
        exact ⟨.non, rfl, h .non G' H' R' (xt X') .non fun _ _ z _ => nomatch z⟩
      | exc c =>
        rw [e] at h
        dsimp only at h ⊢
        intro C H' hC kp
        by_cases hc : c ∈ ksL
        · rw [if_pos hc] at h
          dsimp only at h
          obtain ⟨mC, eC⟩ := Er.cls c hc
          have ec : He.ga K c = C := by
            rw [mC] at hC
            cases hC
            rfl
          subst ec
          have sm : Same H H' := fun a o z => kp a o z not_live_forget
          refine ⟨true, eC.t, fun _ a ha => ⟨_, rfl, rfl, eC.e, suite_run rfl hc Er (by simp [L2.start]) (by simp [L2.start]) fun p H2 hp h2 k2 rep => ?_⟩, fun z => nomatch z⟩
          have R1 : Rep K F G H' as [] ⟨[], forget mem, 0⟩ := ⟨R.same.trans sm, rfl, (R.forget).alen, R.nd, fun b hb => by
            obtain ⟨o, eo⟩ := R.dom b hb
            exact ⟨o, sm b o eo⟩, fun b hb => by
            obtain ⟨k1, k2, o, k3⟩ := R.fo b hb
            exact ⟨k1, k2, o, sm b o k3⟩, fun n c e => (forget_no e).elim, fun i w e => by simp at e⟩
          obtain ⟨f1, f2, f3⟩ := R1.fresh hp
          have hp0 : H p = none := sm.free hp
          rw [flags_eq] at h2
          refine ⟨.ref p, by simp [L2.start], h (.ref p) G H2 (rep F G as _ R1) ⟨Same.refl _, fun b o z _ => k2 b o (sm b o z), fun b z => (not_live_forget z).elim⟩ ⟨p, _, rfl, h2, f1, f2, f3, bl_rp _⟩ fun _ b _ hb => by cases hb; exact hp0⟩
        · rw [if_neg hc] at h
          exact h.elim
end
end K43

set_option Elab.async false
set_option linter.all false
set_option maxRecDepth 100000
set_option maxHeartbeats 4000000
namespace K43
open PySem PySem.Spec PyProof.Rows L2 PD

theorem sc_w_one : FnScope ["_law_hat_here", "_law_word", "_law_spoil", "_law_only", "_law_args", "_law_due", "_law_at_here", "_law_good", "_law_bad", "_law_errors", "_law_k"] ["_law_hat_here"] (defScope st_w_one) := ⟨rfl, rfl, rfl, by decide +kernel, rfl, by decide +kernel, by decide +kernel⟩
noncomputable def b_w_one : { g : SM // ∀ {P : Program} {w : World} {K : PySem.W.Frag} {mg : Str → Option Value} {base : Heap} (T : Txt K mg) (c_w_draw : Df P w K mg base 1 "_law_draw" ["_law_hat_here", "_law_many"] m_w_draw) (c_w_names : Df P w K mg base 2 "_law_names" ["_law_hat_here"] m_w_names) (c_w_homes : Df P w K mg base 2 "_law_homes" ["_law_hat_here"] m_w_homes) (c_w_lots : Df P w K mg base 4 "_law_lots" ["_law_hat_here", "_law_word"] m_w_lots) (c_w_good_right : Df P w K mg base 13 "_law_good_right" ["_law_word", "_law_args"] m_w_good_right) (c_w_refusal : Df P w K mg base 13 "_law_refusal" ["_law_word", "_law_args"] m_w_refusal) (f : Addr) (cdv : Value) (A : Around) (outer : List Env) (s : Shared) (H : Hp) (E : XK), Room 13 (A.deeper (envOfC "_law_one" (defScope st_w_one) s.heap.objs.size f cdv)) → PDSs (cxOf (L2.CX P w) P w K mg base ["_law_hat_here", "_law_word", "_law_spoil", "_law_only", "_law_args", "_law_due", "_law_at_here", "_law_good", "_law_bad", "_law_errors", "_law_k"] "_law_one" (defScope st_w_one) f cdv A outer s H E) E (defBody st_w_one) g } :=
  ⟨_, fun T c_w_draw c_w_names c_w_homes c_w_lots c_w_good_right c_w_refusal f cdv A outer s H E hr => by
    have Sc := sc_w_one
    exact (pds_cons (pds_set false 1 Sc.nd (pd_ix (pd_lst (pda_cons false pd_str (pda_cons false pd_str (pda_cons false pd_str (pda_cons false pd_str (pda_cons false pd_str (pda_cons false pd_str pda_nil))))))) (pd_call c_w_draw hr (pda_cons true (pd_var 0) (pda_cons false pd_int pda_nil)) hx_cx (hlen := (aCons_len (aCons_len aNil_len))))))
    (pds_cons (pds_set false 2 Sc.nd (pd_call c_w_draw hr (pda_cons true (pd_var 0) (pda_cons false pd_int pda_nil)) hx_cx (hlen := (aCons_len (aCons_len aNil_len)))))
    (pds_cons (pds_set false 3 Sc.nd (pd_call c_w_draw hr (pda_cons true (pd_var 0) (pda_cons false pd_int pda_nil)) hx_cx (hlen := (aCons_len (aCons_len aNil_len)))))
    (pds_cons (pds_if (pdt_eq hr (pd_var 1) pd_str) (pds_one (pds_tup (pdg_tup rfl (pdgs_cons 7 Sc.nd (pdgs_cons 8 Sc.nd (pdgs_cons 9 Sc.nd pdgs_nil)))) (pd_call c_w_names hr (pda_cons true (pd_var 0) pda_nil) hx_cx (hlen := (aCons_len aNil_len))))) (pds_one (pds_if (pdt_eq hr (pd_var 1) pd_str) (pds_one (pds_tup (pdg_tup rfl (pdgs_cons 7 Sc.nd (pdgs_cons 8 Sc.nd (pdgs_cons 9 Sc.nd pdgs_nil)))) (pd_call c_w_homes hr (pda_cons true (pd_var 0) pda_nil) hx_cx (hlen := (aCons_len aNil_len))))) (pds_one (pds_tup (pdg_tup rfl (pdgs_cons 7 Sc.nd (pdgs_cons 8 Sc.nd (pdgs_cons 9 Sc.nd pdgs_nil)))) (pd_call c_w_lots hr (pda_cons true (pd_var 0) (pda_cons false (pd_var 1) pda_nil)) hx_cx (hlen := (aCons_len (aCons_len aNil_len)))))))))
    (pds_cons (pds_if (pdt_not (pdt_val (pd_call c_w_good_right hr (pda_cons false (pd_var 1) (pda_cons false (pd_var 7) pda_nil)) hx_cx (hlen := (aCons_len (aCons_len aNil_len)))))) (pds_one (pds_ret pd_bl)) pds_nil)
    (pds_cons (pds_if (pdt_eq hr (pd_mod (pd_var 2) pd_int) pd_int) (pds_one (pds_set false 2 Sc.nd (pd_shl pd_int (pd_mod (pd_var 3) (pd_len T.b_len (pd_var 7)))))) pds_nil)
    (pds_cons (pds_set true 4 Sc.nd (pd_lst pda_nil))
    (pds_cons (pds_set false 5 Sc.nd pd_non)
    (pds_cons (pds_for (pdi_range1 T.b_range (pd_len T.b_len (pd_var 7))) (pdg_name 6 Sc.nd) (pds_one (pds_if (pdt_eq hr (pd_mod (pd_shr (pd_var 2) (pd_var 6)) pd_int) pd_int) (pds_cons (pds_expr (pd_append (pd_var 4) (pd_ix (pd_var 8) (pd_var 6))))
    (pds_one (pds_if (pdt_isN (pd_var 5) pd_non) (pds_one (pds_set false 5 Sc.nd (pd_ix (pd_var 9) (pd_var 6)))) pds_nil))) (pds_one (pds_expr (pd_append (pd_var 4) (pd_ix (pd_var 7) (pd_var 6))))))) rfl (passes_of rfl))
    (pds_cons (pds_if (pdt_isN (pd_var 5) pd_non) (pds_one (pds_ret pd_bl)) pds_nil)
    (pds_one (pds_ret (pd_eq hr (pd_call c_w_refusal hr (pda_cons false (pd_var 1) (pda_cons false (pd_var 4) pda_nil)) hx_cx (hlen := (aCons_len (aCons_len aNil_len)))) (pd_add (pd_lc rfl Sc.nd (pdi_range1 T.b_range pd_int) [("_law_k", 10)] (blkOk_by (N := ["_law_hat_here", "_law_word", "_law_spoil", "_law_only", "_law_args", "_law_due", "_law_at_here", "_law_good", "_law_bad", "_law_errors", "_law_k"]) (sc := defScope st_w_one) (by decide +kernel)) (fun _ _ _ _ _ => (pdg_name 10 Sc.nd)) (gT1_mem 10) (fun _ _ _ _ _ => pdts_nil) (fun _ _ _ _ _ => (pd_eq hr (pd_var 10) (pd_var 5)))) (pd_lst (pda_cons false pd_bl pda_nil))))))))))))))))⟩
@[irreducible] noncomputable def m_w_one : FM := fnOf ["_law_hat_here", "_law_word", "_law_spoil", "_law_only", "_law_args", "_law_due", "_law_at_here", "_law_good", "_law_bad", "_law_errors", "_law_k"] b_w_one.1
theorem df_w_one {P : Program} {w : World} {K : PySem.W.Frag} {mg : Str → Option Value} {base : Heap} (T : Txt K mg) (c_w_draw : Df P w K mg base 1 "_law_draw" ["_law_hat_here", "_law_many"] m_w_draw) (c_w_names : Df P w K mg base 2 "_law_names" ["_law_hat_here"] m_w_names) (c_w_homes : Df P w K mg base 2 "_law_homes" ["_law_hat_here"] m_w_homes) (c_w_lots : Df P w K mg base 4 "_law_lots" ["_law_hat_here", "_law_word"] m_w_lots) (c_w_good_right : Df P w K mg base 13 "_law_good_right" ["_law_word", "_law_args"] m_w_good_right) (c_w_refusal : Df P w K mg base 13 "_law_refusal" ["_law_word", "_law_args"] m_w_refusal) : Df P w K mg base 14 "_law_one" ["_law_hat_here"] m_w_one := by
  unfold m_w_one
  obtain ⟨f, fd, Fn, hm⟩ := T.f_w_one
  exact Df.mk' Fn sc_w_one hm (Fn.binds fun _ _ _ _ _ _ us hl => match us, hl with | [_], _ => rfl) (fun cdv A outer s H E hr => b_w_one.2 T c_w_draw c_w_names c_w_homes c_w_lots c_w_good_right c_w_refusal f cdv A outer s H E hr)
theorem sc_law : FnScope ["_law_script", "_law_k", "_law_cell"] ["_law_script"] (defScope st_law) := ⟨rfl, rfl, rfl, by decide +kernel, rfl, by decide +kernel, by decide +kernel⟩
noncomputable def b_law : { g : SM // ∀ {P : Program} {w : World} {K : PySem.W.Frag} {mg : Str → Option Value} {base : Heap} (T : Txt K mg) (c_w_one : Df P w K mg base 14 "_law_one" ["_law_hat_here"] m_w_one) (c_w_hat : Df P w K mg base 1 "_law_hat" ["_law_cell", "_law_k"] m_w_hat) (f : Addr) (cdv : Value) (A : Around) (outer : List Env) (s : Shared) (H : Hp) (E : XK), Room 14 (A.deeper (envOfC "law" (defScope st_law) s.heap.objs.size f cdv)) → PDSs (cxOf (L2.CX P w) P w K mg base ["_law_script", "_law_k", "_law_cell"] "law" (defScope st_law) f cdv A outer s H E) E (defBody st_law) g } :=
  ⟨_, fun T c_w_one c_w_hat f cdv A outer s H E hr => by
    have Sc := sc_law
    exact (pds_cons (pds_for (pdi_enum T.b_enumerate (pd_add (pd_list T.b_list (pd_var 0)) (pd_lst (pda_cons false pd_int (pda_cons false pd_int (pda_cons false pd_int pda_nil)))))) (pdg_tup rfl (pdgs_cons 1 Sc.nd (pdgs_cons 2 Sc.nd pdgs_nil))) (pds_one (pds_if (pdt_not (pdt_val (pd_callF c_w_one hr (pd_call c_w_hat hr (pda_cons false (pd_var 2) (pda_cons false (pd_var 1) pda_nil)) hx_cx (hlen := (aCons_len (aCons_len aNil_len)))) hx_cx))) (pds_one (pds_ret pd_bl)) pds_nil)) rfl (passes_of rfl))
    (pds_one (pds_ret pd_bl)))⟩
@[irreducible] noncomputable def m_law : FM := fnOf ["_law_script", "_law_k", "_law_cell"] b_law.1
theorem df_law {P : Program} {w : World} {K : PySem.W.Frag} {mg : Str → Option Value} {base : Heap} (T : Txt K mg) (c_w_one : Df P w K mg base 14 "_law_one" ["_law_hat_here"] m_w_one) (c_w_hat : Df P w K mg base 1 "_law_hat" ["_law_cell", "_law_k"] m_w_hat) : Df P w K mg base 15 "law" ["_law_script"] m_law := by
  unfold m_law
  obtain ⟨f, fd, Fn, hm⟩ := T.f_law
  exact Df.mk' Fn sc_law hm (Fn.binds fun _ _ _ _ _ _ us hl => match us, hl with | [_], _ => rfl) (fun cdv A outer s H E hr => b_law.2 T c_w_one c_w_hat f cdv A outer s H E hr)
end K43

set_option Elab.async false
set_option linter.all false
set_option maxRecDepth 100000
set_option maxHeartbeats 4000000
namespace K43
open PySem PySem.Spec PyProof.Rows L2 PD
abbrev Mem := List (Option Cell)
theorem sl_le {n : Nat} (h : n ≤ 16777216) : n ≤ sizeLine := Nat.le_trans h sizeLine_big
theorem sl_lt {n : Nat} (h : n < 16777216) : n < sizeLine := Nat.lt_of_lt_of_le h sizeLine_big
@[simp] theorem sl0 : 0 ≤ sizeLine := sl_le (by decide)
@[simp] theorem sl0' : 0 < sizeLine := sl_lt (by decide)
@[simp] theorem SL0 : 0 ≤ SL.1 := SL_le (by decide)
@[simp] theorem SL0' : 0 < SL.1 := SL_lt (by decide)
@[simp] theorem sl1 : 1 ≤ sizeLine := sl_le (by decide)
@[simp] theorem sl1' : 1 < sizeLine := sl_lt (by decide)
@[simp] theorem SL1 : 1 ≤ SL.1 := SL_le (by decide)
@[simp] theorem SL1' : 1 < SL.1 := SL_lt (by decide)
@[simp] theorem sl2 : 2 ≤ sizeLine := sl_le (by decide)
@[simp] theorem sl2' : 2 < sizeLine := sl_lt (by decide)
@[simp] theorem SL2 : 2 ≤ SL.1 := SL_le (by decide)
@[simp] theorem SL2' : 2 < SL.1 := SL_lt (by decide)
@[simp] theorem sl3 : 3 ≤ sizeLine := sl_le (by decide)
@[simp] theorem sl3' : 3 < sizeLine := sl_lt (by decide)
@[simp] theorem SL3 : 3 ≤ SL.1 := SL_le (by decide)
@[simp] theorem SL3' : 3 < SL.1 := SL_lt (by decide)
@[simp] theorem sl4 : 4 ≤ sizeLine := sl_le (by decide)
@[simp] theorem sl4' : 4 < sizeLine := sl_lt (by decide)
@[simp] theorem SL4 : 4 ≤ SL.1 := SL_le (by decide)
@[simp] theorem SL4' : 4 < SL.1 := SL_lt (by decide)
@[simp] theorem sl5 : 5 ≤ sizeLine := sl_le (by decide)
@[simp] theorem sl5' : 5 < sizeLine := sl_lt (by decide)
@[simp] theorem SL5 : 5 ≤ SL.1 := SL_le (by decide)
@[simp] theorem SL5' : 5 < SL.1 := SL_lt (by decide)
@[simp] theorem sl6 : 6 ≤ sizeLine := sl_le (by decide)
@[simp] theorem sl6' : 6 < sizeLine := sl_lt (by decide)
@[simp] theorem SL6 : 6 ≤ SL.1 := SL_le (by decide)
@[simp] theorem SL6' : 6 < SL.1 := SL_lt (by decide)
@[simp] theorem sl7 : 7 ≤ sizeLine := sl_le (by decide)
@[simp] theorem sl7' : 7 < sizeLine := sl_lt (by decide)
@[simp] theorem SL7 : 7 ≤ SL.1 := SL_le (by decide)
@[simp] theorem SL7' : 7 < SL.1 := SL_lt (by decide)
@[simp] theorem sl8 : 8 ≤ sizeLine := sl_le (by decide)
@[simp] theorem sl8' : 8 < sizeLine := sl_lt (by decide)
@[simp] theorem SL8 : 8 ≤ SL.1 := SL_le (by decide)
@[simp] theorem SL8' : 8 < SL.1 := SL_lt (by decide)
@[simp] theorem sl9 : 9 ≤ sizeLine := sl_le (by decide)
@[simp] theorem sl9' : 9 < sizeLine := sl_lt (by decide)
@[simp] theorem SL9 : 9 ≤ SL.1 := SL_le (by decide)
@[simp] theorem SL9' : 9 < SL.1 := SL_lt (by decide)
@[simp] theorem sl10 : 10 ≤ sizeLine := sl_le (by decide)
@[simp] theorem sl10' : 10 < sizeLine := sl_lt (by decide)
@[simp] theorem SL10 : 10 ≤ SL.1 := SL_le (by decide)
@[simp] theorem SL10' : 10 < SL.1 := SL_lt (by decide)
@[simp] theorem sl11 : 11 ≤ sizeLine := sl_le (by decide)
@[simp] theorem sl11' : 11 < sizeLine := sl_lt (by decide)
@[simp] theorem SL11 : 11 ≤ SL.1 := SL_le (by decide)
@[simp] theorem SL11' : 11 < SL.1 := SL_lt (by decide)
@[simp] theorem sl12 : 12 ≤ sizeLine := sl_le (by decide)
@[simp] theorem sl12' : 12 < sizeLine := sl_lt (by decide)
@[simp] theorem SL12 : 12 ≤ SL.1 := SL_le (by decide)
@[simp] theorem SL12' : 12 < SL.1 := SL_lt (by decide)
@[simp] theorem sl13 : 13 ≤ sizeLine := sl_le (by decide)
@[simp] theorem sl13' : 13 < sizeLine := sl_lt (by decide)
@[simp] theorem SL13 : 13 ≤ SL.1 := SL_le (by decide)
@[simp] theorem SL13' : 13 < SL.1 := SL_lt (by decide)
@[simp] theorem sl14 : 14 ≤ sizeLine := sl_le (by decide)
@[simp] theorem sl14' : 14 < sizeLine := sl_lt (by decide)
@[simp] theorem SL14 : 14 ≤ SL.1 := SL_le (by decide)
@[simp] theorem SL14' : 14 < SL.1 := SL_lt (by decide)
@[simp] theorem sl15 : 15 ≤ sizeLine := sl_le (by decide)
@[simp] theorem sl15' : 15 < sizeLine := sl_lt (by decide)
@[simp] theorem SL15 : 15 ≤ SL.1 := SL_le (by decide)
@[simp] theorem SL15' : 15 < SL.1 := SL_lt (by decide)
@[simp] theorem sl16 : 16 ≤ sizeLine := sl_le (by decide)
@[simp] theorem sl16' : 16 < sizeLine := sl_lt (by decide)
@[simp] theorem SL16 : 16 ≤ SL.1 := SL_le (by decide)
@[simp] theorem SL16' : 16 < SL.1 := SL_lt (by decide)
def isI : D → Bool | .int _ => true | _ => false
@[simp] theorem isI_i {i : Int} : isI (.int i) = true := rfl
@[simp] theorem is_integer_eq (mem : Mem) (x : D) : m_is_integer mem [.d x] = .ok (.d (.bool (isI x)), mem) := by
  unfold m_is_integer b_is_integer
  cases x <;> simp [isI]
def btw : D → Int → Int → Bool | .int i, a, b => decide (a ≤ i) && decide (i ≤ b) | _, _, _ => false
@[simp] theorem btw_i {i a b : Int} : btw (.int i) a b = (decide (a ≤ i) && decide (i ≤ b)) := rfl
@[simp] theorem is_between_eq (mem : Mem) (x : D) (a b : Int) : m_is_between mem [.d x, .d (.int a), .d (.int b)] = .ok (.d (.bool (btw x a b)), mem) := by
  unfold m_is_between b_is_between
  cases x with
  | int i =>
    simp [isI, btw]
    by_cases h : a ≤ i <;> simp [h]
  | _ => simp [isI, btw]
def cnt : D → Bool | .int i => decide (0 ≤ i) | _ => false
@[simp] theorem cnt_i {i : Int} : cnt (.int i) = decide (0 ≤ i) := rfl
@[simp] theorem is_count_eq (mem : Mem) (x : D) : m_is_count mem [.d x] = .ok (.d (.bool (cnt x)), mem) := by
  unfold m_is_count b_is_count
  cases x <;> simp [isI, cnt]
@[simp] theorem is_index_eq (mem : Mem) (x : D) (n : Int) : m_is_index mem [.d x, .d (.int n)] = .ok (.d (.bool (btw x 0 (n - 1))), mem) := by
  unfold m_is_index b_is_index
  simp
def tupOf : D → Int → Bool | .tuple xs, n => decide ((xs.length : Int) = n) | _, _ => false
@[simp] theorem tupOf_t {xs : List D} {n : Int} : tupOf (.tuple xs) n = decide ((xs.length : Int) = n) := rfl
@[simp] theorem eqv_ii {i j : Int} : PyData.eqv (.int i) (.int j) = decide (i = j) := by
  rw [PyData.eqv]
  by_cases h : i = j <;> simp [h]
@[simp] theorem is_tuple_of_eq (mem : Mem) (x : D) (n : Int) : m_is_tuple_of mem [.d x, .d (.int n)] = .ok (.d (.bool (tupOf x n)), mem) := by
  unfold m_is_tuple_of b_is_tuple_of
  cases x <;> simp [tupOf]
/-- a pair of counts, of small tuples alone -/
def pairN : D → Bool | .tuple [x, y] => cnt x && cnt y | _ => false
@[simp] theorem is_pair_eq (mem : Mem) (x : D) : m_is_pair_of_numbers mem [.d x] = .ok (.d (.bool (pairN x)), mem) := by
  unfold m_is_pair_of_numbers b_is_pair_of_numbers
  cases x with
  | tuple xs =>
    match xs with
    | [] => simp [pairN]
    | [a] => simp [pairN]
    | [a, b] =>
      simp [pairN]
      cases h : cnt a <;> simp [h]
    | a :: b :: c :: r =>
      have : ¬ ((r.length : Int) + 1 + 1 + 1 = 2) := by omega
      simp [pairN, this]
  | _ => simp [pairN, tupOf]
theorem inB_small {i : Int} (h : 0 ≤ i) (h2 : i ≤ 16777216) : inB i = true := by rw [inB_eq]; simp; omega
theorem boolsOf_map {α : Type} (f : α → Bool) : ∀ (xs : List α), boolsOf (xs.map fun x => PyData.bool (f x)) = some (xs.map f)
  | [] => rfl
  | x :: xs => by
    show (boolsOf (xs.map fun x => PyData.bool (f x))).map (f x :: ·) = _
    rw [boolsOf_map f xs]
    rfl
theorem natsOf_pre {n : Int} {j : Nat} (h : n < (j : Int) + 1) : n.toNat ≤ j := by omega
/-- ints in order -/
def asc (ns : List Int) : Bool := (List.range (ns.length - 1)).all fun i => decide (ns.getD i 0 < ns.getD (i + 1) 0)
theorem boolsOf_of {α : Type} {f : α → D} (g : α → Bool) : ∀ {l : List α}, (∀ x ∈ l, f x = .bool (g x)) → boolsOf (l.map f) = some (l.map g)
  | [], _ => rfl
  | x :: l, h => by
    rw [List.map_cons, h x (List.mem_cons_self ..)]
    show (boolsOf (l.map f)).map (g x :: ·) = _
    rw [boolsOf_of g fun y hy => h y (List.mem_cons_of_mem _ hy)]
    rfl
def ascD (ns : List Int) : D → D | .int i => PyData.bool (decide (ns.getD i.toNat 0 < ns.getD (i.toNat + 1) 0)) | _ => .none
theorem asc_gen (mem : Mem) (ns : List Int) (hl : ns.length ≤ 16777216) (x : D) (hx : x = .list (ns.map PyData.int) ∨ x = .tuple (ns.map PyData.int)) :
    m_are_ascending mem [.d x] = .ok (.d (.bool (asc ns)), mem) := by
  unfold m_are_ascending b_are_ascending
  have hb : inB ((ns.length : Int) - 1) = true := by rw [inB_eq]; simp; omega
  have hs := sizeLine_big
  have hf : ∀ i ∈ List.range (ns.length - 1), (ascD ns ∘ fun (i : Nat) => PyData.int i) i = .bool (decide (ns.getD i 0 < ns.getD (i + 1) 0)) := fun i _ => by simp [ascD]
  rcases hx with rfl | rfl <;>
  · simp [hb]
    rw [lcGo_map (ascD ns)]
    · simp [boolsOf_of _ hf, asc]
    · intro d hd
      obtain ⟨i, hi, rfl⟩ := List.mem_map.mp hd
      have hi' : i < ns.length - 1 := List.mem_range.mp hi
      have h1 : i < ns.length := by omega
      have h2 : i + 1 < ns.length := by omega
      simp [h1, h2, ascD]
    · simp
      omega
@[simp] theorem asc_t (mem : Mem) (ns : List Int) (hl : ns.length ≤ 16777216) : m_are_ascending mem [.d (.tuple (ns.map PyData.int))] = .ok (.d (.bool (asc ns)), mem) := asc_gen mem ns hl _ (.inr rfl)
@[simp] theorem is_home_eq (mem : Mem) (x : D) : m_is_home mem [.d x] = .ok (.d (.bool (btw x 0 8)), mem) := by
  unfold m_is_home b_is_home
  simp
@[simp] theorem is_hand_eq (mem : Mem) (x : D) : m_is_hand mem [.d x] = .ok (.d (.bool (btw x 1 99)), mem) := by
  unfold m_is_hand b_is_hand
  simp
abbrev LET : Str := "abcdefghijklmnopqrstuvwxyz"
def nameS (z : Str) : Bool := decide (1 ≤ z.length) && (decide (z.length ≤ 8) && z.cps.toList.all fun c => decide (c ∈ LET.cps.toList))
def nameD : D → Bool | .str z => nameS z | _ => false
@[simp] theorem nameD_s {z : Str} : nameD (.str z) = nameS z := rfl
theorem is_name_eq (mem : Mem) (x : D) (hx : ∀ z, x = .str z → z.length ≤ 16777216) : m_is_name mem [.d x] = .ok (.d (.bool (nameD x)), mem) := by
  unfold m_is_name b_is_name
  cases x with
  | str z =>
    have h1 := hx z rfl
    have h2 : z.length ≤ SL.1 := SL_le h1
    by_cases c1 : 1 ≤ z.length
    · have c1' : (1 : Int) ≤ (z.length : Int) := by omega
      by_cases c2 : z.length ≤ 8
      · have c2' : (z.length : Int) ≤ 8 := by omega
        simp [h2, nameS, c1, c2, c1', c2']
        rw [lcGo_map (fun d => match d with
          | .str y => PyData.bool (decide (y.cps.toList.headD 0 ∈ LET.cps.toList))
          | _ => .none)]
        · rw [Res.bind_ok]
          simp
          rw [boolsOf_of fun c => decide (c ∈ LET.cps.toList)]
          · simp
          · intro c _
            simp
            congr
        · intro d hd
          obtain ⟨c, _, rfl⟩ := List.mem_map.mp hd
          simp
        · simp
          exact sl_le h1
      · have c2' : ¬ (z.length : Int) ≤ 8 := by omega
        simp [h2, nameS, c1, c2, c1', c2']
    · have c1' : ¬ (1 : Int) ≤ (z.length : Int) := by omega
      simp [h2, nameS, c1, c1']
  | _ => simp [nameD]
@[simp] theorem eqvAll_cons' (x y : D) (xs ys : List D) : PyData.eqvAll (x :: xs) (y :: ys) = (PyData.eqv x y && PyData.eqvAll xs ys) := by rw [PyData.eqvAll]
@[simp] theorem eqvAll_nil' : PyData.eqvAll [] [] = true := by rw [PyData.eqvAll]
@[simp] theorem eqvAll_nc (y : D) (ys : List D) : PyData.eqvAll [] (y :: ys) = false := by rw [PyData.eqvAll]
@[simp] theorem eqvAll_cn (y : D) (ys : List D) : PyData.eqvAll (y :: ys) [] = false := by rw [PyData.eqvAll]
@[simp] theorem eqv_tt (xs ys : List D) : PyData.eqv (.tuple xs) (.tuple ys) = PyData.eqvAll xs ys := by rw [PyData.eqv]
@[simp] theorem eqv_ll (xs ys : List D) : PyData.eqv (.list xs) (.list ys) = PyData.eqvAll xs ys := by rw [PyData.eqv]
@[simp] theorem canLay0_i (i : Int) : PyData.canLay0 (.int i) = true := by rw [PyData.canLay0]
@[simp] theorem canLay0_b (i : Bool) : PyData.canLay0 (.bool i) = true := by rw [PyData.canLay0]
@[simp] theorem canLay0_n : PyData.canLay0 .none = true := by rw [PyData.canLay0]
@[simp] theorem canLay0_t (xs : List D) : PyData.canLay0 (.tuple xs) = PyData.canLayAll0 xs := by rw [PyData.canLay0]
@[simp] theorem canLay0_l (xs : List D) : PyData.canLay0 (.list xs) = PyData.canLayAll0 xs := by rw [PyData.canLay0]
@[simp] theorem canLayAll0_nil : PyData.canLayAll0 [] = true := by rw [PyData.canLayAll0]
@[simp] theorem canLayAll0_cons (x : D) (xs : List D) : PyData.canLayAll0 (x :: xs) = (PyData.canLay0 x && PyData.canLayAll0 xs) := by rw [PyData.canLayAll0]
@[simp] theorem depth_i (i : Int) : PyData.depth (.int i) = 0 := by rw [PyData.depth]
@[simp] theorem depth_b (i : Bool) : PyData.depth (.bool i) = 0 := by rw [PyData.depth]
@[simp] theorem depth_n : PyData.depth .none = 0 := by rw [PyData.depth]
@[simp] theorem depth_s (x : Str) : PyData.depth (.str x) = 0 := by rw [PyData.depth]
@[simp] theorem depth_t (xs : List D) : PyData.depth (.tuple xs) = PyData.depthAll xs + 1 := by rw [PyData.depth]
@[simp] theorem depth_l (xs : List D) : PyData.depth (.list xs) = PyData.depthAll xs + 1 := by rw [PyData.depth]
@[simp] theorem depthAll_nil : PyData.depthAll [] = 0 := by rw [PyData.depthAll]
@[simp] theorem depthAll_cons (x : D) (xs : List D) : PyData.depthAll (x :: xs) = max (PyData.depth x) (PyData.depthAll xs) := by rw [PyData.depthAll]
@[simp] theorem shaped_eq (d : D) : SeqAt.shaped d = (d.canLay0 && decide (d.depth ≤ 64)) := rfl
def stampD : D → Bool | .tuple [.int i, .int j] => decide (0 ≤ i) && (decide (0 ≤ j) && ((decide (i = 0) && decide (j = 0)) || (decide (1 ≤ i) && (decide (1 ≤ j) && decide (j ≤ 99))))) | _ => false
@[simp] theorem is_stamp_eq (mem : Mem) (x : D) : m_is_stamp mem [.d x] = .ok (.d (.bool (stampD x)), mem) := by
  unfold m_is_stamp b_is_stamp
  by_cases h : pairN x = true
  · have hx : ∃ i j : Int, x = .tuple [.int i, .int j] ∧ 0 ≤ i ∧ 0 ≤ j := by
      unfold pairN at h
      split at h
      · rename_i a b
        cases a <;> cases b <;> simp [cnt] at h
        exact ⟨_, _, rfl, h.1, h.2⟩
      · cases h
    obtain ⟨i, j, rfl, hi, hj⟩ := hx
    simp [pairN, hi, hj, stampD]
    by_cases h1 : i = 0 ∧ j = 0
    · obtain ⟨rfl, rfl⟩ := h1
      simp
    · rw [if_neg h1]
      by_cases h2 : 1 ≤ i
      · simp [h2]
        omega
      · simp [h2]
        omega
  · have h' : pairN x = false := by simpa using h
    have h2 : stampD x = false := by
      unfold stampD
      split
      · rename_i i j
        simp [pairN] at h'
        by_cases hi : 0 ≤ i
        · have := h' hi
          simp [hi]
          omega
        · simp [hi]
      · rfl
    simp [h', h2]
@[simp] theorem boolsOf_nil : boolsOf [] = some [] := rfl
@[simp] theorem boolsOf_c (b : Bool) (r : List D) : boolsOf (.bool b :: r) = (boolsOf r).map (b :: ·) := rfl
theorem members_0 (mem : Mem) : m_is_members mem [.d (.tuple [])] = .ok (.d (.bool false), mem) := by
  unfold m_is_members b_is_members
  simp
theorem asc2 (mem : Mem) (i j : Int) : m_are_ascending mem [.d (.tuple [.int i, .int j])] = .ok (.d (.bool (decide (i < j))), mem) := by
  have h := asc_t mem [i, j] (by simp)
  simpa [asc, show List.range 1 = [0] from rfl] using h
theorem members_2 (mem : Mem) (k : Int) (h1 : 1 ≤ k) (h2 : k ≤ 8) : m_is_members mem [.d (.tuple [.int 0, .int k])] = .ok (.d (.bool true), mem) := by
  unfold m_is_members b_is_members
  have h3 : 0 ≤ k := by omega
  have h4 : 0 < k := by omega
  simp [lcGo, asc2, h2, h3, h4]
theorem ahead_0 (mem : Mem) : m_is_ahead mem [.d (.tuple [])] = .ok (.d (.bool true), mem) := by
  unfold m_is_ahead b_is_ahead
  simp [members_0]
theorem asc0 (mem : Mem) : m_are_ascending mem [.d (.list [])] = .ok (.d (.bool true), mem) := by
  have h := asc_gen mem [] (by decide) (.list []) (.inl rfl)
  simpa [asc] using h
theorem heads_0 (mem : Mem) : m_are_heads mem [.d (.tuple [])] = .ok (.d (.bool true), mem) := by
  unfold m_are_heads b_are_heads
  simp [lcGo, asc0]
theorem blocks_0 (mem : Mem) : m_are_blocks mem [.d (.tuple [])] = .ok (.d (.bool true), mem) := by
  unfold m_are_blocks b_are_blocks
  simp [lcGo, asc0]
theorem leases_0 (mem : Mem) : m_are_leases mem [.d (.tuple [])] = .ok (.d (.bool true), mem) := by
  unfold m_are_leases b_are_leases
  simp [lcGo, asc0]
theorem asc1 (mem : Mem) (x : Str) : m_are_ascending mem [.d (.list [.str x])] = .ok (.d (.bool true), mem) := by
  unfold m_are_ascending b_are_ascending
  simp [lcGo, inB_eq]
theorem row_n (mem : Mem) : m_is_row mem [.d .none] = .ok (.d (.bool true), mem) := by
  unfold m_is_row b_is_row
  simp
theorem head_m (mem : Mem) : m_is_named_head mem [.d (.tuple [.str "m", .tuple [.int 1, .int 1], .none])] = .ok (.d (.bool true), mem) := by
  unfold m_is_named_head b_is_named_head
  have h := is_name_eq mem (.str "m") (fun z e => by cases e; decide)
  have h2 : nameS "m" = true := by decide +kernel
  simp [h, h2, row_n, stampD]
theorem heads_1 (mem : Mem) : m_are_heads mem [.d (.tuple [.tuple [.str "m", .tuple [.int 1, .int 1], .none]])] = .ok (.d (.bool true), mem) := by
  unfold m_are_heads b_are_heads
  simp [lcGo, asc1, head_m]
abbrev H1 : D := .tuple [.tuple [.str "m", .tuple [.int 1, .int 1], .none]]
abbrev T0 : D := .tuple []
abbrev P2 (i j : Int) : D := .tuple [.int i, .int j]
abbrev tabL (e : Int) (mm : D) (clock : Int) (hd later : D) : List D := [.int e, mm, T0, .int clock, hd, T0, T0, P2 0 0, .none, later]
theorem kept_tab (mem : Mem) (e clock : Int) (mm hd later : D) (hh : hd = T0 ∨ hd = H1) (hl : later = .none ∨ later = P2 0 2) : m_is_kept mem [.d (.tuple (tabL e mm clock hd later))] = .ok (.d (.bool (decide (0 ≤ clock))), mem) := by
  unfold m_is_kept b_is_kept
  have e1 := members_2 mem 2 (by decide) (by decide)
  by_cases hc : 0 ≤ clock
  · rcases hh with rfl | rfl <;> rcases hl with rfl | rfl <;> simp [ahead_0, hc, heads_0, heads_1, blocks_0, leases_0, stampD, e1]
  · simp [ahead_0, hc]
theorem kept_bad (mem : Mem) (x : D) (h : tupOf x 10 = false) : m_is_kept mem [.d x] = .ok (.d (.bool false), mem) := by
  unfold m_is_kept b_is_kept
  simp [h]
theorem table_ok (mem : Mem) (e clock : Int) (later : D) (he : 0 ≤ e) (hc : 0 ≤ clock) (hl : later = .none ∨ later = P2 0 2) : m_is_table mem [.d (.tuple (tabL e (P2 0 1) clock H1 later))] = .ok (.d (.bool true), mem) := by
  unfold m_is_table b_is_table
  have e1 := members_2 mem 1 (by decide) (by decide)
  simp [kept_tab mem e clock (P2 0 1) H1 later (.inr rfl) hl, hc, he, e1]
theorem table_no (mem : Mem) : m_is_table mem [.d (.tuple (tabL (-1) T0 0 T0 .none))] = .ok (.d (.bool true), mem) := by
  unfold m_is_table b_is_table
  simp [kept_tab mem (-1) 0 T0 T0 .none (.inl rfl) (.inl rfl), lcGo]
theorem table_clock (mem : Mem) (e clock : Int) (mm hd later : D) (hh : hd = T0 ∨ hd = H1) (hl : later = .none ∨ later = P2 0 2) (hc : clock < 0) : m_is_table mem [.d (.tuple (tabL e mm clock hd later))] = .ok (.d (.bool false), mem) := by
  unfold m_is_table b_is_table
  have : ¬ 0 ≤ clock := by omega
  simp [kept_tab mem e clock mm hd later hh hl, this]
theorem table_m2 (mem : Mem) (clock : Int) (mm hd later : D) (hh : hd = T0 ∨ hd = H1) (hl : later = .none ∨ later = P2 0 2) (hc : 0 ≤ clock) : m_is_table mem [.d (.tuple (tabL (-2) mm clock hd later))] = .ok (.d (.bool false), mem) := by
  unfold m_is_table b_is_table
  simp [kept_tab mem (-2) clock mm hd later hh hl, hc]
theorem table_bad (mem : Mem) (x : D) (h : tupOf x 10 = false) : m_is_table mem [.d x] = .ok (.d (.bool false), mem) := by
  unfold m_is_table b_is_table
  simp [kept_bad mem x h]
theorem check_table_t (mem : Mem) (x : D) (h : m_is_table mem [.d x] = .ok (.d (.bool true), mem)) : m_check_table mem [.d x] = .ok (.d .none, mem) := by
  unfold m_check_table b_check_table
  simp [h]
theorem check_table_f (mem : Mem) (x : D) (h : m_is_table mem [.d x] = .ok (.d (.bool false), mem)) : m_check_table mem [.d x] = .exc "NoTable" := by
  unfold m_check_table b_check_table
  simp [h]
def isN : D → Bool | .none => true | _ => false
@[simp] theorem isN_n : isN .none = true := rfl
@[simp] theorem isN_t (xs : List D) : isN (.tuple xs) = false := rfl
theorem keeps_tab (mem : Mem) (e clock : Int) (mm hd later : D) (hl : later = .none ∨ later = P2 0 2) : m_keeps mem [.d (.tuple (tabL e mm clock hd later))] = .ok (.d (.bool (decide (0 ≤ e) && isN later)), mem) := by
  unfold m_keeps b_keeps
  by_cases he : 0 ≤ e <;> rcases hl with rfl | rfl <;> simp [he]
theorem begin_ok (mem : Mem) (i j e clock : Int) (mm hd later : D) (hi : 0 ≤ i ∧ i ≤ 8) (hj : 0 ≤ j ∧ j ≤ 8) (hij : j ≠ i) (ht : m_is_table mem [.d (.tuple (tabL e mm clock hd later))] = .ok (.d (.bool true), mem)) (hl : later = .none ∨ later = P2 0 2) :
    m_begin_mending mem [.d (.int i), .d (.tuple (tabL e mm clock hd later)), .d (.int j)] = .ok (.d (.tuple (if 0 ≤ e ∧ isN later = true then [.tuple [.tuple [.str "home", .int j], .tuple [.str "home", .int i], .int 0, .str "sums", .tuple [.int e, .int 2]]] else [])), mem) := by
  unfold m_begin_mending b_begin_mending m_written b_written
  by_cases he : 0 ≤ e <;> rcases hl with rfl | rfl <;> simp [hi, hj, hij, check_table_t mem _ ht, keeps_tab mem e clock mm hd, he]
theorem begin_home (mem : Mem) (x t y : D) (h : btw x 0 8 = false) : m_begin_mending mem [.d x, .d t, .d y] = .exc "NoHomeNumber" := by
  unfold m_begin_mending b_begin_mending
  simp [h]
theorem begin_table (mem : Mem) (x t y : D) (h : btw x 0 8 = true) (ht : m_is_table mem [.d t] = .ok (.d (.bool false), mem)) : m_begin_mending mem [.d x, .d t, .d y] = .exc "NoTable" := by
  unfold m_begin_mending b_begin_mending
  simp [h, check_table_f mem t ht]
theorem begin_other (mem : Mem) (x t y : D) (h : btw x 0 8 = true) (ht : m_is_table mem [.d t] = .ok (.d (.bool true), mem)) (hy : btw y 0 8 = false ∨ ∃ i : Int, x = .int i ∧ y = .int i) : m_begin_mending mem [.d x, .d t, .d y] = .exc "NoHomeNumber" := by
  unfold m_begin_mending b_begin_mending
  rcases hy with hy | ⟨i, rfl, rfl⟩
  · simp [h, check_table_t mem t ht, hy]
  · cases hb : btw (.int i) 0 8 with
    | false => rw [hb] at h; cases h
    | true =>
      simp only [btw_i] at hb
      simp [check_table_t mem t ht, hb]
end K43

set_option Elab.async false
set_option linter.all false
set_option maxRecDepth 100000
set_option maxHeartbeats 4000000
set_option exponentiation.threshold 2000
namespace K43
open PySem PySem.Spec PyProof.Rows L2 PD
theorem log2_le_of {n k : Nat} (h : n < 2 ^ k) : n.log2 ≤ k := by
  by_cases h0 : n = 0
  · subst h0; simp
  · exact Nat.le_of_lt ((Nat.log2_lt h0).mpr h)
theorem cMul_pow {i j : Int} (n m : Nat) (hi : i.natAbs < 2 ^ n) (hj : j.natAbs < 2 ^ m) (h : n + m < 1000000) : cMul i j = true := by
  unfold cMul
  have h1 := log2_le_of hi
  have h2 := log2_le_of hj
  exact decide_eq_true (by omega)
theorem cDiv_pow {i j : Int} (m : Nat) (h0 : 0 < j) (hj : j.natAbs < 2 ^ m) (h : m < 9000) : cDiv i j = true := by
  unfold cDiv
  have h2 := log2_le_of hj
  rw [decide_eq_true h0, decide_eq_true (show j.natAbs.log2 < 9000 by omega)]
  rfl
theorem let_le : ∀ c ∈ LET.cps.toList, 97 ≤ c ∧ c ≤ 122 := by decide +kernel
theorem raw_number_ok (mem : Mem) (z : Str) (i j : Int) (hz : nameS z = true) (hi : 0 ≤ i ∧ i < 2 ^ 200) : ∃ n : Int, m_raw_number_of mem [.d (.str z), .d (.tuple [.int i, .int j])] = .ok (.d (.int n), mem) := by
  unfold m_raw_number_of b_raw_number_of
  simp only [nameS, Bool.and_eq_true, decide_eq_true_eq, List.all_eq_true] at hz
  obtain ⟨h1, h2, h3⟩ := hz
  have hlen : z.cps.toList.length = z.length := rfl
  have w : (fnOf ["name", "stamp", "total", "sign"] b_raw_number_of.1 mem [.d (.str z), .d (.tuple [.int i, .int j])]).wp (fun q => ∃ n : Int, q = (.d (.int n), mem)) fun _ => False := by
    unfold b_raw_number_of
    simp
    rw [Res.wp_bind]
    refine forGo_wp (fun xs s => ∃ (t : Int) (k : Nat) (g : Option W), s = ⟨[some (.d (.str z)), some (.d (.tuple [.int i, .int j])), some (.d (.int t)), g], mem, mem.length⟩ ∧ xs.length + k ≤ 8 ∧ t.natAbs < 2 ^ (30 * (k + 1)) ∧ ∀ d ∈ xs, ∃ c : Nat, d = .str ⟨#[c]⟩ ∧ c ≤ 122) ?_ ?_ _ _ ?_
    · rintro d r s ⟨t, k, g, rfl, hl, ht, hd⟩
      obtain ⟨c, rfl, hc⟩ := hd d (List.mem_cons_self ..)
      rw [List.length_cons] at hl
      have hp : 2 ^ (30 * (k + 1)) ≤ 2 ^ (30 * 9) := Nat.pow_le_pow_right (by decide) (by omega)
      have hm : cMul t 27 = true := cMul_pow 270 5 (by omega) (by decide) (by decide)
      have e1 : (⟨#[c]⟩ : Str).length = 1 := rfl
      simp [hm, e1]
      refine ⟨k + 1, by omega, ?_, fun d hd' => hd d (List.mem_cons_of_mem _ hd')⟩
      rw [show 30 * (k + 1 + 1) = 30 * (k + 1) + 30 by omega, Nat.pow_add]
      have hp2 : 1 ≤ 2 ^ (30 * (k + 1)) := Nat.one_le_two_pow
      generalize 2 ^ (30 * (k + 1)) = A at *
      omega
    · rintro s ⟨t, k, g, rfl, hl, ht, hd⟩
      have hp : 2 ^ (30 * (k + 1)) ≤ 2 ^ (30 * 9) := Nat.pow_le_pow_right (by decide) (by omega)
      have hm : cMul t (10 ^ 6) = true := cMul_pow 270 20 (by omega) (by decide) (by decide)
      have hm2 : cMul (t * 10 ^ 6 + i) 100 = true := cMul_pow 400 7 (by omega) (by decide) (by decide)
      have hq : cPow 10 6 = true := by decide
      simp at hm hm2
      simp [hm, hm2, hq]
    · refine ⟨0, 0, none, rfl, ?_, by decide, fun d hd => ?_⟩
      · simp; exact h2
      · obtain ⟨c, hc, rfl⟩ := List.mem_map.mp hd
        exact ⟨c, rfl, (let_le c (h3 c hc)).2⟩
  obtain ⟨q, e, n, rfl⟩ := Res.ok_of_wp w
  exact ⟨n, by rw [← e]; rfl⟩
end K43

set_option Elab.async false
set_option linter.all false
set_option maxRecDepth 100000
set_option maxHeartbeats 4000000
set_option exponentiation.threshold 4000
namespace K43
open PySem PySem.Spec PyProof.Rows L2 PD
/-! ### the inverse modulo a prime -/
structure Pr (p : Int) : Prop where
  two : 2 ≤ p
  big : p < 2 ^ 90
  pr : ∀ d : Int, 0 < d → d ∣ p → d = 1 ∨ d = p
def muE (l r : Int) : Nat := if l * r = 0 then 0 else (l * r).toNat.log2 + 1
theorem muE_lt {l r : Int} (hr : 0 < r) (hl : r ≤ l) : muE r (l - l / r * r) < muE l r := by
  have h0 : 0 < l * r := Int.mul_pos (by omega) hr
  have hm : l - l / r * r = l % r := by have := Int.mul_ediv_add_emod l r; grind
  have hm1 : 0 ≤ l % r := Int.emod_nonneg _ (by omega)
  have hm2 : l % r < r := Int.emod_lt_of_pos _ hr
  have hq : 1 ≤ l / r := by
    have := Int.mul_ediv_add_emod l r
    have hnn : 0 ≤ l / r := Int.ediv_nonneg (by omega) (by omega)
    by_cases h : l / r = 0
    · rw [h] at this
      omega
    · omega
  rw [hm]
  unfold muE
  rw [if_neg (show ¬ l * r = 0 by omega)]
  split
  · omega
  · rename_i h1
    have e2 : r * (l % r) * 2 ≤ l * r := by
      have e3 := Int.mul_ediv_add_emod l r
      have e4 : l % r * 2 ≤ l := by
        have : r * 1 ≤ r * (l / r) := Int.mul_le_mul_of_nonneg_left hq (by omega)
        omega
      have := Int.mul_le_mul_of_nonneg_left e4 (show 0 ≤ r by omega)
      grind
    have h2 : 0 ≤ r * (l % r) := Int.mul_nonneg (by omega) hm1
    have h3 : (r * (l % r)).toNat * 2 ≤ (l * r).toNat := by omega
    have h4 : (r * (l % r)).toNat ≠ 0 := by omega
    have h5 : (r * (l % r)).toNat.log2 + 1 ≤ (l * r).toNat.log2 := by
      have := Nat.log2_self_le h4
      refine (Nat.le_log2 (by omega)).mpr ?_
      rw [Nat.pow_succ]
      omega
    omega
theorem muE_top {l r : Int} (h1 : 0 ≤ l) (h2 : 0 ≤ r) (h3 : l < 2 ^ 90) (h4 : r < 2 ^ 90) : muE l r < 2000 := by
  unfold muE
  split
  · decide
  · rename_i h
    have : l * r < 2 ^ 90 * 2 ^ 90 := by
      have a1 : l * r ≤ l * 2 ^ 90 := Int.mul_le_mul_of_nonneg_left (by omega) h1
      have a2 : l * 2 ^ 90 < 2 ^ 90 * 2 ^ 90 := Int.mul_lt_mul_of_pos_right h3 (by decide)
      omega
    have h5 : (l * r).toNat < 2 ^ 180 := by
      have : 0 ≤ l * r := Int.mul_nonneg h1 h2
      omega
    have := log2_le_of h5
    omega
theorem natAbs_sub_le (o t q : Int) (hq : 0 ≤ q) : ((o - q * t).natAbs : Int) ≤ o.natAbs + q * t.natAbs := by
  have h1 : ((q * t).natAbs : Int) = q * t.natAbs := by 
    rw [Int.natAbs_mul]
    have : (q.natAbs : Int) = q := by omega
    simp [this]
  omega
theorem inverse_ok (mem : Mem) (p a : Int) (hp : 2 ≤ p) (hb : p < 2 ^ 90) : (m_inverse mem [.d (.int p), .d (.int a)]).wp (fun q => ∃ r : Int, q = (.d (.int r), mem) ∧ 0 ≤ r ∧ r < p ∧ (Pr p → a % p ≠ 0 → (a * r) % p = 1)) fun _ => False := by
  unfold m_inverse b_inverse
  have hp0 : 0 < p := by omega
  simp [hp0]
  rw [Res.wp_bind]
  refine whGo_wp (fun s => ∃ (l r o t : Int) (tm : Option W), s = ⟨[some (.d (.int p)), some (.d (.int a)), some (.d (.int l)), some (.d (.int r)), some (.d (.int o)), some (.d (.int t)), tm], mem, mem.length⟩ ∧ 0 < l ∧ 0 ≤ r ∧ r ≤ l ∧ l ≤ p ∧ o.natAbs * r + t.natAbs * l ≤ p ∧ p ∣ (o * a - l) ∧ p ∣ (t * a - r) ∧ (Pr p → a % p ≠ 0 → ∀ d : Int, 0 < d → d ∣ l → d ∣ r → d = 1)) (fun s => match s.env with
    | [_, _, some (.d (.int l)), some (.d (.int r)), _, _, _] => muE l r
    | _ => 0) ?_ _ _ ?_ ?_
  · rintro s ⟨l, r, o, t, tm, rfl, h1, h2, h3, h4, h5, h6, h7, h8⟩
    by_cases hr : 0 < r
    · have hq0 : 0 ≤ l / r := Int.ediv_nonneg (by omega) (by omega)
      have hql : l / r ≤ l := Int.ediv_le_self _ (by omega)
      have hm : l - l / r * r = l % r := by have := Int.mul_ediv_add_emod l r; grind
      have hm1 : 0 ≤ l % r := Int.emod_nonneg _ (by omega)
      have hm2 : l % r < r := Int.emod_lt_of_pos _ hr
      have ht : (t.natAbs : Int) ≤ p := by
        have a1 : (t.natAbs : Int) * 1 ≤ t.natAbs * l := Int.mul_le_mul_of_nonneg_left (by omega) (by omega)
        have a2 : 0 ≤ (o.natAbs : Int) * r := Int.mul_nonneg (by omega) h2
        omega
      have c1 : cDiv l r = true := cDiv_pow 90 hr (by omega) (by decide)
      have c2 : cMul (l / r) r = true := cMul_pow 91 91 (by omega) (by omega) (by decide)
      have c3 : cMul (l / r) t = true := cMul_pow 91 91 (by omega) (by omega) (by decide)
      simp [hr, c1, c2, c3]
      rw [hm]
      refine ⟨⟨r, l % r, t, o - l / r * t, ⟨rfl, rfl, rfl, rfl⟩, hr, hm1, by omega, by omega, ?_, h7, ?_, fun hP ha d hd d1 d2 => ?_⟩, ?_⟩
      · have b1 := natAbs_sub_le o t (l / r) hq0
        have b2 : ((o - l / r * t).natAbs : Int) * r ≤ (o.natAbs + l / r * t.natAbs) * r := Int.mul_le_mul_of_nonneg_right b1 h2
        have b3 : (t.natAbs : Int) * (l - l / r * r) + ((o.natAbs : Int) + l / r * t.natAbs) * r = o.natAbs * r + t.natAbs * l := by grind
        rw [hm] at b3
        omega
      · rw [← hm]
        obtain ⟨x, hx⟩ := h6
        obtain ⟨y, hy⟩ := h7
        exact ⟨x - l / r * y, by grind⟩
      · refine h8 hP ha d hd ?_ d1
        obtain ⟨x, hx⟩ := d1
        obtain ⟨y, hy⟩ := d2
        rw [← hm] at hy
        exact ⟨l / r * x + y, by grind⟩
      · rw [← hm]
        exact muE_lt hr h3
    · have hr0 : r = 0 := by omega
      subst hr0
      simp [hr, hp0]
      refine ⟨Int.emod_nonneg _ (by omega), Int.emod_lt_of_pos _ hp0, fun hP ha => ?_⟩
      have hl1 : l = 1 := h8 hP ha l h1 (Int.dvd_refl l) (Int.dvd_zero l)
      subst hl1
      obtain ⟨x, hx⟩ := h6
      have e1 : (a * (o % p)) % p = (a * o) % p := by rw [Int.mul_emod, Int.emod_emod_of_dvd _ (Int.dvd_refl p), ← Int.mul_emod]
      rw [e1]
      have e2 : a * o = 1 + p * x := by grind
      rw [e2, Int.add_mul_emod_self_left]
      exact Int.emod_eq_of_lt (by decide) (by omega)
  · refine ⟨p, a % p, 0, 1, none, rfl, hp0, Int.emod_nonneg _ (by omega), Int.le_of_lt (Int.emod_lt_of_pos _ hp0), Int.le_refl _, by simp, by simp, ⟨a / p, by have := Int.mul_ediv_add_emod a p; grind⟩, fun hP ha d hd d1 d2 => ?_⟩
    rcases hP.pr d hd d1 with h | h
    · exact h
    · subst h
      have h1 : 0 ≤ a % d := Int.emod_nonneg _ (by omega)
      have h2 : a % d < d := Int.emod_lt_of_pos _ hp0
      have h3 := Int.le_of_dvd (by omega) d2
      omega
  · rw [rounds.2]; exact muE_top (by omega) (Int.emod_nonneg _ (by omega)) hb (by have := Int.emod_lt_of_pos a hp0; omega)
end K43

set_option Elab.async false
set_option linter.all false
set_option maxRecDepth 100000
set_option maxHeartbeats 4000000
set_option exponentiation.threshold 4000
namespace K43
open PySem PySem.Spec PyProof.Rows L2 PD
abbrev IL (xs : List Int) : List D := xs.map PyData.int
theorem cutD_to {xs : List D} {h : Int} (h0 : 0 ≤ h) : PD.cutD xs none (some h) = xs.take h.toNat := by
  obtain ⟨k, rfl⟩ := Int.eq_ofNat_of_zero_le h0
  unfold PD.cutD
  rw [HT.sIx_nat, HT.sIx_none]
  simp
theorem cutD_from {xs : List D} {h : Int} (h0 : 0 ≤ h) : PD.cutD xs (some h) none = xs.drop h.toNat := by
  obtain ⟨k, rfl⟩ := Int.eq_ofNat_of_zero_le h0
  unfold PD.cutD
  rw [HT.sIx_nat, HT.sIx_none]
  by_cases h : k ≤ xs.length
  · rw [Nat.min_eq_left h, List.take_of_length_le (by simp)]
    rfl
  · rw [Nat.min_eq_right (by omega)]
    simp
    omega
def nth (ns : List Int) (i : Nat) : Int := ns.getD i 0
theorem nth_some {ns : List Int} {i : Nat} (h : i < ns.length) : (IL ns)[i]? = some (.int (nth ns i)) := by
  simp [nth, List.getD_eq_getElem?_getD, h]
theorem nth_out {ns : List Int} {i : Nat} (h : ns.length ≤ i) : nth ns i = 0 := by
  simp [nth, List.getD_eq_getElem?_getD, h]
theorem nth_get {ns : List Int} {i : Nat} (h : i < ns.length) : nth ns i = ns[i] := by
  simp [nth, List.getD_eq_getElem?_getD, h]
theorem atI_pos {α : Type} {l : List α} {i : Int} (h : 0 ≤ i) : atI l i = l[i.toNat]? := by
  obtain ⟨k, rfl⟩ := Int.eq_ofNat_of_zero_le h
  exact atI_nat
theorem trimmed_ok (mem : Mem) (ns : List Int) (hl : ns.length < 1000) : (m_trimmed mem [.d (.list (IL ns))]).wp (fun q => ∃ k : Nat, q = (.f (IL (ns.take k)), mem) ∧ k ≤ ns.length ∧ (k = 0 ∨ nth ns (k - 1) ≠ 0) ∧ ∀ i, k ≤ i → i < ns.length → nth ns i = 0) fun _ => False := by
  unfold m_trimmed b_trimmed
  simp
  rw [Res.wp_bind]
  refine whGo_wp (fun s => ∃ (k : Nat), s = ⟨[some (.d (.list (IL ns))), some (.d (.int k))], mem, mem.length⟩ ∧ k ≤ ns.length ∧ ∀ i, k ≤ i → i < ns.length → nth ns i = 0) (fun s => match s.env with
    | [_, some (.d (.int k))] => k.toNat
    | _ => 0) ?_ _ _ ?_ ?_
  · rintro s ⟨k, rfl, hk, h0⟩
    have done : ∀ s : S, s = ⟨[some (.d (.list (IL ns))), some (.d (.int k))], mem, mem.length⟩ → (k = 0 ∨ nth ns (k - 1) ≠ 0) → ((fin mem ((sRet (eB1 gList (eSl (eVar 0) oNone (oSome (eVar 1)))) s)))).wp (fun q => ∃ k : Nat, q = (.f (IL (ns.take k)), mem) ∧ k ≤ ns.length ∧ (k = 0 ∨ nth ns (k - 1) ≠ 0) ∧ ∀ i, k ≤ i → i < ns.length → nth ns i = 0) fun _ => False := by
      rintro s rfl h1
      simp [cutD_to (show (0 : Int) ≤ (k : Int) by omega)]
      exact ⟨k, by simp, hk, h1, h0⟩
    by_cases hk0 : k = 0
    · subst hk0
      have := done _ rfl (.inl rfl)
      simp at this
      simpa using this
    · have hk1 : 0 < k := by omega
      have e1 : atI (IL ns) ((k : Int) - 1) = some (.int (nth ns (k - 1))) := by
        rw [atI_pos (by omega)]
        have : ((k : Int) - 1).toNat = k - 1 := by omega
        rw [this]
        exact nth_some (by omega)
      by_cases hz : nth ns (k - 1) = 0
      · simp [hk1, e1, hz]
        refine ⟨⟨k - 1, by omega, by omega, fun i h1 h2 => ?_⟩, by omega⟩
        by_cases h3 : i = k - 1
        · rw [h3]; exact hz
        · exact h0 i (by omega) h2
      · have := done _ rfl (.inr hz)
        simp at this
        simpa [hk1, e1, hz] using this
  · exact ⟨ns.length, by simp, Nat.le_refl _, fun i h1 h2 => by omega⟩
  · rw [rounds.2]; simp
    omega
/-- numbers below p -/
def Low (p : Int) (ns : List Int) : Prop := ∀ x ∈ ns, 0 ≤ x ∧ x < p
theorem Low.nth {p : Int} {ns : List Int} (h : Low p ns) {i : Nat} (hp : 0 < p) : 0 ≤ nth ns i ∧ nth ns i < p := by
  by_cases hi : i < ns.length
  · rw [nth_get hi]; exact h _ (List.getElem_mem hi)
  · rw [nth_out (by omega)]; omega
theorem Low.take {p : Int} {ns : List Int} (h : Low p ns) (k : Nat) : Low p (ns.take k) := fun x hx => h x (List.mem_of_mem_take hx)
theorem Low.drop {p : Int} {ns : List Int} (h : Low p ns) (k : Nat) : Low p (ns.drop k) := fun x hx => h x (List.mem_of_mem_drop hx)
theorem Low.app {p : Int} {ns ms : List Int} (h : Low p ns) (h2 : Low p ms) : Low p (ns ++ ms) := fun x hx => (List.mem_append.mp hx).elim (h x) (h2 x)
theorem Low.mod {p x : Int} (hp : 0 < p) : 0 ≤ x % p ∧ x % p < p := ⟨Int.emod_nonneg _ (by omega), Int.emod_lt_of_pos _ hp⟩
theorem mul90 {i j p : Int} (hb : p < 2 ^ 90) (hi : 0 ≤ i ∧ i < p) (hj : 0 ≤ j ∧ j < p) : cMul i j = true := cMul_pow 90 90 (by omega) (by omega) (by decide)
theorem mulA {i j : Int} (hi : -(2 ^ 400) < i ∧ i < 2 ^ 400) (hj : -(2 ^ 400) < j ∧ j < 2 ^ 400) : cMul i j = true := cMul_pow 400 400 (by omega) (by omega) (by decide)
theorem at_place_ok (mem : Mem) (p x : Int) (ns : List Int) (d : D) (hd : d = .list (IL ns) ∨ d = .tuple (IL ns)) (hp : 0 < p) (hb : p < 2 ^ 90) (hx : 0 ≤ x ∧ x < p) (hn : Low p ns) :
    (m_at_place mem [.d (.int p), .d d, .d (.int x)]).wp (fun q => ∃ r : Int, q = (.d (.int r), mem) ∧ 0 ≤ r ∧ r < p) fun _ => False := by
  unfold m_at_place b_at_place
  have key : ∀ (xs : List Int), Low p xs → ∀ c0 : Option W, (forGo (gT1 4) (sSet false 3 (eMod (eBin gAdd (eBin gMul (eVar 3) (eVar 2)) (eVar 4)) (eVar 0))) (IL xs) ⟨[some (.d (.int p)), some (.d d), some (.d (.int x)), some (.d (.int 0)), c0], mem, mem.length⟩).wp (fun q => ∃ (r : Int) (c : Option W), q = (.nx, ⟨[some (.d (.int p)), some (.d d), some (.d (.int x)), some (.d (.int r)), c], mem, mem.length⟩) ∧ 0 ≤ r ∧ r < p) fun _ => False := by
    intro xs hxs c0
    refine forGo_wp (fun ys s => ∃ (r : Int) (c : Option W) (zs : List Int), s = ⟨[some (.d (.int p)), some (.d d), some (.d (.int x)), some (.d (.int r)), c], mem, mem.length⟩ ∧ ys = IL zs ∧ Low p zs ∧ 0 ≤ r ∧ r < p) ?_ ?_ _ _ ⟨0, c0, xs, rfl, rfl, hxs, Int.le_refl _, hp⟩
    · rintro e ys s ⟨r, c, zs, rfl, hy, hz, h0, h1⟩
      cases zs with
      | nil => cases hy
      | cons z zs =>
        cases hy
        simp [hp, mul90 hb ⟨h0, h1⟩ hx]
        exact ⟨zs, rfl, fun y hy => hz y (List.mem_cons_of_mem _ hy), Low.mod hp⟩
    · rintro s ⟨r, c, zs, rfl, hy, hz, h0, h1⟩
      exact ⟨r, c, rfl, h0, h1⟩
  have hr : Low p ns.reverse := fun y hy => hn y (List.mem_reverse.mp hy)
  have k2 := key ns.reverse hr
  rcases hd with rfl | rfl <;>
  · simp
    simp only [IL, List.map_reverse] at k2
    refine Res.wp_then (k2 none) (fun q hq => ?_) fun _ h => h
    obtain ⟨r, c, rfl, h0, h1⟩ := hq
    simp
    exact ⟨h0, h1⟩
theorem last_some {ns : List Int} (h : ns ≠ []) : (IL ns).getLast? = some (.int (nth ns (ns.length - 1))) := by
  have h1 : 0 < ns.length := List.length_pos_iff.mpr h
  rw [List.getLast?_eq_getElem?]
  have : (IL ns).length - 1 = ns.length - 1 := by simp
  rw [this]
  exact nth_some (by omega)
theorem nth_map (f : Int → Int) {ns : List Int} {i : Nat} (h : i < ns.length) : nth (ns.map f) i = f (nth ns i) := by
  rw [nth_get h, nth_get (by simpa using h)]
  simp
theorem IL_map (f : Int → Int) (ns : List Int) (g : D → D) (h : ∀ i, g (.int i) = .int (f i)) : (IL ns).map g = IL (ns.map f) := by
  simp [h]
theorem monic_ok (mem : Mem) (p : Int) (ns : List Int) (hp : 2 ≤ p) (hb : p < 2 ^ 90) (hn : Low p ns) (hne : ns ≠ []) (hl : ns.length < 1000) :
    (m_monic mem [.d (.int p), .d (.list (IL ns))]).wp (fun q => ∃ ms : List Int, q = (.f (IL ms), mem) ∧ Low p ms ∧ ms.length = ns.length ∧ (Pr p → nth ns (ns.length - 1) ≠ 0 → nth ms (ms.length - 1) ≠ 0)) fun _ => False := by
  unfold m_monic b_monic
  have hp0 : 0 < p := by omega
  have hlast := hn.nth (i := ns.length - 1) hp0
  have hpos : 0 < ns.length := List.length_pos_iff.mpr hne
  simp [last_some hne]
  refine Res.wp_then (inverse_ok mem p (nth ns (ns.length - 1)) hp hb) (fun q hq => ?_) fun _ h => h
  obtain ⟨r, rfl, h0, h1, h2⟩ := hq
  simp
  rw [lcGo_map (fun d => match d with
    | .int c => .int (c * r % p)
    | _ => .none)]
  · rw [IL_map (fun c => c * r % p) ns _ fun i => rfl]
    rw [Res.bind_ok, fin_f, Res.wp_ok]
    refine ⟨ns.map fun c => c * r % p, by simp, fun x hx => ?_, by simp, fun hP hz => ?_⟩
    · obtain ⟨y, _, rfl⟩ := List.mem_map.mp hx
      exact Low.mod hp0
    · rw [List.length_map, nth_map _ (by omega)]
      have e1 := h2 hP (by rw [Int.emod_eq_of_lt hlast.1 hlast.2]; exact hz)
      omega
  · intro d hd
    obtain ⟨c, hc, rfl⟩ := List.mem_map.mp hd
    have hc' := hn c hc
    simp [hp0, mul90 hb hc' ⟨h0, h1⟩]
  · simp
    exact sl_le (by omega)
end K43

set_option Elab.async false
set_option linter.all false
set_option maxRecDepth 100000
set_option maxHeartbeats 4000000
set_option exponentiation.threshold 4000
namespace K43
open PySem PySem.Spec PyProof.Rows L2 PD
theorem zip2_IL : ∀ (xs ys : List Int), zip2 (IL xs) (IL ys) = (xs.zip ys).map fun x => PyData.tuple [.int x.1, .int x.2]
  | [], _ => by simp [zip2]
  | _ :: _, [] => by simp [zip2]
  | x :: xs, y :: ys => by
    show PyData.tuple [.int x, .int y] :: zip2 (IL xs) (IL ys) = _
    rw [zip2_IL xs ys]
    rfl
theorem nth_zip {f : Int × Int → Int} {xs ys : List Int} {i : Nat} (h : i < xs.length) (h2 : i < ys.length) : nth ((xs.zip ys).map f) i = f (nth xs i, nth ys i) := by
  rw [nth_get (by simp; omega), nth_get h, nth_get h2]
  simp
theorem nth_app {xs ys : List Int} {i : Nat} : nth (xs ++ ys) (xs.length + i) = nth ys i := by
  unfold nth
  rw [List.getD_eq_getElem?_getD, List.getD_eq_getElem?_getD, List.getElem?_append_right (by omega)]
  congr 2
  omega
theorem nth_take {xs : List Int} {i k : Nat} (h : i < k) : nth (xs.take k) i = nth xs i := by
  unfold nth
  rw [List.getD_eq_getElem?_getD, List.getD_eq_getElem?_getD, List.getElem?_take_of_lt h]
theorem cancel {p a b r : Int} (hp : 2 ≤ p) (h : b * r % p = 1) : (a - b * (a * r % p)) % p = 0 := by
  have e1 : b * (a * r % p) % p = (a * (b * r)) % p := by
    rw [Int.mul_emod, Int.emod_emod_of_dvd _ (Int.dvd_refl p), ← Int.mul_emod]
    congr 1
    grind
  have e2 : a * (b * r) % p = a % p := by
    rw [Int.mul_emod, h, Int.mul_one, Int.emod_emod_of_dvd _ (Int.dvd_refl p)]
  rw [Int.sub_emod, e1, e2]
  simp
def mulD (t : Int) : D → D | .int c => .int (c * t) | _ => .none
def subD (p : Int) : D → D | .tuple [.int a, .int b] => .int ((a - b) % p) | _ => .none
def lenAt (i : Nat) (s : S) : Nat := match s.env[i]? with
  | some (some (.d (.list xs))) => xs.length
  | some (some (.d (.int k))) => k.toNat
  | _ => 0
@[simp] theorem lenAt_mk {i : Nat} {e : List (Option W)} {m : List (Option Cell)} {b : Nat} : lenAt i ⟨e, m, b⟩ = match e[i]? with
  | some (some (.d (.list xs))) => xs.length
  | some (some (.d (.int k))) => k.toNat
  | _ => 0 := rfl
/-- what a round takes off -/
def lower (sh : Nat) (t : Int) (ds : List Int) : List Int := List.replicate sh 0 ++ ds.map (· * t)
def less (p : Int) (rs ls : List Int) : List Int := (rs.zip ls).map fun x => (x.1 - x.2) % p
theorem parted_ok (mem : Mem) (p : Int) (ns ds : List Int) (hp : 2 ≤ p) (hb : p < 2 ^ 90) (hn : Low p ns) (hd : Low p ds) (hne : ds ≠ []) (hl : ns.length < 1000) (hl2 : ds.length < 1000) (hP : Pr p) (hz : nth ds (ds.length - 1) ≠ 0) :
    (m_parted mem [.d (.int p), .d (.list (IL ns)), .d (.list (IL ds))]).wp (fun q => ∃ qs rs : List Int, q = (.d (.tuple [.list (IL qs), .list (IL rs)]), mem) ∧ Low p qs ∧ Low p rs ∧ rs.length < ds.length ∧ (rs = [] ∨ nth rs (rs.length - 1) ≠ 0) ∧
      (nth ns (ns.length - 1) ≠ 0 → qs.length = ns.length + 1 - ds.length ∧ (ns.length < ds.length → rs = ns))) fun _ => False := by
  unfold m_parted b_parted
  simp
  refine Res.wp_then (trimmed_ok mem ns hl) (fun q hq => ?_) fun _ h => h
  obtain ⟨k, rfl, hk, hk1, hk2⟩ := hq
  simp [last_some hne]
  refine Res.wp_then (inverse_ok mem p (nth ds (ds.length - 1)) hp hb) (fun q hq => ?_) fun _ h => h
  obtain ⟨r, rfl, h0, h1, h2⟩ := hq
  simp
  have hp0 : 0 < p := by omega
  have hdl : 0 < ds.length := List.length_pos_iff.mpr hne
  have hlast := hd.nth (i := ds.length - 1) hp0
  have hinv := h2 hP (by rw [Int.emod_eq_of_lt hlast.1 hlast.2]; exact hz)
  have hmin : min k ns.length = k := by omega
  rw [hmin]
  generalize hQ : (if (k : Int) - (ds.length : Int) + 1 < 0 then (0 : Int) else (k : Int) - ds.length + 1) = Q0
  have hQ1 : 0 ≤ Q0 ∧ Q0 < 2000 ∧ (k : Int) - ds.length + 1 ≤ Q0 := by
    split at hQ <;> omega
  rw [cRep_ok (by omega) (by omega) (by simp; omega)]
  simp
  refine Res.wp_then (Q1 := fun q => ∃ (qs rs : List Int) (g6 g7 g8 : Option W), q = (.nx, ⟨[some (.d (.int p)), some (.d (.list (IL ns))), some (.d (.list (IL ds))), some (.d (.list (IL rs))), some (.d (.int r)), some (.c mem.length), g6, g7, g8, none, none, none], mem ++ [some (.l (IL qs))], mem.length⟩) ∧ Low p qs ∧ Low p rs ∧ (qs.length : Int) = Q0 ∧ rs.length < ds.length ∧ (rs = [] ∨ nth rs (rs.length - 1) ≠ 0) ∧ (k < ds.length → rs = ns.take k)) (X1 := fun _ => False) ?_ ?_ fun _ h => h
  · refine whGo_wp (fun s => ∃ (qs rs : List Int) (g6 g7 g8 : Option W), s = ⟨[some (.d (.int p)), some (.d (.list (IL ns))), some (.d (.list (IL ds))), some (.d (.list (IL rs))), some (.d (.int r)), some (.c mem.length), g6, g7, g8, none, none, none], mem ++ [some (.l (IL qs))], mem.length⟩ ∧ Low p qs ∧ Low p rs ∧ (qs.length : Int) = Q0 ∧ rs.length ≤ k ∧ (rs = [] ∨ nth rs (rs.length - 1) ≠ 0) ∧ (k < ds.length → rs = ns.take k)) (lenAt 3) ?_ _ _ ?_ ?_
    · rintro s ⟨qs, rs, g6, g7, g8, rfl, a1, a2, a3, a4, a5, a6⟩
      by_cases hge : ds.length ≤ rs.length
      · have hge' : (ds.length : Int) ≤ (rs.length : Int) := by omega
        have hrne : rs ≠ [] := fun e => hne (by simpa [e] using hge)
        have hrz : nth rs (rs.length - 1) ≠ 0 := a5.resolve_left hrne
        have hrl := a2.nth (i := rs.length - 1) hp0
        obtain ⟨sh, hsh⟩ : ∃ sh : Nat, (rs.length : Int) - ds.length = sh := ⟨rs.length - ds.length, by omega⟩
        have hsh2 : sh < qs.length := by clear hQ hmin hk1 hk2 h2; omega
        have c1 : cMul (nth rs (rs.length - 1)) r = true := mul90 hb hrl ⟨h0, h1⟩
        have ht := Low.mod (x := nth rs (rs.length - 1) * r) hp0
        generalize htm : nth rs (rs.length - 1) * r % p = t at ht
        have c2 : cRep 1 (sh : Int) = true := cRep_ok (by omega) (by omega) (by simp; omega)
        simp [hge', last_some hrne, c1, hp0, hsh, ixN_nat hsh2, htm, c2]
        rw [lcGo_map (mulD t)]
        · rw [IL_map (fun c => c * t) ds _ fun i => rfl]
          have l1 : sh + ds.length ≤ SL.1 := SL_le (by omega)
          have l2 : (lower sh t ds).length = rs.length := by simp [lower]; omega
          have e1 : (List.replicate sh (PyData.int 0) ++ IL (ds.map fun c => c * t) : List D) = IL (lower sh t ds) := by simp [lower]
          simp only [Res.bind_ok', gAdd_mk, dat_f, List.length_replicate, List.length_map, l1, if_true, e1]
          simp [zip2_IL]
          rw [lcGo_map (subD p)]
          · have e2 : ((rs.zip (lower sh t ds)).map fun x => PyData.tuple [.int x.1, .int x.2]).map (subD p) = IL (less p rs (lower sh t ds)) := by simp [less, subD]
            rw [e2, Res.bind_ok']
            dsimp only
            have l3 : (less p rs (lower sh t ds)).length = rs.length := by simp [less, l2]
            refine Res.wp_then (trimmed_ok _ (less p rs (lower sh t ds)) (by omega)) (fun q hq => ?_) fun _ h => h
            obtain ⟨k2, rfl, b1, b2, b3⟩ := hq
            have hz0 : nth (less p rs (lower sh t ds)) (rs.length - 1) = 0 := by
              unfold less
              rw [nth_zip (by omega) (by omega)]
              have e3 : rs.length - 1 = (List.replicate sh (0 : Int)).length + (ds.length - 1) := by simp; omega
              have e4 : nth (lower sh t ds) (rs.length - 1) = nth ds (ds.length - 1) * t := by
                unfold lower
                rw [e3, nth_app, nth_map _ (by omega)]
              dsimp only
              rw [e4, ← htm]
              exact cancel hp hinv
            have hk2 : k2 < rs.length := by
              rcases b2 with h | h
              · omega
              · rcases Nat.lt_or_ge k2 rs.length with h' | h'
                · exact h'
                · have : k2 = rs.length := by omega
                  rw [this] at h
                  exact absurd hz0 h
            have hlow : Low p (less p rs (lower sh t ds)) := fun x hx => by
              obtain ⟨y, _, rfl⟩ := List.mem_map.mp hx
              exact Low.mod hp0
            have l4 : ((less p rs (lower sh t ds)).take k2).length = k2 := by simp; omega
            simp
            refine ⟨⟨qs.set sh t, (less p rs (lower sh t ds)).take k2, ⟨by simp, by simp⟩, fun x hx => ?_, hlow.take k2, by simpa using a3, by omega, ?_, fun h => absurd h (Nat.not_lt.mpr (Nat.le_trans hge a4))⟩, ?_⟩
            · rcases List.mem_or_eq_of_mem_set hx with h | h
              · exact a1 x h
              · rw [h]; exact ht
            · by_cases hk0 : k2 = 0
              · exact .inl (by simp [hk0])
              · refine .inr ?_
                rw [l4, nth_take (by omega)]
                exact b2.resolve_left hk0
            · exact Nat.lt_of_le_of_lt (Nat.min_le_left _ _) hk2
          · intro d hd'
            obtain ⟨x, hx, rfl⟩ := List.mem_map.mp hd'
            simp [hp0, subD]
          · simp [l2]
            exact sl_le (by omega)
        · intro d hd'
          obtain ⟨c, hc, rfl⟩ := List.mem_map.mp hd'
          have hc' := hd c hc
          simp [mul90 hb hc' ht, mulD]
        · simp
          exact sl_le (by omega)
      · have hge' : ¬ (ds.length : Int) ≤ (rs.length : Int) := by omega
        simp [hge']
        exact ⟨qs, rs, ⟨rfl, rfl⟩, a1, a2, a3, by omega, a5, a6⟩
    · refine ⟨List.replicate Q0.toNat 0, ns.take k, none, none, none, by simp, fun x hx => ?_, hn.take k, by simp; omega, by simp; omega, ?_, fun _ => rfl⟩
      · have := List.eq_of_mem_replicate hx
        omega
      · rcases hk1 with h | h
        · exact .inl (by simp [h])
        · by_cases hk0 : k = 0
          · exact .inl (by simp [hk0])
          · refine .inr ?_
            have : (ns.take k).length = k := by simp; omega
            rw [this, nth_get (by omega), List.getElem_take, ← nth_get (by omega)]
            exact h
    · rw [rounds.2]
      show (List.take k (List.map PyData.int ns)).length < 2000
      simp
      omega
  · rintro q ⟨qs, rs, g6, g7, g8, rfl, a1, a2, a3, a4, a5, a6⟩
    simp
    refine ⟨qs, rs, ⟨rfl, rfl⟩, a1, a2, a4, a5, fun hnz => ?_⟩
    have hk3 : k = ns.length := by
      rcases Nat.lt_or_ge k ns.length with h | h
      · exact absurd (hk2 (ns.length - 1) (by omega) (by omega)) hnz
      · omega
    refine ⟨?_, fun h => ?_⟩
    · rw [hk3] at hQ
      split at hQ <;> omega
    · rw [a6 (by omega), hk3, List.take_length]
end K43

set_option Elab.async false
set_option linter.all false
set_option maxRecDepth 100000
set_option maxHeartbeats 4000000
set_option exponentiation.threshold 4000
namespace K43
open PySem PySem.Spec PyProof.Rows L2 PD
theorem take_full {ns : List Int} {k : Nat} (hl : nth ns (ns.length - 1) ≠ 0) (hk : k ≤ ns.length) (h : ∀ i, k ≤ i → i < ns.length → nth ns i = 0) : ns.take k = ns := by
  rcases Nat.lt_or_ge k ns.length with h' | h'
  · exact absurd (h (ns.length - 1) (by omega) (by omega)) hl
  · exact List.take_of_length_le h'
theorem ne_of_last {ns : List Int} (h : nth ns (ns.length - 1) ≠ 0) : ns ≠ [] := fun e => by
  subst e
  exact h rfl
theorem common_ok (mem : Mem) (p : Int) (as bs : List Int) (hP : Pr p) (ha : Low p as) (hb : Low p bs) (la : as.length < 1000) (lb : bs.length < 1000) (za : nth as (as.length - 1) ≠ 0) (zb : nth bs (bs.length - 1) ≠ 0) :
    (m_common mem [.d (.int p), .d (.list (IL as)), .d (.list (IL bs))]).wp (fun q => ∃ ms : List Int, q = (.f (IL ms), mem) ∧ Low p ms ∧ ms ≠ [] ∧ ms.length ≤ as.length ∧ ms.length ≤ bs.length ∧ nth ms (ms.length - 1) ≠ 0) fun _ => False := by
  unfold m_common b_common
  simp
  refine Res.wp_then (trimmed_ok mem as la) (fun q hq => ?_) fun _ h => h
  obtain ⟨k, rfl, hk, _, hk2⟩ := hq
  rw [take_full za hk hk2]
  simp
  refine Res.wp_then (trimmed_ok mem bs lb) (fun q hq => ?_) fun _ h => h
  obtain ⟨k', rfl, hk', _, hk2'⟩ := hq
  rw [take_full zb hk' hk2']
  simp
  rw [Res.wp_bind]
  refine whGo_wp (fun s => ∃ xs ys : List Int, s = ⟨[some (.d (.int p)), some (.d (.list (IL xs))), some (.d (.list (IL ys)))], mem, mem.length⟩ ∧ Low p xs ∧ Low p ys ∧ xs.length < 1000 ∧ ys.length < 1000 ∧ nth xs (xs.length - 1) ≠ 0 ∧ (ys = [] ∨ nth ys (ys.length - 1) ≠ 0) ∧
    (((xs.length ≤ as.length ∧ xs.length ≤ bs.length) ∧ ys.length < xs.length) ∨ (ys ≠ [] ∧ ys.length ≤ as.length ∧ ys.length ≤ bs.length) ∨ (ys ≠ [] ∧ (xs.length ≤ as.length ∧ xs.length ≤ bs.length) ∧ xs.length < ys.length))) (fun s => 2 * lenAt 2 s + (if lenAt 1 s < lenAt 2 s then 1 else 0)) ?_ _ _ ?_ ?_
  · rintro s ⟨xs, ys, rfl, h1, h2, h3, h4, h5, h6, h7⟩
    by_cases hy : ys = []
    · subst hy
      have hx := ne_of_last h5
      simp
      refine Res.wp_then (monic_ok mem p xs hP.two hP.big h1 hx h3) (fun q hq => ?_) fun _ h => h
      obtain ⟨ms, rfl, m1, m2, m3⟩ := hq
      simp
      have hpos : 0 < xs.length := List.length_pos_iff.mpr hx
      have : (xs.length ≤ as.length ∧ xs.length ≤ bs.length) := by
        rcases h7 with h | h | h
        · exact h.1
        · exact absurd rfl h.1
        · exact absurd rfl h.1
      refine ⟨ms, rfl, m1, fun e => ?_, by omega, by omega, m3 hP h5⟩
      subst e
      simp at m2
      omega
    · have hpos : 0 < ys.length := List.length_pos_iff.mpr hy
      have hlast := h6.resolve_left hy
      simp [hpos]
      refine Res.wp_then (parted_ok mem p xs ys hP.two hP.big h1 h2 hy h3 h4 hP hlast) (fun q hq => ?_) fun _ h => h
      obtain ⟨qs, rs, rfl, q1, q2, q3, q4, q5⟩ := hq
      have q6 := (q5 h5).2
      simp
      refine ⟨⟨ys, rs, ⟨rfl, rfl⟩, h2, q2, h4, by omega, hlast, q4, ?_⟩, ?_⟩
      · rcases h7 with h | h | h
        · exact .inl ⟨by omega, q3⟩
        · exact .inl ⟨by omega, q3⟩
        · have : rs = xs := q6 h.2.2
          subst this
          refine .inr (.inl ⟨ne_of_last h5, h.2.1.1, h.2.1.2⟩)
      · split <;> split <;> omega
  · refine ⟨as, bs, rfl, ha, hb, la, lb, za, .inr zb, ?_⟩
    have := ne_of_last zb
    rcases Nat.lt_or_ge as.length bs.length with h | h
    · exact .inr (.inr ⟨this, ⟨Nat.le_refl _, by omega⟩, h⟩)
    · exact .inr (.inl ⟨this, h, Nat.le_refl _⟩)
  · rw [rounds.2]
    simp
    split <;> omega
end K43

set_option Elab.async false
set_option linter.all false
set_option maxRecDepth 100000
set_option maxHeartbeats 4000000
set_option exponentiation.threshold 4000
namespace K43
open PySem PySem.Spec PyProof.Rows L2 PD
abbrev RL (rows : List (List Int)) : List D := rows.map fun r => PyData.list (IL r)
def Mat (p : Int) (w : Nat) (rows : List (List Int)) : Prop := ∀ r ∈ rows, r.length = w ∧ Low p r
theorem enum_RL : ∀ (rows : List (List Int)) (k : Nat), enumFrom k (RL rows) = (rows.zipIdx k).map fun x => PyData.tuple [.int (x.2 : Nat), .list (IL x.1)]
  | [], _ => rfl
  | r :: rows, k => by
    show PyData.tuple [.int (k : Nat), .list (IL r)] :: enumFrom (k + 1) (RL rows) = _
    rw [enum_RL rows (k + 1)]
    rfl
def rowAt (rows : List (List Int)) (i : Nat) : List Int := rows.getD i []
theorem rowAt_some {rows : List (List Int)} {i : Nat} (h : i < rows.length) : (RL rows)[i]? = some (.list (IL (rowAt rows i))) := by
  simp [rowAt, List.getD_eq_getElem?_getD, h]
theorem rowAt_mem {rows : List (List Int)} {i : Nat} (h : i < rows.length) : rowAt rows i ∈ rows := by
  simp [rowAt, List.getD_eq_getElem?_getD, h]
def scaleD (f p : Int) : D → D | .int c => .int (c * f % p) | _ => .none
def subMD (t p : Int) : D → D | .tuple [.int a, .int b] => .int ((a - t * b) % p) | _ => .none
theorem with_pivot_ok (mem : Mem) (p : Int) (w : Nat) (rows : List (List Int)) (a c : Nat) (hp : 2 ≤ p) (hb : p < 2 ^ 90) (hm : Mat p w rows) (ha : a < rows.length) (hc : c < w) (hw : w < 1000) (hr : rows.length < 1000) :
    (m_with_pivot mem [.d (.int p), .d (.list (RL rows)), .d (.int a), .d (.int c)]).wp (fun q => ∃ rows' : List (List Int), q = (.f (RL rows'), mem) ∧ rows'.length = rows.length ∧ Mat p w rows') fun _ => False := by
  unfold m_with_pivot b_with_pivot
  have hp0 : 0 < p := by omega
  obtain ⟨l1, l2⟩ := hm _ (rowAt_mem ha)
  simp [rowAt_some ha, nth_some (show c < (rowAt rows a).length by omega)]
  refine Res.wp_then (inverse_ok mem p _ hp hb) (fun q hq => ?_) fun _ h => h
  obtain ⟨f, rfl, f0, f1, _⟩ := hq
  simp [rowAt_some ha]
  rw [lcGo_map (scaleD f p)]
  · have e1 : (IL (rowAt rows a)).map (scaleD f p) = IL ((rowAt rows a).map fun c => c * f % p) := IL_map (fun c => c * f % p) _ _ fun i => rfl
    rw [e1]
    generalize hpv : ((rowAt rows a).map fun c => c * f % p) = pv
    have pl : pv.length = w := by rw [← hpv]; simpa using l1
    have plow : Low p pv := fun x hx => by
      rw [← hpv] at hx
      obtain ⟨y, _, rfl⟩ := List.mem_map.mp hx
      exact Low.mod hp0
    simp [enum_RL]
    refine Res.wp_then (Q1 := fun q => ∃ (rows' : List (List Int)) (g7 g8 g9 : Option W), q = (.nx, ⟨[some (.d (.int p)), some (.d (.list (RL rows))), some (.d (.int a)), some (.d (.int c)), some (.d (.int f)), some (.d (.list (IL pv))), some (.c mem.length), g7, g8, g9, none, none], mem ++ [some (.l (RL rows'))], mem.length⟩) ∧ rows'.length = rows.length ∧ Mat p w rows') (X1 := fun _ => False) ?_ ?_ fun _ h => h
    · refine forGo_wp (fun xs s => ∃ (zs : List (List Int × Nat)) (rows' : List (List Int)) (g7 g8 g9 : Option W), s = ⟨[some (.d (.int p)), some (.d (.list (RL rows))), some (.d (.int a)), some (.d (.int c)), some (.d (.int f)), some (.d (.list (IL pv))), some (.c mem.length), g7, g8, g9, none, none], mem ++ [some (.l (RL rows'))], mem.length⟩ ∧ xs = zs.map (fun x => PyData.tuple [.int (x.2 : Nat), .list (IL x.1)]) ∧ rows'.length + zs.length = rows.length ∧ Mat p w rows' ∧ ∀ z ∈ zs, z.1.length = w ∧ Low p z.1) ?_ ?_ _ _ ?_
      · rintro d xs s ⟨zs, rows', g7, g8, g9, rfl, hx, hl, hM, hz⟩
        cases zs with
        | nil => cases hx
        | cons z zs =>
          obtain ⟨row, k⟩ := z
          cases hx
          obtain ⟨z1, z2⟩ := hz _ (List.mem_cons_self ..)
          dsimp only at z1 z2
          rw [List.length_cons] at hl
          have hz' : ∀ z ∈ zs, z.1.length = w ∧ Low p z.1 := fun y hy => hz y (List.mem_cons_of_mem _ hy)
          have s1 : rows'.length < SL.1 := SL_lt (by omega)
          have tlow := z2.nth (i := c) hp0
          have hmul : ∀ x ∈ pv, cMul (nth row c) x = true := fun x hx => mul90 hb tlow (plow x hx)
          by_cases hka : (k : Int) = (a : Int)
          · simp [nth_some (show c < row.length by omega), hka, s1]
            refine ⟨zs, rows' ++ [pv], by simp, rfl, by simp; omega, ?_, fun a b h => hz' (a, b) h⟩
            intro r hr'
            rcases List.mem_append.mp hr' with h | h
            · exact hM r h
            · rw [List.mem_singleton.mp h]; exact ⟨pl, plow⟩
          · simp [nth_some (show c < row.length by omega), hka, zip2_IL]
            rw [lcGo_map (subMD (nth row c) p)]
            · generalize hnr : ((row.zip pv).map fun x => (x.1 - nth row c * x.2) % p) = nr
              have e2 : ((row.zip pv).map fun x => PyData.tuple [.int x.1, .int x.2]).map (subMD (nth row c) p) = IL nr := by rw [← hnr]; simp [subMD]
              rw [e2]
              simp [s1, hka]
              refine ⟨zs, rows' ++ [nr], by simp, rfl, by simp; omega, ?_, fun a b h => hz' (a, b) h⟩
              intro r hr'
              rcases List.mem_append.mp hr' with h | h
              · exact hM r h
              · rw [List.mem_singleton.mp h, ← hnr]
                refine ⟨by simp; omega, fun x hx => ?_⟩
                obtain ⟨y, _, rfl⟩ := List.mem_map.mp hx
                exact Low.mod hp0
            · intro d hd
              obtain ⟨x, hx, rfl⟩ := List.mem_map.mp hd
              have hx2 := List.of_mem_zip hx
              simp [hp0, subMD, hmul x.2 hx2.2]
            · simp
              exact sl_le (by omega)
      · rintro s ⟨zs, rows', g7, g8, g9, rfl, hx, hl, hM, hz⟩
        cases zs with
        | nil => exact ⟨rows', g7, g8, g9, rfl, by simpa using hl, hM⟩
        | cons z zs => cases hx
      · refine ⟨rows.zipIdx, [], none, none, none, rfl, rfl, by simp, fun r hr' => absurd hr' (by simp), fun z hz => ?_⟩
        exact hm _ (List.fst_mem_of_mem_zipIdx hz)
    · rintro q ⟨rows', g7, g8, g9, rfl, h1, h2⟩
      simp
      exact ⟨rows', rfl, h1, h2⟩
  · intro d hd
    obtain ⟨x, hx, rfl⟩ := List.mem_map.mp hd
    simp [hp0, mul90 hb (l2 x hx) ⟨f0, f1⟩, scaleD]
  · simp
    exact sl_le (by omega)
end K43

set_option Elab.async false
set_option linter.all false
set_option maxRecDepth 100000
set_option maxHeartbeats 4000000
set_option exponentiation.threshold 4000
namespace K43
open PySem PySem.Spec PyProof.Rows L2 PD
/-- places: a row's number, or none -/
def PlD (n : Nat) (d : D) : Prop := d = .none ∨ ∃ k : Nat, d = .int (k : Nat) ∧ k < n
theorem PlD.flat {n : Nat} {ps : List D} (h : ∀ d ∈ ps, PlD n d) : ps.all flatD = true := by
  rw [List.all_eq_true]
  intro d hd
  rcases h d hd with rfl | ⟨k, rfl, _⟩ <;> rfl
def freeD (ps : List D) (c : Nat) : D → Option D
  | .tuple [.int k, .list r] => if (match r[c]? with
    | some (.int v) => decide (v ≠ 0)
    | _ => false) && !inD (.int k) ps then some (.int k) else none
  | _ => none
def leftD (ps : List D) : D → Option D
  | .tuple [.int k, .list r] => if inD (.int k) ps then none else some (.bool (match r.getLast? with
    | some (.int v) => decide (v ≠ 0)
    | _ => false))
  | _ => none
def solD (rows : List (List Int)) : D → D
  | .none => .int 0
  | .int k => (match (RL rows)[k.toNat]? with
    | some (.list r) => r.getLast?.getD .none
    | _ => .none)
  | _ => .none
theorem freeD_eq {ps : List D} {c : Nat} {k : Int} {r : List Int} (h : c < r.length) : freeD ps c (.tuple [.int k, .list (IL r)]) = if decide (nth r c ≠ 0) && !inD (.int k) ps then some (.int k) else none := by
  unfold freeD
  dsimp only
  rw [nth_some h]
theorem leftD_eq {ps : List D} {k : Int} {r : List Int} (h : r ≠ []) : leftD ps (.tuple [.int k, .list (IL r)]) = if inD (.int k) ps then none else some (.bool (decide (nth r (r.length - 1) ≠ 0))) := by
  unfold leftD
  dsimp only
  rw [last_some h]
theorem bools_all : ∀ {l : List D}, (∀ d ∈ l, ∃ b, d = .bool b) → ∃ bs, boolsOf l = some bs
  | [], _ => ⟨[], rfl⟩
  | d :: l, h => by
    obtain ⟨b, rfl⟩ := h d (List.mem_cons_self ..)
    obtain ⟨bs, e⟩ := bools_all fun d hd => h d (List.mem_cons_of_mem _ hd)
    exact ⟨b :: bs, by simp [e]⟩
theorem sol_ints {p : Int} {f : D → D} : ∀ {ps : List D} {n : Nat}, (∀ d ∈ ps, ∃ x : Int, f d = .int x ∧ 0 ≤ x ∧ x < p) → ps.length = n → ∃ xs : List Int, ps.map f = IL xs ∧ xs.length = n ∧ Low p xs
  | [], _, _, e => ⟨[], rfl, e, fun x hx => by cases hx⟩
  | d :: ps, n, h, e => by
    obtain ⟨x, e1, h1⟩ := h d (List.mem_cons_self ..)
    obtain ⟨xs, e2, e3, e4⟩ := sol_ints (n := ps.length) (fun d hd => h d (List.mem_cons_of_mem _ hd)) rfl
    refine ⟨x :: xs, by rw [List.map_cons, e1, e2]; rfl, by rw [← e]; simp [e3], fun y hy => ?_⟩
    rcases List.mem_cons.mp hy with rfl | hy
    · exact h1
    · exact e4 y hy
theorem solved_ok (mem : Mem) (p : Int) (rows : List (List Int)) (many : Nat) (hp : 2 ≤ p) (hb : p < 2 ^ 90) (hm : Mat p (many + 1) rows) (hw : many < 900) (hr : rows.length < 1000) :
    (m_solved mem [.d (.int p), .d (.list (RL rows)), .d (.int many)]).wp (fun q => q = (.d .none, mem) ∨ ∃ xs : List Int, q = (.f (IL xs), mem) ∧ xs.length = many ∧ Low p xs) fun _ => False := by
  unfold m_solved b_solved
  have hp0 : 0 < p := by omega
  have hi : inB (many : Int) = true := by rw [inB_eq]; simp; omega
  simp [hi]
  refine Res.wp_then (Q1 := fun q => ∃ (rs : List (List Int)) (ps : List D) (g4 g5 : Option W), q = (.nx, ⟨[some (.d (.int p)), some (.d (.list (RL rs))), some (.d (.int many)), some (.c mem.length), g4, g5, none, none], mem ++ [some (.l ps)], mem.length⟩) ∧ rs.length = rows.length ∧ Mat p (many + 1) rs ∧ ps.length = many ∧ ∀ d ∈ ps, PlD rows.length d) (X1 := fun _ => False) ?_ ?_ fun _ h => h
  · refine forGo_wp (fun xs s => ∃ (zs : List Nat) (rs : List (List Int)) (ps : List D) (g4 g5 : Option W), s = ⟨[some (.d (.int p)), some (.d (.list (RL rs))), some (.d (.int many)), some (.c mem.length), g4, g5, none, none], mem ++ [some (.l ps)], mem.length⟩ ∧ xs = zs.map (fun i => PyData.int (i : Nat)) ∧ (∀ z ∈ zs, z < many) ∧ rs.length = rows.length ∧ Mat p (many + 1) rs ∧ ps.length + zs.length = many ∧ ∀ d ∈ ps, PlD rows.length d) ?_ ?_ _ _ ?_
    · rintro d xs s ⟨zs, rs, ps, g4, g5, rfl, hx, hz, h1, h2, h3, h4⟩
      cases zs with
      | nil => cases hx
      | cons c zs =>
        cases hx
        rw [List.length_cons] at h3
        have hc : c < many := hz c (List.mem_cons_self ..)
        have hz' : ∀ z ∈ zs, z < many := fun y hy => hz y (List.mem_cons_of_mem _ hy)
        have s1 : ps.length < SL.1 := SL_lt (by omega)
        simp [enum_RL]
        rw [lcGo_pure (freeD ps c)]
        · generalize hfr : List.filterMap (freeD ps c) _ = fr
          have hfr2 : ∀ d ∈ fr, ∃ k : Nat, d = .int (k : Nat) ∧ k < rows.length := by
            intro d hd
            rw [← hfr] at hd
            obtain ⟨y, hy, e⟩ := List.mem_filterMap.mp hd
            obtain ⟨z, hz3, rfl⟩ := List.mem_map.mp hy
            have hk := List.snd_lt_of_mem_zipIdx hz3
            rw [freeD_eq (by have := (h2 z.1 (List.fst_mem_of_mem_zipIdx hz3)).1; omega)] at e
            split at e
            · cases e
              exact ⟨z.2, rfl, by omega⟩
            · cases e
          simp
          cases fr with
          | nil =>
            simp [s1]
            refine ⟨zs, rs, ps ++ [.none], by simp, rfl, hz', h1, h2, by simp; omega, fun d hd => ?_⟩
            rcases List.mem_append.mp hd with h | h
            · exact h4 d h
            · exact .inl (List.mem_singleton.mp h)
          | cons f0 fr =>
            obtain ⟨k, rfl, hk⟩ := hfr2 f0 (List.mem_cons_self ..)
            simp
            refine Res.wp_then (with_pivot_ok _ p (many + 1) rs k c hp hb h2 (by omega) (by omega) (by omega) (by omega)) (fun q hq => ?_) fun _ h => h
            obtain ⟨rs2, rfl, w1, w2⟩ := hq
            simp [s1]
            refine ⟨zs, rs2, ps ++ [.int (k : Nat)], by simp, rfl, hz', by omega, w2, by simp; omega, fun d hd => ?_⟩
            rcases List.mem_append.mp hd with h | h
            · exact h4 d h
            · exact .inr ⟨k, List.mem_singleton.mp h, hk⟩
        · intro d hd
          obtain ⟨z, hz3, rfl⟩ := List.mem_map.mp hd
          obtain ⟨r, k⟩ := z
          have hr1 := h2 r (List.fst_mem_of_mem_zipIdx hz3)
          dsimp only
          have fl := PlD.flat h4
          rw [freeD_eq (show c < r.length by omega)]
          have hn := nth_some (show c < r.length by omega)
          by_cases hz0 : nth r c = 0
          · simp [hn, fl, hz0]
          · cases hin : inD (.int (k : Nat)) ps with
            | true => simp [hn, fl, hz0, hin]
            | false =>
              simp [hn, fl, hz0, hin]
              exact ⟨_, _, ⟨rfl, rfl⟩, _, rfl⟩
        · simp
          exact sl_le (by omega)
    · rintro s ⟨zs, rs, ps, g4, g5, rfl, hx, hz, h1, h2, h3, h4⟩
      cases zs with
      | nil => exact ⟨rs, ps, g4, g5, rfl, h1, h2, by simpa using h3, h4⟩
      | cons z zs => cases hx
    · exact ⟨List.range many, rows, [], none, none, rfl, rfl, fun z hz => List.mem_range.mp hz, rfl, hm, by simp, fun d hd => absurd hd (by simp)⟩
  · rintro q ⟨rs, ps, g4, g5, rfl, h1, h2, h3, h4⟩
    simp [enum_RL]
    rw [lcGo_pure (leftD ps)]
    · obtain ⟨bs, hbs⟩ : ∃ bs, boolsOf ([] ++ List.filterMap (leftD ps) ((rs.zipIdx).map fun x => PyData.tuple [.int (x.2 : Nat), .list (IL x.1)])) = some bs := by
        refine bools_all fun d hd => ?_
        rw [List.nil_append] at hd
        obtain ⟨y, hy, e⟩ := List.mem_filterMap.mp hd
        obtain ⟨z, hz3, rfl⟩ := List.mem_map.mp hy
        have := (h2 z.1 (List.fst_mem_of_mem_zipIdx hz3)).1
        rw [leftD_eq (fun q => by rw [q] at this; simp at this)] at e
        split at e
        · cases e
        · cases e; exact ⟨_, rfl⟩
      rw [List.nil_append] at hbs ⊢
      simp only [Res.bind_ok', gAll_mk, dat_f, hbs, if_true]
      by_cases hany : bs.any id = true
      · simp [hany]
      · simp [hany]
        rw [lcGo_map (solD rs)]
        · have hsol : ∃ xs : List Int, ps.map (solD rs) = IL xs ∧ xs.length = many ∧ Low p xs := by
            have hp4 : ∀ d ∈ ps, ∃ x : Int, solD rs d = .int x ∧ 0 ≤ x ∧ x < p := by
              intro d hd
              rcases h4 d hd with rfl | ⟨k, rfl, hk⟩
              · exact ⟨0, rfl, by omega, hp0⟩
              · have hk2 : k < rs.length := by omega
                have hw2 := h2 _ (rowAt_mem hk2)
                have hne : rowAt rs k ≠ [] := fun q => by rw [q] at hw2; simp at hw2
                refine ⟨nth (rowAt rs k) ((rowAt rs k).length - 1), ?_, (hw2.2).nth hp0⟩
                simp only [solD, Int.toNat_natCast, rowAt_some hk2, last_some hne, Option.getD_some]
            exact sol_ints hp4 h3
          obtain ⟨xs, e1, e2, e3⟩ := hsol
          rw [e1]
          simp
          exact ⟨xs, rfl, e2, e3⟩
        · intro d hd
          rcases h4 d hd with rfl | ⟨k, rfl, hk⟩
          · simp [solD]
          · have hk2 : k < rs.length := by omega
            have hw2 := h2 _ (rowAt_mem hk2)
            have hne : rowAt rs k ≠ [] := fun q => by rw [q] at hw2; simp at hw2
            have h0 := last_some hne
            simp [solD, rowAt_some hk2, h0]
        · exact sl_le (by omega)
    · intro d hd
      obtain ⟨z, hz3, rfl⟩ := List.mem_map.mp hd
      obtain ⟨r, k⟩ := z
      have hr1 := h2 r (List.fst_mem_of_mem_zipIdx hz3)
      have hne : r ≠ [] := fun q => by rw [q] at hr1; simp at hr1
      dsimp only
      have fl := PlD.flat h4
      rw [leftD_eq hne]
      have h0 := last_some hne
      cases hin : inD (.int (k : Nat)) ps with
      | true => simp [fl, hin]
      | false =>
        simp [fl, hin, h0]
        exact ⟨_, _, ⟨rfl, rfl⟩, _, rfl⟩
    · simp
      exact sl_le (by omega)
end K43

set_option Elab.async false
set_option linter.all false
set_option maxRecDepth 100000
set_option maxHeartbeats 4000000
set_option exponentiation.threshold 4000
namespace K43
open PySem PySem.Spec PyProof.Rows L2 PD
theorem raw_values_ok (mem : Mem) (p : Int) (ns ps : List Int) (hp : 2 ≤ p) (hb : p < 2 ^ 90) (hn : Low p ns) (hl : Low p ps) (hln : ps.length < 1000) :
    (m_raw_values mem [.d (.int p), .d (.tuple (IL ns)), .d (.tuple (IL ps))]).wp (fun q => ∃ vs : List Int, q = (.d (.tuple (IL vs)), mem) ∧ vs.length = ps.length ∧ ∀ v ∈ vs, 0 ≤ v ∧ v ≤ p) fun _ => False := by
  unfold m_raw_values b_raw_values
  have hp0 : 0 < p := by omega
  simp
  rw [Res.wp_bind]
  refine forGo_wp (fun xs s => ∃ (zs vs : List Int) (g4 g5 g6 : Option W), s = ⟨[some (.d (.int p)), some (.d (.tuple (IL ns))), some (.d (.tuple (IL ps))), some (.c mem.length), g4, g5, g6], mem ++ [some (.l (IL vs))], mem.length⟩ ∧ xs = IL zs ∧ Low p zs ∧ vs.length + zs.length = ps.length ∧ ∀ v ∈ vs, 0 ≤ v ∧ v ≤ p) ?_ ?_ _ _ ?_
  · rintro d xs s ⟨zs, vs, g4, g5, g6, rfl, hx, hz, h3, h4⟩
    cases zs with
    | nil => cases hx
    | cons z zs =>
      cases hx
      rw [List.length_cons] at h3
      have hz1 := hz z (List.mem_cons_self ..)
      simp
      refine Res.wp_then (Q1 := fun q => ∃ (t : Int) (g6 : Option W), q = (.nx, ⟨[some (.d (.int p)), some (.d (.tuple (IL ns))), some (.d (.tuple (IL ps))), some (.c mem.length), some (.d (.int z)), some (.d (.int t)), g6], mem ++ [some (.l (IL vs))], mem.length⟩) ∧ 0 ≤ t ∧ t ≤ p) (X1 := fun _ => False) ?_ ?_ fun _ h => h
      · refine forGo_wp (fun ys s => ∃ (us : List Int) (t : Int) (g6 : Option W), s = ⟨[some (.d (.int p)), some (.d (.tuple (IL ns))), some (.d (.tuple (IL ps))), some (.c mem.length), some (.d (.int z)), some (.d (.int t)), g6], mem ++ [some (.l (IL vs))], mem.length⟩ ∧ ys = IL us ∧ Low p us ∧ 0 ≤ t ∧ t ≤ p) ?_ ?_ _ _ ?_
        · rintro d ys s ⟨us, t, g6, rfl, hy, hu, t0, t1⟩
          cases us with
          | nil => cases hy
          | cons u us =>
            cases hy
            have hu1 := hu u (List.mem_cons_self ..)
            have hc : cMul t (z - u) = true := cMul_pow 91 91 (by omega) (by omega) (by decide)
            simp [hp0, hc]
            exact ⟨us, rfl, fun x hx => hu x (List.mem_cons_of_mem _ hx), (Low.mod hp0).1, Int.le_of_lt (Low.mod hp0).2⟩
        · rintro s ⟨us, t, g6, rfl, hy, hu, t0, t1⟩
          cases us with
          | nil => exact ⟨t, g6, rfl, t0, t1⟩
          | cons u us => cases hy
        · exact ⟨ns, 1, g6, rfl, rfl, hn, by decide, by omega⟩
      · rintro q ⟨t, g6, rfl, t0, t1⟩
        have s1 : vs.length < SL.1 := SL_lt (by omega)
        simp [s1]
        refine ⟨zs, vs ++ [t], by simp, rfl, fun x hx => hz x (List.mem_cons_of_mem _ hx), by simp; omega, fun v hv => ?_⟩
        rcases List.mem_append.mp hv with h | h
        · exact h4 v h
        · rw [List.mem_singleton.mp h]; exact ⟨t0, t1⟩
  · rintro s ⟨zs, vs, g4, g5, g6, rfl, hx, hz, h3, h4⟩
    cases zs with
    | nil =>
      simp
      exact ⟨vs, rfl, by simpa using h3, h4⟩
    | cons z zs => cases hx
  · exact ⟨ps, [], none, none, none, rfl, rfl, hl, by simp, fun v hv => by cases hv⟩
theorem powers_ok (mem : Mem) (p x : Int) (n : Nat) (hp : 2 ≤ p) (hb : p < 2 ^ 90) (hx : 0 ≤ x ∧ x < p) (hn : n < 900) :
    (m_powers mem [.d (.int p), .d (.int x), .d (.int n)]).wp (fun q => ∃ vs : List Int, q = (.f (IL vs), mem) ∧ vs.length = n ∧ Low p vs) fun _ => False := by
  unfold m_powers b_powers
  have hp0 : 0 < p := by omega
  have hi : inB (n : Int) = true := by rw [inB_eq]; simp; omega
  simp [hi]
  rw [Res.wp_bind]
  refine forGo_wp (fun xs s => ∃ (vs : List Int) (t : Int) (g5 : Option W), s = ⟨[some (.d (.int p)), some (.d (.int x)), some (.d (.int n)), some (.c mem.length), some (.d (.int t)), g5], mem ++ [some (.l (IL vs))], mem.length⟩ ∧ vs.length + xs.length = n ∧ Low p vs ∧ 0 ≤ t ∧ t < p) ?_ ?_ _ _ ?_
  · rintro d xs s ⟨vs, t, g5, rfl, h1, h2, t0, t1⟩
    rw [List.length_cons] at h1
    have s1 : vs.length < SL.1 := SL_lt (by omega)
    simp [s1, hp0, mul90 hb ⟨t0, t1⟩ hx]
    refine ⟨vs ++ [t], _, ⟨rfl, by simp⟩, by simp; omega, h2.app fun y hy => ?_, (Low.mod hp0).1, (Low.mod hp0).2⟩
    rw [List.mem_singleton.mp hy]; exact ⟨t0, t1⟩
  · rintro s ⟨vs, t, g5, rfl, h1, h2, t0, t1⟩
    simp
    exact ⟨vs, rfl, by simpa using h1, h2⟩
  · exact ⟨[], 1, none, rfl, by simp, fun y hy => absurd hy (by simp), by decide, by omega⟩
def negD (r p : Int) : D → D | .int c => .int (-c * r % p) | _ => .none
theorem equation_ok (mem : Mem) (p x r : Int) (hi lo : Nat) (hp : 2 ≤ p) (hb : p < 2 ^ 90) (hx : 0 ≤ x ∧ x < p) (hr : 0 ≤ r ∧ r < p) (h1 : hi < 400) (h2 : lo < 400) :
    (m_equation mem [.d (.int p), .d (.int x), .d (.int r), .d (.int hi), .d (.int lo)]).wp (fun q => ∃ vs : List Int, q = (.f (IL vs), mem) ∧ vs.length = hi + lo + 1 ∧ Low p vs) fun _ => False := by
  unfold m_equation b_equation
  have hp0 : 0 < p := by omega
  simp
  refine Res.wp_then (powers_ok mem p x (hi + 1) hp hb hx (by omega)) (fun q hq => ?_) fun _ h => h
  obtain ⟨top, rfl, t1, t2⟩ := hq
  simp
  refine Res.wp_then (powers_ok mem p x (lo + 1) hp hb hx (by omega)) (fun q hq => ?_) fun _ h => h
  obtain ⟨bot, rfl, b1, b2⟩ := hq
  simp [cutD_to (show (0 : Int) ≤ (hi : Int) by omega), cutD_to (show (0 : Int) ≤ (lo : Int) by omega)]
  have et : List.take hi (IL top) = IL (top.take hi) := by simp
  have eb : List.take lo (IL bot) = IL (bot.take lo) := by simp
  rw [et, eb, lcGo_map (negD r p)]
  · have e3 : (IL (bot.take lo)).map (negD r p) = IL ((bot.take lo).map fun c => -c * r % p) := IL_map (fun c => -c * r % p) _ _ fun i => rfl
    rw [e3]
    generalize hnb : ((bot.take lo).map fun c => -c * r % p) = nb
    have nl : nb.length = lo := by rw [← hnb]; simp; omega
    have nlow : Low p nb := fun y hy => by
      rw [← hnb] at hy
      obtain ⟨z, _, rfl⟩ := List.mem_map.mp hy
      exact Low.mod hp0
    have tl : (top.take hi).length = hi := by simp; omega
    have s1 : hi + lo ≤ SL.1 := SL_le (by omega)
    have s2 : hi + lo + 1 ≤ SL.1 := SL_le (by omega)
    have c1 : cMul (nth bot lo) r = true := mul90 hb (b2.nth hp0) hr
    have e4 : IL (top.take hi) ++ IL nb = IL (top.take hi ++ nb) := by simp
    have e5 : (top.take hi ++ nb).length = hi + lo := by rw [List.length_append, tl, nl]
    simp only [Res.bind_ok', gAdd_mk, dat_f, List.length_map, tl, nl, s1, if_true, e4]
    simp [nth_some (show lo < bot.length by omega), nth_some (show hi < top.length by omega), c1, hp0, nl, t1, show min hi (hi + 1) = hi by omega, s2]
    refine ⟨top.take hi ++ nb ++ [(nth bot lo * r - nth top hi) % p], by simp [nth_get (show hi < top.length by omega)], by rw [List.length_append, e5]; rfl, ((t2.take hi).app nlow).app fun y hy => ?_⟩
    rw [List.mem_singleton.mp hy]
    exact Low.mod hp0
  · intro d hd
    obtain ⟨c, hc, rfl⟩ := List.mem_map.mp hd
    have hc' := b2 c (List.mem_of_mem_take hc)
    have c1 : cMul (-c) r = true := cMul_pow 90 90 (by omega) (by omega) (by decide)
    simp [hp0, negD, c1]
  · simp
    exact sl_le (by omega)
theorem raw_roots_ok (mem : Mem) (p : Int) (ns ms : List Int) (d : D) (hd : d = .list (IL ns) ∨ d = .tuple (IL ns)) (hp : 2 ≤ p) (hb : p < 2 ^ 90) (hn : Low p ns) (hm : Low p ms) (hl : ms.length < 1000) :
    (m_raw_roots mem [.d (.int p), .d d, .d (.tuple (IL ms))]).wp (fun q => ∃ vs : List D, q = (.d (.tuple vs), mem)) fun _ => False := by
  unfold m_raw_roots b_raw_roots
  have hp0 : 0 < p := by omega
  simp
  refine Res.wp_then (Q1 := fun q => ∃ vs : List D, q = (vs, ⟨[some (.d (.int p)), some (.d d), some (.d (.tuple (IL ms))), none], mem, mem.length⟩)) (X1 := fun _ => False) ?_ ?_ fun _ h => h
  · refine lcGo_wp (fun xs m b acc => ∃ zs : List Int, xs = IL zs ∧ Low p zs ∧ m = mem ∧ b = mem.length ∧ acc.length + zs.length ≤ ms.length) ?_ ?_ _ _ _ rfl ⟨ms, rfl, hm, rfl, rfl, by simp⟩
    · rintro d' xs m b acc ⟨zs, hx, hz, rfl, rfl, hl2⟩
      cases zs with
      | nil => cases hx
      | cons z zs =>
        cases hx
        rw [List.length_cons] at hl2
        have hz1 := hz z (List.mem_cons_self ..)
        obtain ⟨q, e, r, rfl, r0, r1⟩ := Res.ok_of_wp (at_place_ok m p z ns d hd hp0 hb hz1 hn)
        have hz' : Low p zs := fun x hx => hz x (List.mem_cons_of_mem _ hx)
        refine ⟨⟨[some (.d (.int p)), some (.d d), some (.d (.tuple (IL ms))), some (.d (.int z))], m, m.length⟩, by simp, ?_⟩
        simp [e]
        split
        · exact ⟨_, _, ⟨rfl, rfl⟩, sl_lt (by omega), zs, rfl, hz', rfl, rfl, by omega⟩
        · exact ⟨zs, rfl, hz', by omega⟩
    · rintro m b acc ⟨zs, hx, hz, rfl, rfl, hl2⟩
      exact ⟨acc, rfl⟩
  · rintro q ⟨vs, rfl⟩
    simp
theorem zip3_IL : ∀ (xs ys zs : List Int), zip3 (IL xs) (IL ys) (IL zs) = (xs.zip (ys.zip zs)).map fun x => PyData.tuple [.int x.1, .int x.2.1, .int x.2.2]
  | [], _, _ => by simp [zip3]
  | _ :: _, [], _ => by simp [zip3]
  | _ :: _, _ :: _, [] => by simp [zip3]
  | x :: xs, y :: ys, z :: zs => by
    show PyData.tuple [.int x, .int y, .int z] :: zip3 (IL xs) (IL ys) (IL zs) = _
    rw [zip3_IL xs ys zs]
    rfl
theorem fit_ok (mem : Mem) (p : Int) (as bs own ps ts : List Int) (hp : 2 ≤ p) (hb : p < 2 ^ 90) (ha : Low p as) (hbs : Low p bs) (ho : Low p own) (hps : Low p ps) (ht : Low p ts) (hl : ps.length < 1000) :
    (m_fit mem [.d (.int p), .d (.tuple [.list (IL as), .list (IL bs)]), .d (.tuple (IL own)), .d (.tuple (IL ps)), .d (.tuple (IL ts))]).wp (fun q => ∃ b, q = (.d (.bool b), mem)) fun _ => False := by
  unfold m_fit b_fit
  have hp0 : 0 < p := by omega
  simp
  refine Res.wp_then (raw_values_ok mem p own ps hp hb ho hps hl) (fun q hq => ?_) fun _ h => h
  obtain ⟨vs, rfl, v1, v2⟩ := hq
  simp [zip3_IL]
  rw [Res.wp_bind]
  refine forGo_wp (fun xs s => ∃ (zs : List (Int × Int × Int)) (g5 g6 g7 : Option W), s = ⟨[some (.d (.int p)), some (.d (.tuple [.list (IL as), .list (IL bs)])), some (.d (.tuple (IL own))), some (.d (.tuple (IL ps))), some (.d (.tuple (IL ts))), g5, g6, g7], mem, mem.length⟩ ∧ xs = zs.map (fun x => PyData.tuple [.int x.1, .int x.2.1, .int x.2.2]) ∧ ∀ z ∈ zs, (0 ≤ z.1 ∧ z.1 < p) ∧ (0 ≤ z.2.1 ∧ z.2.1 < p) ∧ 0 ≤ z.2.2 ∧ z.2.2 ≤ p) ?_ ?_ _ _ ?_
  · rintro d xs s ⟨zs, g5, g6, g7, rfl, hx, hz⟩
    cases zs with
    | nil => cases hx
    | cons z zs =>
      obtain ⟨x, t, v⟩ := z
      cases hx
      obtain ⟨z1, z2, z3⟩ := hz _ (List.mem_cons_self ..)
      dsimp only at z1 z2 z3
      have hz' : ∀ z ∈ zs, (0 ≤ z.1 ∧ z.1 < p) ∧ (0 ≤ z.2.1 ∧ z.2.1 < p) ∧ 0 ≤ z.2.2 ∧ z.2.2 ≤ p := fun y hy => hz y (List.mem_cons_of_mem _ hy)
      simp
      refine Res.wp_then (at_place_ok mem p x as _ (.inl rfl) hp0 hb z1 ha) (fun q hq => ?_) fun _ h => h
      obtain ⟨r, rfl, r0, r1⟩ := hq
      have c1 : cMul r v = true := cMul_pow 91 91 (by omega) (by omega) (by decide)
      simp [c1]
      refine Res.wp_then (at_place_ok mem p x bs _ (.inl rfl) hp0 hb z1 hbs) (fun q hq => ?_) fun _ h => h
      obtain ⟨r', rfl, r0', r1'⟩ := hq
      have c2 : cMul r' t = true := cMul_pow 91 91 (by omega) (by omega) (by decide)
      simp [c2, hp0]
      split
      · simp
        exact ⟨zs, rfl, fun a b c h => hz' (a, b, c) h⟩
      · simp
  · rintro s ⟨zs, g5, g6, g7, rfl, hx, hz⟩
    simp
  · refine ⟨ps.zip (ts.zip vs), none, none, none, rfl, rfl, fun z hz => ?_⟩
    have h1 := List.of_mem_zip hz
    have h2 := List.of_mem_zip h1.2
    exact ⟨hps _ h1.1, ht _ h2.1, v2 _ h2.2⟩
theorem reduced_ok (mem : Mem) (p : Int) (hi lo : Nat) (xs : List Int) (hP : Pr p) (hx : Low p xs) (hl : xs.length = hi + lo) (h1 : hi < 400) (h2 : lo < 400) :
    (m_reduced mem [.d (.int p), .d (.int hi), .d (.int lo), .d (.list (IL xs))]).wp (fun q => ∃ as bs : List Int, q = (.d (.tuple [.list (IL as), .list (IL bs)]), mem) ∧ Low p as ∧ Low p bs) fun _ => False := by
  unfold m_reduced b_reduced
  have hp0 : 0 < p := by have := hP.two; omega
  have e1 : PD.cutD (IL xs) none (some (hi : Int)) = List.take hi (IL xs) := by rw [cutD_to (by omega)]; simp
  have e2 : PD.cutD (IL xs) (some (hi : Int)) none = List.drop hi (IL xs) := by rw [cutD_from (by omega)]; simp
  have s1 : min hi xs.length + 1 ≤ SL.1 := SL_le (by omega)
  have s2 : xs.length - hi + 1 ≤ SL.1 := SL_le (by omega)
  have f3 : List.take hi (IL xs) ++ [.int 1] = IL (xs.take hi ++ [1]) := by simp
  have f4 : List.drop hi (IL xs) ++ [.int 1] = IL (xs.drop hi ++ [1]) := by simp
  generalize hA : xs.take hi ++ [1] = A at f3
  generalize hB : xs.drop hi ++ [1] = B at f4
  have hone : Low p [1] := fun y hy => by rw [List.mem_singleton.mp hy]; have := hP.two; omega
  have lA : Low p A := by rw [← hA]; exact (hx.take hi).app hone
  have lB : Low p B := by rw [← hB]; exact (hx.drop hi).app hone
  have nA : A.length < 1000 := by rw [← hA]; simp; omega
  have nB : B.length < 1000 := by rw [← hB]; simp; omega
  have zA : nth A (A.length - 1) ≠ 0 := by rw [← hA]; have := @nth_app (xs.take hi) [1] 0; simp at this ⊢; simp [this, nth]
  have zB : nth B (B.length - 1) ≠ 0 := by rw [← hB]; have := @nth_app (xs.drop hi) [1] 0; simp at this ⊢; simp [this, nth]
  simp [e1, e2, s1, s2, f3, f4]
  refine Res.wp_then (common_ok mem p A B hP lA lB nA nB zA zB) (fun q hq => ?_) fun _ h => h
  obtain ⟨g, rfl, g1, g2, g3, g4, g5⟩ := hq
  simp
  have hgp : 0 < g.length := List.length_pos_iff.mpr g2
  refine Res.wp_then (parted_ok mem p A g hP.two hP.big lA g1 g2 nA (by omega) hP g5) (fun q hq => ?_) fun _ h => h
  obtain ⟨q1, r1, rfl, a1, a2, a3, a4, a5⟩ := hq
  have n1 := (a5 zA).1
  simp
  refine Res.wp_then (monic_ok mem p q1 hP.two hP.big a1 (fun e => by rw [e] at n1; simp at n1; omega) (by omega)) (fun q hq => ?_) fun _ h => h
  obtain ⟨m1, rfl, b1, b2, b3⟩ := hq
  simp
  refine Res.wp_then (parted_ok mem p B g hP.two hP.big lB g1 g2 nB (by omega) hP g5) (fun q hq => ?_) fun _ h => h
  obtain ⟨q2, r2, rfl, c1, c2, c3, c4, c5⟩ := hq
  have n2 := (c5 zB).1
  simp
  refine Res.wp_then (monic_ok mem p q2 hP.two hP.big c1 (fun e => by rw [e] at n2; simp at n2; omega) (by omega)) (fun q hq => ?_) fun _ h => h
  obtain ⟨m2, rfl, d1, d2, d3⟩ := hq
  simp
  exact ⟨m1, m2, ⟨rfl, rfl⟩, b1, d1⟩
end K43

set_option Elab.async false
set_option linter.all false
set_option maxRecDepth 100000
set_option maxHeartbeats 4000000
set_option exponentiation.threshold 4000
namespace K43
open PySem PySem.Spec PyProof.Rows L2 PD
theorem ite_ok {c : Prop} [Decidable c] {a b : Int} {s : S} : (if c then Res.ok (W.d (.int a), s) else Res.ok (W.d (.int b), s)) = .ok (W.d (.int (if c then a else b)), s) := by split <;> rfl
theorem raw_difference_ok (mem : Mem) (p : Int) (own ps ts : List Int) (many most : Int) (hP : Pr p) (ho : Low p own) (hps : Low p ps) (ht : Low p ts) (lo : own.length ≤ 200) (lp : ps.length ≤ 64) (hm : 0 ≤ many ∧ many ≤ 200) (hmo : 0 ≤ most ∧ most ≤ 64) :
    (m_raw_difference mem [.d (.int p), .d (.tuple (IL own)), .d (.int many), .d (.tuple (IL ps)), .d (.tuple (IL ts)), .d (.int most)]).wp (fun q => q = (.d .none, mem) ∨ ∃ x y : D, q = (.d (.tuple [x, y]), mem)) fun _ => False := by
  unfold m_raw_difference b_raw_difference
  have hp := hP.two
  have hb := hP.big
  have hp0 : 0 < p := by omega
  have tot : ∃ total : Int, (if (most - (many - (own.length : Int))) % 2 = 0 then most else most - 1) = total ∧ total ≤ 64 ∧ (total - (many - own.length)) % 2 = 0 := by
    split
    · exact ⟨most, rfl, by omega, by omega⟩
    · exact ⟨most - 1, rfl, by omega, by omega⟩
  obtain ⟨total, e0, t1, t2⟩ := tot
  generalize hap : many - (own.length : Int) = ap at *
  simp [hap]
  rw [ite_ok, e0]
  simp
  by_cases q1 : total < 0
  · simp [q1]
  by_cases q2 : total < ap
  · simp [q1, q2]
  by_cases q3 : total < -ap
  · simp [q1, q2, q3]
  obtain ⟨hi, ehi⟩ : ∃ hi : Nat, (total + ap) / 2 = hi := ⟨((total + ap) / 2).toNat, by omega⟩
  obtain ⟨lw, elw⟩ : ∃ lw : Nat, (total - ap) / 2 = lw := ⟨((total - ap) / 2).toNat, by omega⟩
  have bhi : hi < 400 := by omega
  have blw : lw < 400 := by omega
  have esum : total = ((hi + lw : Nat) : Int) := by omega
  have d1 : cDiv (total + ap) 2 = true := cDiv_pow 5 (by decide) (by decide) (by decide)
  have d2 : cDiv (total - ap) 2 = true := cDiv_pow 5 (by decide) (by decide) (by decide)
  simp [q1, q2, q3, d1, d2, ehi, elw]
  refine Res.wp_then (raw_values_ok _ p own ps hp hb ho hps (by omega)) (fun q hq => ?_) fun _ h => h
  obtain ⟨vs, rfl, v1, v2⟩ := hq
  simp [zip3_IL]
  refine Res.wp_then (Q1 := fun q => ∃ (rows : List (List Int)) (g12 g13 g14 : Option W), q = (.nx, ⟨[some (.d (.int p)), some (.d (.tuple (IL own))), some (.d (.int many)), some (.d (.tuple (IL ps))), some (.d (.tuple (IL ts))), some (.d (.int most)), some (.d (.int ap)), some (.d (.int total)), some (.c mem.length), none, some (.d (.int hi)), some (.d (.int lw)), g12, g13, g14, none, none], mem ++ [some (.l (RL rows))], mem.length⟩) ∧ Mat p (hi + lw + 1) rows ∧ rows.length ≤ ps.length) (X1 := fun _ => False) ?_ ?_ fun _ h => h
  · refine forGo_wp (fun xs s => ∃ (zs : List (Int × Int × Int)) (rows : List (List Int)) (g12 g13 g14 : Option W), s = ⟨[some (.d (.int p)), some (.d (.tuple (IL own))), some (.d (.int many)), some (.d (.tuple (IL ps))), some (.d (.tuple (IL ts))), some (.d (.int most)), some (.d (.int ap)), some (.d (.int total)), some (.c mem.length), none, some (.d (.int hi)), some (.d (.int lw)), g12, g13, g14, none, none], mem ++ [some (.l (RL rows))], mem.length⟩ ∧ xs = zs.map (fun x => PyData.tuple [.int x.1, .int x.2.1, .int x.2.2]) ∧ (∀ z ∈ zs, (0 ≤ z.1 ∧ z.1 < p) ∧ (0 ≤ z.2.1 ∧ z.2.1 < p)) ∧ Mat p (hi + lw + 1) rows ∧ rows.length + zs.length ≤ ps.length) ?_ ?_ _ _ ?_
    · rintro d xs s ⟨zs, rows, g12, g13, g14, rfl, hx, hz, hM, hl⟩
      cases zs with
      | nil => cases hx
      | cons z zs =>
        obtain ⟨x, t, v⟩ := z
        cases hx
        obtain ⟨z1, z2⟩ := hz _ (List.mem_cons_self ..)
        dsimp only at z1 z2
        rw [List.length_cons] at hl
        have hz' : ∀ z ∈ zs, (0 ≤ z.1 ∧ z.1 < p) ∧ (0 ≤ z.2.1 ∧ z.2.1 < p) := fun y hy => hz y (List.mem_cons_of_mem _ hy)
        have s1 : rows.length < SL.1 := SL_lt (by omega)
        simp
        refine Res.wp_then (inverse_ok _ p v hp hb) (fun q hq => ?_) fun _ h => h
        obtain ⟨r, rfl, r0, r1, _⟩ := hq
        simp [hp0, mul90 hb z2 ⟨r0, r1⟩]
        refine Res.wp_then (equation_ok _ p x (t * r % p) hi lw hp hb z1 (Low.mod hp0) bhi blw) (fun q hq => ?_) fun _ h => h
        obtain ⟨row, rfl, w1, w2⟩ := hq
        simp [s1]
        refine ⟨zs, rows ++ [row], by simp, rfl, fun a b c h => hz' (a, b, c) h, fun r hr => ?_, by simp; omega⟩
        rcases List.mem_append.mp hr with h | h
        · exact hM r h
        · rw [List.mem_singleton.mp h]; exact ⟨w1, w2⟩
    · rintro s ⟨zs, rows, g12, g13, g14, rfl, hx, hz, hM, hl⟩
      exact ⟨rows, g12, g13, g14, rfl, hM, by omega⟩
    · refine ⟨ps.zip (ts.zip vs), [], none, none, none, rfl, rfl, fun z hz => ?_, fun r hr => absurd hr (by simp), by simp; omega⟩
      have h1 := List.of_mem_zip hz
      have h2 := List.of_mem_zip h1.2
      exact ⟨hps _ h1.1, ht _ h2.1⟩
  · rintro q ⟨rows, g12, g13, g14, rfl, hM, hl⟩
    simp
    rw [esum]
    refine Res.wp_then (solved_ok _ p rows (hi + lw) hp hb hM (by omega) (by omega)) (fun q hq => ?_) fun _ h => h
    rcases hq with rfl | ⟨xs, rfl, x1, x2⟩
    · simp
    · simp
      refine Res.wp_then (reduced_ok _ p hi lw xs hP x2 x1 bhi blw) (fun q hq => ?_) fun _ h => h
      obtain ⟨A, B, rfl, lA, lB⟩ := hq
      simp
      refine Res.wp_then (raw_roots_ok _ p B own _ (.inl rfl) hp hb lB ho (by omega)) (fun q hq => ?_) fun _ h => h
      obtain ⟨rts, rfl⟩ := hq
      simp
      by_cases q4 : (rts.length : Int) = (B.length : Int) - 1
      · simp [q4]
        refine Res.wp_then (fit_ok _ p A B own ps ts hp hb lA lB ho hps ht (by omega)) (fun q hq => ?_) fun _ h => h
        obtain ⟨b, rfl⟩ := hq
        cases b with
        | true => simp
        | false => simp
      · simp [q4]
end K43

set_option Elab.async false
set_option linter.all false
set_option maxRecDepth 100000
set_option maxHeartbeats 4000000
set_option exponentiation.threshold 4000
namespace K43
open PySem PySem.Spec PyProof.Rows L2 PD
/-- no factor up to the root -/
def NoFac (n : Int) : Prop := 1 < n ∧ ∀ d : Int, 2 ≤ d → d * d ≤ n → n % d ≠ 0
theorem small_prime_ok (mem : Mem) (n : Int) (hn : n < 10000) : (m_is_small_prime mem [.d (.int n)]).wp (fun q => ∃ b : Bool, q = (.d (.bool b), mem) ∧ (b = true ↔ NoFac n)) fun _ => False := by
  unfold m_is_small_prime b_is_small_prime
  simp
  rw [Res.wp_bind]
  refine whGo_wp (fun s => ∃ a : Int, s = ⟨[some (.d (.int n)), some (.d (.int a))], mem, mem.length⟩ ∧ 2 ≤ a ∧ a ≤ 101 ∧ ∀ d : Int, 2 ≤ d → d < a → d * d ≤ n → n % d ≠ 0) (fun s => 200 - lenAt 1 s) ?_ _ _ ?_ ?_
  · rintro s ⟨a, rfl, a2, a3, h⟩
    have hc : cMul a a = true := mulA (by omega) (by omega)
    by_cases hle : a * a ≤ n
    · have ha : a ≤ 99 := by
        apply Classical.byContradiction
        intro hx
        have : 100 * 100 ≤ a * a := Int.mul_le_mul (by omega) (by omega) (by decide) (by omega)
        omega
      by_cases hz : n % a = 0
      · simp [hc, hle, show 0 < a by omega, hz]
        intro hF
        exact absurd hz (hF.2 a a2 hle)
      · simp [hc, hle, show 0 < a by omega, hz]
        refine ⟨⟨by omega, by omega, fun d d2 d3 d4 => ?_⟩, ?_⟩
        · by_cases e : d = a
          · subst e; exact hz
          · exact h d d2 (by omega) d4
        · obtain ⟨k, rfl⟩ := Int.eq_ofNat_of_zero_le (show 0 ≤ a by omega)
          have e1 : ((k : Int) + 1).toNat = k + 1 := rfl
          have e2 : (k : Int).toNat = k := rfl
          rw [e1, e2]
          omega
    · simp [hc, hle]
      by_cases h1 : 1 < n
      · refine .inr ⟨h1, h1, fun d d2 d3 => h d d2 ?_ d3⟩
        apply Classical.byContradiction
        intro hx
        have : a * a ≤ d * d := Int.mul_le_mul (by omega) (by omega) (by omega) (by omega)
        omega
      · exact .inl ⟨by omega, fun hF => h1 hF.1⟩
  · exact ⟨2, rfl, by decide, by decide, fun d d2 d3 => by omega⟩
  · rw [rounds.2]
    simp
theorem pr_of_isP {n : Nat} (h : PR.IsP n) (hb : (n : Int) < 2 ^ 90) : Pr n := by
  refine ⟨by have := h.1; omega, hb, fun d hd hdn => ?_⟩
  obtain ⟨k, rfl⟩ := Int.eq_ofNat_of_zero_le (show 0 ≤ d by omega)
  have : k ∣ n := Int.ofNat_dvd.mp hdn
  rcases h.2 k this with e | e
  · exact .inl (by rw [e]; rfl)
  · exact .inr (by rw [e])
theorem pr_small {n : Int} (h : NoFac n) (hb : n < 2 ^ 90) : Pr n := by
  obtain ⟨k, rfl⟩ := Int.eq_ofNat_of_zero_le (show 0 ≤ n by have := h.1; omega)
  refine pr_of_isP (PR.IsP.of_small (by have := h.1; omega) fun d d2 dd e => ?_) hb
  refine h.2 d (by omega) (by exact_mod_cast dd) ?_
  exact_mod_cast e
abbrev GP : Int := 618970019642690137449562111
theorem pr_great : Pr GP := pr_of_isP (n := PR.M) PR.prime_M (by decide +kernel)
/-- what check_prime lets pass -/
def GoodP (n : Int) : Prop := n = GP ∨ (n < 10000 ∧ NoFac n)
theorem GoodP.pr {n : Int} (h : GoodP n) : Pr n := by
  rcases h with rfl | ⟨h1, h2⟩
  · exact pr_great
  · exact pr_small h2 (by omega)
theorem check_prime_ok (mem : Mem) (n : Int) (h : GoodP n) : m_check_prime mem [.d (.int n)] = .ok (.d .none, mem) := by
  unfold m_check_prime b_check_prime
  rcases h with rfl | ⟨h1, h2⟩
  · simp
  · have hg : n ≠ 618970019642690137449562111 := by omega
    obtain ⟨q, e, b, rfl, hb⟩ := Res.ok_of_wp (small_prime_ok mem n h1)
    have : b = true := hb.mpr h2
    subst this
    simp [hg, e, show ¬ 10000 ≤ n by omega]
theorem check_prime_no (mem : Mem) (n : Int) (h : ¬ GoodP n) : m_check_prime mem [.d (.int n)] = .exc "NoPrime" := by
  unfold m_check_prime b_check_prime
  have hg : n ≠ 618970019642690137449562111 := fun e => h (.inl e)
  by_cases h1 : 10000 ≤ n
  · simp [hg, h1]
  · obtain ⟨q, e, b, rfl, hb⟩ := Res.ok_of_wp (small_prime_ok mem n (by omega))
    have : b = false := by
      cases b with
      | false => rfl
      | true => exact absurd (.inr ⟨by omega, hb.mp rfl⟩) h
    subst this
    simp [hg, e, h1]
theorem check_prime_bad (mem : Mem) (x : D) (h : isI x = false) : m_check_prime mem [.d x] = .exc "NoPrime" := by
  unfold m_check_prime b_check_prime
  simp [h]
theorem check_value_ok (mem : Mem) (n m : Int) (h : 0 ≤ n ∧ n ≤ m) : m_check_value mem [.d (.int n), .d (.int m)] = .ok (.d .none, mem) := by
  unfold m_check_value b_check_value
  simp [h]
theorem check_value_bad (mem : Mem) (x : D) (m : Int) (h : btw x 0 m = false) : m_check_value mem [.d x, .d (.int m)] = .exc "NoNumber" := by
  unfold m_check_value b_check_value
  simp [h]
end K43

set_option Elab.async false
set_option linter.all false
set_option maxRecDepth 100000
set_option maxHeartbeats 4000000
set_option exponentiation.threshold 4000
namespace K43
open PySem PySem.Spec PyProof.Rows L2 PD
def ixD (p : Int) (d : D) : D := .bool (btw d 0 (p - 1))
/-- a tuple: not longer than m -/
def tupLe : D → Nat → Bool | .tuple xs, m => decide (xs.length ≤ m) | _, _ => false
theorem intsB : ∀ {xs : List D} {p : Int}, xs.all (fun d => btw d 0 (p - 1)) = true → ∃ ns : List Int, xs = IL ns ∧ Low p ns
  | [], p, _ => ⟨[], rfl, fun x hx => by cases hx⟩
  | d :: xs, p, h => by
    rw [List.all_cons, Bool.and_eq_true] at h
    obtain ⟨ns, rfl, hn⟩ := intsB h.2
    have h1 := h.1
    cases d with
    | int i =>
      simp [btw] at h1
      refine ⟨i :: ns, rfl, fun x hx => ?_⟩
      rcases List.mem_cons.mp hx with rfl | hx
      · omega
      · exact hn x hx
    | _ => simp [btw] at h1
theorem check_numbers_len (mem : Mem) (p : Int) (x : D) (h : tupLe x 200 = false) : m_check_numbers mem [.d (.int p), .d x] = .exc "NoNumbers" := by
  unfold m_check_numbers b_check_numbers
  cases x with
  | tuple xs =>
    have : (200 : Int) < (xs.length : Int) := by simp [tupLe] at h; omega
    simp [this]
  | _ => simp
theorem check_numbers_ix (mem : Mem) (p : Int) (xs : List D) (hl : xs.length ≤ 200) (h : xs.all (fun d => btw d 0 (p - 1)) = false) : m_check_numbers mem [.d (.int p), .d (.tuple xs)] = .exc "NoNumbers" := by
  unfold m_check_numbers b_check_numbers
  have h1 : ¬ (200 : Int) < (xs.length : Int) := by omega
  simp [h1]
  rw [lcGo_map (ixD p)]
  · have hb : boolsOf (xs.map (ixD p)) = some (xs.map fun d => btw d 0 (p - 1)) := boolsOf_map _ _
    have h2 : (xs.map fun d => btw d 0 (p - 1)).all id = false := by rw [List.all_map]; exact h
    simp only [Res.bind_ok', gAll_mk, dat_f, hb, if_false, Bool.false_eq_true, h2]
    simp
  · intro d hd
    simp [ixD]
  · exact sl_le (by omega)
theorem check_numbers_asc (mem : Mem) (p : Int) (ns : List Int) (hl : ns.length ≤ 200) (h : Low p ns) : m_check_numbers mem [.d (.int p), .d (.tuple (IL ns))] = if asc ns then .ok (.d .none, mem) else .exc "NoNumbers" := by
  unfold m_check_numbers b_check_numbers
  have h1 : ¬ (200 : Int) < (ns.length : Int) := by omega
  simp [h1]
  rw [lcGo_map (ixD p)]
  · have hb : boolsOf ((IL ns).map (ixD p)) = some ((IL ns).map fun d => btw d 0 (p - 1)) := boolsOf_map _ _
    have h2 : ((IL ns).map fun d => btw d 0 (p - 1)).all id = true := by
      rw [List.all_map, List.all_eq_true]
      intro d hd
      obtain ⟨i, hi, rfl⟩ := List.mem_map.mp hd
      have := h i hi
      simp
      omega
    simp only [Res.bind_ok', gAll_mk, dat_f, hb, if_false, Bool.false_eq_true, h2]
    have ha := asc_t mem ns (by omega)
    cases hs : asc ns with
    | true => simp [ha, hs]
    | false => simp [ha, hs]
  · intro d hd
    simp [ixD]
  · simp
    exact sl_le (by omega)
/-- told: from 1 to p - 1, so many -/
def toldD (p : Int) (d : D) : D := .bool (btw d 1 (p - 1))
theorem check_told_eq (mem : Mem) (p : Int) (x : D) (n : Nat) (hn : n ≤ 1000) : m_check_told mem [.d (.int p), .d x, .d (.int n)] = if (match x with
    | .tuple xs => decide (xs.length = n) && xs.all (fun d => btw d 1 (p - 1))
    | _ => false) = true then .ok (.d .none, mem) else .exc "NoValues" := by
  unfold m_check_told b_check_told
  cases x with
  | tuple xs =>
    by_cases h : xs.length = n
    · have h' : (xs.length : Int) = (n : Int) := by omega
      simp [h']
      rw [lcGo_map (toldD p)]
      · have hb : boolsOf (xs.map (toldD p)) = some (xs.map fun d => btw d 1 (p - 1)) := boolsOf_map _ _
        have h2 : (xs.map fun d => btw d 1 (p - 1)).all id = xs.all fun d => btw d 1 (p - 1) := by rw [List.all_map]; rfl
        simp only [Res.bind_ok', gAll_mk, dat_f, hb, if_false, Bool.false_eq_true, h2]
        cases hs : xs.all fun d => btw d 1 (p - 1) with
        | true =>
          simp [h]
          exact List.all_eq_true.mp hs
        | false =>
          simp
          intro _
          simpa using hs
      · intro d hd
        simp [toldD]
      · exact sl_le (by omega)
    · have h' : ¬ (xs.length : Int) = (n : Int) := by omega
      simp [h, h']
  | _ => simp [tupOf]
theorem check_poly_len (mem : Mem) (p : Int) (x : D) (h : ∀ xs, x = .tuple xs → xs.length = 0 ∨ 65 < xs.length) : m_check_polynomial mem [.d (.int p), .d x] = .exc "NoPolynomial" := by
  unfold m_check_polynomial b_check_polynomial
  cases x with
  | tuple xs =>
    rcases h xs rfl with h | h
    · have : ¬ (1 : Int) ≤ (xs.length : Int) := by omega
      simp [this]
    · have h1 : (1 : Int) ≤ (xs.length : Int) := by omega
      have : ¬ (xs.length : Int) ≤ 65 := by omega
      simp [h1, this]
  | _ => simp
theorem check_poly_eq (mem : Mem) (p : Int) (xs : List D) (l : D) (h1 : 1 ≤ xs.length) (h2 : xs.length ≤ 65) (hl : xs.getLast? = some l) : m_check_polynomial mem [.d (.int p), .d (.tuple xs)] = if (xs.all (fun d => btw d 0 (p - 1)) && PyData.eqv l (.int 1)) = true then .ok (.d .none, mem) else .exc "NoPolynomial" := by
  unfold m_check_polynomial b_check_polynomial
  have h1' : (1 : Int) ≤ (xs.length : Int) := by omega
  have h2' : (xs.length : Int) ≤ 65 := by omega
  simp [h1', h2']
  rw [lcGo_map (ixD p)]
  · have hb : boolsOf (xs.map (ixD p)) = some (xs.map fun d => btw d 0 (p - 1)) := boolsOf_map _ _
    have h2 : (xs.map fun d => btw d 0 (p - 1)).all id = xs.all fun d => btw d 0 (p - 1) := by rw [List.all_map]; rfl
    simp only [Res.bind_ok', gAll_mk, dat_f, hb, if_false, Bool.false_eq_true, h2]
    cases hs : xs.all fun d => btw d 0 (p - 1) with
    | true =>
      have hm : l ∈ xs := List.mem_of_getLast? hl
      have hbt := List.all_eq_true.mp hs l hm
      have hs' := List.all_eq_true.mp hs
      cases l with
      | int i =>
        by_cases hi : i = 1
        · subst hi
          simp [hl]
          exact hs'
        · simp [hl, hi]
      | _ => simp [btw] at hbt
    | false =>
      simp
      intro hx
      exact absurd (List.all_eq_true.mpr hx) (by rw [hs]; exact Bool.false_ne_true)
  · intro d hd
    simp [ixD]
  · exact sl_le (by omega)
end K43

set_option Elab.async false
set_option linter.all false
set_option maxRecDepth 100000
set_option maxHeartbeats 4000000
set_option exponentiation.threshold 4000
namespace K43
open PySem PySem.Spec PyProof.Rows L2 PD
theorem inD_IL (n : Int) (ns : List Int) : inD (.int n) (IL ns) = decide (n ∈ ns) := by
  unfold inD
  induction ns with
  | nil => rfl
  | cons x ns ih =>
    simp at ih ⊢
    rw [ih]
    by_cases h : x = n
    · subst h; simp
    · have h' : ¬ n = x := fun q => h q.symm
      simp [h, h']
theorem flat_IL (ns : List Int) : (IL ns).all flatD = true := by
  rw [List.all_eq_true]
  intro d hd
  obtain ⟨x, _, rfl⟩ := List.mem_map.mp hd
  rfl
theorem ints_IL : ∀ ns : List Int, intsOf (IL ns) = some ns
  | [] => rfl
  | n :: ns => by
    show (intsOf (IL ns)).map (n :: ·) = _
    rw [ints_IL ns]
    rfl
def plD (p : Int) (ns : List Int) (d : D) : Bool := btw d 0 (p - 1) && !inD d (IL ns)
theorem check_places_len (mem : Mem) (p : Int) (y x : D) (h : tupLe x 64 = false) : m_check_places mem [.d (.int p), .d y, .d x] = .exc "NoPlaces" := by
  unfold m_check_places b_check_places
  cases x with
  | tuple xs =>
    have : (64 : Int) < (xs.length : Int) := by simp [tupLe] at h; omega
    simp [this]
  | _ => simp
theorem check_places_ix (mem : Mem) (p : Int) (ns : List Int) (xs : List D) (hl : xs.length ≤ 64) (h : xs.all (plD p ns) = false) : m_check_places mem [.d (.int p), .d (.tuple (IL ns)), .d (.tuple xs)] = .exc "NoPlaces" := by
  unfold m_check_places b_check_places
  have h1 : ¬ (64 : Int) < (xs.length : Int) := by omega
  simp [h1]
  rw [lcGo_map (fun d => .bool (plD p ns d))]
  · have hb : boolsOf (xs.map fun d => PyData.bool (plD p ns d)) = some (xs.map (plD p ns)) := boolsOf_map _ _
    have h2 : (xs.map (plD p ns)).all id = false := by rw [List.all_map]; exact h
    simp only [Res.bind_ok', gAll_mk, dat_f, hb, if_false, Bool.false_eq_true, h2]
    simp
  · intro d hd
    have hf := flat_IL ns
    cases hb : btw d 0 (p - 1) with
    | true =>
      cases d with
      | int i =>
        simp only [btw_i] at hb
        simp [hb, hf, plD]
      | _ => simp [btw] at hb
    | false => simp [hb, plD]
  · exact sl_le (by omega)
theorem check_places_dup (mem : Mem) (p : Int) (ns ps : List Int) (hl : ps.length ≤ 64) (h : (IL ps).all (plD p ns) = true) : m_check_places mem [.d (.int p), .d (.tuple (IL ns)), .d (.tuple (IL ps))] = if (keysV ps).length = ps.length then .ok (.d .none, mem) else .exc "NoPlaces" := by
  unfold m_check_places b_check_places
  have h1 : ¬ (64 : Int) < (ps.length : Int) := by omega
  have s1 : ps.length < SL.1 := SL_lt (by omega)
  simp [h1]
  rw [lcGo_map (fun d => .bool (plD p ns d))]
  · have hb : boolsOf ((IL ps).map fun d => PyData.bool (plD p ns d)) = some ((IL ps).map (plD p ns)) := boolsOf_map _ _
    have h2 : ((IL ps).map (plD p ns)).all id = true := by rw [List.all_map]; exact h
    simp only [Res.bind_ok', gAll_mk, dat_f, hb, if_false, Bool.false_eq_true, h2]
    have hi := ints_IL ps
    by_cases hk : (keysV ps).length = ps.length
    · simp [hi, s1, hk]
    · have hk' : ¬ ((keysV ps).length : Int) = (ps.length : Int) := by omega
      simp [hi, s1, hk, hk']
  · intro d hd
    have hf := flat_IL ns
    obtain ⟨i, hi, rfl⟩ := List.mem_map.mp hd
    cases hb : btw (.int i) 0 (p - 1) with
    | true =>
      simp only [btw_i] at hb
      simp [hb, hf, plD]
    | false =>
      simp only [btw_i] at hb
      simp [hb, plD]
  · simp
    exact sl_le (by omega)
end K43

set_option Elab.async false
set_option linter.all false
set_option maxRecDepth 100000
set_option maxHeartbeats 4000000
set_option exponentiation.threshold 4000
namespace K43
open PySem PySem.Spec PyProof.Rows L2 PD
/-- an argument is let through / refused with c -/
def Lets (r : Res (W × Mem)) (mem : Mem) : Prop := r = .ok (.d .none, mem)
theorem keysV_nodup {ps : List Int} (h : ps.Nodup) : (keysV ps).length = ps.length := by
  unfold keysV
  have key : ∀ (l : List Int) (acc : List (Key × V)), l.Nodup → (∀ x ∈ l, ∀ kv ∈ acc, kv.1 ≠ .inl x) → (l.foldl (fun acc n => putK acc (.inl n) (.bl true)) acc).length = acc.length + l.length := by
    intro l
    induction l with
    | nil => intro acc _ _; rfl
    | cons x l ih =>
      intro acc hn hd
      have hn' := List.nodup_cons.mp hn
      have e : putK acc (.inl x) (.bl true) = acc ++ [(.inl x, .bl true)] := by
        unfold putK
        rw [if_neg]
        intro hc
        obtain ⟨kv, hk, e⟩ := List.any_eq_true.mp hc
        exact hd x (List.mem_cons_self ..) kv hk (of_decide_eq_true e)
      rw [List.foldl_cons, e, ih _ hn'.2 ?_]
      · simp; omega
      · intro y hy kv hk
        rcases List.mem_append.mp hk with h | h
        · exact hd y (List.mem_cons_of_mem _ hy) kv h
        · rw [List.mem_singleton.mp h]
          intro q
          cases q
          exact hn'.1 hy
  have := key ps [] h (fun _ _ _ hk => by cases hk)
  simpa using this
theorem keysV_dup {ps : List Int} (h : ¬ ps.Nodup) : (keysV ps).length ≠ ps.length := by
  have key : ∀ (l : List Int) (acc : List (Key × V)), (¬ l.Nodup ∨ ∃ x ∈ l, ∃ kv ∈ acc, kv.1 = .inl x) → (l.foldl (fun acc n => putK acc (.inl n) (.bl true)) acc).length < acc.length + l.length := by
    intro l
    induction l with
    | nil =>
      intro acc h
      rcases h with h | ⟨x, hx, _⟩
      · exact absurd List.nodup_nil h
      · cases hx
    | cons x l ih =>
      intro acc h
      rw [List.foldl_cons, List.length_cons]
      by_cases hc : (acc.any fun kv => decide (kv.1 = (.inl x : Key))) = true
      · have e : (putK acc (.inl x) (.bl true)).length = acc.length := by
          unfold putK
          rw [if_pos hc, List.length_map]
        have := keysV_len l (putK acc (.inl x) (.bl true))
        omega
      · have e : putK acc (.inl x) (.bl true) = acc ++ [(.inl x, .bl true)] := by
          unfold putK
          rw [if_neg hc]
        rw [e]
        have hno : ¬ ∃ kv ∈ acc, kv.1 = (.inl x : Key) := fun ⟨kv, hk, q⟩ => hc (List.any_eq_true.mpr ⟨kv, hk, decide_eq_true q⟩)
        have := ih (acc ++ [(.inl x, .bl true)]) (by
          by_cases hx : x ∈ l
          · exact .inr ⟨x, hx, (.inl x, .bl true), by simp, rfl⟩
          · rcases h with h | ⟨y, hy, kv, hk, q⟩
            · exact .inl fun hn => h (List.nodup_cons.mpr ⟨hx, hn⟩)
            · rcases List.mem_cons.mp hy with rfl | hy
              · exact absurd ⟨kv, hk, q⟩ hno
              · exact .inr ⟨y, hy, kv, by simp [hk], q⟩)
        simp at this
        omega
  have := key ps [] (.inl h)
  unfold keysV
  simp at this
  omega
/-- good arguments of the calls -/
structure GoodLot (p : Int) (ns : List Int) : Prop where
  low : Low p ns
  asc : asc ns = true
  len : ns.length ≤ 200
structure GoodPl (p : Int) (ns ps : List Int) : Prop where
  low : Low p ps
  out : (IL ps).all (plD p ns) = true
  nd : ps.Nodup
  len : ps.length ≤ 64
theorem numbers_ok {mem : Mem} {p : Int} {ns : List Int} (h : GoodLot p ns) : m_check_numbers mem [.d (.int p), .d (.tuple (IL ns))] = .ok (.d .none, mem) := by
  rw [check_numbers_asc mem p ns h.len h.low, h.asc]
  rfl
theorem places_ok {mem : Mem} {p : Int} {ns ps : List Int} (h : GoodPl p ns ps) : m_check_places mem [.d (.int p), .d (.tuple (IL ns)), .d (.tuple (IL ps))] = .ok (.d .none, mem) := by
  rw [check_places_dup mem p ns ps h.len h.out, if_pos (keysV_nodup h.nd)]
theorem values_ok (mem : Mem) (p : Int) (ns ps : List Int) (hp : GoodP p) (hn : GoodLot p ns) (hps : GoodPl p ns ps) : (m_values mem [.d (.int p), .d (.tuple (IL ns)), .d (.tuple (IL ps))]).wp (fun q => ∃ xs : List D, q = (.d (.tuple xs), mem)) fun _ => False := by
  unfold m_values b_values
  have hP := hp.pr
  simp [check_prime_ok mem p hp, numbers_ok hn, places_ok hps]
  refine Res.wp_then (raw_values_ok mem p ns ps hP.two hP.big hn.low hps.low (by have := hps.len; omega)) (fun q hq => ?_) fun _ h => h
  obtain ⟨vs, rfl, _⟩ := hq
  simp
theorem values_1 (mem : Mem) (x y z : D) (h : m_check_prime mem [.d x] = .exc "NoPrime") : m_values mem [.d x, .d y, .d z] = .exc "NoPrime" := by
  unfold m_values b_values
  simp [h]
theorem values_2 (mem : Mem) (p : Int) (y z : D) (hp : GoodP p) (h : m_check_numbers mem [.d (.int p), .d y] = .exc "NoNumbers") : m_values mem [.d (.int p), .d y, .d z] = .exc "NoNumbers" := by
  unfold m_values b_values
  simp [check_prime_ok mem p hp, h]
theorem values_3 (mem : Mem) (p : Int) (ns : List Int) (z : D) (hp : GoodP p) (hn : GoodLot p ns) (h : m_check_places mem [.d (.int p), .d (.tuple (IL ns)), .d z] = .exc "NoPlaces") : m_values mem [.d (.int p), .d (.tuple (IL ns)), .d z] = .exc "NoPlaces" := by
  unfold m_values b_values
  simp [check_prime_ok mem p hp, numbers_ok hn, h]
theorem number_of_ok (mem : Mem) (z : Str) (i j : Int) (hz : nameS z = true) (hs : stampD (.tuple [.int i, .int j]) = true) (hi : 0 ≤ i ∧ i < 2 ^ 200) : ∃ n : Int, m_number_of mem [.d (.str z), .d (.tuple [.int i, .int j])] = .ok (.d (.int n), mem) := by
  obtain ⟨n, e⟩ := raw_number_ok mem z i j hz hi
  refine ⟨n, ?_⟩
  unfold m_number_of b_number_of
  have hl : z.length ≤ 16777216 := by simp [nameS] at hz; omega
  simp [is_name_eq mem (.str z) (fun y e => by cases e; exact hl), hz, hs, e]
theorem number_of_name (mem : Mem) (x y : D) (hx : ∀ z, x = .str z → z.length ≤ 16777216) (h : nameD x = false) : m_number_of mem [.d x, .d y] = .exc "NoName" := by
  unfold m_number_of b_number_of
  simp [is_name_eq mem x hx, h]
theorem number_of_stamp (mem : Mem) (x y : D) (hx : ∀ z, x = .str z → z.length ≤ 16777216) (h : nameD x = true) (hs : stampD y = false) : m_number_of mem [.d x, .d y] = .exc "NoStamp" := by
  unfold m_number_of b_number_of
  simp [is_name_eq mem x hx, h, hs]
end K43

set_option Elab.async false
set_option linter.all false
set_option maxRecDepth 100000
set_option maxHeartbeats 4000000
set_option exponentiation.threshold 4000
namespace K43
open PySem PySem.Spec PyProof.Rows L2 PD
structure GoodPoly (p : Int) (cs : List Int) : Prop where
  low : Low p cs
  ne : cs ≠ []
  last : nth cs (cs.length - 1) = 1
  len : cs.length ≤ 65
theorem low_btw {p : Int} {ns : List Int} (h : Low p ns) : (IL ns).all (fun d => btw d 0 (p - 1)) = true := by
  rw [List.all_eq_true]
  intro d hd
  obtain ⟨i, hi, rfl⟩ := List.mem_map.mp hd
  have := h i hi
  simp
  omega
theorem poly_ok {mem : Mem} {p : Int} {cs : List Int} (h : GoodPoly p cs) : m_check_polynomial mem [.d (.int p), .d (.tuple (IL cs))] = .ok (.d .none, mem) := by
  have hp : 0 < cs.length := List.length_pos_iff.mpr h.ne
  rw [check_poly_eq mem p (IL cs) (.int 1) (by simp; omega) (by simp; exact h.len) (by rw [last_some h.ne, h.last]), low_btw h.low]
  simp
theorem roots_ok (mem : Mem) (p : Int) (cs ns : List Int) (hp : GoodP p) (hc : GoodPoly p cs) (hn : GoodLot p ns) : (m_roots mem [.d (.int p), .d (.tuple (IL cs)), .d (.tuple (IL ns))]).wp (fun q => ∃ xs : List D, q = (.d (.tuple xs), mem)) fun _ => False := by
  unfold m_roots b_roots
  have hP := hp.pr
  simp [check_prime_ok mem p hp, numbers_ok hn, poly_ok hc]
  refine Res.wp_then (raw_roots_ok mem p cs ns _ (.inr rfl) hP.two hP.big hc.low hn.low (by have := hn.len; omega)) (fun q hq => ?_) fun _ h => h
  obtain ⟨vs, rfl⟩ := hq
  simp
theorem roots_1 (mem : Mem) (x y z : D) (h : m_check_prime mem [.d x] = .exc "NoPrime") : m_roots mem [.d x, .d y, .d z] = .exc "NoPrime" := by
  unfold m_roots b_roots
  simp [h]
theorem roots_2 (mem : Mem) (p : Int) (y z : D) (hp : GoodP p) (h : m_check_polynomial mem [.d (.int p), .d y] = .exc "NoPolynomial") : m_roots mem [.d (.int p), .d y, .d z] = .exc "NoPolynomial" := by
  unfold m_roots b_roots
  simp [check_prime_ok mem p hp, h]
theorem roots_3 (mem : Mem) (p : Int) (cs : List Int) (z : D) (hp : GoodP p) (hc : GoodPoly p cs) (h : m_check_numbers mem [.d (.int p), .d z] = .exc "NoNumbers") : m_roots mem [.d (.int p), .d (.tuple (IL cs)), .d z] = .exc "NoNumbers" := by
  unfold m_roots b_roots
  simp [check_prime_ok mem p hp, poly_ok hc, h]
structure GoodTold (p : Int) (n : Nat) (ts : List Int) : Prop where
  low : ∀ t ∈ ts, 1 ≤ t ∧ t < p
  len : ts.length = n
theorem told_ok {mem : Mem} {p : Int} {n : Nat} {ts : List Int} (hn : n ≤ 64) (h : GoodTold p n ts) : m_check_told mem [.d (.int p), .d (.tuple (IL ts)), .d (.int n)] = .ok (.d .none, mem) := by
  rw [check_told_eq mem p _ n (by omega)]
  have : (IL ts).all (fun d => btw d 1 (p - 1)) = true := by
    rw [List.all_eq_true]
    intro d hd
    obtain ⟨i, hi, rfl⟩ := List.mem_map.mp hd
    have := h.low i hi
    simp
    omega
  simp [h.len]
  intro a ha
  have := h.low a ha
  omega
theorem difference_ok (mem : Mem) (p : Int) (ns ps ts : List Int) (many most : Int) (hp : GoodP p) (hn : GoodLot p ns) (hm : 0 ≤ many ∧ many ≤ 200) (hps : GoodPl p ns ps) (ht : GoodTold p ps.length ts) (hmo : 0 ≤ most ∧ most ≤ ps.length) :
    (m_difference mem [.d (.int p), .d (.tuple (IL ns)), .d (.int many), .d (.tuple (IL ps)), .d (.tuple (IL ts)), .d (.int most)]).wp (fun q => q = (.d .none, mem) ∨ ∃ x y : D, q = (.d (.tuple [x, y]), mem)) fun _ => False := by
  unfold m_difference b_difference
  have hP := hp.pr
  have hl := hps.len
  simp [check_prime_ok mem p hp, numbers_ok hn, check_value_ok mem many 200 hm, places_ok hps, told_ok hl ht, check_value_ok mem most ps.length hmo]
  refine Res.wp_then (raw_difference_ok mem p ns ps ts many most hP hn.low hps.low (fun t h => by have := ht.low t h; omega) hn.len hl hm (by omega)) (fun q hq => ?_) fun _ h => h
  rcases hq with rfl | ⟨x, y, rfl⟩
  · simp
  · simp
theorem diff_1 (mem : Mem) (x a b c d e : D) (h : m_check_prime mem [.d x] = .exc "NoPrime") : m_difference mem [.d x, .d a, .d b, .d c, .d d, .d e] = .exc "NoPrime" := by
  unfold m_difference b_difference
  simp [h]
theorem diff_2 (mem : Mem) (p : Int) (a b c d e : D) (hp : GoodP p) (h : m_check_numbers mem [.d (.int p), .d a] = .exc "NoNumbers") : m_difference mem [.d (.int p), .d a, .d b, .d c, .d d, .d e] = .exc "NoNumbers" := by
  unfold m_difference b_difference
  simp [check_prime_ok mem p hp, h]
theorem diff_3 (mem : Mem) (p : Int) (ns : List Int) (b c d e : D) (hp : GoodP p) (hn : GoodLot p ns) (h : btw b 0 200 = false) : m_difference mem [.d (.int p), .d (.tuple (IL ns)), .d b, .d c, .d d, .d e] = .exc "NoNumber" := by
  unfold m_difference b_difference
  simp [check_prime_ok mem p hp, numbers_ok hn, check_value_bad mem b 200 h]
theorem diff_4 (mem : Mem) (p : Int) (ns : List Int) (many : Int) (c d e : D) (hp : GoodP p) (hn : GoodLot p ns) (hm : 0 ≤ many ∧ many ≤ 200) (h : m_check_places mem [.d (.int p), .d (.tuple (IL ns)), .d c] = .exc "NoPlaces") : m_difference mem [.d (.int p), .d (.tuple (IL ns)), .d (.int many), .d c, .d d, .d e] = .exc "NoPlaces" := by
  unfold m_difference b_difference
  simp [check_prime_ok mem p hp, numbers_ok hn, check_value_ok mem many 200 hm, h]
theorem diff_5 (mem : Mem) (p : Int) (ns ps : List Int) (many : Int) (d e : D) (hp : GoodP p) (hn : GoodLot p ns) (hm : 0 ≤ many ∧ many ≤ 200) (hps : GoodPl p ns ps) (h : m_check_told mem [.d (.int p), .d d, .d (.int ps.length)] = .exc "NoValues") : m_difference mem [.d (.int p), .d (.tuple (IL ns)), .d (.int many), .d (.tuple (IL ps)), .d d, .d e] = .exc "NoValues" := by
  unfold m_difference b_difference
  simp [check_prime_ok mem p hp, numbers_ok hn, check_value_ok mem many 200 hm, places_ok hps, h]
theorem diff_6 (mem : Mem) (p : Int) (ns ps ts : List Int) (many : Int) (e : D) (hp : GoodP p) (hn : GoodLot p ns) (hm : 0 ≤ many ∧ many ≤ 200) (hps : GoodPl p ns ps) (ht : GoodTold p ps.length ts) (h : btw e 0 ps.length = false) : m_difference mem [.d (.int p), .d (.tuple (IL ns)), .d (.int many), .d (.tuple (IL ps)), .d (.tuple (IL ts)), .d e] = .exc "NoNumber" := by
  unfold m_difference b_difference
  have hl := hps.len
  simp [check_prime_ok mem p hp, numbers_ok hn, check_value_ok mem many 200 hm, places_ok hps, told_ok hl ht, check_value_bad mem e ps.length h]
end K43

set_option Elab.async false
set_option linter.all false
set_option maxRecDepth 100000
set_option maxHeartbeats 4000000
set_option exponentiation.threshold 4000
namespace K43
open PySem PySem.Spec PyProof.Rows L2 PD
/-- the law's source of draws -/
structure Hat (a b : Int) : Prop where
  a0 : 0 ≤ a
  b0 : 0 ≤ b
  b1 : b < 4294967296
abbrev hatC (a b : Int) : Option Cell := some (.l [.int a, .int b])
theorem draw_ok (mem : Mem) (a b m : Int) (h : Hat a b) (hm : 0 < m) (hm2 : m < 2 ^ 200) : (m_w_draw (hatC a b :: mem) [.c 0, .d (.int m)]).wp (fun q => ∃ d a' b', q = (.d (.int d), hatC a' b' :: mem) ∧ 0 ≤ d ∧ d < m ∧ Hat a' b') fun _ => False := by
  unfold m_w_draw b_w_draw
  obtain ⟨a0, b0, b1⟩ := h
  have cd : cDiv a m = true := cDiv_pow 200 hm (by omega) (by decide)
  by_cases h0 : 0 < a
  · simp [h0, hm, cd]
    exact ⟨_, _, _, ⟨rfl, rfl, rfl⟩, Int.emod_nonneg _ (by omega), Int.emod_lt_of_pos _ hm, ⟨Int.ediv_nonneg a0 (by omega), b0, b1⟩⟩
  · have c1 : cMul b 48271 = true := mulA (by omega) (by decide)
    generalize hB : (b * 48271 + 11) % 2147483647 = B
    have hB0 : 0 ≤ B ∧ B < 2147483647 := by rw [← hB]; omega
    have c2 : cDiv B 1009 = true := cDiv_pow 20 (by decide) (by decide) (by decide)
    have c3 : cMul B (B / 1009 % 65521 + 69621) = true := mulA (by omega) (by omega)
    generalize hC : (B * (B / 1009 % 65521 + 69621) + 7) % 2147483629 = C
    have hC0 : 0 ≤ C ∧ C < 2147483629 := by rw [← hC]; exact ⟨Int.emod_nonneg _ (by decide), Int.emod_lt_of_pos _ (by decide)⟩
    have c4 : cDiv C 16 = true := cDiv_pow 20 (by decide) (by decide) (by decide)
    simp [h0, hm, c1, hB, c2, c3, hC, c4]
    exact ⟨_, _, _, ⟨rfl, rfl, rfl⟩, Int.emod_nonneg _ (by omega), Int.emod_lt_of_pos _ hm, ⟨a0, by omega, by omega⟩⟩
end K43

set_option Elab.async false
set_option linter.all false
set_option maxRecDepth 100000
set_option maxHeartbeats 4000000
set_option exponentiation.threshold 4000
namespace K43
open PySem PySem.Spec PyProof.Rows L2 PD
theorem noFac_of {n : Int} (k : Nat) (h1 : 1 < n) (hk : n < (k : Int) * k) (h : ((List.range k).all fun d => decide (d < 2) || decide (n % (d : Int) ≠ 0)) = true) : NoFac n := by
  refine ⟨h1, fun d d2 dd => ?_⟩
  obtain ⟨j, rfl⟩ := Int.eq_ofNat_of_zero_le (show 0 ≤ d by omega)
  have hj : j < k := by
    rcases Nat.lt_or_ge j k with h | h
    · exact h
    · have : (k : Int) * k ≤ (j : Int) * j := Int.mul_le_mul (by omega) (by omega) (by omega) (by omega)
      omega
  have := List.all_eq_true.mp h j (List.mem_range.mpr hj)
  rcases Bool.or_eq_true_iff.mp this with h | h
  · have := of_decide_eq_true h; omega
  · exact of_decide_eq_true h
theorem good_2 : GoodP 2 := .inr ⟨by decide, noFac_of 2 (by decide) (by decide) (by decide)⟩
theorem good_3 : GoodP 3 := .inr ⟨by decide, noFac_of 2 (by decide) (by decide) (by decide)⟩
theorem good_5 : GoodP 5 := .inr ⟨by decide, noFac_of 3 (by decide) (by decide) (by decide)⟩
theorem good_7 : GoodP 7 := .inr ⟨by decide, noFac_of 3 (by decide) (by decide) (by decide)⟩
theorem good_11 : GoodP 11 := .inr ⟨by decide, noFac_of 4 (by decide) (by decide) (by decide)⟩
theorem good_97 : GoodP 97 := .inr ⟨by decide, noFac_of 10 (by decide) (by decide) (by decide +kernel)⟩
theorem good_9973 : GoodP 9973 := .inr ⟨by decide, noFac_of 100 (by decide) (by decide) (by decide +kernel)⟩
/-- the law's own look for a factor -/
def facD (n : Int) : D → Option D | .int d => if d < n then some (.bool (decide (n % d ≠ 0))) else none | _ => none
theorem bools_mem : ∀ {l : List D} {bs : List Bool}, boolsOf l = some bs → bs.all id = true → ∀ b, PyData.bool b ∈ l → b = true
  | [], _, _, _, _, h => by cases h
  | d :: l, bs, e, ha, b, h => by
    cases d with
    | bool c =>
      rw [boolsOf_c] at e
      cases q : boolsOf l with
      | none => rw [q] at e; cases e
      | some cs =>
        rw [q] at e
        cases e
        rw [List.all_cons, Bool.and_eq_true] at ha
        rcases List.mem_cons.mp h with h | h
        · cases h; exact ha.1
        · exact bools_mem q ha.2 b h
    | _ => cases e
theorem search_ok (n : Int) (hn : 2 ≤ n) (hn2 : n < 10000) : ∃ bs : List Bool, boolsOf (((List.range 99).map fun (k : Nat) => PyData.int (2 + (k : Nat))).filterMap (facD n)) = some bs ∧ (bs.all id = true → GoodP n) := by
  obtain ⟨bs, e⟩ := bools_all (l := ((List.range 99).map fun (k : Nat) => PyData.int (2 + (k : Nat))).filterMap (facD n)) (fun d hd => by
    obtain ⟨y, hy, e⟩ := List.mem_filterMap.mp hd
    obtain ⟨k, hk, rfl⟩ := List.mem_map.mp hy
    unfold facD at e
    dsimp only at e
    split at e
    · cases e; exact ⟨_, rfl⟩
    · cases e)
  refine ⟨bs, e, fun ha => .inr ⟨hn2, by omega, fun d d2 dd => ?_⟩⟩
  have hd : d < 100 := by
    apply Classical.byContradiction
    intro hx
    have : 100 * 100 ≤ d * d := Int.mul_le_mul (by omega) (by omega) (by decide) (by omega)
    omega
  have hdn : d < n := by
    have : 2 * d ≤ d * d := Int.mul_le_mul_of_nonneg_right d2 (by omega)
    omega
  have hm : PyData.bool (decide (n % d ≠ 0)) ∈ ((List.range 99).map fun (k : Nat) => PyData.int (2 + (k : Nat))).filterMap (facD n) := by
    refine List.mem_filterMap.mpr ⟨.int d, List.mem_map.mpr ⟨(d - 2).toNat, List.mem_range.mpr (by omega), by congr 1; omega⟩, ?_⟩
    unfold facD
    dsimp only
    rw [if_pos hdn]
  exact of_decide_eq_true (bools_mem e ha _ hm)
theorem prime_ok (mem : Mem) (a b : Int) (h : Hat a b) : (m_w_prime (hatC a b :: mem) [.c 0]).wp (fun q => ∃ p a' b', q = (.d (.int p), hatC a' b' :: mem) ∧ GoodP p ∧ Hat a' b') fun _ => False := by
  unfold m_w_prime b_w_prime
  simp
  refine Res.wp_then (draw_ok mem a b 6 h (by decide) (by decide)) (fun q hq => ?_) fun _ h => h
  obtain ⟨d, a1, b1, rfl, d0, d1, h1⟩ := hq
  have : d = 0 ∨ d = 1 ∨ d = 2 ∨ d = 3 ∨ d = 4 ∨ d = 5 := by omega
  rcases this with rfl | rfl | rfl | rfl | rfl | rfl
  · simp
    refine Res.wp_then (draw_ok mem a1 b1 5 h1 (by decide) (by decide)) (fun q hq => ?_) fun _ h => h
    obtain ⟨d, a2, b2, rfl, e0, e1, h2⟩ := hq
    have : d = 0 ∨ d = 1 ∨ d = 2 ∨ d = 3 ∨ d = 4 := by omega
    rcases this with rfl | rfl | rfl | rfl | rfl
    · simp; exact ⟨_, _, _, ⟨rfl, rfl, rfl⟩, good_2, h2⟩
    · simp; exact ⟨_, _, _, ⟨rfl, rfl, rfl⟩, good_3, h2⟩
    · simp; exact ⟨_, _, _, ⟨rfl, rfl, rfl⟩, good_5, h2⟩
    · simp; exact ⟨_, _, _, ⟨rfl, rfl, rfl⟩, good_7, h2⟩
    · simp; exact ⟨_, _, _, ⟨rfl, rfl, rfl⟩, good_11, h2⟩
  · simp
    refine Res.wp_then (draw_ok mem a1 b1 2 h1 (by decide) (by decide)) (fun q hq => ?_) fun _ h => h
    obtain ⟨d, a2, b2, rfl, e0, e1, h2⟩ := hq
    have : d = 0 ∨ d = 1 := by omega
    rcases this with rfl | rfl
    · simp; exact ⟨_, _, _, ⟨rfl, rfl, rfl⟩, good_97, h2⟩
    · simp; exact ⟨_, _, _, ⟨rfl, rfl, rfl⟩, good_9973, h2⟩
  · have q1 : cPow 2 64 = true := by decide
    have q2 : cPow 2 25 = true := by decide
    have q3 : cMul 18446744073709551616 33554432 = true := mulA (by decide) (by decide)
    simp [q1, q2, q3]
    exact ⟨_, _, _, ⟨rfl, rfl, rfl⟩, .inl rfl, h1⟩
  · have q1 : cPow 2 64 = true := by decide
    have q2 : cPow 2 25 = true := by decide
    have q3 : cMul 18446744073709551616 33554432 = true := mulA (by decide) (by decide)
    simp [q1, q2, q3]
    exact ⟨_, _, _, ⟨rfl, rfl, rfl⟩, .inl rfl, h1⟩
  all_goals
    simp
    refine Res.wp_then (draw_ok mem a1 b1 9972 h1 (by decide) (by decide)) (fun q hq => ?_) fun _ h => h
    obtain ⟨d, a2, b2, rfl, e0, e1, h2⟩ := hq
    have i1 : inB (2 + d) = true := by rw [inB_eq]; simp; omega
    have i2 : inB 1 = true := by rw [inB_eq]; decide
    simp [i1, i2]
    rw [Res.wp_bind]
    refine forGo_wp (fun xs s => ∃ (zs : List Int) (g1 g2 : Option W), s = ⟨[some (.c 0), g1, g2, none], hatC a2 b2 :: mem, mem.length + 1⟩ ∧ xs = IL zs ∧ ∀ z ∈ zs, 2 ≤ z ∧ z < 10000) ?_ ?_ _ _ ?_
    · rintro e xs s ⟨zs, g1, g2, rfl, hx, hz⟩
      cases zs with
      | nil => cases hx
      | cons z zs =>
        cases hx
        obtain ⟨z1, z2⟩ := hz z (List.mem_cons_self ..)
        have hz' : ∀ z ∈ zs, 2 ≤ z ∧ z < 10000 := fun y hy => hz y (List.mem_cons_of_mem _ hy)
        obtain ⟨bs, hb1, hb2⟩ := search_ok z z1 z2
        have i3 : inB 2 = true := by rw [inB_eq]; decide
        have i4 : inB 101 = true := by rw [inB_eq]; decide
        simp [i3, i4]
        rw [lcGo_pure (facD z)]
        · simp only [List.nil_append, Res.bind_ok', gAll_mk, dat_f, hb1, if_false, Bool.false_eq_true]
          cases ha : bs.all id with
          | true =>
            simp
            exact ⟨_, _, _, ⟨rfl, rfl, rfl⟩, hb2 ha, h2⟩
          | false =>
            simp
            exact ⟨zs, rfl, hz'⟩
        · intro d' hd
          obtain ⟨k, hk, rfl⟩ := List.mem_map.mp hd
          have hpos : 0 < 2 + (k : Int) := by omega
          by_cases hlt : 2 + (k : Int) < z
          · simp [facD, hlt, hpos]
            exact ⟨_, _, ⟨rfl, rfl⟩, _, rfl⟩
          · simp [facD, hlt]
        · simp
          exact sl_le (by decide)
    · rintro s ⟨zs, g1, g2, rfl, hx, hz⟩
      simp
      exact ⟨_, _, _, ⟨rfl, rfl, rfl⟩, good_2, h2⟩
    · refine ⟨(List.range ((2 + d).toNat - 1)).map fun (k : Nat) => 2 + d + -(k : Int), _, _, rfl, by simp, fun z hz => ?_⟩
      obtain ⟨k, hk, rfl⟩ := List.mem_map.mp hz
      have := List.mem_range.mp hk
      omega
end K43

set_option Elab.async false
set_option linter.all false
set_option maxRecDepth 100000
set_option maxHeartbeats 400000
set_option exponentiation.threshold 4000
namespace K43
open PySem PySem.Spec PyProof.Rows L2 PD
theorem GoodP.two {p : Int} (h : GoodP p) : 2 ≤ p := h.pr.two
theorem GoodP.big {p : Int} (h : GoodP p) : p < 2 ^ 90 := h.pr.big
theorem number_ok (mem : Mem) (a b p : Int) (h : Hat a b) (hp : GoodP p) : (m_w_number (hatC a b :: mem) [.c 0, .d (.int p)]).wp (fun q => ∃ d a' b', q = (.d (.int d), hatC a' b' :: mem) ∧ 0 ≤ d ∧ d < p ∧ Hat a' b') fun _ => False := by
  unfold m_w_number b_w_number
  have p2 := hp.two
  have p9 := hp.big
  simp
  refine Res.wp_then (draw_ok mem a b 3 h (by decide) (by decide)) (fun q hq => ?_) fun _ h => h
  obtain ⟨d, a1, b1, rfl, d0, d1, h1⟩ := hq
  have : d = 0 ∨ d = 1 ∨ d = 2 := by omega
  rcases this with rfl | rfl | rfl
  · simp
    refine Res.wp_then (draw_ok mem a1 b1 (if 12 < p then 12 else p) h1 (by split <;> omega) (by split <;> omega)) (fun q hq => ?_) fun _ h => h
    obtain ⟨d, a2, b2, rfl, e0, e1, h2⟩ := hq
    simp
    exact ⟨_, _, _, ⟨rfl, rfl, rfl⟩, e0, by split at e1 <;> omega, h2⟩
  · simp
    refine Res.wp_then (draw_ok mem a1 b1 (if 8 < p then 8 else p) h1 (by split <;> omega) (by split <;> omega)) (fun q hq => ?_) fun _ h => h
    obtain ⟨d, a2, b2, rfl, e0, e1, h2⟩ := hq
    simp
    exact ⟨_, _, _, ⟨rfl, rfl, rfl⟩, by split at e1 <;> omega, by omega, h2⟩
  · simp
    refine Res.wp_then (draw_ok mem a1 b1 p h1 (by omega) (by omega)) (fun q hq => ?_) fun _ h => h
    obtain ⟨d, a2, b2, rfl, e0, e1, h2⟩ := hq
    simp
    exact ⟨_, _, _, ⟨rfl, rfl, rfl⟩, e0, e1, h2⟩
abbrev kvT (ks : List Int) : List (Key × D) := ks.map fun k => ((.inl k : Key), PyData.bool true)
theorem putD_T (ks : List Int) (k : Int) : putD (kvT ks) (.inl k) (.bool true) = if k ∈ ks then kvT ks else kvT (ks ++ [k]) := by
  unfold putD
  by_cases h : k ∈ ks
  · rw [if_pos h, if_pos]
    · rw [List.map_map]
      apply List.map_congr_left
      intro x hx
      simp
    · rw [List.any_map, List.any_eq_true]
      exact ⟨k, h, by simp⟩
  · rw [if_neg h, if_neg]
    · simp
    · rw [List.any_map, List.any_eq_true]
      rintro ⟨x, hx, e⟩
      simp at e
      subst e
      exact h hx
theorem keys_T (ks : List Int) : (kvT ks).map (fun kv => kD kv.1) = IL ks := by
  rw [List.map_map]; rfl
theorem asc_of {ns : List Int} (hn : ns.Nodup) (hp : ns.Pairwise (· ≤ ·)) : asc ns = true := by
  unfold asc
  rw [List.all_eq_true]
  intro i hi
  have hi' := List.mem_range.mp hi
  have h1 : i < ns.length := by omega
  have h2 : i + 1 < ns.length := by omega
  have h3 := List.pairwise_iff_getElem.mp hp i (i + 1) h1 h2 (by omega)
  have h4 := List.pairwise_iff_getElem.mp hn i (i + 1) h1 h2 (by omega)
  rw [List.getD_eq_getElem?_getD, List.getD_eq_getElem?_getD, List.getElem?_eq_getElem h1, List.getElem?_eq_getElem h2]
  simp
  omega
theorem lot_ok (mem : Mem) (a b p : Int) (n : Nat) (bs : List Int) (h : Hat a b) (hp : GoodP p) (hn : n ≤ 5) :
    (m_w_lot (hatC a b :: mem) [.c 0, .d (.int p), .d (.int n), .d (.tuple (IL bs))]).wp (fun q => ∃ ns a' b', q = (.d (.tuple (IL ns)), hatC a' b' :: mem) ∧ GoodLot p ns ∧ (∀ x ∈ ns, x ∉ bs) ∧ ns.length ≤ 5 ∧ Hat a' b') fun _ => False := by
  unfold m_w_lot b_w_lot
  have i1 : inB n = true := by rw [inB_eq]; simp; omega
  simp [i1]
  rw [Res.wp_bind]
  refine forGo_wp (fun xs s => ∃ (ks : List Int) (g1 g2 : Option W) (a1 b1 : Int), s = ⟨[some (.c 0), some (.d (.int p)), some (.d (.int n)), some (.d (.tuple (IL bs))), some (.c (mem.length + 1)), g1, g2], hatC a1 b1 :: (mem ++ [some (.m (kvT ks))]), mem.length + 1⟩ ∧ Hat a1 b1 ∧ ks.Nodup ∧ Low p ks ∧ (∀ x ∈ ks, x ∉ bs) ∧ ks.length + xs.length ≤ 5) ?_ ?_ _ _ ?_
  · rintro d r s ⟨ks, g1, g2, a1, b1, rfl, h1, hnd, hlow, hb, hlen⟩
    simp
    refine Res.wp_then (number_ok (mem ++ [some (.m (kvT ks))]) a1 b1 p h1 hp) (fun q hq => ?_) fun _ h => h
    obtain ⟨x, a2, b2, rfl, x0, x1, h2⟩ := hq
    simp only [List.length_cons] at hlen
    have hk : ks.length < SL.1 := SL_lt (by omega)
    by_cases hxb : x ∈ bs
    · have e1 := inD_IL x bs
      simp [flat_IL, e1, hxb]
      exact ⟨ks, _, _, _, _, ⟨⟨rfl, rfl⟩, ⟨rfl, rfl⟩, rfl⟩, h2, hnd, hlow, hb, by omega⟩
    · have e1 := inD_IL x bs
      by_cases hxk : x ∈ ks
      · have e2 := putD_T ks x
        rw [if_pos hxk] at e2
        simp [flat_IL, e1, hxb, hk, e2]
        exact ⟨ks, _, _, _, _, ⟨⟨rfl, rfl⟩, ⟨rfl, rfl⟩, rfl⟩, h2, hnd, hlow, hb, by omega⟩
      · have e2 := putD_T ks x
        rw [if_neg hxk] at e2
        simp [flat_IL, e1, hxb, hk, e2]
        refine ⟨ks ++ [x], _, _, _, _, ⟨⟨rfl, rfl⟩, ⟨rfl, rfl⟩, by simp⟩, h2, List.nodup_append.mpr ⟨hnd, by simp, fun y hy z hz e => ?_⟩, fun y hy => ?_, fun y hy => ?_, by simp; omega⟩
        · rw [List.mem_singleton.mp hz] at e
          exact hxk (e ▸ hy)
        · rcases List.mem_append.mp hy with hy | hy
          · exact hlow y hy
          · rw [List.mem_singleton.mp hy]; exact ⟨x0, x1⟩
        · rcases List.mem_append.mp hy with hy | hy
          · exact hb y hy
          · rw [List.mem_singleton.mp hy]; exact hxb
  · rintro s ⟨ks, g1, g2, a1, b1, rfl, h1, hnd, hlow, hb, hlen⟩
    have e1 : List.map ((fun kv => kD kv.fst) ∘ fun k => ((Sum.inl k : Key), PyData.bool true)) ks = IL ks := rfl
    simp [e1, ints_IL]
    obtain ⟨hp1, hp2⟩ := sortI_ok ks
    refine ⟨sortI ks, _, _, ⟨rfl, rfl, rfl⟩, ⟨fun x hx => hlow x (hp1.mem_iff.mp hx), asc_of (hp1.nodup_iff.mpr hnd) hp2, ?_⟩, fun x hx => hb x (hp1.mem_iff.mp hx), ?_, h1⟩
    · rw [hp1.length_eq]; simp at hlen; omega
    · rw [hp1.length_eq]; simp at hlen; omega
  · refine ⟨[], none, none, a, b, rfl, h, List.nodup_nil, (fun x hx => by cases hx), (fun x hx => by cases hx), by simp; omega⟩
theorem places_draw (mem : Mem) (a b p : Int) (n : Nat) (h : Hat a b) (hp : GoodP p) (hn : n ≤ 5) :
    (m_w_places (hatC a b :: mem) [.c 0, .d (.int p), .d (.int n), .d (.list [])]).wp (fun q => ∃ ns a' b', q = (.d (.tuple (IL ns)), hatC a' b' :: mem) ∧ Low p ns ∧ ns.Nodup ∧ ns.length ≤ n ∧ Hat a' b') fun _ => False := by
  unfold m_w_places b_w_places
  have i1 : inB n = true := by rw [inB_eq]; simp; omega
  simp [i1]
  rw [Res.wp_bind]
  refine forGo_wp (fun xs s => ∃ (ks : List Int) (g1 g2 : Option W) (a1 b1 : Int), s = ⟨[some (.c 0), some (.d (.int p)), some (.d (.int n)), some (.d (.list [])), some (.c (mem.length + 1)), g1, g2], hatC a1 b1 :: (mem ++ [some (.l (IL ks))]), mem.length + 1⟩ ∧ Hat a1 b1 ∧ ks.Nodup ∧ Low p ks ∧ ks.length + xs.length ≤ n) ?_ ?_ _ _ ?_
  · rintro d r s ⟨ks, g1, g2, a1, b1, rfl, h1, hnd, hlow, hlen⟩
    simp
    refine Res.wp_then (number_ok (mem ++ [some (.l (IL ks))]) a1 b1 p h1 hp) (fun q hq => ?_) fun _ h => h
    obtain ⟨x, a2, b2, rfl, x0, x1, h2⟩ := hq
    simp only [List.length_cons] at hlen
    have hk : ks.length < SL.1 := SL_lt (by omega)
    have e1 := inD_IL x ks
    have e3 : inD (.int x) [] = false := rfl
    by_cases hxk : x ∈ ks
    · simp [flat_IL, e1, hxk, e3]
      exact ⟨ks, _, _, _, _, ⟨⟨rfl, rfl⟩, ⟨rfl, rfl⟩, rfl⟩, h2, hnd, hlow, by omega⟩
    · simp [flat_IL, e1, hxk, e3, hk]
      refine ⟨ks ++ [x], _, _, _, _, ⟨⟨rfl, rfl⟩, ⟨rfl, rfl⟩, by simp⟩, h2, List.nodup_append.mpr ⟨hnd, by simp, fun y hy z hz e => ?_⟩, fun y hy => ?_, by simp; omega⟩
      · rw [List.mem_singleton.mp hz] at e
        exact hxk (e ▸ hy)
      · rcases List.mem_append.mp hy with hy | hy
        · exact hlow y hy
        · rw [List.mem_singleton.mp hy]; exact ⟨x0, x1⟩
  · rintro s ⟨ks, g1, g2, a1, b1, rfl, h1, hnd, hlow, hlen⟩
    simp
    exact ⟨ks, _, _, ⟨rfl, rfl, rfl⟩, hlow, hnd, by simpa using hlen, h1⟩
  · exact ⟨[], none, none, a, b, by simp, h, List.nodup_nil, (fun x hx => by cases hx), by simp⟩
end K43

set_option Elab.async false
set_option linter.all false
set_option maxRecDepth 100000
set_option maxHeartbeats 400000
set_option exponentiation.threshold 4000
namespace K43
open PySem PySem.Spec PyProof.Rows L2 PD
def prodN (p n : Int) (cs : List Int) : List Int := ((0 :: cs).zip (cs.map (· * n) ++ [0])).map fun x => (x.1 - x.2) % p
theorem product_ok (mem : Mem) (p : Int) (ns : List Int) (hp : GoodP p) (hn : Low p ns) (hl : ns.length ≤ 10) :
    (m_w_product mem [.d (.int p), .d (.tuple (IL ns))]).wp (fun q => ∃ cs, q = (.d (.tuple (IL cs)), mem) ∧ GoodPoly p cs ∧ cs.length ≤ 11) fun _ => False := by
  unfold m_w_product b_w_product
  have p2 := hp.two
  have p9 := hp.big
  simp
  rw [Res.wp_bind]
  refine forGo_wp (fun xs s => ∃ (cs ms : List Int) (g1 g2 g3 : Option W), s = ⟨[some (.d (.int p)), some (.d (.tuple (IL ns))), some (.d (.list (IL cs))), g1, g2, g3, none, none, none], mem, mem.length⟩ ∧ xs = IL ms ∧ Low p ms ∧ Low p cs ∧ cs ≠ [] ∧ nth cs (cs.length - 1) = 1 ∧ cs.length + ms.length ≤ 11) ?_ ?_ _ _ ?_
  · rintro d r s ⟨cs, ms, g1, g2, g3, rfl, hx, hm, hc, hne, hlast, hlen⟩
    cases ms with
    | nil => cases hx
    | cons n ms =>
      cases hx
      simp only [List.length_cons] at hlen
      have n0 := hm n (List.mem_cons_self ..)
      have k1 : 1 + cs.length ≤ SL.1 := SL_le (by omega)
      have k1' : cs.length + 1 ≤ SL.1 := SL_le (by omega)
      simp [k1, k1']
      rw [lcGo_map (mulD n)]
      · rw [IL_map (· * n) cs (mulD n) (fun i => rfl)]
        simp [k1, k1']
        have z1 : zip2 (PyData.int 0 :: IL cs) (List.map (PyData.int ∘ fun x => x * n) cs ++ [PyData.int 0]) = ((0 :: cs).zip (cs.map (· * n) ++ [0])).map fun x => PyData.tuple [.int x.1, .int x.2] := by
          rw [← zip2_IL]
          simp
        rw [z1, lcGo_map (subD p)]
        · have z2 : List.map (subD p) (((0 :: cs).zip (cs.map (· * n) ++ [0])).map fun x => PyData.tuple [.int x.1, .int x.2]) = IL (prodN p n cs) := by
            rw [List.map_map, prodN]
            show _ = List.map PyData.int _
            rw [List.map_map]
            rfl
          have zl : (prodN p n cs).length = cs.length + 1 := by simp [prodN]
          have hnz : ∀ i, i < cs.length + 1 → nth (prodN p n cs) i = (nth (0 :: cs) i - nth (cs.map (· * n) ++ [0]) i) % p := fun i hi => by
            unfold prodN
            exact nth_zip (f := fun x => (x.1 - x.2) % p) (by simpa using hi) (by simpa using hi)
          simp [z2]
          refine ⟨prodN p n cs, rfl, ms, rfl, fun x hx => hm x (List.mem_cons_of_mem _ hx), fun x hx => ?_, ?_, ?_, by rw [zl]; omega⟩
          · obtain ⟨y, _, rfl⟩ := List.mem_map.mp hx
            exact Low.mod (by omega)
          · intro e
            rw [e] at zl
            simp at zl
          · rw [zl, Nat.add_sub_cancel, hnz _ (by omega)]
            have c1 : cs.length = (cs.length - 1) + 1 := by have := List.length_pos_iff.mpr hne; omega
            have e1 : nth (0 :: cs) cs.length = 1 := by
              rw [c1]
              show nth cs (cs.length - 1) = 1
              exact hlast
            have e2 : nth (cs.map (· * n) ++ [0]) cs.length = 0 := by
              have := nth_app (xs := cs.map (· * n)) (ys := [0]) (i := 0)
              have z0 : nth [(0 : Int)] 0 = 0 := rfl
              simpa [z0] using this
            rw [e1, e2]
            exact Int.emod_eq_of_lt (by decide) (by omega)
        · intro d hd
          obtain ⟨⟨c, c2⟩, _, rfl⟩ := List.mem_map.mp hd
          simp [subD, show 0 < p by omega]
        · simp; exact sl_le (by omega)
      · intro d hd
        obtain ⟨c, hcm, rfl⟩ := List.mem_map.mp hd
        have c0 := hc c hcm
        have q : cMul c n = true := mul90 p9 c0 n0
        simp [q, mulD]
      · simp; exact sl_le (by omega)
  · rintro s ⟨cs, ms, g1, g2, g3, rfl, hx, hm, hc, hne, hlast, hlen⟩
    simp
    exact ⟨cs, rfl, ⟨hc, hne, hlast, by omega⟩, by omega⟩
  · exact ⟨[1], ns, none, none, none, rfl, rfl, hn, (fun x hx => by rw [List.mem_singleton.mp hx]; omega), by simp, rfl, by simp; omega⟩
end K43

set_option Elab.async false
set_option linter.all false
set_option maxRecDepth 100000
set_option maxHeartbeats 1000000
set_option exponentiation.threshold 4000
namespace K43
open PySem PySem.Spec PyProof.Rows L2 PD
theorem pick {P : D → Prop} {l : List D} {f : Int} (f0 : 0 ≤ f) (f1 : f < (l.length : Int)) (h : ∀ x ∈ l, P x) : ∃ x, atI l f = some x ∧ P x := by
  rw [atI_pos f0]
  have hl : f.toNat < l.length := by omega
  exact ⟨l[f.toNat], List.getElem?_eq_getElem hl, h _ (List.getElem_mem hl)⟩
theorem not_good {n : Int} (h : n ≠ GP) (h2 : 10000 ≤ n ∨ ¬ NoFac n) : ¬ GoodP n := fun g => by
  rcases g with g | ⟨g1, g2⟩
  · exact h g
  · rcases h2 with h2 | h2
    · omega
    · exact h2 g2
theorem composite {d e : Int} (d0 : 2 ≤ d) (d1 : d < 92) (e0 : 2 ≤ e) (e1 : e < 100) : ¬ GoodP (d * e) := by
  have b1 : d * e ≤ 91 * 99 := Int.mul_le_mul (by omega) (by omega) (by omega) (by omega)
  refine not_good (by show _ ≠ (618970019642690137449562111 : Int); omega) (.inr fun g => ?_)
  by_cases h : d ≤ e
  · exact g.2 d d0 (Int.mul_le_mul_of_nonneg_left h (by omega)) (Int.mul_emod_right _ _)
  · exact g.2 e e0 (Int.mul_le_mul_of_nonneg_right (by omega) (by omega)) (Int.mul_emod_left _ _)
theorem bad_prime_ok (mem : Mem) (a b : Int) (h : Hat a b) : (m_w_bad_prime (hatC a b :: mem) [.c 0]).wp (fun q => ∃ x a' b', q = (.d x, hatC a' b' :: mem) ∧ (∀ mem, m_check_prime mem [.d x] = .exc "NoPrime") ∧ Hat a' b') fun _ => False := by
  unfold m_w_bad_prime b_w_bad_prime
  simp
  refine Res.wp_then (draw_ok mem a b 90 h (by decide) (by decide)) (fun q hq => ?_) fun _ h => h
  obtain ⟨d, a1, b1, rfl, d0, d1, h1⟩ := hq
  simp
  refine Res.wp_then (draw_ok mem a1 b1 98 h1 (by decide) (by decide)) (fun q hq => ?_) fun _ h => h
  obtain ⟨e, a2, b2, rfl, e0, e1, h2⟩ := hq
  have c1 : cMul (2 + d) (2 + e) = true := mulA (by omega) (by omega)
  have q1 : cPow 2 61 = true := by decide
  have q2 : cPow 2 64 = true := by decide
  have k : 13 ≤ SL.1 := SL13
  have hc := composite (d := 2 + d) (e := 2 + e) (by omega) (by omega) (by omega) (by omega)
  simp [c1, q1, q2]
  refine Res.wp_then (draw_ok mem a2 b2 13 h2 (by decide) (by decide)) (fun q hq => ?_) fun _ h => h
  obtain ⟨f, a3, b3, rfl, f0, f1, h3⟩ := hq
  obtain ⟨x, ex, px⟩ := pick (P := fun x => ∀ mem, m_check_prime mem [.d x] = .exc "NoPrime") (l := [.int ((2 + d) * (2 + e)), .int ((2 + d) * (2 + e)), .int ((2 + d) * (2 + e)), .int 0, .int 1, .int (-7), .int 10007, .int 2305843009213693951, .int 18446744073709551616, .bool true, .none, .str "7", .tuple [.int 7]]) f0 f1 (by
    have s0 : ∀ n : Int, n ≠ GP → ¬ 1 < n → ∀ mem, m_check_prime mem [.d (.int n)] = .exc "NoPrime" := fun n h1 h2 m => check_prime_no m _ (not_good h1 (.inr fun g => h2 g.1))
    have s1 : ∀ n : Int, n ≠ GP → 10000 ≤ n → ∀ mem, m_check_prime mem [.d (.int n)] = .exc "NoPrime" := fun n h1 h2 m => check_prime_no m _ (not_good h1 (.inl h2))
    simp only [List.forall_mem_cons]
    exact ⟨fun m => check_prime_no m _ hc, fun m => check_prime_no m _ hc, fun m => check_prime_no m _ hc, s0 _ (by decide) (by decide), s0 _ (by decide) (by decide), s0 _ (by decide) (by decide), s1 _ (by decide) (by decide), s1 _ (by decide) (by decide), s1 _ (by decide) (by decide), fun m => check_prime_bad m _ rfl, fun m => check_prime_bad m _ rfl, fun m => check_prime_bad m _ rfl, fun m => check_prime_bad m _ rfl, fun _ h => by cases h⟩)
  simp [ex]
  exact ⟨x, _, _, ⟨rfl, rfl, rfl⟩, px, h3⟩
/-- things with one more, that is bad, in their midst -/
theorem spoilt_ok (mem : Mem) (a b : Int) (xs : List D) (x : D) (h : Hat a b) (hl : xs.length ≤ 1000) : (m_w_spoilt (hatC a b :: mem) [.c 0, .d (.tuple xs), .d x]).wp (fun q => ∃ i j a' b', q = (.d (.tuple (xs.take i ++ x :: xs.drop j)), hatC a' b' :: mem) ∧ Hat a' b') fun _ => False := by
  unfold m_w_spoilt b_w_spoilt
  simp
  refine Res.wp_then (draw_ok mem a b (xs.length + 1) h (by omega) (by omega)) (fun q hq => ?_) fun _ h => h
  obtain ⟨d, a1, b1, rfl, d0, d1, h1⟩ := hq
  obtain ⟨i, rfl⟩ := Int.eq_ofNat_of_zero_le d0
  have c1 := cutD_to (xs := xs) (h := (i : Int)) (by omega)
  have k1 : (xs.take i).length + 1 ≤ SL.1 := SL_le (by simp; omega)
  have k1' : min i xs.length + 1 ≤ SL.1 := SL_le (by omega)
  simp [c1, k1']
  refine Res.wp_then (draw_ok mem a1 b1 2 h1 (by decide) (by decide)) (fun q hq => ?_) fun _ h => h
  obtain ⟨e, a2, b2, rfl, e0, e1, h2⟩ := hq
  have c2 := cutD_from (xs := xs) (h := (i : Int) + e) (by omega)
  have k2 : min i xs.length + 1 + (xs.length - ((i : Int) + e).toNat) ≤ SL.1 := SL_le (by omega)
  simp [c2, k2]
  exact ⟨i, _, _, _, ⟨rfl, rfl, rfl⟩, h2⟩
theorem asc_no {ns : List Int} {i : Nat} (hi : i + 1 < ns.length) (h : ¬ nth ns i < nth ns (i + 1)) : asc ns = false := by
  cases e : asc ns with
  | false => rfl
  | true =>
    have := List.all_eq_true.mp e i (List.mem_range.mpr (by omega))
    exact absurd (of_decide_eq_true this) h
theorem asc_lt {ns : List Int} (h : asc ns = true) {i : Nat} : ∀ {j : Nat}, i < j → j < ns.length → nth ns i < nth ns j
  | 0, h1, _ => by omega
  | j + 1, h1, h2 => by
    have := of_decide_eq_true (List.all_eq_true.mp h j (List.mem_range.mpr (by omega)))
    have this : nth ns j < nth ns (j + 1) := this
    by_cases e : i = j
    · subst e; exact this
    · have := asc_lt h (i := i) (j := j) (by omega) (by omega)
      omega
theorem nth_lo {xs ys : List Int} {i : Nat} (h : i < xs.length) : nth (xs ++ ys) i = nth xs i := by
  unfold nth
  rw [List.getD_eq_getElem?_getD, List.getD_eq_getElem?_getD, List.getElem?_append_left h]
theorem nth_drop {xs : List Int} {i k : Nat} : nth (xs.drop k) i = nth xs (k + i) := by
  unfold nth
  rw [List.getD_eq_getElem?_getD, List.getD_eq_getElem?_getD, List.getElem?_drop]
theorem asc_rot {ns : List Int} (h : asc ns = true) (hl : 1 < ns.length) : asc (ns.drop 1 ++ ns.take 1) = false := by
  refine asc_no (i := ns.length - 2) (by simp; omega) ?_
  have e1 : nth (ns.drop 1 ++ ns.take 1) (ns.length - 2) = nth ns (ns.length - 1) := by
    rw [nth_lo (by simp; omega), nth_drop]
    congr 1
    omega
  have e2 : nth (ns.drop 1 ++ ns.take 1) (ns.length - 2 + 1) = nth ns 0 := by
    have := nth_app (xs := ns.drop 1) (ys := ns.take 1) (i := 0)
    rw [nth_take (by omega)] at this
    rw [← this]
    congr 1
    simp
    omega
  rw [e1, e2]
  have := asc_lt h (i := 0) (j := ns.length - 1) (by omega) (by omega)
  omega
theorem asc_two {ns : List Int} {i : Nat} (hi : i < ns.length) : asc (ns.take i ++ nth ns i :: ns.drop i) = false := by
  have hl : (ns.take i).length = i := by simp; omega
  refine asc_no (i := i) (by simp; omega) ?_
  have e1 := nth_app (xs := ns.take i) (ys := nth ns i :: ns.drop i) (i := 0)
  have e2 := nth_app (xs := ns.take i) (ys := nth ns i :: ns.drop i) (i := 1)
  rw [hl] at e1 e2
  have e3 : nth (nth ns i :: ns.drop i) 1 = nth ns i := by
    show nth (ns.drop i) 0 = _
    rw [nth_drop]
    rfl
  rw [e3] at e2
  have e1 : nth (ns.take i ++ nth ns i :: ns.drop i) i = nth ns i := e1
  rw [e1, e2]
  omega
/-- a lot with a bad thing in its midst -/
theorem all_spoilt {P : D → Bool} {xs : List D} {x : D} {i j : Nat} (h : P x = false) : (xs.take i ++ x :: xs.drop j).all P = false := by
  rw [List.all_append, List.all_cons, h]
  simp
def ToD (w : W) (x : D) : Prop := ∀ s : S, toD w s = some (x, s)
theorem bad_lot_ok (mem : Mem) (a b p : Int) (ns : List Int) (h : Hat a b) (hp : GoodP p) (hn : GoodLot p ns) (hl : ns.length ≤ 50) :
    (m_w_bad_lot (hatC a b :: mem) [.c 0, .d (.int p), .d (.tuple (IL ns))]).wp (fun q => ∃ w x a' b', q = (w, hatC a' b' :: mem) ∧ ToD w x ∧ (∀ mem, m_check_numbers mem [.d (.int p), .d x] = .exc "NoNumbers") ∧ Hat a' b') fun _ => False := by
  unfold m_w_bad_lot b_w_bad_lot
  have p2 := hp.two
  simp
  refine Res.wp_then (draw_ok mem a b 6 h (by decide) (by decide)) (fun q hq => ?_) fun _ h => h
  obtain ⟨d, a1, b1, rfl, d0, d1, h1⟩ := hq
  dsimp only
  generalize hF : sRet (eCall m_w_spoilt _) = F
  have spoil : (fin (hatC a b :: mem) (F ⟨[some (.c 0), some (.d (.int p)), some (.d (.tuple (IL ns))), some (.d (.int d)), none], hatC a1 b1 :: mem, mem.length + 1⟩)).wp (fun q => ∃ w x a' b', q = (w, hatC a' b' :: mem) ∧ ToD w x ∧ (∀ mem, m_check_numbers mem [.d (.int p), .d x] = .exc "NoNumbers") ∧ Hat a' b') fun _ => False := by
    rw [← hF]
    simp
    refine Res.wp_then (draw_ok mem a1 b1 6 h1 (by decide) (by decide)) (fun q hq => ?_) fun _ h => h
    obtain ⟨f, a2, b2, rfl, f0, f1, h2⟩ := hq
    obtain ⟨y, ey, py⟩ := pick (P := fun d => btw d 0 (p - 1) = false) (l := [PyData.int (-1), .int p, .bool true, .none, .str "1", .tuple [.int 0]]) f0 f1 (by
      simp [btw]; omega)
    simp [ey]
    refine Res.wp_then (spoilt_ok mem a2 b2 (IL ns) y h2 (by simp; omega)) (fun q hq => ?_) fun _ h => h
    obtain ⟨i, j, a3, b3, rfl, h3⟩ := hq
    simp
    refine ⟨_, _, _, _, ⟨rfl, rfl, rfl⟩, fun _ => rfl, fun m => ?_, h3⟩
    exact check_numbers_ix m p _ (by simp; omega) (all_spoilt py)
  have : d = 0 ∨ d = 1 ∨ d = 2 ∨ d = 3 ∨ d = 4 ∨ d = 5 := by omega
  rcases this with rfl | rfl | rfl | rfl | rfl | rfl
  · simp
    exact ⟨_, _, _, _, ⟨rfl, rfl, rfl⟩, fun _ => rfl, fun m => check_numbers_len m p _ rfl, h1⟩
  · by_cases c : 1 < ns.length
    · have c1 := cutD_from (xs := IL ns) (h := 1) (by decide)
      have c2 := cutD_to (xs := IL ns) (h := 1) (by decide)
      have k1 : ns.length - 1 + min 1 ns.length ≤ SL.1 := SL_le (by omega)
      have c' : (1 : Int) < (ns.length : Int) := by omega
      simp [c, c', c1, c2, k1]
      refine ⟨_, _, _, _, ⟨rfl, rfl, rfl⟩, fun _ => rfl, fun m => ?_, h1⟩
      have e : (IL ns).tail ++ List.take 1 (IL ns) = IL (ns.drop 1 ++ ns.take 1) := by simp
      rw [e, check_numbers_asc m p _ (by simp; omega) ((hn.low.drop 1).app (hn.low.take 1)), asc_rot hn.asc c]
      rfl
    · have c' : ¬ (1 : Int) < (ns.length : Int) := by omega
      simp [c, c']
      exact spoil
  · by_cases c : 0 < ns.length
    · have c' : (0 : Int) < (ns.length : Int) := by omega
      simp [c, c']
      refine Res.wp_then (draw_ok mem a1 b1 ns.length h1 (by omega) (by omega)) (fun q hq => ?_) fun _ h => h
      obtain ⟨f, a2, b2, rfl, f0, f1, h2⟩ := hq
      obtain ⟨i, rfl⟩ := Int.eq_ofNat_of_zero_le f0
      have c1 := cutD_to (xs := IL ns) (h := (i : Int)) (by omega)
      have c2 := cutD_from (xs := IL ns) (h := (i : Int)) (by omega)
      have k1 : min i ns.length + 1 ≤ SL.1 := SL_le (by omega)
      have k2 : min i ns.length + 1 + (ns.length - i) ≤ SL.1 := SL_le (by omega)
      have g := nth_some (ns := ns) (i := i) (by omega)
      simp [c1, c2, k1, k2, g]
      refine ⟨_, _, _, _, ⟨rfl, rfl, rfl⟩, fun _ => rfl, fun m => ?_, h2⟩
      have hi : i < ns.length := by omega
      have e : List.take i (IL ns) ++ PyData.int (nth ns i) :: List.drop i (IL ns) = IL (ns.take i ++ nth ns i :: ns.drop i) := by simp
      have hlow : Low p (ns.take i ++ nth ns i :: ns.drop i) := (hn.low.take i).app fun x hx => by
        rcases List.mem_cons.mp hx with rfl | hx
        · exact hn.low.nth (by omega)
        · exact hn.low.drop i x hx
      rw [e, check_numbers_asc m p _ (by simp; omega) hlow, asc_two hi]
      rfl
    · have c' : ¬ (0 : Int) < (ns.length : Int) := by omega
      simp [c, c']
      exact spoil
  · simp
    refine ⟨_, _, _, _, ⟨rfl, rfl, rfl⟩, fun _ => rfl, fun m => check_numbers_len m p _ ?_, h1⟩
    decide
  · simp
    refine Res.wp_then (draw_ok mem a1 b1 4 h1 (by decide) (by decide)) (fun q hq => ?_) fun _ h => h
    obtain ⟨f, a2, b2, rfl, f0, f1, h2⟩ := hq
    obtain ⟨y, ey, py⟩ := pick (P := fun d => tupLe d 200 = false) (l := [PyData.none, .int 0, .str "", .dict []]) f0 f1 (by simp [tupLe])
    simp [ey]
    exact ⟨_, _, _, _, ⟨rfl, rfl, rfl⟩, fun _ => rfl, fun m => check_numbers_len m p _ py, h2⟩
  · simp
    exact spoil
end K43

set_option Elab.async false
set_option linter.all false
set_option maxRecDepth 100000
set_option maxHeartbeats 1000000
set_option exponentiation.threshold 4000
namespace K43
open PySem PySem.Spec PyProof.Rows L2 PD
theorem plD_no {p : Int} {ns : List Int} {x : D} (h : btw x 0 (p - 1) = false) : plD p ns x = false := by
  unfold plD
  rw [h]
  rfl
theorem bad_places_ok (mem : Mem) (a b p : Int) (ns ps : List Int) (h : Hat a b) (hp : GoodP p) (hl : ns.length ≤ 50) (hps : GoodPl p ns ps) (hl2 : ps.length ≤ 10) :
    (m_w_bad_places (hatC a b :: mem) [.c 0, .d (.int p), .d (.tuple (IL ns)), .d (.tuple (IL ps))]).wp (fun q => ∃ w x a' b', q = (w, hatC a' b' :: mem) ∧ ToD w x ∧ (∀ mem, m_check_places mem [.d (.int p), .d (.tuple (IL ns)), .d x] = .exc "NoPlaces") ∧ Hat a' b') fun _ => False := by
  unfold m_w_bad_places b_w_bad_places
  have p2 := hp.two
  simp
  refine Res.wp_then (draw_ok mem a b 6 h (by decide) (by decide)) (fun q hq => ?_) fun _ h => h
  obtain ⟨d, a1, b1, rfl, d0, d1, h1⟩ := hq
  dsimp only
  generalize hF : sRet (eCall m_w_spoilt (aCons true (eVar 0) (aCons false (eVar 3) (aCons false (eIx (eLst _) _) aNil)))) = F
  have spoil : (fin (hatC a b :: mem) (F ⟨[some (.c 0), some (.d (.int p)), some (.d (.tuple (IL ns))), some (.d (.tuple (IL ps))), some (.d (.int d)), none], hatC a1 b1 :: mem, mem.length + 1⟩)).wp (fun q => ∃ w x a' b', q = (w, hatC a' b' :: mem) ∧ ToD w x ∧ (∀ mem, m_check_places mem [.d (.int p), .d (.tuple (IL ns)), .d x] = .exc "NoPlaces") ∧ Hat a' b') fun _ => False := by
    rw [← hF]
    simp
    refine Res.wp_then (draw_ok mem a1 b1 6 h1 (by decide) (by decide)) (fun q hq => ?_) fun _ h => h
    obtain ⟨f, a2, b2, rfl, f0, f1, h2⟩ := hq
    obtain ⟨y, ey, py⟩ := pick (P := fun d => btw d 0 (p - 1) = false) (l := [PyData.int (-1), .int p, .bool true, .none, .str "1", .tuple [.int 0]]) f0 f1 (by
      simp [btw]; omega)
    simp [ey]
    refine Res.wp_then (spoilt_ok mem a2 b2 (IL ps) y h2 (by simp; omega)) (fun q hq => ?_) fun _ h => h
    obtain ⟨i, j, a3, b3, rfl, h3⟩ := hq
    simp
    refine ⟨_, _, _, _, ⟨rfl, rfl, rfl⟩, fun _ => rfl, fun m => ?_, h3⟩
    exact check_places_ix m p ns _ (by simp; omega) (all_spoilt (plD_no py))
  have : d = 0 ∨ d = 1 ∨ d = 2 ∨ d = 3 ∨ d = 4 ∨ d = 5 := by omega
  rcases this with rfl | rfl | rfl | rfl | rfl | rfl
  · simp
    exact ⟨_, _, _, _, ⟨rfl, rfl, rfl⟩, fun _ => rfl, fun m => check_places_len m p _ _ rfl, h1⟩
  · by_cases c : 0 < ps.length
    · have c' : (0 : Int) < (ps.length : Int) := by omega
      simp [c, c']
      refine Res.wp_then (draw_ok mem a1 b1 ps.length h1 (by omega) (by omega)) (fun q hq => ?_) fun _ h => h
      obtain ⟨f, a2, b2, rfl, f0, f1, h2⟩ := hq
      obtain ⟨i, rfl⟩ := Int.eq_ofNat_of_zero_le f0
      have g := nth_some (ns := ps) (i := i) (by omega)
      have k1 : ps.length + 1 ≤ SL.1 := SL_le (by omega)
      simp [g, k1]
      refine ⟨_, _, _, _, ⟨rfl, rfl, rfl⟩, fun _ => rfl, fun m => ?_, h2⟩
      have e : IL ps ++ [PyData.int (nth ps i)] = IL (ps ++ [nth ps i]) := by simp
      have hm : nth ps i ∈ ps := by
        rw [nth_get (by omega)]
        exact List.getElem_mem _
      rw [e, check_places_dup m p ns _ (by simp; omega), if_neg]
      · refine keysV_dup fun hnd => ?_
        have := (List.nodup_append.mp hnd).2.2 _ hm _ (List.mem_singleton.mpr rfl)
        exact this rfl
      · rw [List.all_eq_true]
        intro z hz
        obtain ⟨y, hy, rfl⟩ := List.mem_map.mp hz
        refine List.all_eq_true.mp hps.out _ (List.mem_map.mpr ⟨y, ?_, rfl⟩)
        rcases List.mem_append.mp hy with hy | hy
        · exact hy
        · rw [List.mem_singleton.mp hy]; exact hm
    · have c' : ¬ (0 : Int) < (ps.length : Int) := by omega
      simp [c, c']
      exact spoil
  · by_cases c : 0 < ns.length
    · have c' : (0 : Int) < (ns.length : Int) := by omega
      simp [c, c']
      refine Res.wp_then (draw_ok mem a1 b1 ns.length h1 (by omega) (by omega)) (fun q hq => ?_) fun _ h => h
      obtain ⟨f, a2, b2, rfl, f0, f1, h2⟩ := hq
      obtain ⟨i, rfl⟩ := Int.eq_ofNat_of_zero_le f0
      have g := nth_some (ns := ns) (i := i) (by omega)
      simp [g]
      refine Res.wp_then (spoilt_ok mem a2 b2 (IL ps) (.int (nth ns i)) h2 (by simp; omega)) (fun q hq => ?_) fun _ h => h
      obtain ⟨i', j', a3, b3, rfl, h3⟩ := hq
      simp
      refine ⟨_, _, _, _, ⟨rfl, rfl, rfl⟩, fun _ => rfl, fun m => ?_, h3⟩
      refine check_places_ix m p ns _ (by simp; omega) (all_spoilt ?_)
      have hm : nth ns i ∈ ns := by
        rw [nth_get (by omega)]
        exact List.getElem_mem _
      unfold plD
      rw [inD_IL, decide_eq_true hm]
      simp
    · have c' : ¬ (0 : Int) < (ns.length : Int) := by omega
      simp [c, c']
      exact spoil
  · have i1 : inB 65 = true := by rw [inB_eq]; decide
    simp [i1]
    rw [lcGo_map (fun d => match d with | .int k => .int (p - 1 - k) | _ => .none)]
    · simp
      refine ⟨_, _, _, _, ⟨rfl, rfl, rfl⟩, fun _ => rfl, fun m => check_places_len m p _ _ ?_, h1⟩
      simp [tupLe]
    · intro d hd
      obtain ⟨k, hk, rfl⟩ := List.mem_map.mp hd
      simp
    · simp; exact sl_le (by decide)
  · simp
    refine Res.wp_then (draw_ok mem a1 b1 4 h1 (by decide) (by decide)) (fun q hq => ?_) fun _ h => h
    obtain ⟨f, a2, b2, rfl, f0, f1, h2⟩ := hq
    obtain ⟨y, ey, py⟩ := pick (P := fun d => tupLe d 64 = false) (l := [PyData.none, .int 0, .str "", .dict []]) f0 f1 (by simp [tupLe])
    simp [ey]
    exact ⟨_, _, _, _, ⟨rfl, rfl, rfl⟩, fun _ => rfl, fun m => check_places_len m p _ _ py, h2⟩
  · simp
    exact spoil
theorem bad_told_ok (mem : Mem) (a b p : Int) (n : Nat) (ts : List Int) (h : Hat a b) (hp : GoodP p) (ht : GoodTold p n ts) (hl : n ≤ 10) :
    (m_w_bad_told (hatC a b :: mem) [.c 0, .d (.int p), .d (.tuple (IL ts))]).wp (fun q => ∃ w x a' b', q = (w, hatC a' b' :: mem) ∧ ToD w x ∧ (∀ mem, m_check_told mem [.d (.int p), .d x, .d (.int n)] = .exc "NoValues") ∧ Hat a' b') fun _ => False := by
  unfold m_w_bad_told b_w_bad_told
  have p2 := hp.two
  have hn := ht.len
  have no : ∀ (x : D), (match x with
    | .tuple xs => decide (xs.length = n) && xs.all (fun d => btw d 1 (p - 1))
    | _ => false) = false → ∀ mem, m_check_told mem [.d (.int p), .d x, .d (.int n)] = .exc "NoValues" := fun x hx m => by
    refine (check_told_eq m p x n (by omega)).trans (if_neg fun e => ?_)
    exact Bool.noConfusion (hx.symm.trans e)
  simp
  refine Res.wp_then (draw_ok mem a b 5 h (by decide) (by decide)) (fun q hq => ?_) fun _ h => h
  obtain ⟨d, a1, b1, rfl, d0, d1, h1⟩ := hq
  have k1 : ts.length + 1 ≤ SL.1 := SL_le (by omega)
  dsimp only
  generalize hF : sCons (sIf (tOf (eEq (eLen _) _)) _ _) _ = F
  have spoil : (fin (hatC a b :: mem) (F ⟨[some (.c 0), some (.d (.int p)), some (.d (.tuple (IL ts))), some (.d (.int d)), none], hatC a1 b1 :: mem, mem.length + 1⟩)).wp (fun q => ∃ w x a' b', q = (w, hatC a' b' :: mem) ∧ ToD w x ∧ (∀ mem, m_check_told mem [.d (.int p), .d x, .d (.int n)] = .exc "NoValues") ∧ Hat a' b') fun _ => False := by
    rw [← hF]
    by_cases c : ts.length = 0
    · have e : ts = [] := List.length_eq_zero_iff.mp c
      subst e
      simp at hn
      simp
      refine Res.wp_then (draw_ok mem a1 b1 4 h1 (by decide) (by decide)) (fun q hq => ?_) fun _ h => h
      obtain ⟨f, a2, b2, rfl, f0, f1, h2⟩ := hq
      obtain ⟨y, ey, py⟩ := pick (P := fun d => (match d with
    | .tuple xs => decide (xs.length = n) && xs.all (fun d => btw d 1 (p - 1))
    | _ => false) = false) (l := [PyData.none, .int 0, .str "", .tuple [.int 0]]) f0 f1 (by simp [← hn])
      simp [ey]
      exact ⟨_, _, _, _, ⟨rfl, rfl, rfl⟩, fun _ => rfl, no _ py, h2⟩
    · have c' : ¬ (ts.length : Int) = 0 := by omega
      have c2 : ¬ ts = [] := fun e => c (by rw [e]; rfl)
      simp [c, c', c2]
      refine Res.wp_then (draw_ok mem a1 b1 ts.length h1 (by omega) (by omega)) (fun q hq => ?_) fun _ h => h
      obtain ⟨f, a2, b2, rfl, f0, f1, h2⟩ := hq
      obtain ⟨i, rfl⟩ := Int.eq_ofNat_of_zero_le f0
      simp
      refine Res.wp_then (draw_ok mem a2 b2 6 h2 (by decide) (by decide)) (fun q hq => ?_) fun _ h => h
      obtain ⟨g, a3, b3, rfl, g0, g1, h3⟩ := hq
      obtain ⟨y, ey, py⟩ := pick (P := fun d => btw d 1 (p - 1) = false) (l := [PyData.int 0, .int p, .int (-1), .bool true, .none, .str "1"]) g0 g1 (by
        simp [btw]; omega)
      have c1 := cutD_to (xs := IL ts) (h := (i : Int)) (by omega)
      have c3 := cutD_from (xs := IL ts) (h := (i : Int) + 1) (by omega)
      have k2 : min i ts.length + 1 ≤ SL.1 := SL_le (by omega)
      have k3 : min i ts.length + 1 + (ts.length - (i + 1)) ≤ SL.1 := SL_le (by omega)
      simp [ey, c1, c3, k2, k3]
      refine ⟨_, _, _, _, ⟨rfl, rfl, rfl⟩, fun _ => rfl, no _ ?_, h3⟩
      dsimp only
      rw [all_spoilt py, Bool.and_false]
  have : d = 0 ∨ d = 1 ∨ d = 2 ∨ d = 3 ∨ d = 4 := by omega
  rcases this with rfl | rfl | rfl | rfl | rfl
  · simp
    exact ⟨_, _, _, _, ⟨rfl, rfl, rfl⟩, fun _ => rfl, no _ rfl, h1⟩
  · simp [k1]
    refine ⟨_, _, _, _, ⟨rfl, rfl, rfl⟩, fun _ => rfl, no _ ?_, h1⟩
    simp
    omega
  · by_cases c : 0 < ts.length
    · have c' : (0 : Int) < (ts.length : Int) := by omega
      have c1 := cutD_from (xs := IL ts) (h := 1) (by decide)
      simp [c, c', c1]
      refine ⟨_, _, _, _, ⟨rfl, rfl, rfl⟩, fun _ => rfl, no _ ?_, h1⟩
      simp
      omega
    · have c' : ¬ (0 : Int) < (ts.length : Int) := by omega
      simp [c, c']
      exact spoil
  · simp
    exact spoil
  · simp
    exact spoil
theorem bad_count_ok (mem : Mem) (a b m : Int) (h : Hat a b) (hm : 0 ≤ m) :
    (m_w_bad_count (hatC a b :: mem) [.c 0, .d (.int m)]).wp (fun q => ∃ x a' b', q = (.d x, hatC a' b' :: mem) ∧ btw x 0 m = false ∧ Hat a' b') fun _ => False := by
  unfold m_w_bad_count b_w_bad_count
  simp
  refine Res.wp_then (draw_ok mem a b 6 h (by decide) (by decide)) (fun q hq => ?_) fun _ h => h
  obtain ⟨f, a2, b2, rfl, f0, f1, h2⟩ := hq
  obtain ⟨y, ey, py⟩ := pick (P := fun d => btw d 0 m = false) (l := [PyData.int (-1), .int (m + 1), .bool true, .none, .str "0", .tuple [.int 0]]) f0 f1 (by
    simp [btw]; omega)
  simp [ey]
  exact ⟨_, _, _, ⟨rfl, rfl, rfl⟩, py, h2⟩
theorem poly_spoilt {p : Int} {xs : List D} {x : D} {i j : Nat} (hx : btw x 0 (p - 1) = false) (hl : xs.length ≤ 30) (m : Mem) : m_check_polynomial m [.d (.int p), .d (.tuple (xs.take i ++ x :: xs.drop j))] = .exc "NoPolynomial" := by
  have hne : xs.take i ++ x :: xs.drop j ≠ [] := by simp
  obtain ⟨l, el⟩ : ∃ l, (xs.take i ++ x :: xs.drop j).getLast? = some l := ⟨_, List.getLast?_eq_some_getLast hne⟩
  rw [check_poly_eq m p _ l (by simp; omega) (by simp; omega) el, all_spoilt hx]
  rfl
theorem bad_poly_ok (mem : Mem) (a b p : Int) (cs : List Int) (h : Hat a b) (hp : GoodP p) (hc : GoodPoly p cs) (hl : cs.length ≤ 20) :
    (m_w_bad_polynomial (hatC a b :: mem) [.c 0, .d (.int p), .d (.tuple (IL cs))]).wp (fun q => ∃ x a' b', q = (.d x, hatC a' b' :: mem) ∧ (∀ mem, m_check_polynomial mem [.d (.int p), .d x] = .exc "NoPolynomial") ∧ Hat a' b') fun _ => False := by
  unfold m_w_bad_polynomial b_w_bad_polynomial
  have p2 := hp.two
  have cpos : 0 < cs.length := List.length_pos_iff.mpr hc.ne
  simp
  refine Res.wp_then (draw_ok mem a b 5 h (by decide) (by decide)) (fun q hq => ?_) fun _ h => h
  obtain ⟨d, a1, b1, rfl, d0, d1, h1⟩ := hq
  have : d = 0 ∨ d = 1 ∨ d = 2 ∨ d = 3 ∨ d = 4 := by omega
  rcases this with rfl | rfl | rfl | rfl | rfl
  · simp
    refine Res.wp_then (draw_ok mem a1 b1 5 h1 (by decide) (by decide)) (fun q hq => ?_) fun _ h => h
    obtain ⟨f, a2, b2, rfl, f0, f1, h2⟩ := hq
    obtain ⟨y, ey, py⟩ := pick (P := fun d => ∀ xs, d = .tuple xs → xs.length = 0 ∨ 65 < xs.length) (l := [PyData.list (IL cs), .tuple [], .none, .int 1, .str ""]) f0 f1 (by
      simp)
    simp [ey]
    exact ⟨_, _, _, ⟨rfl, rfl, rfl⟩, fun m => check_poly_len m p _ py, h2⟩
  · have c1 := cutD_to (xs := IL cs) (h := (cs.length : Int) - 1) (by omega)
    have e1 : ((cs.length : Int) - 1).toNat = cs.length - 1 := by omega
    have k1 : min (cs.length - 1) cs.length + 1 ≤ SL.1 := SL_le (by omega)
    have k2 : cs.length - 1 + 1 ≤ SL.1 := SL_le (by omega)
    simp
    refine Res.wp_then (draw_ok mem a1 b1 5 h1 (by decide) (by decide)) (fun q hq => ?_) fun _ h => h
    obtain ⟨f, a2, b2, rfl, f0, f1, h2⟩ := hq
    obtain ⟨y, ey, py⟩ := pick (P := fun d => btw d 0 (p - 1) = false ∨ PyData.eqv d (.int 1) = false) (l := [PyData.int 0, .int 2, .int (-1), .bool true, .none]) f0 f1 (by
      simp [btw, PyData.eqv])
    simp [ey, c1, e1, k1, k2]
    refine ⟨_, _, _, ⟨rfl, rfl, rfl⟩, fun m => ?_, h2⟩
    have e2 : List.take (cs.length - 1) (IL cs) ++ [y] = (IL cs).take (cs.length - 1) ++ y :: (IL cs).drop cs.length := by simp
    rcases py with py | py
    · rw [e2]
      exact poly_spoilt py (by simp; omega) m
    · rw [check_poly_eq m p _ y (by simp) (by simp; omega) (by simp), py, Bool.and_false]
      rfl
  · have q : cRepT 1 (66 - (cs.length : Int)) = true := cRepT_ok (by decide) (by omega) (by omega) (by decide)
    have k1 : 66 - cs.length + cs.length ≤ SL.1 := SL_le (by omega)
    simp [q, k1]
    refine ⟨_, _, _, ⟨rfl, rfl, rfl⟩, fun m => check_poly_len m p _ fun xs e => ?_, h1⟩
    cases e
    right
    simp
    omega
  all_goals
    simp
    refine Res.wp_then (draw_ok mem a1 b1 cs.length h1 (by omega) (by omega)) (fun q hq => ?_) fun _ h => h
    obtain ⟨f, a2, b2, rfl, f0, f1, h2⟩ := hq
    obtain ⟨i, rfl⟩ := Int.eq_ofNat_of_zero_le f0
    simp
    refine Res.wp_then (draw_ok mem a2 b2 5 h2 (by decide) (by decide)) (fun q hq => ?_) fun _ h => h
    obtain ⟨g, a3, b3, rfl, g0, g1, h3⟩ := hq
    obtain ⟨y, ey, py⟩ := pick (P := fun d => btw d 0 (p - 1) = false) (l := [PyData.int p, .int (-1), .bool true, .none, .str "0"]) g0 g1 (by
      simp [btw]; omega)
    have c1 := cutD_to (xs := IL cs) (h := (i : Int)) (by omega)
    have c3 := cutD_from (xs := IL cs) (h := (i : Int)) (by omega)
    have k2 : min i cs.length + 1 ≤ SL.1 := SL_le (by omega)
    have k3 : min i cs.length + 1 + (cs.length - i) ≤ SL.1 := SL_le (by omega)
    simp [ey, c1, c3, k2, k3]
    exact ⟨_, _, _, ⟨rfl, rfl, rfl⟩, poly_spoilt py (by simp; omega), h3⟩
end K43

set_option Elab.async false
set_option linter.all false
set_option maxRecDepth 100000
set_option maxHeartbeats 1000000
set_option exponentiation.threshold 4000
namespace K43
open PySem PySem.Spec PyProof.Rows L2 PD
@[simp] theorem eqv_ss {x y : Str} : PyData.eqv (.str x) (.str y) = decide (x = y) := by
  rw [PyData.eqv]
  by_cases h : x = y <;> simp [h]
@[simp] theorem nw1 : (("roots" : Str) = "values") = False := by simp only [eq_iff_iff, iff_false]; decide
@[simp] theorem nw2 : (("difference" : Str) = "values") = False := by simp only [eq_iff_iff, iff_false]; decide
@[simp] theorem nw3 : (("number_of" : Str) = "values") = False := by simp only [eq_iff_iff, iff_false]; decide
@[simp] theorem nw4 : (("begin_mending" : Str) = "values") = False := by simp only [eq_iff_iff, iff_false]; decide
@[simp] theorem nw5 : (("difference" : Str) = "roots") = False := by simp only [eq_iff_iff, iff_false]; decide
@[simp] theorem nw6 : (("number_of" : Str) = "roots") = False := by simp only [eq_iff_iff, iff_false]; decide
@[simp] theorem nw7 : (("begin_mending" : Str) = "roots") = False := by simp only [eq_iff_iff, iff_false]; decide
@[simp] theorem nw8 : (("difference" : Str) = "number_of") = False := by simp only [eq_iff_iff, iff_false]; decide
@[simp] theorem nw9 : (("begin_mending" : Str) = "number_of") = False := by simp only [eq_iff_iff, iff_false]; decide
@[simp] theorem nwA : (("difference" : Str) = "begin_mending") = False := by simp only [eq_iff_iff, iff_false]; decide
@[simp] theorem nwB : (("number_of" : Str) = "begin_mending") = False := by simp only [eq_iff_iff, iff_false]; decide
@[simp] theorem nwC : (("values" : Str) = "begin_mending") = False := by simp only [eq_iff_iff, iff_false]; decide
@[simp] theorem nwD : (("roots" : Str) = "begin_mending") = False := by simp only [eq_iff_iff, iff_false]; decide
@[simp] theorem nwE : (("values" : Str) = "number_of") = False := by simp only [eq_iff_iff, iff_false]; decide
@[simp] theorem nwF : (("roots" : Str) = "number_of") = False := by simp only [eq_iff_iff, iff_false]; decide
@[simp] theorem nwG : (("values" : Str) = "difference") = False := by simp only [eq_iff_iff, iff_false]; decide
@[simp] theorem nwH : (("roots" : Str) = "difference") = False := by simp only [eq_iff_iff, iff_false]; decide
theorem called_values {mem : Mem} {x y z : D} {c : Str} (h : m_values mem [.d x, .d y, .d z] = .exc c) : m_w_called mem [.d (.str "values"), .d (.list [x, y, z])] = .exc c := by
  unfold m_w_called b_w_called
  simp [h]
theorem called_values_ok {mem : Mem} {x y z v : D} (h : m_values mem [.d x, .d y, .d z] = .ok (.d v, mem)) : m_w_called mem [.d (.str "values"), .d (.list [x, y, z])] = .ok (.d v, mem) := by
  unfold m_w_called b_w_called
  simp [h]
theorem called_roots {mem : Mem} {x y z : D} {c : Str} (h : m_roots mem [.d x, .d y, .d z] = .exc c) : m_w_called mem [.d (.str "roots"), .d (.list [x, y, z])] = .exc c := by
  unfold m_w_called b_w_called
  simp [h]
theorem called_roots_ok {mem : Mem} {x y z v : D} (h : m_roots mem [.d x, .d y, .d z] = .ok (.d v, mem)) : m_w_called mem [.d (.str "roots"), .d (.list [x, y, z])] = .ok (.d v, mem) := by
  unfold m_w_called b_w_called
  simp [h]
theorem called_number {mem : Mem} {x y : D} {c : Str} (h : m_number_of mem [.d x, .d y] = .exc c) : m_w_called mem [.d (.str "number_of"), .d (.list [x, y])] = .exc c := by
  unfold m_w_called b_w_called
  simp [h]
theorem called_number_ok {mem : Mem} {x y v : D} (h : m_number_of mem [.d x, .d y] = .ok (.d v, mem)) : m_w_called mem [.d (.str "number_of"), .d (.list [x, y])] = .ok (.d v, mem) := by
  unfold m_w_called b_w_called
  simp [h]
theorem called_begin {mem : Mem} {x y z : D} {c : Str} (h : m_begin_mending mem [.d x, .d y, .d z] = .exc c) : m_w_called mem [.d (.str "begin_mending"), .d (.list [x, y, z])] = .exc c := by
  unfold m_w_called b_w_called
  simp [h]
theorem called_begin_ok {mem : Mem} {x y z v : D} (h : m_begin_mending mem [.d x, .d y, .d z] = .ok (.d v, mem)) : m_w_called mem [.d (.str "begin_mending"), .d (.list [x, y, z])] = .ok (.d v, mem) := by
  unfold m_w_called b_w_called
  simp [h]
theorem called_diff {mem : Mem} {x y z u t r : D} {c : Str} (h : m_difference mem [.d x, .d y, .d z, .d u, .d t, .d r] = .exc c) : m_w_called mem [.d (.str "difference"), .d (.list [x, y, z, u, t, r])] = .exc c := by
  unfold m_w_called b_w_called
  simp [h]
theorem called_diff_ok {mem : Mem} {x y z u t r v : D} (h : m_difference mem [.d x, .d y, .d z, .d u, .d t, .d r] = .ok (.d v, mem)) : m_w_called mem [.d (.str "difference"), .d (.list [x, y, z, u, t, r])] = .ok (.d v, mem) := by
  unfold m_w_called b_w_called
  simp [h]
theorem right_values {mem : Mem} {as : List D} {xs : List D} (h : m_w_called mem [.d (.str "values"), .d (.list as)] = .ok (.d (.tuple xs), mem)) : m_w_good_right mem [.d (.str "values"), .d (.list as)] = .ok (.d (.bool true), mem) := by
  unfold m_w_good_right b_w_good_right
  simp [h]
theorem right_roots {mem : Mem} {as : List D} {xs : List D} (h : m_w_called mem [.d (.str "roots"), .d (.list as)] = .ok (.d (.tuple xs), mem)) : m_w_good_right mem [.d (.str "roots"), .d (.list as)] = .ok (.d (.bool true), mem) := by
  unfold m_w_good_right b_w_good_right
  simp [h]
theorem right_number {mem : Mem} {as : List D} {n : Int} (h : m_w_called mem [.d (.str "number_of"), .d (.list as)] = .ok (.d (.int n), mem)) : m_w_good_right mem [.d (.str "number_of"), .d (.list as)] = .ok (.d (.bool true), mem) := by
  unfold m_w_good_right b_w_good_right
  simp [h]
theorem right_diff {mem : Mem} {as : List D} {v : D} (hv : v = .none ∨ ∃ x y, v = .tuple [x, y]) (h : m_w_called mem [.d (.str "difference"), .d (.list as)] = .ok (.d v, mem)) : m_w_good_right mem [.d (.str "difference"), .d (.list as)] = .ok (.d (.bool true), mem) := by
  unfold m_w_good_right b_w_good_right
  rcases hv with rfl | ⟨x, y, rfl⟩ <;> simp [h]
/-- what the law's own comparison reads -/
def depT : D → Nat → Bool
  | .none, _ => true
  | .int _, _ => true
  | .str _, _ => true
  | .tuple xs, n + 1 => xs.attach.all fun x => depT x.1 n
  | _, _ => false
theorem same_self (mem : Mem) : ∀ (n : Nat) (x : D), depT x n = true → m_w_same (n + 1) mem [.d x, .d x] = .ok (.d (.bool true), mem) := by
  intro n
  induction n with
  | zero =>
    intro x h
    cases x with
    | none => unfold m_w_same b_w_same; simp
    | int i => unfold m_w_same b_w_same; simp
    | str z => unfold m_w_same b_w_same; simp
    | _ => simp [depT] at h
  | succ n ih =>
    intro x h
    cases x with
    | none => unfold m_w_same b_w_same; simp
    | int i => unfold m_w_same b_w_same; simp
    | str z => unfold m_w_same b_w_same; simp
    | tuple xs =>
      have hx : ∀ x ∈ xs, depT x n = true := by
        intro x hx
        simp [depT] at h
        exact h x hx
      unfold m_w_same b_w_same
      simp
      generalize hB : sIf (tNot_ _) _ _ = B
      have hB2 : ∀ (y : D) (g0 g1 : Option W), depT y n = true → B ⟨[g0, g1, some (.d y), some (.d y)], mem, mem.length⟩ = .ok (.nx, ⟨[g0, g1, some (.d y), some (.d y)], mem, mem.length⟩) := fun y g0 g1 hy => by
        rw [← hB]
        simp [ih y hy]
      have loop : ∀ (ys : List D) (g0 g1 g2 g3 : Option W), (∀ y ∈ ys, depT y n = true) → ∃ g4 g5, forGo (gTupT [2, 3]) B (zip2 ys ys) ⟨[g0, g1, g2, g3], mem, mem.length⟩ = .ok (.nx, ⟨[g0, g1, g4, g5], mem, mem.length⟩) := by
        intro ys
        induction ys with
        | nil => exact fun g0 g1 g2 g3 _ => ⟨g2, g3, rfl⟩
        | cons y ys ihy =>
          intro g0 g1 g2 g3 hy
          obtain ⟨g4, g5, e⟩ := ihy g0 g1 (some (.d y)) (some (.d y)) fun z hz => hy z (List.mem_cons_of_mem _ hz)
          refine ⟨g4, g5, ?_⟩
          rw [show zip2 (y :: ys) (y :: ys) = .tuple [y, y] :: zip2 ys ys from rfl]
          unfold forGo
          simp [hB2 y g0 g1 (hy y (List.mem_cons_self ..)), e]
      obtain ⟨g4, g5, e⟩ := loop xs (some (.d (.tuple xs))) (some (.d (.tuple xs))) none none hx
      rw [e]
      simp
    | _ => simp [depT] at h
theorem right_begin {mem : Mem} {i j e : Int} {x1 x2 x3 x4 x5 x6 x7 x8 later : D} {v : D}
    (hv : v = .tuple (if 0 ≤ e ∧ isN later = true then [.tuple [.tuple [.str "home", .int j], .tuple [.str "home", .int i], .int 0, .str "sums", .tuple [.int e, .int 2]]] else []))
    (h : m_w_called mem [.d (.str "begin_mending"), .d (.list [.int i, .tuple [.int e, x1, x2, x3, x4, x5, x6, x7, x8, later], .int j])] = .ok (.d v, mem)) :
    m_w_good_right mem [.d (.str "begin_mending"), .d (.list [.int i, .tuple [.int e, x1, x2, x3, x4, x5, x6, x7, x8, later], .int j])] = .ok (.d (.bool true), mem) := by
  unfold m_w_good_right b_w_good_right
  have s0 := same_self mem 5 (.tuple []) (by simp [depT])
  have s1 := same_self mem 5 (.tuple [.tuple [.tuple [.str "home", .int j], .tuple [.str "home", .int i], .int 0, .str "sums", .tuple [.int e, .int 2]]]) (by simp [depT])
  subst hv
  by_cases he : 0 ≤ e
  · have he' : ¬ e < 0 := by omega
    cases hl : isN later with
    | true =>
      have : later = .none := by cases later <;> first | rfl | cases hl
      subst this
      simp [h, he, he', s1]
    | false =>
      cases later with
      | none => cases hl
      | _ => simp [h, he, he', hl, s0]
  · have he' : e < 0 := by omega
    simp [h, he, he', s0]
end K43

set_option Elab.async false
set_option linter.all false
set_option maxRecDepth 100000
set_option maxHeartbeats 1000000
set_option exponentiation.threshold 4000
namespace K43
open PySem PySem.Spec PyProof.Rows L2 PD
def ksN : List Str := ["NoPrime", "NoNumbers", "NoNumber", "NoPlaces", "NoValues", "NoPolynomial", "NoName", "NoStamp", "NoHomeNumber", "NoTable"]
/-- a call with good arguments, and bad ones in their places, each with the number of its error -/
structure Case (word : Str) (gs bs es : List D) : Prop where
  n1 : bs.length = gs.length
  n2 : es.length = gs.length
  n3 : 1 ≤ gs.length
  n4 : gs.length ≤ 6
  good : ∀ mem, m_w_good_right mem [.d (.str word), .d (.list gs)] = .ok (.d (.bool true), mem)
  bad : ∀ (k : Nat) (zs : List D), k < gs.length → zs.length = gs.length → (∀ i, i < k → zs[i]? = gs[i]?) → zs[k]? = bs[k]? → ∃ (n : Nat) (c : Str), es[k]? = some (.int n) ∧ ksN[n]? = some c ∧ ∀ mem, m_w_called mem [.d (.str word), .d (.list zs)] = .exc c
theorem case_values {p : Int} {ns ps : List Int} {x1 x2 x3 : D} (hp : GoodP p) (hn : GoodLot p ns) (hps : GoodPl p ns ps) (h1 : ∀ mem, m_check_prime mem [.d x1] = .exc "NoPrime") (h2 : ∀ mem, m_check_numbers mem [.d (.int p), .d x2] = .exc "NoNumbers") (h3 : ∀ mem, m_check_places mem [.d (.int p), .d (.tuple (IL ns)), .d x3] = .exc "NoPlaces") :
    Case "values" [.int p, .tuple (IL ns), .tuple (IL ps)] [x1, x2, x3] [.int 0, .int 1, .int 3] := by
  refine ⟨rfl, rfl, by simp, by simp, fun mem => ?_, fun k zs hk hz hi hb => ?_⟩
  · obtain ⟨q, e, xs, rfl⟩ := Res.ok_of_wp (values_ok mem p ns ps hp hn hps)
    exact right_values (called_values_ok e)
  · match zs, hz with
    | [z1, z2, z3], _ =>
      match k, hk with
      | 0, _ =>
        have hb := Option.some.inj hb
        subst hb
        exact ⟨0, "NoPrime", rfl, rfl, fun mem => called_values (values_1 mem _ _ _ (h1 mem))⟩
      | 1, _ =>
        have hb := Option.some.inj hb
        have e0 := Option.some.inj (hi 0 (by decide))
        subst hb e0
        exact ⟨1, "NoNumbers", rfl, rfl, fun mem => called_values (values_2 mem _ _ _ hp (h2 mem))⟩
      | 2, _ =>
        have hb := Option.some.inj hb
        have e0 := Option.some.inj (hi 0 (by decide))
        have e1 := Option.some.inj (hi 1 (by decide))
        subst hb e0 e1
        exact ⟨3, "NoPlaces", rfl, rfl, fun mem => called_values (values_3 mem _ _ _ hp hn (h3 mem))⟩
theorem case_roots {p : Int} {ns cs : List Int} {x1 x2 x3 : D} (hp : GoodP p) (hc : GoodPoly p cs) (hn : GoodLot p ns) (h1 : ∀ mem, m_check_prime mem [.d x1] = .exc "NoPrime") (h2 : ∀ mem, m_check_polynomial mem [.d (.int p), .d x2] = .exc "NoPolynomial") (h3 : ∀ mem, m_check_numbers mem [.d (.int p), .d x3] = .exc "NoNumbers") :
    Case "roots" [.int p, .tuple (IL cs), .tuple (IL ns)] [x1, x2, x3] [.int 0, .int 5, .int 1] := by
  refine ⟨rfl, rfl, by simp, by simp, fun mem => ?_, fun k zs hk hz hi hb => ?_⟩
  · obtain ⟨q, e, xs, rfl⟩ := Res.ok_of_wp (roots_ok mem p cs ns hp hc hn)
    exact right_roots (called_roots_ok e)
  · match zs, hz with
    | [z1, z2, z3], _ =>
      match k, hk with
      | 0, _ =>
        have hb := Option.some.inj hb
        subst hb
        exact ⟨0, "NoPrime", rfl, rfl, fun mem => called_roots (roots_1 mem _ _ _ (h1 mem))⟩
      | 1, _ =>
        have hb := Option.some.inj hb
        have e0 := Option.some.inj (hi 0 (by decide))
        subst hb e0
        exact ⟨5, "NoPolynomial", rfl, rfl, fun mem => called_roots (roots_2 mem _ _ _ hp (h2 mem))⟩
      | 2, _ =>
        have hb := Option.some.inj hb
        have e0 := Option.some.inj (hi 0 (by decide))
        have e1 := Option.some.inj (hi 1 (by decide))
        subst hb e0 e1
        exact ⟨1, "NoNumbers", rfl, rfl, fun mem => called_roots (roots_3 mem _ _ _ hp hc (h3 mem))⟩
theorem case_diff {p many most : Int} {ns ps ts : List Int} {x1 x2 x3 x4 x5 x6 : D} (hp : GoodP p) (hn : GoodLot p ns) (hm : 0 ≤ many ∧ many ≤ 200) (hps : GoodPl p ns ps) (ht : GoodTold p ps.length ts) (hmo : 0 ≤ most ∧ most ≤ ps.length)
    (h1 : ∀ mem, m_check_prime mem [.d x1] = .exc "NoPrime") (h2 : ∀ mem, m_check_numbers mem [.d (.int p), .d x2] = .exc "NoNumbers") (h3 : btw x3 0 200 = false) (h4 : ∀ mem, m_check_places mem [.d (.int p), .d (.tuple (IL ns)), .d x4] = .exc "NoPlaces") (h5 : ∀ mem, m_check_told mem [.d (.int p), .d x5, .d (.int ps.length)] = .exc "NoValues") (h6 : btw x6 0 ps.length = false) :
    Case "difference" [.int p, .tuple (IL ns), .int many, .tuple (IL ps), .tuple (IL ts), .int most] [x1, x2, x3, x4, x5, x6] [.int 0, .int 1, .int 2, .int 3, .int 4, .int 2] := by
  refine ⟨rfl, rfl, by simp, by simp, fun mem => ?_, fun k zs hk hz hi hb => ?_⟩
  · obtain ⟨q, e, hq⟩ := Res.ok_of_wp (difference_ok mem p ns ps ts many most hp hn hm hps ht hmo)
    rcases hq with rfl | ⟨x, y, rfl⟩
    · exact right_diff (.inl rfl) (called_diff_ok e)
    · exact right_diff (.inr ⟨x, y, rfl⟩) (called_diff_ok e)
  · match zs, hz with
    | [z1, z2, z3, z4, z5, z6], _ =>
      match k, hk with
      | 0, _ =>
        have hb := Option.some.inj hb
        subst hb
        exact ⟨0, "NoPrime", rfl, rfl, fun mem => called_diff (diff_1 mem _ _ _ _ _ _ (h1 mem))⟩
      | 1, _ =>
        have hb := Option.some.inj hb
        have e0 := Option.some.inj (hi 0 (by decide))
        subst hb e0
        exact ⟨1, "NoNumbers", rfl, rfl, fun mem => called_diff (diff_2 mem _ _ _ _ _ _ hp (h2 mem))⟩
      | 2, _ =>
        have hb := Option.some.inj hb
        have e0 := Option.some.inj (hi 0 (by decide))
        have e1 := Option.some.inj (hi 1 (by decide))
        subst hb e0 e1
        exact ⟨2, "NoNumber", rfl, rfl, fun mem => called_diff (diff_3 mem _ _ _ _ _ _ hp hn h3)⟩
      | 3, _ =>
        have hb := Option.some.inj hb
        have e0 := Option.some.inj (hi 0 (by decide))
        have e1 := Option.some.inj (hi 1 (by decide))
        have e2 := Option.some.inj (hi 2 (by decide))
        subst hb e0 e1 e2
        exact ⟨3, "NoPlaces", rfl, rfl, fun mem => called_diff (diff_4 mem _ _ _ _ _ _ hp hn hm (h4 mem))⟩
      | 4, _ =>
        have hb := Option.some.inj hb
        have e0 := Option.some.inj (hi 0 (by decide))
        have e1 := Option.some.inj (hi 1 (by decide))
        have e2 := Option.some.inj (hi 2 (by decide))
        have e3 := Option.some.inj (hi 3 (by decide))
        subst hb e0 e1 e2 e3
        exact ⟨4, "NoValues", rfl, rfl, fun mem => called_diff (diff_5 mem _ _ _ _ _ _ hp hn hm hps (h5 mem))⟩
      | 5, _ =>
        have hb := Option.some.inj hb
        have e0 := Option.some.inj (hi 0 (by decide))
        have e1 := Option.some.inj (hi 1 (by decide))
        have e2 := Option.some.inj (hi 2 (by decide))
        have e3 := Option.some.inj (hi 3 (by decide))
        have e4 := Option.some.inj (hi 4 (by decide))
        subst hb e0 e1 e2 e3 e4
        exact ⟨2, "NoNumber", rfl, rfl, fun mem => called_diff (diff_6 mem _ _ _ _ _ _ hp hn hm hps ht h6)⟩
theorem case_number {z : Str} {i j : Int} {x1 x2 : D} (hz : nameS z = true) (hs : stampD (.tuple [.int i, .int j]) = true) (hi : 0 ≤ i ∧ i < 2 ^ 200) (h1 : nameD x1 = false) (h1' : ∀ z, x1 = .str z → z.length ≤ 16777216) (h2 : stampD x2 = false) :
    Case "number_of" [.str z, .tuple [.int i, .int j]] [x1, x2] [.int 6, .int 7] := by
  refine ⟨rfl, rfl, by simp, by simp, fun mem => ?_, fun k zs hk hz' hi' hb => ?_⟩
  · obtain ⟨n, e⟩ := number_of_ok mem z i j hz hs hi
    exact right_number (called_number_ok e)
  · match zs, hz' with
    | [z1, z2], _ =>
      match k, hk with
      | 0, _ =>
        have hb := Option.some.inj hb
        subst hb
        exact ⟨6, "NoName", rfl, rfl, fun mem => called_number (number_of_name mem _ _ h1' h1)⟩
      | 1, _ =>
        have hb := Option.some.inj hb
        have e0 := Option.some.inj (hi' 0 (by decide))
        subst hb e0
        have hl : z.length ≤ 16777216 := by simp [nameS] at hz; omega
        exact ⟨7, "NoStamp", rfl, rfl, fun mem => called_number (number_of_stamp mem _ _ (fun y e => by cases e; exact hl) hz h2)⟩
theorem case_begin {i j e clock : Int} {mm hd later x1 x2 x3 : D} (hi : 0 ≤ i ∧ i ≤ 8) (hj : 0 ≤ j ∧ j ≤ 8) (hij : j ≠ i) (ht : ∀ mem, m_is_table mem [.d (.tuple (tabL e mm clock hd later))] = .ok (.d (.bool true), mem)) (hl : later = .none ∨ later = P2 0 2)
    (h1 : btw x1 0 8 = false) (h2 : ∀ mem, m_is_table mem [.d x2] = .ok (.d (.bool false), mem)) (h3 : btw x3 0 8 = false ∨ x3 = .int i) :
    Case "begin_mending" [.int i, .tuple (tabL e mm clock hd later), .int j] [x1, x2, x3] [.int 8, .int 9, .int 8] := by
  have bi : btw (.int i) 0 8 = true := by simp; omega
  refine ⟨rfl, rfl, by simp, by simp, fun mem => ?_, fun k zs hk hz' hi' hb => ?_⟩
  · exact right_begin rfl (called_begin_ok (begin_ok mem i j e clock mm hd later hi hj hij (ht mem) hl))
  · match zs, hz' with
    | [z1, z2, z3], _ =>
      match k, hk with
      | 0, _ =>
        have hb := Option.some.inj hb
        subst hb
        exact ⟨8, "NoHomeNumber", rfl, rfl, fun mem => called_begin (begin_home mem _ _ _ h1)⟩
      | 1, _ =>
        have hb := Option.some.inj hb
        have e0 := Option.some.inj (hi' 0 (by decide))
        subst hb e0
        exact ⟨9, "NoTable", rfl, rfl, fun mem => called_begin (begin_table mem _ _ _ bi (h2 mem))⟩
      | 2, _ =>
        have hb := Option.some.inj hb
        have e0 := Option.some.inj (hi' 0 (by decide))
        have e1 := Option.some.inj (hi' 1 (by decide))
        subst hb e0 e1
        refine ⟨8, "NoHomeNumber", rfl, rfl, fun mem => called_begin (begin_other mem _ _ _ bi (ht mem) ?_)⟩
        rcases h3 with h3 | rfl
        · exact .inl h3
        · exact .inr ⟨i, rfl, rfl⟩
end K43

set_option Elab.async false
set_option linter.all false
set_option maxRecDepth 100000
set_option maxHeartbeats 2000000
set_option exponentiation.threshold 4000
namespace K43
open PySem PySem.Spec PyProof.Rows L2 PD
/-- what a maker of cases gives -/
def Gives (mem : Mem) (word : Str) (q : W × Mem) : Prop := ∃ (gs bs es : List D) (a' b' : Int), q = (.d (.tuple [.list gs, .list bs, .list es]), hatC a' b' :: mem) ∧ Case word gs bs es ∧ Hat a' b'
theorem nox_wp {α : Type} {r : Res α} {Q : α → Prop} {X : Str → Prop} (h : r.wp Q fun _ => False) : (nox r).wp Q X := by
  cases r with
  | ok a => exact h
  | exc c => exact h.elim
  | bad => exact h.elim
theorem pl_of {p : Int} {ns ps : List Int} (h1 : Low p ps) (h2 : ps.Nodup) (h3 : ps.length ≤ 64) (h4 : ∀ x ∈ ns, x ∉ ps) : GoodPl p ns ps := by
  refine ⟨h1, ?_, h2, h3⟩
  rw [List.all_eq_true]
  intro z hz
  obtain ⟨x, hx, rfl⟩ := List.mem_map.mp hz
  have hx' : x ∉ ns := fun e => h4 x e hx
  have := h1 x hx
  unfold plD
  rw [inD_IL, decide_eq_false hx']
  simp
  omega
theorem lots_values (mem : Mem) (a b : Int) (h : Hat a b) : (m_w_lots (hatC a b :: mem) [.c 0, .d (.str "values")]).wp (Gives mem "values") fun _ => False := by
  unfold m_w_lots b_w_lots
  simp
  refine Res.wp_then (prime_ok mem a b h) (fun q hq => ?_) fun _ h => h
  obtain ⟨p, a1, b1, rfl, hp, h1⟩ := hq
  simp
  refine Res.wp_then (draw_ok mem a1 b1 5 h1 (by decide) (by decide)) (fun q hq => ?_) fun _ h => h
  obtain ⟨d, a2, b2, rfl, d0, d1, h2⟩ := hq
  obtain ⟨n, rfl⟩ := Int.eq_ofNat_of_zero_le d0
  simp
  refine Res.wp_then (places_draw mem a2 b2 p n h2 hp (by omega)) (fun q hq => ?_) fun _ h => h
  obtain ⟨ps, a3, b3, rfl, plow, pnd, plen, h3⟩ := hq
  simp
  refine Res.wp_then (draw_ok mem a3 b3 4 h3 (by decide) (by decide)) (fun q hq => ?_) fun _ h => h
  obtain ⟨f, a4, b4, rfl, f0, f1, h4⟩ := hq
  obtain ⟨y, ey, m, rfl, hm⟩ := pick (P := fun d => ∃ m : Nat, d = .int (m : Nat) ∧ m ≤ 5) (l := [PyData.int 0, .int 1, .int 2, .int 5]) f0 f1 (by
    simp only [List.forall_mem_cons]
    exact ⟨⟨0, rfl, by decide⟩, ⟨1, rfl, by decide⟩, ⟨2, rfl, by decide⟩, ⟨5, rfl, by decide⟩, fun _ h => by cases h⟩)
  simp [ey]
  refine Res.wp_then (lot_ok mem a4 b4 p m ps h4 hp hm) (fun q hq => ?_) fun _ h => h
  obtain ⟨ns, a5, b5, rfl, hn, hout, hl5, h5⟩ := hq
  have hpl : GoodPl p ns ps := pl_of plow pnd (by omega) hout
  simp
  refine Res.wp_then (bad_prime_ok mem a5 b5 h5) (fun q hq => ?_) fun _ h => h
  obtain ⟨x1, a6, b6, rfl, c1, h6⟩ := hq
  simp
  refine Res.wp_then (bad_lot_ok mem a6 b6 p ns h6 hp hn (by omega)) (fun q hq => ?_) fun _ h => h
  obtain ⟨w2, x2, a7, b7, rfl, t2, c2, h7⟩ := hq
  have t2 : ∀ s, toD w2 s = some (x2, s) := t2
  simp [t2]
  refine Res.wp_then (bad_places_ok mem a7 b7 p ns ps h7 hp (by omega) hpl (by omega)) (fun q hq => ?_) fun _ h => h
  obtain ⟨w3, x3, a8, b8, rfl, t3, c3, h8⟩ := hq
  have t3 : ∀ s, toD w3 s = some (x3, s) := t3
  simp [t3]
  exact ⟨_, _, _, _, _, rfl, case_values hp hn hpl c1 c2 c3, h8⟩
theorem lots_roots (mem : Mem) (a b : Int) (h : Hat a b) : (m_w_lots (hatC a b :: mem) [.c 0, .d (.str "roots")]).wp (Gives mem "roots") fun _ => False := by
  unfold m_w_lots b_w_lots
  simp
  refine Res.wp_then (prime_ok mem a b h) (fun q hq => ?_) fun _ h => h
  obtain ⟨p, a1, b1, rfl, hp, h1⟩ := hq
  simp
  refine Res.wp_then (draw_ok mem a1 b1 5 h1 (by decide) (by decide)) (fun q hq => ?_) fun _ h => h
  obtain ⟨d, a2, b2, rfl, d0, d1, h2⟩ := hq
  obtain ⟨n, rfl⟩ := Int.eq_ofNat_of_zero_le d0
  simp
  refine Res.wp_then (places_draw mem a2 b2 p n h2 hp (by omega)) (fun q hq => ?_) fun _ h => h
  obtain ⟨ps, a3, b3, rfl, plow, pnd, plen, h3⟩ := hq
  simp
  refine Res.wp_then (draw_ok mem a3 b3 4 h3 (by decide) (by decide)) (fun q hq => ?_) fun _ h => h
  obtain ⟨f, a4, b4, rfl, f0, f1, h4⟩ := hq
  obtain ⟨y, ey, m, rfl, hm⟩ := pick (P := fun d => ∃ m : Nat, d = .int (m : Nat) ∧ m ≤ 5) (l := [PyData.int 0, .int 1, .int 2, .int 5]) f0 f1 (by
    simp only [List.forall_mem_cons]
    exact ⟨⟨0, rfl, by decide⟩, ⟨1, rfl, by decide⟩, ⟨2, rfl, by decide⟩, ⟨5, rfl, by decide⟩, fun _ h => by cases h⟩)
  simp [ey]
  refine Res.wp_then (lot_ok mem a4 b4 p m ps h4 hp hm) (fun q hq => ?_) fun _ h => h
  obtain ⟨ns, a5, b5, rfl, hn, hout, hl5, h5⟩ := hq
  have hpl : GoodPl p ns ps := pl_of plow pnd (by omega) hout
  simp
  refine Res.wp_then (draw_ok mem a5 b5 4 h5 (by decide) (by decide)) (fun q hq => ?_) fun _ h => h
  obtain ⟨d2, a6, b6, rfl, e0, e1, h6⟩ := hq
  obtain ⟨n2, rfl⟩ := Int.eq_ofNat_of_zero_le e0
  simp
  refine Res.wp_then (places_draw mem a6 b6 p n2 h6 hp (by omega)) (fun q hq => ?_) fun _ h => h
  obtain ⟨rs, a7, b7, rfl, rlow, rnd, rlen, h7⟩ := hq
  simp
  refine Res.wp_then (product_ok (hatC a7 b7 :: mem) p rs hp rlow (by omega)) (fun q hq => ?_) fun _ h => h
  obtain ⟨cs, rfl, hcs, hcl⟩ := hq
  simp
  refine Res.wp_then (bad_prime_ok mem a7 b7 h7) (fun q hq => ?_) fun _ h => h
  obtain ⟨x1, a8, b8, rfl, c1, h8⟩ := hq
  simp
  refine Res.wp_then (bad_poly_ok mem a8 b8 p cs h8 hp hcs (by omega)) (fun q hq => ?_) fun _ h => h
  obtain ⟨x2, a9, b9, rfl, c2, h9⟩ := hq
  simp
  refine Res.wp_then (bad_lot_ok mem a9 b9 p ns h9 hp hn (by omega)) (fun q hq => ?_) fun _ h => h
  obtain ⟨w3, x3, aA, bA, rfl, t3, c3, hA⟩ := hq
  have t3 : ∀ s, toD w3 s = some (x3, s) := t3
  simp [t3]
  exact ⟨_, _, _, _, _, rfl, case_roots hp hcs hn c1 c2 c3, hA⟩
theorem lots_difference (mem : Mem) (a b : Int) (h : Hat a b) : (m_w_lots (hatC a b :: mem) [.c 0, .d (.str "difference")]).wp (Gives mem "difference") fun _ => False := by
  unfold m_w_lots b_w_lots
  simp
  refine Res.wp_then (prime_ok mem a b h) (fun q hq => ?_) fun _ h => h
  obtain ⟨p, a1, b1, rfl, hp, h1⟩ := hq
  simp
  refine Res.wp_then (draw_ok mem a1 b1 5 h1 (by decide) (by decide)) (fun q hq => ?_) fun _ h => h
  obtain ⟨d, a2, b2, rfl, d0, d1, h2⟩ := hq
  obtain ⟨n, rfl⟩ := Int.eq_ofNat_of_zero_le d0
  simp
  refine Res.wp_then (places_draw mem a2 b2 p n h2 hp (by omega)) (fun q hq => ?_) fun _ h => h
  obtain ⟨ps, a3, b3, rfl, plow, pnd, plen, h3⟩ := hq
  simp
  refine Res.wp_then (draw_ok mem a3 b3 4 h3 (by decide) (by decide)) (fun q hq => ?_) fun _ h => h
  obtain ⟨f, a4, b4, rfl, f0, f1, h4⟩ := hq
  obtain ⟨y, ey, m, rfl, hm⟩ := pick (P := fun d => ∃ m : Nat, d = .int (m : Nat) ∧ m ≤ 5) (l := [PyData.int 0, .int 1, .int 2, .int 5]) f0 f1 (by
    simp only [List.forall_mem_cons]
    exact ⟨⟨0, rfl, by decide⟩, ⟨1, rfl, by decide⟩, ⟨2, rfl, by decide⟩, ⟨5, rfl, by decide⟩, fun _ h => by cases h⟩)
  simp [ey]
  refine Res.wp_then (lot_ok mem a4 b4 p m ps h4 hp hm) (fun q hq => ?_) fun _ h => h
  obtain ⟨ns, a5, b5, rfl, hn, hout, hl5, h5⟩ := hq
  have hpl : GoodPl p ns ps := pl_of plow pnd (by omega) hout
  simp
  refine Res.wp_then (X1 := fun _ => False) (Q1 := fun q => ∃ (ts : List Int) (a' b' : Int), q = (IL ts, ⟨[some (.c 0), some (.d (.str "difference")), some (.d (.int p)), some (.d (.tuple (IL ps))), some (.d (.tuple (IL ns))), none, none, none, none, none], hatC a' b' :: mem, mem.length + 1⟩) ∧ GoodTold p ps.length ts ∧ Hat a' b')
    (lcGo_wp (fun r m b acc => ∃ (ts : List Int) (a' b' : Int), m = hatC a' b' :: mem ∧ b = mem.length + 1 ∧ acc = IL ts ∧ (∀ t ∈ ts, 1 ≤ t ∧ t < p) ∧ ts.length + r.length = ps.length ∧ Hat a' b') ?_ ?_ _ _ _ rfl ⟨[], _, _, rfl, rfl, rfl, (fun t ht => by cases ht), by simp, h5⟩) (fun q hq => ?_) fun _ h => h
  · rintro d r m b acc ⟨ts, a', b', rfl, rfl, rfl, hts, hlen, hh⟩
    have k1 : ts.length < sizeLine := sl_lt (by simp at hlen; omega)
    have p2 := hp.two
    have p9 := hp.big
    refine ⟨_, by simp; rfl, ?_⟩
    simp
    refine nox_wp ?_
    refine Res.wp_then (draw_ok mem a' b' (p - 1) hh (by omega) (by omega)) (fun q hq => ?_) fun _ h => h
    obtain ⟨e, a2', b2', rfl, e0, e1, hh2⟩ := hq
    simp [k1]
    refine ⟨_, _, ⟨rfl, rfl⟩, ts ++ [1 + e], _, _, rfl, rfl, by simp, fun t ht => ?_, by simp at hlen ⊢; omega, hh2⟩
    rcases List.mem_append.mp ht with ht | ht
    · exact hts t ht
    · rw [List.mem_singleton.mp ht]; omega
  · rintro m b acc ⟨ts, a', b', rfl, rfl, rfl, hts, hlen, hh⟩
    exact ⟨ts, a', b', rfl, ⟨hts, by simpa using hlen⟩, hh⟩
  obtain ⟨ts, a6, b6, rfl, ht, h6⟩ := hq
  have hl := ht.len
  simp
  refine Res.wp_then (draw_ok mem a6 b6 201 h6 (by decide) (by decide)) (fun q hq => ?_) fun _ h => h
  obtain ⟨many, a7, b7, rfl, m0, m1, h7⟩ := hq
  simp
  refine Res.wp_then (draw_ok mem a7 b7 (ps.length + 1) h7 (by omega) (by omega)) (fun q hq => ?_) fun _ h => h
  obtain ⟨most, a8, b8, rfl, o0, o1, h8⟩ := hq
  simp
  refine Res.wp_then (bad_prime_ok mem a8 b8 h8) (fun q hq => ?_) fun _ h => h
  obtain ⟨x1, a9, b9, rfl, c1, h9⟩ := hq
  simp
  refine Res.wp_then (bad_lot_ok mem a9 b9 p ns h9 hp hn (by omega)) (fun q hq => ?_) fun _ h => h
  obtain ⟨w2, x2, aA, bA, rfl, t2, c2, hA⟩ := hq
  have t2 : ∀ s, toD w2 s = some (x2, s) := t2
  simp [t2]
  refine Res.wp_then (bad_count_ok mem aA bA 200 hA (by decide)) (fun q hq => ?_) fun _ h => h
  obtain ⟨x3, aB, bB, rfl, c3, hB⟩ := hq
  simp
  refine Res.wp_then (bad_places_ok _ aB bB p ns ps hB hp (by omega) hpl (by omega)) (fun q hq => ?_) fun _ h => h
  obtain ⟨w4, x4, aC, bC, rfl, t4, c4, hC⟩ := hq
  have t4 : ∀ s, toD w4 s = some (x4, s) := t4
  simp [t4]
  refine Res.wp_then (bad_told_ok _ aC bC p ps.length ts hC hp ht (by omega)) (fun q hq => ?_) fun _ h => h
  obtain ⟨w5, x5, aD, bD, rfl, t5, c5, hD⟩ := hq
  have t5 : ∀ s, toD w5 s = some (x5, s) := t5
  simp [t5]
  refine Res.wp_then (bad_count_ok _ aD bD ps.length hD (by omega)) (fun q hq => ?_) fun _ h => h
  obtain ⟨x6, aE, bE, rfl, c6, hE⟩ := hq
  simp
  exact ⟨_, _, _, _, _, rfl, case_diff hp hn ⟨m0, by omega⟩ hpl ht ⟨o0, by omega⟩ c1 c2 c3 c4 c5 c6, hE⟩
end K43

set_option Elab.async false
set_option linter.all false
set_option maxRecDepth 100000
set_option maxHeartbeats 2000000
set_option exponentiation.threshold 4000
namespace K43
open PySem PySem.Spec PyProof.Rows L2 PD
def sg (c : Nat) : Str := ⟨#[c]⟩
theorem app_list (x y : Str) : (x ++ y).cps.toList = x.cps.toList ++ y.cps.toList := by
  show (x.cps ++ y.cps).toList = _
  simp
theorem join_sg : ∀ cs : List Nat, (Str.join "" (cs.map sg)).cps.toList = cs
  | [] => rfl
  | [c] => rfl
  | c :: d :: r => by
    have ih := join_sg (d :: r)
    have e : Str.join "" ((c :: d :: r).map sg) = sg c ++ "" ++ Str.join "" ((d :: r).map sg) := rfl
    rw [e, app_list, app_list, ih]
    rfl
theorem join_sgT (cs : List Nat) : (Txt.join "" (cs.map sg)).cps.toList = cs := by
  show (Builtin.Str.glued "" (cs.map sg)).cps.toList = _
  rw [StrLaws.glued_eq_join]
  exact join_sg cs
theorem strs_sg : ∀ cs : List Nat, strsOf (cs.map fun c => PyData.str (sg c)) = some (cs.map sg)
  | [] => rfl
  | c :: cs => by
    show (strsOf (cs.map fun c => PyData.str (sg c))).map (sg c :: ·) = _
    rw [strs_sg cs]
    rfl
theorem sum_sg : ∀ cs : List Nat, (cs.map ((fun x : Str => x.length) ∘ sg)).sum = cs.length
  | [] => rfl
  | c :: cs => by
    rw [List.map_cons, List.sum_cons, sum_sg cs, List.length_cons]
    show 1 + cs.length = _
    omega
theorem names_ok (mem : Mem) (a b : Int) (h : Hat a b) : (m_w_names (hatC a b :: mem) [.c 0]).wp (Gives mem "number_of") fun _ => False := by
  unfold m_w_names b_w_names
  simp
  refine Res.wp_then (draw_ok mem a b 8 h (by decide) (by decide)) (fun q hq => ?_) fun _ h => h
  obtain ⟨d, a1, b1, rfl, d0, d1, h1⟩ := hq
  obtain ⟨n, rfl⟩ := Int.eq_ofNat_of_zero_le d0
  have i1 : inB (1 + (n : Int)) = true := by rw [inB_eq]; simp; omega
  have en : (1 + (n : Int)).toNat = n + 1 := by omega
  simp [i1, en]
  refine Res.wp_then (X1 := fun _ => False) (Q1 := fun q => ∃ (cs : List Nat) (a' b' : Int), q = (cs.map fun c => PyData.str (sg c), ⟨[some (.c 0), none, none, none, none, none], hatC a' b' :: mem, mem.length + 1⟩) ∧ (∀ c ∈ cs, c ∈ LET.cps.toList) ∧ cs.length = n + 1 ∧ Hat a' b')
    (lcGo_wp (fun r m b acc => ∃ (cs : List Nat) (a' b' : Int), m = hatC a' b' :: mem ∧ b = mem.length + 1 ∧ acc = (cs.map fun c => PyData.str (sg c)) ∧ (∀ c ∈ cs, c ∈ LET.cps.toList) ∧ cs.length + r.length = n + 1 ∧ Hat a' b') ?_ ?_ _ _ _ rfl ⟨[], _, _, rfl, rfl, rfl, (fun t ht => by cases ht), by simp, h1⟩) (fun q hq => ?_) fun _ h => h
  · rintro d r m b acc ⟨cs, a', b', rfl, rfl, rfl, hcs, hlen, hh⟩
    have k1 : cs.length < sizeLine := sl_lt (by simp at hlen; omega)
    refine ⟨_, by simp; rfl, ?_⟩
    simp
    refine nox_wp ?_
    refine Res.wp_then (draw_ok mem a' b' 4 hh (by omega) (by omega)) (fun q hq => ?_) fun _ h => h
    obtain ⟨e, a2', b2', rfl, e0, e1, hh2⟩ := hq
    have four : ∃ c, atI ("abmz" : Str).cps.toList e = some c ∧ c ∈ LET.cps.toList := by
      have : e = 0 ∨ e = 1 ∨ e = 2 ∨ e = 3 := by omega
      rcases this with rfl | rfl | rfl | rfl
      · exact ⟨97, by decide, by decide +kernel⟩
      · exact ⟨98, by decide, by decide +kernel⟩
      · exact ⟨109, by decide, by decide +kernel⟩
      · exact ⟨122, by decide, by decide +kernel⟩
    obtain ⟨c, ec, hc⟩ := four
    have kl : ("abmz" : Str).length ≤ SL.1 := SL_le (by decide)
    simp [k1, ec, kl]
    refine ⟨_, _, ⟨rfl, rfl⟩, cs ++ [c], _, _, rfl, rfl, by simp [sg], fun t ht => ?_, by simp at hlen ⊢; omega, hh2⟩
    rcases List.mem_append.mp ht with ht | ht
    · simpa using hcs t ht
    · rw [List.mem_singleton.mp ht]; simpa using hc
  · rintro m b acc ⟨cs, a', b', rfl, rfl, rfl, hcs, hlen, hh⟩
    exact ⟨cs, a', b', rfl, hcs, by simpa using hlen, hh⟩
  obtain ⟨cs, a2, b2, rfl, hcs, hcl, h2⟩ := hq
  have ez : ("" : Str).length = 0 := by decide
  have e1 := strs_sg cs
  have e2 := sum_sg cs
  have kk : cs.length ≤ 16777216 := by omega
  simp [e1, ez, e2, kk]
  have hz : nameS (Txt.join "" (cs.map sg)) = true := by
    have el : (Txt.join "" (cs.map sg)).length = cs.length := by
      show (Txt.join "" (cs.map sg)).cps.size = _
      rw [← Array.length_toList, join_sgT]
    unfold nameS
    rw [el, join_sgT]
    simp
    exact ⟨by omega, by omega, fun x hx => by simpa using hcs x hx⟩
  generalize Txt.join "" (cs.map sg) = z at *
  refine Res.wp_then (draw_ok mem a2 b2 8 h2 (by omega) (by omega)) (fun q hq => ?_) fun _ h => h
  obtain ⟨f, a3, b3, rfl, f0, f1, h3⟩ := hq
  obtain ⟨x1, ex1, px1, qx1⟩ := pick (P := fun d => nameD d = false ∧ ∀ z, d = .str z → z.length ≤ 16777216) (l := [PyData.str "", .str "aaaaaaaaa", .str "A", .str "a b", .str "a1", .none, .int 5, .tuple [.str "a"]]) f0 f1 (by
    simp only [List.forall_mem_cons]
    refine ⟨⟨by decide +kernel, fun z e => by cases e; decide⟩, ⟨by decide +kernel, fun z e => by cases e; decide⟩, ⟨by decide +kernel, fun z e => by cases e; decide⟩, ⟨by decide +kernel, fun z e => by cases e; decide⟩, ⟨by decide +kernel, fun z e => by cases e; decide⟩, ⟨rfl, fun z e => by cases e⟩, ⟨rfl, fun z e => by cases e⟩, ⟨rfl, fun z e => by cases e⟩, fun _ h => by cases h⟩)
  simp [ex1]
  refine Res.wp_then (draw_ok mem a3 b3 10 h3 (by omega) (by omega)) (fun q hq => ?_) fun _ h => h
  obtain ⟨g, a4, b4, rfl, g0, g1, h4⟩ := hq
  obtain ⟨x2, ex2, px2⟩ := pick (P := fun d => stampD d = false) (l := [P2 0 1, P2 1 0, P2 1 100, P2 (-1) 1, .tuple [.bool true, .int 1], .tuple [.int 1], .tuple [.int 1, .int 1, .int 1], .list [.int 1, .int 1], .none, .int 3]) g0 g1 (by
    simp [stampD])
  simp [ex2]
  refine Res.wp_then (draw_ok mem a4 b4 999999 h4 (by decide) (by decide)) (fun q hq => ?_) fun _ h => h
  obtain ⟨i, a5, b5, rfl, i0, i2, h5⟩ := hq
  simp
  refine Res.wp_then (draw_ok mem a5 b5 99 h5 (by decide) (by decide)) (fun q hq => ?_) fun _ h => h
  obtain ⟨j, a6, b6, rfl, j0, j2, h6⟩ := hq
  simp
  refine Res.wp_then (draw_ok mem a6 b6 2 h6 (by decide) (by decide)) (fun q hq => ?_) fun _ h => h
  obtain ⟨k, a7, b7, rfl, k0, k2, h7⟩ := hq
  obtain ⟨y, ey, i', j', rfl, py, qy⟩ := pick (P := fun d => ∃ i j : Int, d = P2 i j ∧ stampD (P2 i j) = true ∧ 0 ≤ i ∧ i < 2 ^ 200) (l := [P2 0 0, P2 (1 + i) (1 + j)]) k0 k2 (by
    simp only [List.forall_mem_cons]
    refine ⟨⟨0, 0, rfl, by simp [stampD], by decide, by decide⟩, ⟨1 + i, 1 + j, rfl, ?_, by omega, by omega⟩, fun _ h => by cases h⟩
    have e1 : 0 ≤ 1 + i := by omega
    have e2 : 0 ≤ 1 + j := by omega
    have e3 : 1 ≤ 1 + i := by omega
    have e4 : 1 ≤ 1 + j := by omega
    have e5 : 1 + j ≤ 99 := by omega
    simp [stampD, e1, e2, e5]
    omega)
  simp [ey]
  exact ⟨_, _, _, _, _, rfl, case_number hz py qy px1 qx1 px2, h7⟩
theorem tabs_bad {e clock : Int} {mm hd later : D} (hh : hd = T0 ∨ hd = H1) (hl : later = .none ∨ later = P2 0 2) (hc : 0 ≤ clock) : ∀ x ∈ [PyData.list (tabL e mm clock hd later), .tuple [.int e, mm, T0, .int clock, hd, T0, T0, P2 0 0, .none], .tuple [.int e, mm, T0, .int clock, hd, T0, T0, P2 0 0, .none, later, .int 0], .tuple (tabL (-2) mm clock hd later), .tuple (tabL e mm (-1) hd later), .none], ∀ mem : Mem, m_is_table mem [.d x] = .ok (.d (.bool false), mem) := by
  simp only [List.forall_mem_cons]
  exact ⟨fun m => table_bad m _ rfl, fun m => table_bad m _ rfl, fun m => table_bad m _ rfl, fun m => table_m2 m clock mm hd later hh hl hc, fun m => table_clock m e (-1) mm hd later hh hl (by decide), fun m => table_bad m _ rfl, fun _ h => by cases h⟩
theorem homes_ok (mem : Mem) (a b : Int) (h : Hat a b) : (m_w_homes (hatC a b :: mem) [.c 0]).wp (Gives mem "begin_mending") fun _ => False := by
  unfold m_w_homes b_w_homes
  simp
  refine Res.wp_then (draw_ok mem a b 9 h (by decide) (by decide)) (fun q hq => ?_) fun _ h => h
  obtain ⟨i, a1, b1, rfl, i0, i1, h1⟩ := hq
  simp
  refine Res.wp_then (draw_ok mem a1 b1 3 h1 (by decide) (by decide)) (fun q hq => ?_) fun _ h => h
  obtain ⟨f, a2, b2, rfl, f0, f1, h2⟩ := hq
  obtain ⟨later, el, hl⟩ := pick (P := fun d => d = .none ∨ d = P2 0 2) (l := [PyData.none, .none, P2 0 2]) f0 f1 (by simp)
  have q1 : cPow 10 11 = true := by decide
  simp [el, q1]
  refine Res.wp_then (draw_ok mem a2 b2 100000000000 h2 (by decide) (by decide)) (fun q hq => ?_) fun _ h => h
  obtain ⟨e, a3, b3, rfl, e0, e1, h3⟩ := hq
  simp
  refine Res.wp_then (draw_ok mem a3 b3 5 h3 (by decide) (by decide)) (fun q hq => ?_) fun _ h => h
  obtain ⟨g, a4, b4, rfl, g0, g1, h4⟩ := hq
  by_cases hg : g = 0
  · subst hg
    simp
    refine Res.wp_then (draw_ok mem a4 b4 6 h4 (by decide) (by decide)) (fun q hq => ?_) fun _ h => h
    obtain ⟨k1, a5, b5, rfl, k10, k11, h5⟩ := hq
    obtain ⟨x1, ex1, px1⟩ := pick (P := fun d => btw d 0 8 = false) (l := [PyData.int (-1), .int 9, .bool true, .none, .str "0", .tuple [.int 0]]) k10 k11 (by simp [btw])
    have sl11 : 11 ≤ SL.1 := SL_le (by decide)
    simp [ex1, cutD_to, cutD_from, sl11]
    refine Res.wp_then (draw_ok mem a5 b5 6 h5 (by decide) (by decide)) (fun q hq => ?_) fun _ h => h
    obtain ⟨k2, a6, b6, rfl, k20, k21, h6⟩ := hq
    obtain ⟨x2, ex2, px2⟩ := pick (P := fun d => ∀ mem : Mem, m_is_table mem [.d d] = .ok (.d (.bool false), mem)) (l := [PyData.list (tabL (-1) (T0) (0) T0 .none), .tuple [.int (-1), T0, T0, .int 0, T0, T0, T0, P2 0 0, .none], .tuple [.int (-1), T0, T0, .int 0, T0, T0, T0, P2 0 0, .none, .none, .int 0], .tuple (tabL (-2) (T0) 0 T0 .none), .tuple (tabL (-1) (T0) (-1) T0 .none), .none]) k20 k21 (tabs_bad (e := -1) (clock := 0) (mm := T0) (hd := T0) (later := .none) (.inl rfl) (.inl rfl) (by decide))
    simp only [tabL, T0, P2, H1] at ex2
    simp [ex2]
    refine Res.wp_then (draw_ok mem a6 b6 8 h6 (by decide) (by decide)) (fun q hq => ?_) fun _ h => h
    obtain ⟨k3, a7, b7, rfl, k30, k31, h7⟩ := hq
    obtain ⟨x3, ex3, px3⟩ := pick (P := fun d => btw d 0 8 = false ∨ d = .int i) (l := [PyData.int i, .int i, .int (-1), .int 9, .bool true, .none, .str "0", .tuple [.int 0]]) k30 k31 (by simp [btw])
    simp [ex3]
    refine Res.wp_then (draw_ok mem a7 b7 8 h7 (by decide) (by decide)) (fun q hq => ?_) fun _ h => h
    obtain ⟨d8, a8, b8, rfl, d80, d81, h8⟩ := hq
    simp
    exact ⟨_, _, _, _, _, rfl, case_begin ⟨i0, by omega⟩ (by omega) (by omega) (fun m => table_no m) (.inl rfl) px1 px2 px3, h8⟩
  · simp [hg]
    refine Res.wp_then (draw_ok mem a4 b4 6 h4 (by decide) (by decide)) (fun q hq => ?_) fun _ h => h
    obtain ⟨k1, a5, b5, rfl, k10, k11, h5⟩ := hq
    obtain ⟨x1, ex1, px1⟩ := pick (P := fun d => btw d 0 8 = false) (l := [PyData.int (-1), .int 9, .bool true, .none, .str "0", .tuple [.int 0]]) k10 k11 (by simp [btw])
    have sl11 : 11 ≤ SL.1 := SL_le (by decide)
    simp [ex1, cutD_to, cutD_from, sl11]
    refine Res.wp_then (draw_ok mem a5 b5 6 h5 (by decide) (by decide)) (fun q hq => ?_) fun _ h => h
    obtain ⟨k2, a6, b6, rfl, k20, k21, h6⟩ := hq
    obtain ⟨x2, ex2, px2⟩ := pick (P := fun d => ∀ mem : Mem, m_is_table mem [.d d] = .ok (.d (.bool false), mem)) (l := [PyData.list (tabL (e) (P2 0 1) (3) H1 later), .tuple [.int (e), P2 0 1, T0, .int 3, H1, T0, T0, P2 0 0, .none], .tuple [.int (e), P2 0 1, T0, .int 3, H1, T0, T0, P2 0 0, .none, later, .int 0], .tuple (tabL (-2) (P2 0 1) 3 H1 later), .tuple (tabL (e) (P2 0 1) (-1) H1 later), .none]) k20 k21 (tabs_bad (e := e) (clock := 3) (mm := P2 0 1) (hd := H1) (later := later) (.inr rfl) hl (by decide))
    simp only [tabL, T0, P2, H1] at ex2
    simp [ex2]
    refine Res.wp_then (draw_ok mem a6 b6 8 h6 (by decide) (by decide)) (fun q hq => ?_) fun _ h => h
    obtain ⟨k3, a7, b7, rfl, k30, k31, h7⟩ := hq
    obtain ⟨x3, ex3, px3⟩ := pick (P := fun d => btw d 0 8 = false ∨ d = .int i) (l := [PyData.int i, .int i, .int (-1), .int 9, .bool true, .none, .str "0", .tuple [.int 0]]) k30 k31 (by simp [btw])
    simp [ex3]
    refine Res.wp_then (draw_ok mem a7 b7 8 h7 (by decide) (by decide)) (fun q hq => ?_) fun _ h => h
    obtain ⟨d8, a8, b8, rfl, d80, d81, h8⟩ := hq
    simp
    exact ⟨_, _, _, _, _, rfl, case_begin ⟨i0, by omega⟩ (by omega) (by omega) (fun m => table_ok m e 3 later e0 (by decide) hl) hl px1 px2 px3, h8⟩
end K43

set_option Elab.async false
set_option linter.all false
set_option maxRecDepth 100000
set_option maxHeartbeats 2000000
set_option exponentiation.threshold 4000
namespace K43
open PySem PySem.Spec PyProof.Rows L2 PD
theorem hat_ok (mem : Mem) (c k : Int) (h0 : 0 ≤ k) (h1 : k < 1000) : ∃ a b, m_w_hat mem [.d (.int c), .d (.int k)] = .ok (.f [.int a, .int b], mem) ∧ Hat a b := by
  have q1 : cPow 10 64 = true := by decide +kernel
  have q2 : cPow 10 18 = true := by decide +kernel
  have q3 : cMul 10000000000000000000000000000000000000000000000000000000000000000 10000000000000000000000000000000000000000000000000000000000000000 = true := by decide +kernel
  have q4 : cMul 100000000000000000000000000000000000000000000000000000000000000000000000000000000000000000000000000000000000000000000000000000000 10000000000000000000000000000000000000000000000000000000000000000 = true := by decide +kernel
  have q5 : cMul 1000000000000000000000000000000000000000000000000000000000000000000000000000000000000000000000000000000000000000000000000000000000000000000000000000000000000000000000000000000000000000000000000 10000000000000000000000000000000000000000000000000000000000000000 = true := by decide +kernel
  generalize hN : c % 10000000000000000000000000000000000000000000000000000000000000000000000000000000000000000000000000000000000000000000000000000000000000000000000000000000000000000000000000000000000000000000000000000000000000000000000000000000000000000000000000000000000000000 = N
  have hN0 : 0 ≤ N := by rw [← hN]; exact Int.emod_nonneg _ (by decide)
  have c1 : cMul (N % 2147483647) 48271 = true := mulA (by omega) (by decide)
  have c2 : cMul 7919 k = true := mulA (by decide) (by omega)
  by_cases hb : 1000000000000000000 ≤ N
  · refine ⟨N, N % 2147483563 + k, ?_, ⟨hN0, by omega, by omega⟩⟩
    unfold m_w_hat b_w_hat
    simp [q1, q2, q3, q4, q5, hN, hb]
  · refine ⟨0, (N % 2147483647 * 48271 + 7919 * k + 1) % 2147483647, ?_, ⟨by decide, by omega, by omega⟩⟩
    unfold m_w_hat b_w_hat
    simp [q1, q2, q3, q4, q5, hN, hb, c1, c2]
theorem flags_ok : ∀ (n : Nat) (c : Str), ksN[n]? = some c → c ∈ ksL ∧ ksL.map (fun k => decide (c = k)) = (List.range 10).map fun k => decide (k = n) := by
  intro n c h
  have hn : n < 10 := by
    have := (List.getElem?_eq_some_iff.mp h).1
    simpa [ksN] using this
  have : n = 0 ∨ n = 1 ∨ n = 2 ∨ n = 3 ∨ n = 4 ∨ n = 5 ∨ n = 6 ∨ n = 7 ∨ n = 8 ∨ n = 9 := by omega
  rcases this with rfl | rfl | rfl | rfl | rfl | rfl | rfl | rfl | rfl | rfl <;> cases h <;> exact ⟨by decide +kernel, by decide +kernel⟩
theorem refusal_ok {mem : Mem} {ws : List W} {c : Str} (hc : c ∈ ksL) (h : m_w_called (forget mem) ws = .exc c) : m_w_refusal mem ws = .ok (.f ((flagsOf c).map PyData.bool), forget mem) := by
  unfold m_w_refusal
  rw [h]
  dsimp only
  rw [if_pos hc]
theorem Case.ints {word : Str} {gs bs es : List D} (c : Case word gs bs es) {k : Nat} (hk : k < gs.length) : ∃ n : Nat, es[k]? = some (.int n) := by
  have hb : k < bs.length := by rw [c.n1]; exact hk
  obtain ⟨n, _, e, _, _⟩ := c.bad k (gs.set k bs[k]) hk (by simp) (fun i hi => List.getElem?_set_ne (by omega)) (by rw [List.getElem?_set_self hk, List.getElem?_eq_getElem hb])
  exact ⟨n, e⟩
theorem canLay_bools : ∀ bs : List Bool, PyData.canLayAll0 (bs.map PyData.bool) = true
  | [] => by simp
  | b :: bs => by simp [canLay_bools bs]
theorem depth_bools : ∀ bs : List Bool, PyData.depthAll (bs.map PyData.bool) = 0
  | [] => by simp
  | b :: bs => by simp [depth_bools bs]
theorem shaped_bools (bs : List Bool) : SeqAt.shaped (.list (bs.map PyData.bool)) = true := by
  simp [canLay_bools bs, depth_bools bs]
theorem eqv_bools : ∀ bs : List Bool, PyData.eqvAll (bs.map PyData.bool) (bs.map PyData.bool) = true
  | [] => by simp
  | b :: bs => by simp [eqv_bools bs, PyData.eqv]
/-- what is known of the arguments so far -/
def ArgsInv (gs bs es zs : List D) (due : D) : Prop := (due = .none ∧ zs = gs.take zs.length) ∨ ∃ k, k < zs.length ∧ es[k]? = some due ∧ (∀ i, i < k → zs[i]? = gs[i]?) ∧ zs[k]? = bs[k]?
theorem rng_cons {i n : Nat} (h : i < n) : (List.range' i (n - i)).map (fun (j : Nat) => PyData.int (j : Nat)) = PyData.int (i : Nat) :: (List.range' (i + 1) (n - (i + 1))).map (fun (j : Nat) => PyData.int (j : Nat)) := by
  rw [show n - i = (n - (i + 1)) + 1 by omega, List.range'_succ, List.map_cons]
/-- the rest behind the making of a case -/
theorem one_ok (a b : Int) (h : Hat a b) : (m_w_one [hatC a b] [.c 0]).wp (fun q => q.1 = .d (.bool true)) fun _ => False := by
  unfold m_w_one b_w_one
  simp
  refine Res.wp_then (draw_ok [] a b 6 h (by decide) (by decide)) (fun q hq => ?_) fun _ h => h
  obtain ⟨f, a1, b1, rfl, f0, f1, h1⟩ := hq
  obtain ⟨y, ey, word, rfl, hw⟩ := pick (P := fun d => ∃ word : Str, d = .str word ∧ (word = "values" ∨ word = "roots" ∨ word = "difference" ∨ word = "number_of" ∨ word = "begin_mending")) (l := [PyData.str "values", .str "roots", .str "difference", .str "difference", .str "number_of", .str "begin_mending"]) f0 f1 (by
    simp only [List.forall_mem_cons]
    refine ⟨⟨_, rfl, by simp⟩, ⟨_, rfl, by simp⟩, ⟨_, rfl, by simp⟩, ⟨_, rfl, by simp⟩, ⟨_, rfl, by simp⟩, ⟨_, rfl, by simp⟩, fun _ h => by cases h⟩)
  simp [ey]
  refine Res.wp_then (draw_ok [] a1 b1 64 h1 (by decide) (by decide)) (fun q hq => ?_) fun _ h => h
  obtain ⟨sp, a2, b2, rfl, s0, s1, h2⟩ := hq
  simp
  refine Res.wp_then (draw_ok [] a2 b2 6 h2 (by decide) (by decide)) (fun q hq => ?_) fun _ h => h
  obtain ⟨on, a3, b3, rfl, o0, o1, h3⟩ := hq
  simp
  refine Res.wp_then (X1 := fun _ => False) (Q1 := fun (q : Out × S) => ∃ (gs bs es : List D) (a' b' : Int), q = (.nx, ⟨[some (.c 0), some (.d (.str word)), some (.d (.int sp)), some (.d (.int on)), none, none, none, some (.d (.list gs)), some (.d (.list bs)), some (.d (.list es)), none], [hatC a' b'], 1⟩) ∧ Case word gs bs es) ?_ (fun q hq => ?_) fun _ h => h
  · have hg : ∀ q, Gives [] word q → (match q.fst with
        | .d x => (match gTupT [7, 8, 9] x ⟨[some (.c 0), some (.d (.str word)), some (.d (.int sp)), some (.d (.int on)), none, none, none, none, none, none, none], q.snd, 1⟩ with
          | some s' => Res.ok (Out.nx, s')
          | none => Res.bad)
        | _ => Res.bad).wp (fun q : Out × S => ∃ (gs bs es : List D) (a' b' : Int), q = (Out.nx, (⟨[some (.c 0), some (.d (.str word)), some (.d (.int sp)), some (.d (.int on)), none, none, none, some (.d (.list gs)), some (.d (.list bs)), some (.d (.list es)), none], [hatC a' b'], 1⟩ : S)) ∧ Case word gs bs es) fun _ => False := by
      rintro q ⟨gs, bs, es, a', b', rfl, hc, hh⟩
      simp
      exact ⟨_, _, _, ⟨rfl, rfl, rfl⟩, hc⟩
    rcases hw with rfl | rfl | rfl | rfl | rfl
    · simp
      exact Res.wp_mono (Res.wp_then (lots_values [] a3 b3 h3) hg fun _ h => h) (fun q hq => by simpa using hq) fun _ h => h
    · simp
      exact Res.wp_mono (Res.wp_then (lots_roots [] a3 b3 h3) hg fun _ h => h) (fun q hq => by simpa using hq) fun _ h => h
    · simp
      exact Res.wp_mono (Res.wp_then (lots_difference [] a3 b3 h3) hg fun _ h => h) (fun q hq => by simpa using hq) fun _ h => h
    · simp
      exact Res.wp_mono (Res.wp_then (names_ok [] a3 b3 h3) hg fun _ h => h) (fun q hq => by simpa using hq) fun _ h => h
    · simp
      exact Res.wp_mono (Res.wp_then (homes_ok [] a3 b3 h3) hg fun _ h => h) (fun q hq => by simpa using hq) fun _ h => h
  obtain ⟨gs, bs, es, a4, b4, rfl, hc⟩ := hq
  dsimp only
  generalize hF : sCons (sSet true 4 (eLst aNil)) _ = F
  have rest : ∀ sp' : Int, (fin [hatC a b] (F ⟨[some (.c 0), some (.d (.str word)), some (.d (.int sp')), some (.d (.int on)), none, none, none, some (.d (.list gs)), some (.d (.list bs)), some (.d (.list es)), none], [hatC a4 b4], 1⟩)).wp (fun q => q.1 = .d (.bool true)) fun _ => False := by
    intro sp'
    have n4 := hc.n4
    have i1 : inB (gs.length : Int) = true := by rw [inB_eq]; simp; omega
    rw [← hF]
    simp [i1]
    rw [Res.wp_bind]
    refine forGo_wp (fun xs s => ∃ (zs : List D) (due : D) (g6 : Option W), s = ⟨[some (.c 0), some (.d (.str word)), some (.d (.int sp')), some (.d (.int on)), some (.c 1), some (.d due), g6, some (.d (.list gs)), some (.d (.list bs)), some (.d (.list es)), none], [hatC a4 b4, some (.l zs)], 1⟩ ∧ xs = (List.range' zs.length (gs.length - zs.length)).map (fun (j : Nat) => PyData.int (j : Nat)) ∧ zs.length ≤ gs.length ∧ ArgsInv gs bs es zs due) ?_ ?_ _ _ ?_
    · rintro d r s ⟨zs, due, g6, rfl, hx, hl, inv⟩
      have hlt : zs.length < gs.length := by
        apply Classical.byContradiction
        intro z
        rw [show gs.length - zs.length = 0 by omega] at hx
        cases hx
      rw [rng_cons hlt] at hx
      cases hx
      have hb : zs.length < bs.length := by rw [hc.n1]; exact hlt
      have he : zs.length < es.length := by rw [hc.n2]; exact hlt
      have eb : bs[zs.length]? = some bs[zs.length] := List.getElem?_eq_getElem hb
      have eg : gs[zs.length]? = some gs[zs.length] := List.getElem?_eq_getElem hlt
      obtain ⟨n, en⟩ := hc.ints hlt
      have kl : zs.length < SL.1 := SL_lt (by omega)
      by_cases hbit : sp' / 2 ^ zs.length % 2 = 1
      · simp [hbit, eb, kl]
        rcases inv with ⟨rfl, ez⟩ | ⟨k, k1, k2, k3, k4⟩
        · simp [en]
          refine ⟨_, _, ⟨rfl, rfl⟩, by simp, by simp; omega, .inr ⟨zs.length, by simp, en, fun i hi => ?_, by simp⟩⟩
          rw [List.getElem?_append_left hi, ez, List.getElem?_take, if_pos (by omega)]
        · obtain ⟨n2, en2⟩ := hc.ints (show k < gs.length by omega)
          rw [k2] at en2
          cases en2
          simp
          refine ⟨_, _, ⟨rfl, rfl⟩, by simp, by simp; omega, .inr ⟨k, by simp; omega, k2, fun i hi => ?_, ?_⟩⟩
          · rw [List.getElem?_append_left (by omega)]; exact k3 i hi
          · rw [List.getElem?_append_left (by omega)]; exact k4
      · simp [hbit, eg, kl]
        refine ⟨_, _, ⟨rfl, rfl⟩, by simp, by simp; omega, ?_⟩
        rcases inv with ⟨rfl, ez⟩ | ⟨k, k1, k2, k3, k4⟩
        · refine .inl ⟨rfl, ?_⟩
          rw [List.length_append, List.length_singleton, List.take_succ, ← ez, eg]
          rfl
        · refine .inr ⟨k, by simp; omega, k2, fun i hi => ?_, ?_⟩
          · rw [List.getElem?_append_left (by omega)]; exact k3 i hi
          · rw [List.getElem?_append_left (by omega)]; exact k4
    · rintro s ⟨zs, due, g6, rfl, hx, hl, inv⟩
      have hle : zs.length = gs.length := by
        apply Classical.byContradiction
        intro z
        rw [rng_cons (by omega)] at hx
        cases hx
      rcases inv with ⟨rfl, ez⟩ | ⟨k, k1, k2, k3, k4⟩
      · simp
      · obtain ⟨n, c, en, enc, hcall⟩ := hc.bad k zs (by omega) hle k3 k4
        rw [k2] at en
        cases en
        obtain ⟨hck, hfl⟩ := flags_ok n c enc
        have href : ∀ mem, m_w_refusal mem [.d (.str word), .d (.list zs)] = .ok (.f ((flagsOf c).map PyData.bool), forget mem) := fun mem => refusal_ok hck (hcall _)
        have i10 : inB 10 = true := by rw [inB_eq]; decide
        have k11 : 10 + 1 ≤ SL.1 := SL_le (by decide)
        simp [href, i10]
        rw [lcGo_map (fun d => match d with | .int i => .bool (decide (i = (n : Int))) | _ => .none)]
        · have el : (List.map ((fun d : D => match d with | .int i => PyData.bool (decide (i = (n : Int))) | _ => .none) ∘ fun (i : Nat) => PyData.int (i : Nat)) (List.range 10) ++ [PyData.bool true]) = (flagsOf c).map PyData.bool := by
            unfold flagsOf
            rw [hfl, List.map_append, List.map_map]
            congr 1
            apply List.map_congr_left
            intro i _
            simp
            omega
          simp [el, canLay_bools, depth_bools, eqv_bools]
        · intro d hd
          obtain ⟨i, hi, rfl⟩ := List.mem_map.mp hd
          simp
        · exact sl_le (by simp)
    · exact ⟨[], .none, none, rfl, by simp [List.range_eq_range'], by simp, .inl ⟨rfl, rfl⟩⟩
  have hgood := hc.good
  by_cases he : sp % 2 = 0
  · have n3 : 0 < gs.length := hc.n3
    have n3' : (0 : Int) < (gs.length : Int) := by omega
    have n4 := hc.n4
    have m0 : 0 ≤ on % (gs.length : Int) := Int.emod_nonneg _ (by omega)
    have m1 : on % (gs.length : Int) < (gs.length : Int) := Int.emod_lt_of_pos _ n3'
    have q : cPow 1 (on % (gs.length : Int)) = true := by
      unfold cPow
      rw [decide_eq_true m0, decide_eq_true (show on % (gs.length : Int) ≤ 1000000 by omega)]
      decide
    simp [hgood, he, n3, q]
    exact rest _
  · simp [hgood, he]
    exact rest sp
theorem enum_from : ∀ (ns : List Int) (k : Nat), enumFrom k (IL ns) = (ns.zipIdx k).map fun x => PyData.tuple [.int (x.2 : Nat), .int x.1]
  | [], _ => rfl
  | n :: ns, k => by
    show PyData.tuple [.int (k : Nat), .int n] :: enumFrom (k + 1) (IL ns) = _
    rw [enum_from ns (k + 1)]
    rfl
theorem law_ok (ns : List Int) (hl : ns.length ≤ 63) : (m_law [] [.d (.list (IL ns))]).wp (fun q => q.1 = .d (.bool true)) fun _ => False := by
  unfold m_law b_law
  have k1 : ns.length + 3 ≤ SL.1 := SL_le (by omega)
  have e0 : IL ns ++ [PyData.int 2, PyData.int 15, PyData.int 37] = IL (ns ++ [2, 15, 37]) := by simp
  simp [k1]
  rw [e0, enum_from]
  rw [Res.wp_bind]
  refine forGo_wp (fun xs s => ∃ (zs : List (Int × Nat)) (g1 g2 : Option W), s = ⟨[some (.d (.list (IL ns))), g1, g2], [], 0⟩ ∧ xs = zs.map (fun x => PyData.tuple [.int (x.2 : Nat), .int x.1]) ∧ ∀ z ∈ zs, z.2 < 1000) ?_ ?_ _ _ ?_
  · rintro d r s ⟨zs, g1, g2, rfl, hx, hz⟩
    cases zs with
    | nil => cases hx
    | cons z zs =>
      cases hx
      have hz0 := hz z (List.mem_cons_self ..)
      obtain ⟨a, b, e, hh⟩ := hat_ok [] z.1 (z.2 : Nat) (by omega) (by omega)
      have h1 := one_ok a b hh
      obtain ⟨q, eq1, hq⟩ := Res.ok_of_wp h1
      obtain ⟨w, m⟩ := q
      dsimp only at hq
      subst hq
      have cf : eCallF m_w_one (eCall m_w_hat (aCons false (eVar 2) (aCons false (eVar 1) aNil))) ⟨[some (.d (.list (IL ns))), some (.d (.int (z.2 : Nat))), some (.d (.int z.1))], [], 0⟩ = .ok (.d (.bool true), ⟨[some (.d (.list (IL ns))), some (.d (.int (z.2 : Nat))), some (.d (.int z.1))], [], 0⟩) := by
        unfold eCallF
        simp [e, eq1]
      simp [cf]
      exact ⟨zs, rfl, fun a b hab => hz (a, b) (List.mem_cons_of_mem _ hab)⟩
  · rintro s ⟨zs, g1, g2, rfl, hx, hz⟩
    simp
  · refine ⟨(ns ++ [2, 15, 37]).zipIdx 0, none, none, rfl, rfl, fun z hz => ?_⟩
    have h1 := List.snd_lt_of_mem_zipIdx hz
    simp at h1
    omega
end K43

set_option Elab.async false
set_option linter.all false
set_option maxRecDepth 100000
set_option maxHeartbeats 4000000
namespace K43
open PySem PySem.Spec PyProof.Rows L2 PD
theorem fun_of {K : PySem.W.Frag} {x : Str} {st : Stmt} {f : Addr} {fd : FuncData} (F : FunD K x x (defArgs st) (defBody st) (defScope st) [] [] f fd) : Fun K x x st f fd := by
  obtain ⟨oc, od, dV, kV, doc, pm, an, cdv, ct, osl, e, lk, hc, d, _⟩ := F.ex
  rcases d with ⟨_, e2⟩ | ⟨h, _⟩
  · subst e2
    exact ⟨⟨oc, od, kV, doc, pm, an, cdv, ct, osl, e, lk, hc⟩, F.kp⟩
  · exact absurd rfl h
theorem exc_of {K : PySem.W.Frag} {h : Heap} {mg : Str → Option Value} {c : Str} (X : K.In h) (G : h.Ns mainGlobals mg) (h1 : (He.Fa.glo c).ok K = true) (h2 : (He.Fa.exc c).ok K = true) : PD.ExcC K mg c := by
  obtain ⟨a1, a2, a3, a4⟩ := He.exc_ok h2
  exact ⟨_, He.glo_ok X G h1, a1, a2, a3, a4⟩
theorem txt_of {K : PySem.W.Frag} {h : Heap} {mg : Str → Option Value} (X : K.In h) (G : h.Ns mainGlobals mg) (c : HK.SaysA faL fnL exB K) : Txt K mg where
  b_ValueError := He.free_ok X G (c.d.fact 125 rfl)
  b_all := He.free_ok X G (c.d.fact 126 rfl)
  b_any := He.free_ok X G (c.d.fact 127 rfl)
  b_bool := He.free_ok X G (c.d.fact 128 rfl)
  b_enumerate := He.free_ok X G (c.d.fact 129 rfl)
  b_int := He.free_ok X G (c.d.fact 130 rfl)
  b_isinstance := He.free_ok X G (c.d.fact 131 rfl)
  b_len := He.free_ok X G (c.d.fact 132 rfl)
  b_list := He.free_ok X G (c.d.fact 133 rfl)
  b_max := He.free_ok X G (c.d.fact 134 rfl)
  b_min := He.free_ok X G (c.d.fact 135 rfl)
  b_ord := He.free_ok X G (c.d.fact 136 rfl)
  b_range := He.free_ok X G (c.d.fact 137 rfl)
  b_sorted := He.free_ok X G (c.d.fact 138 rfl)
  b_str := He.free_ok X G (c.d.fact 139 rfl)
  b_tuple := He.free_ok X G (c.d.fact 140 rfl)
  b_zip := He.free_ok X G (c.d.fact 141 rfl)
  x_HomeError := exc_of X G (c.d.fact 80 rfl) (c.d.fact 81 rfl)
  x_NoTable := exc_of X G (c.d.fact 82 rfl) (c.d.fact 83 rfl)
  x_NoName := exc_of X G (c.d.fact 84 rfl) (c.d.fact 85 rfl)
  x_NoHomeNumber := exc_of X G (c.d.fact 86 rfl) (c.d.fact 87 rfl)
  x_NoNumber := exc_of X G (c.d.fact 88 rfl) (c.d.fact 89 rfl)
  x_NoPrime := exc_of X G (c.d.fact 90 rfl) (c.d.fact 91 rfl)
  x_NoNumbers := exc_of X G (c.d.fact 92 rfl) (c.d.fact 93 rfl)
  x_NoPlaces := exc_of X G (c.d.fact 94 rfl) (c.d.fact 95 rfl)
  x_NoValues := exc_of X G (c.d.fact 96 rfl) (c.d.fact 97 rfl)
  x_NoPolynomial := exc_of X G (c.d.fact 98 rfl) (c.d.fact 99 rfl)
  x_NoStamp := exc_of X G (c.d.fact 100 rfl) (c.d.fact 101 rfl)
  c_MOST_HOMES := He.int_ok X G (c.d.fact 102 rfl)
  c_MOST_HANDS := He.int_ok X G (c.d.fact 103 rfl)
  c_MOST_IN_NAME := He.int_ok X G (c.d.fact 104 rfl)
  c_MOST_IN_PIECE := He.int_ok X G (c.d.fact 105 rfl)
  c_MOST_IN_ROW := He.int_ok X G (c.d.fact 106 rfl)
  c_LETTERS := He.str_ok X G (c.d.fact 107 rfl)
  c_FIRST_STAMP := ⟨_, He.glo_ok X G (c.d.fact 108 rfl), fun H => He.tupB_ok (vs := [.int 0, .int 0]) (He.ba c.x).1 H⟩
  c_GREAT_PRIME := He.int_ok X G (c.d.fact 109 rfl)
  c_SMALL_PRIMES := He.int_ok X G (c.d.fact 110 rfl)
  c_MOST_PLACES := He.int_ok X G (c.d.fact 111 rfl)
  c_MOST_NUMBERS := He.int_ok X G (c.d.fact 112 rfl)
  c_EPOCH := He.int_ok X G (c.d.fact 113 rfl)
  c_MEMBERS := He.int_ok X G (c.d.fact 114 rfl)
  c_AHEAD := He.int_ok X G (c.d.fact 115 rfl)
  c_CLOCK := He.int_ok X G (c.d.fact 116 rfl)
  c_HEADS := He.int_ok X G (c.d.fact 117 rfl)
  c_BLOCKS := He.int_ok X G (c.d.fact 118 rfl)
  c_LEASES := He.int_ok X G (c.d.fact 119 rfl)
  c_PROMISE := He.int_ok X G (c.d.fact 120 rfl)
  c_VOTED := He.int_ok X G (c.d.fact 121 rfl)
  c_NEXT := He.int_ok X G (c.d.fact 122 rfl)
  c_FIRST_MANY := He.int_ok X G (c.d.fact 123 rfl)
  c_HOME := He.str_ok X G (c.d.fact 124 rfl)
  f_is_integer := (c.d.def_ 0 (d := dd_is_integer) rfl).elim fun fd F => ⟨_, fd, fun_of F, He.glo_ok X G (c.d.fact 0 rfl)⟩
  f_is_between := (c.d.def_ 1 (d := dd_is_between) rfl).elim fun fd F => ⟨_, fd, fun_of F, He.glo_ok X G (c.d.fact 1 rfl)⟩
  f_is_count := (c.d.def_ 2 (d := dd_is_count) rfl).elim fun fd F => ⟨_, fd, fun_of F, He.glo_ok X G (c.d.fact 2 rfl)⟩
  f_is_index := (c.d.def_ 3 (d := dd_is_index) rfl).elim fun fd F => ⟨_, fd, fun_of F, He.glo_ok X G (c.d.fact 3 rfl)⟩
  f_is_tuple_of := (c.d.def_ 4 (d := dd_is_tuple_of) rfl).elim fun fd F => ⟨_, fd, fun_of F, He.glo_ok X G (c.d.fact 4 rfl)⟩
  f_is_pair_of_numbers := (c.d.def_ 5 (d := dd_is_pair_of_numbers) rfl).elim fun fd F => ⟨_, fd, fun_of F, He.glo_ok X G (c.d.fact 5 rfl)⟩
  f_are_ascending := (c.d.def_ 6 (d := dd_are_ascending) rfl).elim fun fd F => ⟨_, fd, fun_of F, He.glo_ok X G (c.d.fact 6 rfl)⟩
  f_is_home := (c.d.def_ 7 (d := dd_is_home) rfl).elim fun fd F => ⟨_, fd, fun_of F, He.glo_ok X G (c.d.fact 7 rfl)⟩
  f_is_hand := (c.d.def_ 8 (d := dd_is_hand) rfl).elim fun fd F => ⟨_, fd, fun_of F, He.glo_ok X G (c.d.fact 8 rfl)⟩
  f_is_name := (c.d.def_ 9 (d := dd_is_name) rfl).elim fun fd F => ⟨_, fd, fun_of F, He.glo_ok X G (c.d.fact 9 rfl)⟩
  f_are_signs := (c.d.def_ 10 (d := dd_are_signs) rfl).elim fun fd F => ⟨_, fd, fun_of F, He.glo_ok X G (c.d.fact 10 rfl)⟩
  f_is_piece := (c.d.def_ 11 (d := dd_is_piece) rfl).elim fun fd F => ⟨_, fd, fun_of F, He.glo_ok X G (c.d.fact 11 rfl)⟩
  f_is_id := (c.d.def_ 12 (d := dd_is_id) rfl).elim fun fd F => ⟨_, fd, fun_of F, He.glo_ok X G (c.d.fact 12 rfl)⟩
  f_is_row := (c.d.def_ 13 (d := dd_is_row) rfl).elim fun fd F => ⟨_, fd, fun_of F, He.glo_ok X G (c.d.fact 13 rfl)⟩
  f_is_stamp := (c.d.def_ 14 (d := dd_is_stamp) rfl).elim fun fd F => ⟨_, fd, fun_of F, He.glo_ok X G (c.d.fact 14 rfl)⟩
  f_is_members := (c.d.def_ 15 (d := dd_is_members) rfl).elim fun fd F => ⟨_, fd, fun_of F, He.glo_ok X G (c.d.fact 15 rfl)⟩
  f_is_small_prime := (c.d.def_ 16 (d := dd_is_small_prime) rfl).elim fun fd F => ⟨_, fd, fun_of F, He.glo_ok X G (c.d.fact 16 rfl)⟩
  f_inverse := (c.d.def_ 17 (d := dd_inverse) rfl).elim fun fd F => ⟨_, fd, fun_of F, He.glo_ok X G (c.d.fact 17 rfl)⟩
  f_trimmed := (c.d.def_ 18 (d := dd_trimmed) rfl).elim fun fd F => ⟨_, fd, fun_of F, He.glo_ok X G (c.d.fact 18 rfl)⟩
  f_at_place := (c.d.def_ 19 (d := dd_at_place) rfl).elim fun fd F => ⟨_, fd, fun_of F, He.glo_ok X G (c.d.fact 19 rfl)⟩
  f_monic := (c.d.def_ 20 (d := dd_monic) rfl).elim fun fd F => ⟨_, fd, fun_of F, He.glo_ok X G (c.d.fact 20 rfl)⟩
  f_parted := (c.d.def_ 21 (d := dd_parted) rfl).elim fun fd F => ⟨_, fd, fun_of F, He.glo_ok X G (c.d.fact 21 rfl)⟩
  f_common := (c.d.def_ 22 (d := dd_common) rfl).elim fun fd F => ⟨_, fd, fun_of F, He.glo_ok X G (c.d.fact 22 rfl)⟩
  f_with_pivot := (c.d.def_ 23 (d := dd_with_pivot) rfl).elim fun fd F => ⟨_, fd, fun_of F, He.glo_ok X G (c.d.fact 23 rfl)⟩
  f_solved := (c.d.def_ 24 (d := dd_solved) rfl).elim fun fd F => ⟨_, fd, fun_of F, He.glo_ok X G (c.d.fact 24 rfl)⟩
  f_check_prime := (c.d.def_ 25 (d := dd_check_prime) rfl).elim fun fd F => ⟨_, fd, fun_of F, He.glo_ok X G (c.d.fact 25 rfl)⟩
  f_check_numbers := (c.d.def_ 26 (d := dd_check_numbers) rfl).elim fun fd F => ⟨_, fd, fun_of F, He.glo_ok X G (c.d.fact 26 rfl)⟩
  f_check_places := (c.d.def_ 27 (d := dd_check_places) rfl).elim fun fd F => ⟨_, fd, fun_of F, He.glo_ok X G (c.d.fact 27 rfl)⟩
  f_check_value := (c.d.def_ 28 (d := dd_check_value) rfl).elim fun fd F => ⟨_, fd, fun_of F, He.glo_ok X G (c.d.fact 28 rfl)⟩
  f_raw_values := (c.d.def_ 29 (d := dd_raw_values) rfl).elim fun fd F => ⟨_, fd, fun_of F, He.glo_ok X G (c.d.fact 29 rfl)⟩
  f_values := (c.d.def_ 30 (d := dd_values) rfl).elim fun fd F => ⟨_, fd, fun_of F, He.glo_ok X G (c.d.fact 30 rfl)⟩
  f_powers := (c.d.def_ 31 (d := dd_powers) rfl).elim fun fd F => ⟨_, fd, fun_of F, He.glo_ok X G (c.d.fact 31 rfl)⟩
  f_equation := (c.d.def_ 32 (d := dd_equation) rfl).elim fun fd F => ⟨_, fd, fun_of F, He.glo_ok X G (c.d.fact 32 rfl)⟩
  f_reduced := (c.d.def_ 33 (d := dd_reduced) rfl).elim fun fd F => ⟨_, fd, fun_of F, He.glo_ok X G (c.d.fact 33 rfl)⟩
  f_raw_roots := (c.d.def_ 34 (d := dd_raw_roots) rfl).elim fun fd F => ⟨_, fd, fun_of F, He.glo_ok X G (c.d.fact 34 rfl)⟩
  f_fit := (c.d.def_ 35 (d := dd_fit) rfl).elim fun fd F => ⟨_, fd, fun_of F, He.glo_ok X G (c.d.fact 35 rfl)⟩
  f_raw_difference := (c.d.def_ 36 (d := dd_raw_difference) rfl).elim fun fd F => ⟨_, fd, fun_of F, He.glo_ok X G (c.d.fact 36 rfl)⟩
  f_check_told := (c.d.def_ 37 (d := dd_check_told) rfl).elim fun fd F => ⟨_, fd, fun_of F, He.glo_ok X G (c.d.fact 37 rfl)⟩
  f_difference := (c.d.def_ 38 (d := dd_difference) rfl).elim fun fd F => ⟨_, fd, fun_of F, He.glo_ok X G (c.d.fact 38 rfl)⟩
  f_check_polynomial := (c.d.def_ 39 (d := dd_check_polynomial) rfl).elim fun fd F => ⟨_, fd, fun_of F, He.glo_ok X G (c.d.fact 39 rfl)⟩
  f_roots := (c.d.def_ 40 (d := dd_roots) rfl).elim fun fd F => ⟨_, fd, fun_of F, He.glo_ok X G (c.d.fact 40 rfl)⟩
  f_number_of := (c.d.def_ 41 (d := dd_number_of) rfl).elim fun fd F => ⟨_, fd, fun_of F, He.glo_ok X G (c.d.fact 41 rfl)⟩
  f_raw_number_of := (c.d.def_ 42 (d := dd_raw_number_of) rfl).elim fun fd F => ⟨_, fd, fun_of F, He.glo_ok X G (c.d.fact 42 rfl)⟩
  f_are_heads := (c.d.def_ 43 (d := dd_are_heads) rfl).elim fun fd F => ⟨_, fd, fun_of F, He.glo_ok X G (c.d.fact 43 rfl)⟩
  f_is_named_head := (c.d.def_ 44 (d := dd_is_named_head) rfl).elim fun fd F => ⟨_, fd, fun_of F, He.glo_ok X G (c.d.fact 44 rfl)⟩
  f_are_blocks := (c.d.def_ 45 (d := dd_are_blocks) rfl).elim fun fd F => ⟨_, fd, fun_of F, He.glo_ok X G (c.d.fact 45 rfl)⟩
  f_are_leases := (c.d.def_ 46 (d := dd_are_leases) rfl).elim fun fd F => ⟨_, fd, fun_of F, He.glo_ok X G (c.d.fact 46 rfl)⟩
  f_is_held := (c.d.def_ 47 (d := dd_is_held) rfl).elim fun fd F => ⟨_, fd, fun_of F, He.glo_ok X G (c.d.fact 47 rfl)⟩
  f_is_vote := (c.d.def_ 48 (d := dd_is_vote) rfl).elim fun fd F => ⟨_, fd, fun_of F, He.glo_ok X G (c.d.fact 48 rfl)⟩
  f_is_ahead := (c.d.def_ 49 (d := dd_is_ahead) rfl).elim fun fd F => ⟨_, fd, fun_of F, He.glo_ok X G (c.d.fact 49 rfl)⟩
  f_is_kept := (c.d.def_ 50 (d := dd_is_kept) rfl).elim fun fd F => ⟨_, fd, fun_of F, He.glo_ok X G (c.d.fact 50 rfl)⟩
  f_is_table := (c.d.def_ 51 (d := dd_is_table) rfl).elim fun fd F => ⟨_, fd, fun_of F, He.glo_ok X G (c.d.fact 51 rfl)⟩
  f_check_table := (c.d.def_ 52 (d := dd_check_table) rfl).elim fun fd F => ⟨_, fd, fun_of F, He.glo_ok X G (c.d.fact 52 rfl)⟩
  f_keeps := (c.d.def_ 53 (d := dd_keeps) rfl).elim fun fd F => ⟨_, fd, fun_of F, He.glo_ok X G (c.d.fact 53 rfl)⟩
  f_written := (c.d.def_ 54 (d := dd_written) rfl).elim fun fd F => ⟨_, fd, fun_of F, He.glo_ok X G (c.d.fact 54 rfl)⟩
  f_begin_mending := (c.d.def_ 55 (d := dd_begin_mending) rfl).elim fun fd F => ⟨_, fd, fun_of F, He.glo_ok X G (c.d.fact 55 rfl)⟩
  f_w_hat := (c.d.def_ 56 (d := dd_w_hat) rfl).elim fun fd F => ⟨_, fd, fun_of F, He.glo_ok X G (c.d.fact 56 rfl)⟩
  f_w_draw := (c.d.def_ 57 (d := dd_w_draw) rfl).elim fun fd F => ⟨_, fd, fun_of F, He.glo_ok X G (c.d.fact 57 rfl)⟩
  f_w_same := (c.d.def_ 58 (d := dd_w_same) rfl).elim fun fd F => ⟨_, fd, fun_of F, He.glo_ok X G (c.d.fact 58 rfl)⟩
  f_w_prime := (c.d.def_ 59 (d := dd_w_prime) rfl).elim fun fd F => ⟨_, fd, fun_of F, He.glo_ok X G (c.d.fact 59 rfl)⟩
  f_w_number := (c.d.def_ 60 (d := dd_w_number) rfl).elim fun fd F => ⟨_, fd, fun_of F, He.glo_ok X G (c.d.fact 60 rfl)⟩
  f_w_lot := (c.d.def_ 61 (d := dd_w_lot) rfl).elim fun fd F => ⟨_, fd, fun_of F, He.glo_ok X G (c.d.fact 61 rfl)⟩
  f_w_places := (c.d.def_ 62 (d := dd_w_places) rfl).elim fun fd F => ⟨_, fd, fun_of F, He.glo_ok X G (c.d.fact 62 rfl)⟩
  f_w_product := (c.d.def_ 63 (d := dd_w_product) rfl).elim fun fd F => ⟨_, fd, fun_of F, He.glo_ok X G (c.d.fact 63 rfl)⟩
  f_w_at := (c.d.def_ 64 (d := dd_w_at) rfl).elim fun fd F => ⟨_, fd, fun_of F, He.glo_ok X G (c.d.fact 64 rfl)⟩
  f_w_bad_prime := (c.d.def_ 65 (d := dd_w_bad_prime) rfl).elim fun fd F => ⟨_, fd, fun_of F, He.glo_ok X G (c.d.fact 65 rfl)⟩
  f_w_spoilt := (c.d.def_ 66 (d := dd_w_spoilt) rfl).elim fun fd F => ⟨_, fd, fun_of F, He.glo_ok X G (c.d.fact 66 rfl)⟩
  f_w_bad_lot := (c.d.def_ 67 (d := dd_w_bad_lot) rfl).elim fun fd F => ⟨_, fd, fun_of F, He.glo_ok X G (c.d.fact 67 rfl)⟩
  f_w_bad_places := (c.d.def_ 68 (d := dd_w_bad_places) rfl).elim fun fd F => ⟨_, fd, fun_of F, He.glo_ok X G (c.d.fact 68 rfl)⟩
  f_w_bad_told := (c.d.def_ 69 (d := dd_w_bad_told) rfl).elim fun fd F => ⟨_, fd, fun_of F, He.glo_ok X G (c.d.fact 69 rfl)⟩
  f_w_bad_polynomial := (c.d.def_ 70 (d := dd_w_bad_polynomial) rfl).elim fun fd F => ⟨_, fd, fun_of F, He.glo_ok X G (c.d.fact 70 rfl)⟩
  f_w_bad_count := (c.d.def_ 71 (d := dd_w_bad_count) rfl).elim fun fd F => ⟨_, fd, fun_of F, He.glo_ok X G (c.d.fact 71 rfl)⟩
  f_w_called := (c.d.def_ 72 (d := dd_w_called) rfl).elim fun fd F => ⟨_, fd, fun_of F, He.glo_ok X G (c.d.fact 72 rfl)⟩
  f_w_refusal := (c.d.def_ 73 (d := dd_w_refusal) rfl).elim fun fd F => ⟨_, fd, fun_of F, He.glo_ok X G (c.d.fact 73 rfl)⟩
  f_w_lots := (c.d.def_ 74 (d := dd_w_lots) rfl).elim fun fd F => ⟨_, fd, fun_of F, He.glo_ok X G (c.d.fact 74 rfl)⟩
  f_w_names := (c.d.def_ 75 (d := dd_w_names) rfl).elim fun fd F => ⟨_, fd, fun_of F, He.glo_ok X G (c.d.fact 75 rfl)⟩
  f_w_homes := (c.d.def_ 76 (d := dd_w_homes) rfl).elim fun fd F => ⟨_, fd, fun_of F, He.glo_ok X G (c.d.fact 76 rfl)⟩
  f_w_good_right := (c.d.def_ 77 (d := dd_w_good_right) rfl).elim fun fd F => ⟨_, fd, fun_of F, He.glo_ok X G (c.d.fact 77 rfl)⟩
  f_w_one := (c.d.def_ 78 (d := dd_w_one) rfl).elim fun fd F => ⟨_, fd, fun_of F, He.glo_ok X G (c.d.fact 78 rfl)⟩
  f_law := (c.d.def_ 79 (d := dd_law) rfl).elim fun fd F => ⟨_, fd, fun_of F, He.glo_ok X G (c.d.fact 79 rfl)⟩
theorem ks_in : ∀ k ∈ ksL, ∃ i : Nat, faL[i]? = some (He.Fa.glo k) := by
  intro k hk
  simp only [ksL, List.mem_cons, List.not_mem_nil, or_false] at hk
  rcases hk with rfl | rfl | rfl | rfl | rfl | rfl | rfl | rfl | rfl | rfl
  · exact ⟨90, rfl⟩
  · exact ⟨92, rfl⟩
  · exact ⟨88, rfl⟩
  · exact ⟨94, rfl⟩
  · exact ⟨96, rfl⟩
  · exact ⟨98, rfl⟩
  · exact ⟨84, rfl⟩
  · exact ⟨100, rfl⟩
  · exact ⟨86, rfl⟩
  · exact ⟨82, rfl⟩
theorem err_of {K : PySem.W.Frag} {h : Heap} {mg : Str → Option Value} (X : K.In h) (G : h.Ns mainGlobals mg) (c : HK.SaysA faL fnL exB K) : ErrT K mg where
  top := He.glo_ok X G (c.d.fact 80 rfl)
  cls := fun k hk => by
    obtain ⟨i, hi⟩ := ks_in k hk
    exact ⟨He.glo_ok X G (He.SaysD.fact c.d i hi), HK.errB_ok (List.all_eq_true.mp (He.ba c.x).2 k hk)⟩
theorem law_df {P : Program} {w : World} {K : PySem.W.Frag} {mg : Str → Option Value} {base : Heap} (T : Txt K mg) (Er : ErrT K mg) : Df P w K mg base 14 "_law_one" ["_law_hat_here"] m_w_one ∧ Df P w K mg base 1 "_law_hat" ["_law_cell", "_law_k"] m_w_hat := by
  have c_is_integer := df_is_integer (P := P) (w := w) (base := base) T 
  have c_is_between := df_is_between (P := P) (w := w) (base := base) T c_is_integer
  have c_is_count := df_is_count (P := P) (w := w) (base := base) T c_is_integer
  have c_is_index := df_is_index (P := P) (w := w) (base := base) T c_is_between
  have c_is_tuple_of := df_is_tuple_of (P := P) (w := w) (base := base) T 
  have c_is_pair_of_numbers := df_is_pair_of_numbers (P := P) (w := w) (base := base) T c_is_count c_is_tuple_of
  have c_are_ascending := df_are_ascending (P := P) (w := w) (base := base) T 
  have c_is_home := df_is_home (P := P) (w := w) (base := base) T c_is_between
  have c_is_hand := df_is_hand (P := P) (w := w) (base := base) T c_is_between
  have c_is_name := df_is_name (P := P) (w := w) (base := base) T 
  have c_are_signs := df_are_signs (P := P) (w := w) (base := base) T 
  have c_is_piece := df_is_piece (P := P) (w := w) (base := base) T c_are_signs
  have c_is_id := df_is_id (P := P) (w := w) (base := base) T c_is_hand c_is_pair_of_numbers
  have c_is_row := df_is_row (P := P) (w := w) (base := base) T c_is_id
  have c_is_stamp := df_is_stamp (P := P) (w := w) (base := base) T c_is_pair_of_numbers c_is_hand
  have c_is_members := df_is_members (P := P) (w := w) (base := base) T c_are_ascending c_is_home
  have c_is_small_prime := df_is_small_prime (P := P) (w := w) (base := base) T 
  have c_inverse := df_inverse (P := P) (w := w) (base := base) T 
  have c_trimmed := df_trimmed (P := P) (w := w) (base := base) T 
  have c_at_place := df_at_place (P := P) (w := w) (base := base) T 
  have c_monic := df_monic (P := P) (w := w) (base := base) T c_inverse
  have c_parted := df_parted (P := P) (w := w) (base := base) T c_trimmed c_inverse
  have c_common := df_common (P := P) (w := w) (base := base) T c_trimmed c_parted c_monic
  have c_with_pivot := df_with_pivot (P := P) (w := w) (base := base) T c_inverse
  have c_solved := df_solved (P := P) (w := w) (base := base) T c_with_pivot
  have c_check_prime := df_check_prime (P := P) (w := w) (base := base) T c_is_small_prime c_is_integer
  have c_check_numbers := df_check_numbers (P := P) (w := w) (base := base) T c_are_ascending c_is_index
  have c_check_places := df_check_places (P := P) (w := w) (base := base) T c_is_index
  have c_check_value := df_check_value (P := P) (w := w) (base := base) T c_is_between
  have c_raw_values := df_raw_values (P := P) (w := w) (base := base) T 
  have c_values := df_values (P := P) (w := w) (base := base) T c_check_prime c_check_numbers c_check_places c_raw_values
  have c_powers := df_powers (P := P) (w := w) (base := base) T 
  have c_equation := df_equation (P := P) (w := w) (base := base) T c_powers
  have c_reduced := df_reduced (P := P) (w := w) (base := base) T c_common c_monic c_parted
  have c_raw_roots := df_raw_roots (P := P) (w := w) (base := base) T c_at_place
  have c_fit := df_fit (P := P) (w := w) (base := base) T c_raw_values c_at_place
  have c_raw_difference := df_raw_difference (P := P) (w := w) (base := base) T c_raw_values c_equation c_inverse c_solved c_reduced c_fit c_raw_roots
  have c_check_told := df_check_told (P := P) (w := w) (base := base) T c_is_between c_is_tuple_of
  have c_difference := df_difference (P := P) (w := w) (base := base) T c_check_prime c_check_numbers c_check_value c_check_places c_check_told c_raw_difference
  have c_check_polynomial := df_check_polynomial (P := P) (w := w) (base := base) T c_is_index
  have c_roots := df_roots (P := P) (w := w) (base := base) T c_check_prime c_check_polynomial c_check_numbers c_raw_roots
  have c_raw_number_of := df_raw_number_of (P := P) (w := w) (base := base) T 
  have c_number_of := df_number_of (P := P) (w := w) (base := base) T c_is_name c_is_stamp c_raw_number_of
  have c_is_named_head := df_is_named_head (P := P) (w := w) (base := base) T c_is_row c_is_stamp c_is_name c_is_tuple_of
  have c_are_heads := df_are_heads (P := P) (w := w) (base := base) T c_is_named_head c_are_ascending
  have c_are_blocks := df_are_blocks (P := P) (w := w) (base := base) T c_is_piece c_is_id c_is_tuple_of c_are_ascending
  have c_is_held := df_is_held (P := P) (w := w) (base := base) T c_is_count c_is_hand c_is_name c_is_tuple_of
  have c_are_leases := df_are_leases (P := P) (w := w) (base := base) T c_is_held c_is_tuple_of c_are_ascending c_is_count
  have c_is_vote := df_is_vote (P := P) (w := w) (base := base) T c_is_members c_is_stamp c_is_tuple_of
  have c_is_ahead := df_is_ahead (P := P) (w := w) (base := base) T c_is_members
  have c_is_kept := df_is_kept (P := P) (w := w) (base := base) T c_is_count c_is_ahead c_is_tuple_of c_are_leases c_are_blocks c_are_heads c_is_vote c_is_stamp c_is_members
  have c_is_table := df_is_table (P := P) (w := w) (base := base) T c_is_kept c_is_count c_is_members
  have c_check_table := df_check_table (P := P) (w := w) (base := base) T c_is_table
  have c_keeps := df_keeps (P := P) (w := w) (base := base) T 
  have c_written := df_written (P := P) (w := w) (base := base) T 
  have c_begin_mending := df_begin_mending (P := P) (w := w) (base := base) T c_is_home c_check_table c_keeps c_written
  have c_w_hat := df_w_hat (P := P) (w := w) (base := base) T 
  have c_w_draw := df_w_draw (P := P) (w := w) (base := base) T 
  have c_w_same := df_w_same (P := P) (w := w) (base := base) T 6
  have c_w_prime := df_w_prime (P := P) (w := w) (base := base) T c_w_draw
  have c_w_number := df_w_number (P := P) (w := w) (base := base) T c_w_draw
  have c_w_lot := df_w_lot (P := P) (w := w) (base := base) T c_w_number
  have c_w_places := df_w_places (P := P) (w := w) (base := base) T c_w_number
  have c_w_product := df_w_product (P := P) (w := w) (base := base) T 
  have c_w_at := df_w_at (P := P) (w := w) (base := base) T 
  have c_w_bad_prime := df_w_bad_prime (P := P) (w := w) (base := base) T c_w_draw
  have c_w_spoilt := df_w_spoilt (P := P) (w := w) (base := base) T c_w_draw
  have c_w_bad_lot := df_w_bad_lot (P := P) (w := w) (base := base) T c_w_draw c_w_spoilt
  have c_w_bad_places := df_w_bad_places (P := P) (w := w) (base := base) T c_w_draw c_w_spoilt
  have c_w_bad_told := df_w_bad_told (P := P) (w := w) (base := base) T c_w_draw
  have c_w_bad_polynomial := df_w_bad_polynomial (P := P) (w := w) (base := base) T c_w_draw
  have c_w_bad_count := df_w_bad_count (P := P) (w := w) (base := base) T c_w_draw
  have c_w_called := df_w_called (P := P) (w := w) (base := base) T c_values c_roots c_number_of c_begin_mending c_difference
  have c_w_refusal := df_w_refusal (P := P) (w := w) (base := base) T Er c_w_called
  have c_w_lots := df_w_lots (P := P) (w := w) (base := base) T c_w_prime c_w_places c_w_draw c_w_lot c_w_bad_places c_w_bad_lot c_w_bad_prime c_w_product c_w_bad_polynomial c_w_bad_count c_w_bad_told
  have c_w_names := df_w_names (P := P) (w := w) (base := base) T c_w_draw
  have c_w_homes := df_w_homes (P := P) (w := w) (base := base) T c_w_draw
  have c_w_good_right := df_w_good_right (P := P) (w := w) (base := base) T c_w_called c_w_same
  have c_w_one := df_w_one (P := P) (w := w) (base := base) T c_w_draw c_w_names c_w_homes c_w_lots c_w_good_right c_w_refusal
  exact ⟨c_w_one, c_w_hat⟩
theorem fn_of' {P : Program} {w : World} {K : PySem.W.Frag} {mg : Str → Option Value} {base : Heap} {k : Nat} {x : Str} {st : Stmt} {f : Addr} {fd : FuncData} {N ps : List Str} {g : SM} (Fn : Fun K x x st f fd) (Sc : FnScope N ps (defScope st))
    (body : ∀ (cdv : Value) (A : Around) (outer : List Env) (s : Shared) (H : Hp) (E : XK), Room k (A.deeper (envOfC x (defScope st) s.heap.objs.size f cdv)) → PDSs (cxOf (L2.CX P w) P w K mg base N x (defScope st) f cdv A outer s H E) E (defBody st) g) :
    FnOk P w K mg base (L2.CX P w) (k + 1) f fd ps (spF K mg ps.length (fnOf N g)) := by
  refine Fn.okX Sc (fun vs H Q E h => ?_) (fun cdv A outer s H vs Q E hr h => ⟨_, (body cdv A outer s H E hr).pss, ?_⟩)
  · obtain ⟨_, _, _, _, _, hl, _⟩ := h
    exact hl
  · obtain ⟨F, G, as, mem, ws, hl, R, r, h⟩ := h
    exact ⟨F, G, as, s0 N mem ws, R.start N r, fin_ok (sb := s0 N mem ws) rfl (R.start N r) h⟩
/-- a def that lets nothing out -/
theorem nox_fn {P : Program} {w : World} {K : PySem.W.Frag} {mg : Str → Option Value} {base : Heap} {k : Nat} {f : Addr} {fd : FuncData} {ps : List Str} {sp sp' : Sp} (F : FnOk P w K mg base (L2.CX P w) k f fd ps sp) (h : ∀ vs H Q, (∀ E, sp' vs H Q E) → sp vs H Q E0) (he : ∀ vs H Q E, sp' vs H Q E → ∀ E', sp' vs H Q E') : FnOk P w K mg base CX0 k f fd ps sp' :=
  ⟨fun vs H Q E q => F.len vs H Q E0 (h _ _ _ (he _ _ _ _ q)), fun A outer s H args us vs Q E hr h0 hb hv hs => codeAny_mono (F.run A outer s H args us vs Q E0 hr h0 hb hv (h _ _ _ (he _ _ _ _ hs))) fun r s' z => by
    cases r with
    | error e =>
      obtain ⟨_, _, _, _, _, _, _, _, _, _, _, _, q⟩ := z
      exact q.elim
    | ok fl => cases fl <;> exact z⟩
/-- the law's promise -/
def spLaw (K : PySem.W.Frag) : Sp := fun vs H Q _ => ∃ (a : Addr) (ns : List Int), vs = [.ref a] ∧ SqL K H a (ns.map V.int) ∧ ns.length ≤ 63 ∧ ∀ H', Q (.bl true) H'
theorem law_fn {P : Program} {w : World} {K : PySem.W.Frag} {mg : Str → Option Value} {base : Heap} (T : Txt K mg) (Er : ErrT K mg) {fa : Addr} {fd : FuncData} (Fn : Fun K "law" "law" st_law fa fd) : FnOk P w K mg base CX0 15 fa fd ["_law_script"] (spLaw K) := by
  obtain ⟨c_w_one, c_w_hat⟩ := law_df (P := P) (w := w) (base := base) T Er
  refine nox_fn (sp := spF K mg (["_law_script"] : List Str).length m_law) (by unfold m_law; exact fn_of' Fn sc_law (fun cdv A outer s H E hr => b_law.2 T c_w_one c_w_hat fa cdv A outer s H E hr)) (fun vs H Q h => ?_) fun vs H Q E h E' => h
  obtain ⟨a, ns, rfl, hS, hl, hQ⟩ := h E0
  refine ⟨fun _ => False, H, [], [], [.d (.list (IL ns))], rfl, ⟨Same.refl _, rfl, rfl, List.nodup_nil, (fun a h => by cases h), (fun a h => h.elim), (fun n c e => by simp at e), fun i w e => by simp at e⟩, .d (.lst hS (RpA.ints ns)) .nil, ?_⟩
  obtain ⟨q, e, hq⟩ := Res.ok_of_wp (law_ok ns hl)
  obtain ⟨w0, m0⟩ := q
  dsimp only at hq
  subst hq
  rw [e]
  intro v G' H' R' X' r n
  cases r
  exact hQ H'
end K43
open PySem PySem.W PySem.Calls PyProof.Rows
set_option maxHeartbeats 0 in
theorem PySem.Challenge.cw_homeshold_k43_lots_refused_holds : PySem.Challenge.rw_homeshold_k43_lots_refused.Holds := by
  w_on; o_law
  refine HandSHeadRun.head_any (r := OpenLaw.row PySem.Challenge.rw_homeshold_k43_lots_refused) (q := view (OpenLaw.row PySem.Challenge.rw_homeshold_k43_lots_refused).prog [121]) (H := K43.hk) (ob := K43.ob) (M := 20000) (loose := K43.looseL) (d := HandSHeadRun.topDef (OpenLaw.row PySem.Challenge.rw_homeshold_k43_lots_refused).prog 121) (kwd := []) K43.ob_eq
    (by kernel_rfl) (fun s => by kernel_rfl) K43.run (by kernel_rfl) (by kernel_rfl) (by kernel_rfl) (by rfl) (by first | assumption | decide +kernel) (by decide +kernel) ⟨rfl, rfl, rfl, rfl, rfl, by decide +kernel⟩ ?hw ?hc
  case hw => w_witness2
  case hc =>
    refine L2.walk_ofE (l := PySem.Challenge.rw_homeshold_k43_lots_refused) (n := 63) (k := 15) (x := "_law_script") (CX := L2.CX0) rfl (by decide) (by kernel_rfl) ⟨rfl, by decide, by decide⟩ ?F (fun _ _ _ _ z => z)
    case F =>
      intro w mg fa h Y G hmg0
      obtain ⟨K, KX, c⟩ := Y
      have hmg : mg ("law" : PySem.Str) = some (.ref fa) := by
        have e : (HandSHeadRun.topDef (OpenLaw.row PySem.Challenge.rw_homeshold_k43_lots_refused).prog 121).name = ("law" : PySem.Str) := by kernel_rfl
        rw [← e]
        exact hmg0
      obtain ⟨fd, F⟩ := c.d.def_ 79 (d := K43.dd_law) rfl
      have e := hmg.symm.trans (He.glo_ok KX G (c.d.fact 79 rfl))
      have e2 : fa = He.ga K "law" := Value.ref.inj (Option.some.inj e)
      subst e2
      have b := L2.FunD.bindsA (ps := ["_law_script"]) F fun _ _ _ _ _ _ us hl => match us, hl with | [_], _ => rfl
      exact ⟨K, fd, K43.spLaw K, KX, fun s v => b s [v] rfl, fun H a ns hl _ hS => ⟨a, ns, rfl, hS, hl, fun _ => rfl⟩, fun base KB GB => K43.law_fn (K43.txt_of KX G c) (K43.err_of KX G c) (K43.fun_of F)⟩

