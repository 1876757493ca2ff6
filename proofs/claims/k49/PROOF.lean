import PyProof.Rows.All
import Wide.All
import OpenK.AllK
import Wide.FinOn
import KE.KStateDown
import KE.KNestM
import HandS.ForExc
import HandS.Defaults
import HandS.Head0
import HandS.Head1
import HandS.Head2
import HandS.HeadEnd
import HandS.HeadHook1
import HandS.HeadHook2
import HandS.HeadWalk
import HandS.ExcIs
import HandS.ForMost
import HandS.IsInst
import HandS.TupAny
import HandS.Lambda
import KE.KDictKeyed
import KE.KeyNested
import HandS.Zip
import HandS.TryOnly
import HandS.Wide
import HandS.TupMul
import HandS.Style
import HandS.SortInts
import HandS.Text
import HandS.Remove
import KE.GoesMore
import KE.GoesEnum
import HandS.WordsDict
import HandS.DictComp
import HandS.Conv
import KE.DataMinMax
import HandS.TupLen
import HandS.TupSets
import KE.SortData
import KE.DataFind
import HandS.DictTup
import HandS.Iter
import KE.KDictSum
import HandS.TryMany
import PySem.Challenge.RW_homeshold_k49_histories_refused
set_option Elab.async false
set_option linter.all false
set_option maxRecDepth 100000
set_option maxHeartbeats 4000000
namespace K49
open PySem PySem.Spec PyProof.Rows
def topS (i : Nat) : Stmt := PySem.Challenge.pw_homeshold_k49_histories_refused.main.body.getD i (.Pass ⟨0, 0, 0, 0⟩)
abbrev st_is_integer : Stmt := topS 4
abbrev st_is_between : Stmt := topS 5
abbrev st_is_index : Stmt := topS 6
abbrev st_is_tuple_of : Stmt := topS 7
abbrev st_is_sign : Stmt := topS 10
abbrev st_is_signs : Stmt := topS 11
abbrev st_is_thing : Stmt := topS 12
abbrev st_is_call : Stmt := topS 17
abbrev st_moments_of : Stmt := topS 18
abbrev st_is_history : Stmt := topS 19
abbrev st_check_history : Stmt := topS 20
abbrev st_writer_of : Stmt := topS 21
abbrev st_counts : Stmt := topS 22
abbrev st_groups_of : Stmt := topS 23
abbrev st_first_end : Stmt := topS 24
abbrev st_last_begin : Stmt := topS 25
abbrev st_is_ahead : Stmt := topS 26
abbrev st_single_bar : Stmt := topS 27
abbrev st_late_bar : Stmt := topS 28
abbrev st_crossed_bar : Stmt := topS 29
abbrev st_crossed : Stmt := topS 30
abbrev st_raw_bar : Stmt := topS 31
abbrev st_bar : Stmt := topS 32
abbrev st_tail : Stmt := topS 33
abbrev st_name_order : Stmt := topS 34
abbrev st_right_order : Stmt := topS 35
abbrev st_is_right_order : Stmt := topS 36
abbrev st_are_behind : Stmt := topS 37
abbrev st_are_told : Stmt := topS 38
abbrev st_is_bar : Stmt := topS 39
abbrev st_is_single : Stmt := topS 40
abbrev st_tells : Stmt := topS 41
abbrev st_is_late : Stmt := topS 42
abbrev st_is_crossed : Stmt := topS 43
abbrev st_w_hand : Stmt := topS 45
abbrev st_w_draw : Stmt := topS 46
abbrev st_w_call : Stmt := topS 47
abbrev st_w_history : Stmt := topS 48
abbrev st_w_read : Stmt := topS 49
abbrev st_w_is_int : Stmt := topS 50
abbrev st_w_deep : Stmt := topS 51
abbrev st_w_is_thing : Stmt := topS 52
abbrev st_w_is_call : Stmt := topS 53
abbrev st_w_due : Stmt := topS 54
abbrev st_w_word : Stmt := topS 55
abbrev st_w_bent : Stmt := topS 56
abbrev st_law : Stmt := topS 57
end K49

set_option Elab.async false
set_option linter.all false
set_option maxRecDepth 100000
set_option maxHeartbeats 4000000
/-! HK: the head's facts, by one look at all objects that the top made but for the tables of code objects; the law's own table -/
namespace HK
open PySem PySem.Spec PyProof.Rows L2 He
def asA (n : Nat) : List Addr := mainGlobals :: List.range n
def noTab (o : Obj) : Bool := match o.cls, o.data with
  | .none, .fields _ => false
  | _, _ => true
def frT (g : Addr → Option Obj) (n : Nat) : PySem.W.Frag := (frG g (asA n)).filter fun p => noTab p.2
theorem frG_mem {g : Addr → Option Obj} {as : List Addr} {a : Addr} {o : Obj} (h : (a, o) ∈ frG g as) : g a = some o := by
  unfold frG at h
  obtain ⟨b, _, e⟩ := List.mem_filterMap.mp h
  cases q : g b with
  | none => rw [q] at e; cases e
  | some u =>
    rw [q] at e
    cases e
    exact q
theorem frT_in {h : Heap} {n : Nat} : (frT h.get? n).In h := fun a o e => frG_mem ((List.mem_filter.mp (PySem.W.mem_of_lookupK e)).1)
theorem frT_tab {g : Addr → Option Obj} {n : Nat} {a : Addr} (h : g a = some (PySem.W.tabObj #[])) : (frT g n).lookup a = none := by
  cases q : (frT g n).lookup a with
  | none => rfl
  | some o =>
    have m := PySem.W.mem_of_lookupK q
    have e := frG_mem ((List.mem_filter.mp m).1)
    rw [h] at e
    cases e
    have z := (List.mem_filter.mp m).2
    exact absurd (show false = true from z) Bool.false_ne_true
def emptyTab (o : Option Obj) : Bool := match o with
  | some ⟨.none, none, .fields us, sl⟩ => us.toList.isEmpty && sl.toList.isEmpty
  | _ => false
theorem emptyTab_ok {o : Option Obj} (h : emptyTab o = true) : o = some (PySem.W.tabObj #[]) := by
  unfold emptyTab at h
  split at h
  · rename_i us sl
    obtain ⟨h1, h2⟩ := ba h
    have e1 : us = #[] := by
      rw [← Array.toList_eq_nil_iff]
      exact List.isEmpty_iff.mp h1
    have e2 : sl = #[] := by
      rw [← Array.toList_eq_nil_iff]
      exact List.isEmpty_iff.mp h2
    rw [e1, e2]
  · cases h
/-- the law's code object and its table -/
def lawB (K : PySem.W.Frag) (g : Addr → Option Obj) : Bool := match PySem.W.tabIn K "law" with
  | some (c, P) => PySem.W.codeHdIn K c P && emptyTab (g P)
  | none => false
def obsT (fa : List Fa) (fn : List DefD) (ex : PySem.W.Frag → Bool) (n : Nat) (g : Addr → Option Obj) : AlD × Bool := (obsD fa fn (frT g n), ex (frT g n) && lawB (frT g n) g)
structure SaysT (fa : List Fa) (fn : List DefD) (ex : PySem.W.Frag → Bool) (K : PySem.W.Frag) (h : Heap) : Prop where
  d : SaysD fa fn K
  x : ex K = true
  t : ∃ c P : Addr, PySem.W.tabIn K "law" = some (c, P) ∧ PySem.W.codeHdIn K c P = true ∧ h.get? P = some (PySem.W.tabObj #[]) ∧ K.lookup P = none
def hookT (fa : List Fa) (fn : List DefD) (ex : PySem.W.Frag → Bool) : PySem.W.Hook where
  α := AlD × Bool
  obs := fun s => obsT fa fn ex s.heap.objs.size s.heap.get?
  val := fun _ => (valD fn, true)
  says := fun _ h => ∃ K : PySem.W.Frag, K.In h ∧ SaysT fa fn ex K h
  of := fun _ s e => by
    have e1 := congrArg (fun z : AlD × Bool => z.1) e
    have e2 := congrArg (fun z : AlD × Bool => z.2) e
    obtain ⟨e3, e4⟩ := ba e2
    refine ⟨_, frT_in, e1, e3, ?_⟩
    unfold lawB at e4
    split at e4
    · rename_i c P ht
      obtain ⟨h1, h2⟩ := ba e4
      exact ⟨c, P, ht, h1, emptyTab_ok h2, frT_tab (emptyTab_ok h2)⟩
    · cases e4
  keeps := fun _ _ _ ⟨K, hK, c⟩ k => ⟨K, PySem.W.Frag.In.keeps hK k, c.d, c.x, let ⟨a, P, h1, h2, h3, h4⟩ := c.t; ⟨a, P, h1, h2, k _ _ h3, h4⟩⟩
def obT (fa : List Fa) (fn : List DefD) (ex : PySem.W.Frag → Bool) (s : PySem.W.SharedT) : AlD × Bool := obsT fa fn ex s.n (HandSHeadRun.getT s)
theorem obT_eq {fa : List Fa} {fn : List DefD} {ex : PySem.W.Frag → Bool} (s : PySem.W.SharedT) : obT fa fn ex s = (hookT fa fn ex).obs s.abs := by
  show obsT fa fn ex s.n (HandSHeadRun.getT s) = obsT fa fn ex s.abs.heap.objs.size s.abs.heap.get?
  have e1 : HandSHeadRun.getT s = s.abs.heap.get? := funext (HandSHeadRun.getT_eq s)
  have e2 : s.abs.heap.objs.size = s.n := PySem.W.absHeap_size _ _ _
  rw [e1, e2]
end HK

set_option Elab.async false
set_option linter.all false
set_option maxRecDepth 100000
set_option maxHeartbeats 0
namespace K49
open PySem PySem.Spec PyProof.Rows L2
def dd_is_integer : He.DefD := ⟨("is_integer", none), "is_integer", "is_integer", defArgs st_is_integer, defBody st_is_integer, defScope st_is_integer, [], []⟩
def dd_is_between : He.DefD := ⟨("is_between", none), "is_between", "is_between", defArgs st_is_between, defBody st_is_between, defScope st_is_between, [], []⟩
def dd_is_index : He.DefD := ⟨("is_index", none), "is_index", "is_index", defArgs st_is_index, defBody st_is_index, defScope st_is_index, [], []⟩
def dd_is_tuple_of : He.DefD := ⟨("is_tuple_of", none), "is_tuple_of", "is_tuple_of", defArgs st_is_tuple_of, defBody st_is_tuple_of, defScope st_is_tuple_of, [], []⟩
def dd_is_sign : He.DefD := ⟨("is_sign", none), "is_sign", "is_sign", defArgs st_is_sign, defBody st_is_sign, defScope st_is_sign, [], []⟩
def dd_is_signs : He.DefD := ⟨("is_signs", none), "is_signs", "is_signs", defArgs st_is_signs, defBody st_is_signs, defScope st_is_signs, [], []⟩
def dd_is_thing : He.DefD := ⟨("is_thing", none), "is_thing", "is_thing", defArgs st_is_thing, defBody st_is_thing, defScope st_is_thing, [], []⟩
def dd_is_call : He.DefD := ⟨("is_call", none), "is_call", "is_call", defArgs st_is_call, defBody st_is_call, defScope st_is_call, [], []⟩
def dd_moments_of : He.DefD := ⟨("moments_of", none), "moments_of", "moments_of", defArgs st_moments_of, defBody st_moments_of, defScope st_moments_of, [], []⟩
def dd_is_history : He.DefD := ⟨("is_history", none), "is_history", "is_history", defArgs st_is_history, defBody st_is_history, defScope st_is_history, [], []⟩
def dd_check_history : He.DefD := ⟨("check_history", none), "check_history", "check_history", defArgs st_check_history, defBody st_check_history, defScope st_check_history, [], []⟩
def dd_writer_of : He.DefD := ⟨("writer_of", none), "writer_of", "writer_of", defArgs st_writer_of, defBody st_writer_of, defScope st_writer_of, [], []⟩
def dd_counts : He.DefD := ⟨("counts", none), "counts", "counts", defArgs st_counts, defBody st_counts, defScope st_counts, [], []⟩
def dd_groups_of : He.DefD := ⟨("groups_of", none), "groups_of", "groups_of", defArgs st_groups_of, defBody st_groups_of, defScope st_groups_of, [], []⟩
def dd_first_end : He.DefD := ⟨("first_end", none), "first_end", "first_end", defArgs st_first_end, defBody st_first_end, defScope st_first_end, [], []⟩
def dd_last_begin : He.DefD := ⟨("last_begin", none), "last_begin", "last_begin", defArgs st_last_begin, defBody st_last_begin, defScope st_last_begin, [], []⟩
def dd_is_ahead : He.DefD := ⟨("is_ahead", none), "is_ahead", "is_ahead", defArgs st_is_ahead, defBody st_is_ahead, defScope st_is_ahead, [], []⟩
def dd_single_bar : He.DefD := ⟨("single_bar", none), "single_bar", "single_bar", defArgs st_single_bar, defBody st_single_bar, defScope st_single_bar, [], []⟩
def dd_late_bar : He.DefD := ⟨("late_bar", none), "late_bar", "late_bar", defArgs st_late_bar, defBody st_late_bar, defScope st_late_bar, [], []⟩
def dd_crossed_bar : He.DefD := ⟨("crossed_bar", none), "crossed_bar", "crossed_bar", defArgs st_crossed_bar, defBody st_crossed_bar, defScope st_crossed_bar, [], []⟩
def dd_crossed : He.DefD := ⟨("crossed", none), "crossed", "crossed", defArgs st_crossed, defBody st_crossed, defScope st_crossed, [], []⟩
def dd_raw_bar : He.DefD := ⟨("raw_bar", none), "raw_bar", "raw_bar", defArgs st_raw_bar, defBody st_raw_bar, defScope st_raw_bar, [], []⟩
def dd_bar : He.DefD := ⟨("bar", none), "bar", "bar", defArgs st_bar, defBody st_bar, defScope st_bar, [], []⟩
def dd_tail : He.DefD := ⟨("tail", none), "tail", "tail", defArgs st_tail, defBody st_tail, defScope st_tail, [], []⟩
def dd_name_order : He.DefD := ⟨("name_order", none), "name_order", "name_order", defArgs st_name_order, defBody st_name_order, defScope st_name_order, [], []⟩
def dd_right_order : He.DefD := ⟨("right_order", none), "right_order", "right_order", defArgs st_right_order, defBody st_right_order, defScope st_right_order, [], []⟩
def dd_is_right_order : He.DefD := ⟨("is_right_order", none), "is_right_order", "is_right_order", defArgs st_is_right_order, defBody st_is_right_order, defScope st_is_right_order, [], []⟩
def dd_are_behind : He.DefD := ⟨("are_behind", none), "are_behind", "are_behind", defArgs st_are_behind, defBody st_are_behind, defScope st_are_behind, [], []⟩
def dd_are_told : He.DefD := ⟨("are_told", none), "are_told", "are_told", defArgs st_are_told, defBody st_are_told, defScope st_are_told, [], []⟩
def dd_is_bar : He.DefD := ⟨("is_bar", none), "is_bar", "is_bar", defArgs st_is_bar, defBody st_is_bar, defScope st_is_bar, [], []⟩
def dd_is_single : He.DefD := ⟨("is_single", none), "is_single", "is_single", defArgs st_is_single, defBody st_is_single, defScope st_is_single, [], []⟩
def dd_tells : He.DefD := ⟨("tells", none), "tells", "tells", defArgs st_tells, defBody st_tells, defScope st_tells, [], []⟩
def dd_is_late : He.DefD := ⟨("is_late", none), "is_late", "is_late", defArgs st_is_late, defBody st_is_late, defScope st_is_late, [], []⟩
def dd_is_crossed : He.DefD := ⟨("is_crossed", none), "is_crossed", "is_crossed", defArgs st_is_crossed, defBody st_is_crossed, defScope st_is_crossed, [], []⟩
def dd_w_hand : He.DefD := ⟨("_law_hand", none), "_law_hand", "_law_hand", defArgs st_w_hand, defBody st_w_hand, defScope st_w_hand, [], []⟩
def dd_w_draw : He.DefD := ⟨("_law_draw", none), "_law_draw", "_law_draw", defArgs st_w_draw, defBody st_w_draw, defScope st_w_draw, [], []⟩
def dd_w_call : He.DefD := ⟨("_law_call", none), "_law_call", "_law_call", defArgs st_w_call, defBody st_w_call, defScope st_w_call, [], []⟩
def dd_w_history : He.DefD := ⟨("_law_history", none), "_law_history", "_law_history", defArgs st_w_history, defBody st_w_history, defScope st_w_history, [], []⟩
def dd_w_read : He.DefD := ⟨("_law_read", none), "_law_read", "_law_read", defArgs st_w_read, defBody st_w_read, defScope st_w_read, [], []⟩
def dd_w_is_int : He.DefD := ⟨("_law_is_int", none), "_law_is_int", "_law_is_int", defArgs st_w_is_int, defBody st_w_is_int, defScope st_w_is_int, [], []⟩
def dd_w_deep : He.DefD := ⟨("_law_deep", none), "_law_deep", "_law_deep", defArgs st_w_deep, defBody st_w_deep, defScope st_w_deep, [], []⟩
def dd_w_is_thing : He.DefD := ⟨("_law_is_thing", none), "_law_is_thing", "_law_is_thing", defArgs st_w_is_thing, defBody st_w_is_thing, defScope st_w_is_thing, [], []⟩
def dd_w_is_call : He.DefD := ⟨("_law_is_call", none), "_law_is_call", "_law_is_call", defArgs st_w_is_call, defBody st_w_is_call, defScope st_w_is_call, [], []⟩
def dd_w_due : He.DefD := ⟨("_law_due", none), "_law_due", "_law_due", defArgs st_w_due, defBody st_w_due, defScope st_w_due, [], []⟩
def dd_w_word : He.DefD := ⟨("_law_word", none), "_law_word", "_law_word", defArgs st_w_word, defBody st_w_word, defScope st_w_word, [], []⟩
def dd_w_bent : He.DefD := ⟨("_law_bent", none), "_law_bent", "_law_bent", defArgs st_w_bent, defBody st_w_bent, defScope st_w_bent, [], []⟩
def dd_law : He.DefD := ⟨("law", none), "law", "law", defArgs st_law, defBody st_law, defScope st_law, [], []⟩
def fnL : List He.DefD := ([dd_is_integer, dd_is_between, dd_is_index, dd_is_tuple_of, dd_is_sign, dd_is_signs, dd_is_thing, dd_is_call, dd_moments_of, dd_is_history, dd_check_history, dd_writer_of, dd_counts, dd_groups_of, dd_first_end, dd_last_begin, dd_is_ahead, dd_single_bar, dd_late_bar, dd_crossed_bar, dd_crossed, dd_raw_bar, dd_bar, dd_tail, dd_name_order, dd_right_order, dd_is_right_order, dd_are_behind, dd_are_told, dd_is_bar] : List He.DefD) ++ ([dd_is_single, dd_tells, dd_is_late, dd_is_crossed, dd_w_hand, dd_w_draw, dd_w_call, dd_w_history, dd_w_read, dd_w_is_int, dd_w_deep, dd_w_is_thing, dd_w_is_call, dd_w_due, dd_w_word, dd_w_bent, dd_law] : List He.DefD)
def faL : List He.Fa := ([.glo "is_integer", .glo "is_between", .glo "is_index", .glo "is_tuple_of", .glo "is_sign", .glo "is_signs", .glo "is_thing", .glo "is_call", .glo "moments_of", .glo "is_history", .glo "check_history", .glo "writer_of", .glo "counts", .glo "groups_of", .glo "first_end", .glo "last_begin", .glo "is_ahead", .glo "single_bar", .glo "late_bar", .glo "crossed_bar", .glo "crossed", .glo "raw_bar", .glo "bar", .glo "tail", .glo "name_order", .glo "right_order", .glo "is_right_order", .glo "are_behind", .glo "are_told", .glo "is_bar"] : List He.Fa) ++ ([.glo "is_single", .glo "tells", .glo "is_late", .glo "is_crossed", .glo "_law_hand", .glo "_law_draw", .glo "_law_call", .glo "_law_history", .glo "_law_read", .glo "_law_is_int", .glo "_law_deep", .glo "_law_is_thing", .glo "_law_is_call", .glo "_law_due", .glo "_law_word", .glo "_law_bent", .glo "law", .glo "HomeError", .exc "HomeError", .glo "NoHistory", .exc "NoHistory", .int "GREATEST" 999999999999999999999999999999, .str "READ" "read", .str "WRITE" "write", .int "MOST_TOLD" 5, .free "ValueError", .free "abs", .free "all", .free "any", .free "bool"] : List He.Fa) ++ ([.free "enumerate", .free "int", .free "isinstance", .free "len", .free "list", .free "max", .free "min", .free "range", .free "set", .free "sorted", .free "str", .free "tuple", .exm "NoHistory" "NoHistory" true] : List He.Fa)
def looseL : List Str := (["is_integer", "is_between", "is_index", "is_tuple_of", "is_sign", "is_signs", "is_thing", "is_call", "moments_of", "is_history", "check_history", "writer_of", "counts", "groups_of", "first_end", "last_begin", "is_ahead", "single_bar", "late_bar", "crossed_bar", "crossed", "raw_bar", "bar", "tail", "name_order", "right_order", "is_right_order", "are_behind", "are_told", "is_bar"] : List Str) ++ (["is_single", "tells", "is_late", "is_crossed", "_law_hand", "_law_draw", "_law_call", "_law_history", "_law_read", "_law_is_int", "_law_deep", "_law_is_thing", "_law_is_call", "_law_due", "_law_word", "_law_bent", "HomeError", "NoHistory", "GREATEST", "READ", "WRITE", "MOST_TOLD"] : List Str)
def exB (K : PySem.W.Frag) : Bool := true
abbrev R : PySem.W.OpenRow := PySem.W.OpenLaw.row PySem.Challenge.rw_homeshold_k49_histories_refused
abbrev hk : PySem.W.Hook := HK.hookT faL fnL exB
def ob (s : PySem.W.SharedT) : (He.AlD × Bool) := HK.obT faL fnL exB s
theorem ob_eq (s : PySem.W.SharedT) : ob s = hk.obs s.abs := HK.obT_eq s
theorem run (w : World) : HandSHeadRun.RunEq R (PySem.W.view R.prog [57]) hk ob 20000 looseL w := by
  intro os
  kernel_rfl
end K49

set_option Elab.async false
set_option linter.all false
set_option maxRecDepth 100000
set_option maxHeartbeats 4000000
/-! PD: plain data over the hand layer -/
namespace PD
noncomputable section
open PySem PySem.Spec PyProof.Rows L2

abbrev D := PyData
/-- the written part, with the program and the world -/
structure KW where
  K : PySem.W.Frag
  P : Program
  w : World
instance : CoeOut KW PySem.W.Frag := ⟨KW.K⟩
abbrev _root_.L2.Cx.kw (X : L2.Cx) : KW := ⟨X.K, X.prog, X.w⟩

/-- a dict whose keys are nested: each key, where its tuple stands, its value -/
def dNφ (P : Program) (w : World) (a : Addr) (es : List (NestedKey × Addr × V)) : Heap → Prop := fun h => es.length ≤ sizeLine ∧ (a == sysModules) = false ∧ ∃ xs : List (NestedKey × Addr × Value),
  Paired (fun (p : NestedKey × Addr × V) (q : NestedKey × Addr × Value) => p.1 = q.1 ∧ p.2.1 = q.2.1 ∧ RelV p.2.2 q.2.2) es xs ∧
  ∃ o en ep, h.get? a = some o ∧ o.ExactDict ∧ o.data = .dict en ep ∧ en.toList = xs.map (entryOfKey (nestedKind P w)) ∧ (xs.map (·.1)).Nodup
def dN (K : KW) (a : Addr) (es : List (NestedKey × Addr × V)) : HO := .ext (dNφ K.P K.w a es)
mutual
/-- data as a key -/
def nkD : D → Option NestedKey
  | .none => some .none
  | .bool b => some (.num (if b then 1 else 0))
  | .int i => some (.num i)
  | .str x => some (.text x)
  | .tuple xs => (nkDs xs).map .tup
  | _ => none
def nkDs : List D → Option (List NestedKey)
  | [] => some []
  | x :: xs => (nkD x).bind fun k => (nkDs xs).map fun ks => k :: ks
end
/-- a dict of which nothing but its kind is told -/
def dicS : D := .dict [(.none, .none)]
mutual
inductive Rp (K : KW) (G : Hp) : V → D → Prop
  | non : Rp K G .non .none
  | bl (b : Bool) : Rp K G (.bl b) (.bool b)
  | int (i : Int) : Rp K G (.int i) (.int i)
  | str (x : Str) : Rp K G (.str x) (.str x)
  | lst {a : Addr} {xs : List V} {ds : List D} : SqL K G a xs → RpA K G xs ds → Rp K G (.ref a) (.list ds)
  | tup {a : Addr} {xs : List V} {ds : List D} : SqT K G a xs → RpA K G xs ds → Rp K G (.ref a) (.tuple ds)
  | dic {a : Addr} {kvs : List (Key × V)} {kd : List (D × D)} : G a = some (.dK kvs) → kd = [(.none, .none)] → Rp K G (.ref a) (.dict kd)
  | dicN {a : Addr} {o : Obj} {es : List (NestedKey × Addr × V)} {kd : List (D × D)} : G a = some (.frz o (dN K a es)) → RpD K G es kd → Rp K G (.ref a) (.dict kd)
inductive RpA (K : KW) (G : Hp) : List V → List D → Prop
  | nil : RpA K G [] []
  | cons {v : V} {vs : List V} {d : D} {ds : List D} : Rp K G v d → RpA K G vs ds → RpA K G (v :: vs) (d :: ds)
inductive RpD (K : KW) (G : Hp) : List (NestedKey × Addr × V) → List (D × D) → Prop
  | nil : RpD K G [] []
  | cons {k : NestedKey} {b : Addr} {v : V} {es : List (NestedKey × Addr × V)} {d dv : D} {kd : List (D × D)} : Rp K G (.ref b) d → nkD d = some k → k.depth ≤ 8 → Rp K G v dv → RpD K G es kd → RpD K G ((k, b, v) :: es) ((d, dv) :: kd)
end

theorem seqT {K : KW} {H H' : Hp} {a : Addr} {xs : List V} (e : Same H H') (h : SqT K H a xs) : SqT K H' a xs := by
  rcases h with (h | ⟨o, h⟩) | h
  · exact .inl (.inl (e _ _ h))
  · exact .inl (.inr ⟨o, e _ _ h⟩)
  · exact .inr h
mutual
theorem Rp.mono {K : KW} {G G' : Hp} (s : Same G G') : ∀ {v : V} {d : D}, Rp K G v d → Rp K G' v d
  | _, _, .non => .non
  | _, _, .bl b => .bl b
  | _, _, .int i => .int i
  | _, _, .str x => .str x
  | _, _, .lst h r => .lst (Same.seq s h) (RpA.mono s r)
  | _, _, .tup h r => .tup (seqT s h) (RpA.mono s r)
  | _, _, .dic h e => .dic (s _ _ h) e
  | _, _, .dicN h r => .dicN (s _ _ h) (RpD.mono s r)
theorem RpA.mono {K : KW} {G G' : Hp} (s : Same G G') : ∀ {vs : List V} {ds : List D}, RpA K G vs ds → RpA K G' vs ds
  | _, _, .nil => .nil
  | _, _, .cons h r => .cons (Rp.mono s h) (RpA.mono s r)
theorem RpD.mono {K : KW} {G G' : Hp} (s : Same G G') : ∀ {es : List (NestedKey × Addr × V)} {kd : List (D × D)}, RpD K G es kd → RpD K G' es kd
  | _, _, .nil => .nil
  | _, _, .cons h e z h2 r => .cons (Rp.mono s h) e z (Rp.mono s h2) (RpD.mono s r)
end
theorem RpA.length {K : KW} {G : Hp} : ∀ {vs : List V} {ds : List D}, RpA K G vs ds → vs.length = ds.length
  | _, _, .nil => rfl
  | _, _, .cons _ r => by simp [RpA.length r]
theorem RpA.get {K : KW} {G : Hp} : ∀ {vs : List V} {ds : List D} {i : Nat} {d : D}, RpA K G vs ds → ds[i]? = some d → ∃ v, vs[i]? = some v ∧ Rp K G v d
  | _, _, _, _, .nil, e => by simp at e
  | _, _, 0, _, .cons h _, e => by simp at e; subst e; exact ⟨_, rfl, h⟩
  | _, _, i + 1, d, .cons _ r, e => by
    obtain ⟨v, a, b⟩ := RpA.get (i := i) (d := d) r (by simpa using e)
    exact ⟨v, by simpa using a, b⟩
theorem RpA.getV {K : KW} {G : Hp} : ∀ {vs : List V} {ds : List D} {i : Nat} {v : V}, RpA K G vs ds → vs[i]? = some v → ∃ d, ds[i]? = some d ∧ Rp K G v d
  | _, _, _, _, .nil, e => by simp at e
  | _, _, 0, _, .cons h _, e => by simp at e; subst e; exact ⟨_, rfl, h⟩
  | _, _, i + 1, d, .cons _ r, e => by
    obtain ⟨v, a, b⟩ := RpA.getV (i := i) (v := d) r (by simpa using e)
    exact ⟨v, by simpa using a, b⟩
theorem RpA.append {K : KW} {G : Hp} : ∀ {vs ws : List V} {ds es : List D}, RpA K G vs ds → RpA K G ws es → RpA K G (vs ++ ws) (ds ++ es)
  | _, _, _, _, .nil, s => s
  | _, _, _, _, .cons h r, s => .cons h (RpA.append r s)
theorem RpA.take {K : KW} {G : Hp} : ∀ {vs : List V} {ds : List D} (n : Nat), RpA K G vs ds → RpA K G (vs.take n) (ds.take n)
  | _, _, 0, _ => .nil
  | _, _, _ + 1, .nil => .nil
  | _, _, n + 1, .cons h r => .cons h (RpA.take n r)
theorem RpA.drop {K : KW} {G : Hp} : ∀ {vs : List V} {ds : List D} (n : Nat), RpA K G vs ds → RpA K G (vs.drop n) (ds.drop n)
  | _, _, 0, r => r
  | _, _, _ + 1, .nil => .nil
  | _, _, n + 1, .cons _ r => RpA.drop n r
theorem RpA.set {K : KW} {G : Hp} {v : V} {d : D} (h : Rp K G v d) : ∀ {vs : List V} {ds : List D} (n : Nat), RpA K G vs ds → RpA K G (vs.set n v) (ds.set n d)
  | _, _, _, .nil => .nil
  | _, _, 0, .cons _ r => .cons h r
  | _, _, n + 1, .cons q r => .cons q (RpA.set h n r)
theorem RpA.eraseIdx {K : KW} {G : Hp} : ∀ {vs : List V} {ds : List D} (n : Nat), RpA K G vs ds → RpA K G (vs.eraseIdx n) (ds.eraseIdx n)
  | _, _, _, .nil => .nil
  | _, _, 0, .cons _ r => r
  | _, _, n + 1, .cons q r => .cons q (RpA.eraseIdx n r)
theorem RpA.reverse {K : KW} {G : Hp} : ∀ {vs : List V} {ds : List D}, RpA K G vs ds → RpA K G vs.reverse ds.reverse
  | _, _, .nil => .nil
  | _, _, .cons h r => by
    rw [List.reverse_cons, List.reverse_cons]
    exact (RpA.reverse r).append (.cons h .nil)

/-! ### values and states -/
/-- a value: plain data; a cell that may change, by its number; a list that was just made and that nobody else has -/
inductive W where
  | d (x : D) | c (n : Nat) | f (xs : List D)
/-- what a cell holds -/
inductive Cell where
  | l (xs : List D) | m (kvs : List (Key × D)) | t (P : Addr) (q : Str)
/-- slots, cells (a dead one is none), how many cells are the callers' -/
structure S where
  env : List (Option W)
  mem : List (Option Cell)
  base : Nat
inductive Res (α : Type) where
  | ok (a : α) | exc (c : Str) | bad
def Res.bind {α β : Type} (r : Res α) (k : α → Res β) : Res β := match r with
  | .ok a => k a
  | .exc c => .exc c
  | .bad => .bad
theorem Res.bind_ok {α β : Type} (a : α) (k : α → Res β) : (Res.ok a).bind k = k a := rfl
theorem Res.bind_exc {α β : Type} (c : Str) (k : α → Res β) : (Res.exc c : Res α).bind k = .exc c := rfl
theorem Res.bind_bad {α β : Type} (k : α → Res β) : (Res.bad : Res α).bind k = .bad := rfl
abbrev EM := S → Res (W × S)

def CellAt (K : KW) (G H : Hp) (a : Addr) : Cell → Prop
  | .l xs => ∃ vs, H a = some (.lst vs) ∧ RpA K G vs xs
  | .m kvs => ∃ vs, H a = some (.dK vs) ∧ Paired (fun (p : Key × V) (q : Key × D) => p.1 = q.1 ∧ Rp K G p.2 q.2) vs kvs
  | .t P q => a = P ∧ ∃ ps : Array Value, H a = some (.tbl ps) ∧ TriplesOk ps.toList ∧ ∀ (pos : Pos) (cv : Value), codeAmong pos ps.toList = some cv → ∃ c, cv = .ref c ∧ G c = some (LamX.CodeO c q)
/-- v stands for w; F: what others own -/
def RpW (K : KW) (F : Addr → Prop) (G H : Hp) (as : List Addr) (v : V) : W → Prop
  | .d x => Rp K G v x
  | .c n => ∃ a, as[n]? = some a ∧ v = .ref a
  | .f xs => ∃ a vs, v = .ref a ∧ H a = some (.lst vs) ∧ G a = none ∧ a ∉ as ∧ ¬ F a ∧ RpA K G vs xs
def live (as : List Addr) (s : S) (a : Addr) : Prop := ∃ (n : Nat) (c : Cell), s.mem[n]? = some (some c) ∧ as[n]? = some a
structure Rep (K : KW) (F : Addr → Prop) (G H : Hp) (as : List Addr) (σ : L2.St) (s : S) : Prop where
  same : Same G H
  len : σ.length = s.env.length
  alen : as.length = s.mem.length
  nd : as.Nodup
  dom : ∀ a ∈ as, ∃ o, H a = some o
  fo : ∀ a, F a → G a = none ∧ a ∉ as ∧ ∃ o, H a = some o
  cell : ∀ (n : Nat) (c : Cell), s.mem[n]? = some (some c) → ∃ a, as[n]? = some a ∧ G a = none ∧ CellAt K G H a c
  env : ∀ (i : Nat) (w : W), s.env[i]? = some (some w) → ∃ v, σ[i]? = some (some v) ∧ RpW K F G H as v w ∧ ∀ xs, w ≠ .f xs
structure Ext (G H : Hp) (L : Addr → Prop) (G' H' : Hp) (L' : Addr → Prop) : Prop where
  same : Same G G'
  keep : ∀ a o, H a = some o → ¬ L a → H' a = some o
  new : ∀ a, L' a → L a ∨ H a = none
theorem Ext.refl (G H : Hp) (L : Addr → Prop) : Ext G H L G H L := ⟨Same.refl _, fun _ _ h _ => h, fun _ h => .inl h⟩
theorem Ext.nl {G H G1 H1 : Hp} {L L1 : Addr → Prop} (a : Ext G H L G1 H1 L1) {x : Addr} {o : HO} (h : H x = some o) (nl : ¬ L x) : ¬ L1 x := fun q => by
  rcases a.new x q with z | z
  · exact nl z
  · rw [h] at z; cases z
theorem Ext.trans {G H G1 H1 G2 H2 : Hp} {L L1 L2 : Addr → Prop} (a : Ext G H L G1 H1 L1) (b : Ext G1 H1 L1 G2 H2 L2) : Ext G H L G2 H2 L2 := by
  refine ⟨a.same.trans b.same, fun x o h n => b.keep x o (a.keep x o h n) (a.nl h n), fun x h => ?_⟩
  rcases b.new x h with z | z
  · exact a.new x z
  · by_cases q : L x
    · exact .inl q
    · refine .inr ?_
      cases e : H x with
      | none => rfl
      | some o => rw [a.keep x o e q] at z; cases z
/-- what is pending: a list that was just made -/
def pn (F : Addr → Prop) (v : V) (w : W) (a : Addr) : Prop := F a ∨ ((∃ xs, w = .f xs) ∧ v = .ref a)
theorem not_live {as : List Addr} {s : S} {a : Addr} (h : a ∉ as) : ¬ live as s a := fun ⟨_, _, _, q⟩ => h (List.mem_of_getElem? q)
theorem RpW.mono {K : KW} {F : Addr → Prop} {G H G' H' : Hp} {L' : Addr → Prop} {as : List Addr} {s s' : S} {σ' : L2.St} {v : V} {w : W} (h : RpW K F G H as v w) (R : Rep K (pn F v w) G' H' as σ' s') (e : Ext G H (live as s) G' H' L') : RpW K F G' H' as v w := by
  cases w with
  | d x => exact Rp.mono e.same h
  | c n => exact h
  | f xs =>
    obtain ⟨a, vs, rfl, h1, h2, h3, h4, h5⟩ := h
    exact ⟨a, vs, rfl, e.keep _ _ h1 (not_live h3), (R.fo a (.inr ⟨⟨xs, rfl⟩, rfl⟩)).1, h3, h4, h5.mono e.same⟩
theorem RpW.weak {K : KW} {F F' : Addr → Prop} {G H : Hp} {as : List Addr} {v : V} {w : W} (h : RpW K F' G H as v w) (k : ∀ a, F a → F' a) : RpW K F G H as v w := by
  cases w with
  | d x => exact h
  | c n => exact h
  | f xs =>
    obtain ⟨a, vs, e, h1, h2, h3, h4, h5⟩ := h
    exact ⟨a, vs, e, h1, h2, h3, fun q => h4 (k a q), h5⟩
/-- fewer others -/
theorem Rep.weak {K : KW} {F F' : Addr → Prop} {G H : Hp} {as : List Addr} {σ : L2.St} {s : S} (R : Rep K F' G H as σ s) (k : ∀ a, F a → F' a) : Rep K F G H as σ s :=
  ⟨R.same, R.len, R.alen, R.nd, R.dom, fun a h => R.fo a (k a h), R.cell, fun i w h => by
    obtain ⟨v, e, r, n⟩ := R.env i w h
    exact ⟨v, e, r.weak k, n⟩⟩
theorem RpW.noF {K : KW} {F F' : Addr → Prop} {G H : Hp} {as : List Addr} {v : V} {w : W} (h : RpW K F G H as v w) (n : ∀ xs, w ≠ .f xs) : RpW K F' G H as v w := by
  cases w with
  | d x => exact h
  | c m => exact h
  | f xs => exact absurd rfl (n xs)
/-- one more other -/
theorem Rep.pend {K : KW} {F : Addr → Prop} {G H : Hp} {as : List Addr} {σ : L2.St} {s : S} {v : V} {w : W} (R : Rep K F G H as σ s) (r : RpW K F G H as v w) : Rep K (pn F v w) G H as σ s :=
  ⟨R.same, R.len, R.alen, R.nd, R.dom, fun a h => by
    rcases h with h | ⟨⟨xs, rfl⟩, e⟩
    · exact R.fo a h
    · obtain ⟨b, vs, rfl, h1, h2, h3, h4, h5⟩ := r
      cases e
      exact ⟨h2, h3, _, h1⟩, R.cell, fun i w' h => by
    obtain ⟨v', e, r', n⟩ := R.env i w' h
    exact ⟨v', e, r'.noF n, n⟩⟩
theorem Rep.unpend {K : KW} {F : Addr → Prop} {G H : Hp} {as : List Addr} {σ : L2.St} {s : S} {v : V} {w : W} (R : Rep K (pn F v w) G H as σ s) : Rep K F G H as σ s := R.weak fun _ h => .inl h

/-! ### expressions -/
/-- a list that was made since H -/
def New (H : Hp) (v : V) (w : W) : Prop := ∀ xs a, w = .f xs → v = .ref a → H a = none
/-- behind a step from (G, H, s) that gives r, Q is wanted -/
def eK (K : KW) (mg : Str → Option Value) (E : XK) (F : Addr → Prop) (G H : Hp) (as : List Addr) (s : S) (σ : L2.St) (r : Res (W × S)) (Q : VK) : Prop := match r with
  | .ok (w, s') => ∀ v G' H', Rep K F G' H' as σ s' → Ext G H (live as s) G' H' (live as s') → RpW K F G' H' as v w → New H v w → Q v H'
  | .exc c => ∀ C H', mg c = some (.ref C) → (∀ a o, H a = some o → ¬ live as s a → H' a = some o) → E (.ref C) none H'
  | .bad => False
def eT (K : KW) (mg : Str → Option Value) (E : XK) (f : EM) : TE := fun σ H Q => ∃ (F : Addr → Prop) (G : Hp) (as : List Addr) (s : S), Rep K F G H as σ s ∧ eK K mg E F G H as s σ (f s) Q
structure PDE (X : Cx) (E : XK) (e : Expr) (f : EM) : Prop where
  pe : PE X e (eT X.kw X.mg E f)
section
variable {K : KW} {mg : Str → Option Value} {E : XK} {F : Addr → Prop} {G H G1 H1 : Hp} {as : List Addr} {s s1 : S} {σ : L2.St}
theorem keepX {H' : Hp} {L L1 : Addr → Prop} (e : Ext G H L G1 H1 L1) (k : ∀ a o, H1 a = some o → ¬ L1 a → H' a = some o) : ∀ a o, H a = some o → ¬ L a → H' a = some o := fun a o h n =>
  k a o (e.keep a o h n) (e.nl h n)
theorem newX {a : Addr} (R : Rep K F G H as σ s) (R1 : Rep K F G1 H1 as σ s1) (e : Ext G H (live as s) G1 H1 (live as s1)) (h : H1 a = none) : H a = none := by
  cases q : H a with
  | none => rfl
  | some o =>
    by_cases l : live as s a
    · obtain ⟨n, c, _, z⟩ := l
      obtain ⟨o', z'⟩ := R1.dom a (List.mem_of_getElem? z)
      rw [h] at z'; cases z'
    · rw [e.keep a o q l] at h; cases h
theorem eK.ext {r : Res (W × S)} {Q : VK} (h : eK K mg E F G H as s σ r Q) (R : Rep K F G H as σ s) (R1 : Rep K F G1 H1 as σ s1) (e : Ext G H (live as s) G1 H1 (live as s1)) : eK K mg E F G1 H1 as s1 σ r Q := by
  cases r with
  | ok p => exact fun v G' H' R' x w n => h v G' H' R' (e.trans x) w fun xs a hw hv => newX R R1 e (n xs a hw hv)
  | exc c => exact fun C H' hc k => h C H' hc (keepX e k)
  | bad => exact h
/-- from one step to the next one -/
theorem eT.seq {fa : EM} {k : W × S → Res (W × S)} {Q Q1 : VK} (R : Rep K F G H as σ s) (h : eK K mg E F G H as s σ ((fa s).bind k) Q)
    (hk : ∀ (G1 H1 : Hp) (w : W) (s1 : S) (v : V), Rep K F G1 H1 as σ s1 → Ext G H (live as s) G1 H1 (live as s1) → RpW K F G1 H1 as v w → New H v w → eK K mg E F G1 H1 as s1 σ (k (w, s1)) Q → Q1 v H1) : eT K mg E fa σ H Q1 := by
  refine ⟨F, G, as, s, R, ?_⟩
  cases e : fa s with
  | ok p =>
    obtain ⟨w, s1⟩ := p
    rw [e] at h
    exact fun v G1 H1 R1 X1 r n => hk G1 H1 w s1 v R1 X1 r n (eK.ext h R R1 X1)
  | exc c => rw [e] at h; exact h
  | bad => rw [e] at h; exact h
/-- .. with a value v0 that waits -/
theorem eT.seqP {fa : EM} {k : W × S → Res (W × S)} {Q Q1 : VK} {v0 : V} {w0 : W} (R : Rep K F G H as σ s) (r0 : RpW K F G H as v0 w0) (h : eK K mg E F G H as s σ ((fa s).bind k) Q)
    (hk : ∀ (G1 H1 : Hp) (w : W) (s1 : S) (v : V), Rep K F G1 H1 as σ s1 → Ext G H (live as s) G1 H1 (live as s1) → RpW K F G1 H1 as v0 w0 → RpW K F G1 H1 as v w → New H v w → eK K mg E F G1 H1 as s1 σ (k (w, s1)) Q → Q1 v H1) : eT K mg E fa σ H Q1 := by
  refine ⟨pn F v0 w0, G, as, s, R.pend r0, ?_⟩
  cases e : fa s with
  | ok p =>
    obtain ⟨w, s1⟩ := p
    rw [e] at h
    exact fun v G1 H1 R1 X1 r n => hk G1 H1 w s1 v R1.unpend X1 (r0.mono R1 X1) (r.weak fun _ z => .inl z) n (eK.ext h R R1.unpend X1)
  | exc c => rw [e] at h; exact h
  | bad => rw [e] at h; exact h
end
theorem PE.imp {X : Cx} {e : Expr} {t t' : TE} (h : PE X e t) (k : ∀ σ H Q, t' σ H Q → t σ H Q) : PE X e t' := ⟨fun pins s σ H Q I q => h.run pins s σ H Q I (k σ H Q q)⟩
theorem PT.imp {X : Cx} {e : Expr} {t t' : TT} (h : PT X e t) (k : ∀ σ H Q, t' σ H Q → t σ H Q) : PT X e t' := ⟨fun pins s σ H Q I q => h.run pins s σ H Q I (k σ H Q q)⟩
theorem PW.imp {X : Cx} {e : Expr} {t t' : TT} (h : PW X e t) (k : ∀ σ H Q, t' σ H Q → t σ H Q) : PW X e t' := ⟨fun wh pins s σ H Q I q => h.run wh pins s σ H Q I (k σ H Q q)⟩
theorem PA.imp {X : Cx} {e : List Expr} {t t' : TA} (h : PA X e t) (k : ∀ σ H Q, t' σ H Q → t σ H Q) : PA X e t' := ⟨fun pos pins s σ H Q I q => h.run pos pins s σ H Q I (k σ H Q q)⟩
theorem PS.imp {X : Cx} {e : Stmt} {t t' : TS} (h : PS X e t) (k : ∀ D σ H, t' D σ H → t D σ H) : PS X e t' := ⟨fun pins s σ H D I q => h.run pins s σ H D I (k D σ H q)⟩
theorem PSs.imp {X : Cx} {e : List Stmt} {t t' : TS} (h : PSs X e t) (k : ∀ D σ H, t' D σ H → t D σ H) : PSs X e t' := ⟨fun pins s σ H D I q => h.run pins s σ H D I (k D σ H q)⟩


section
variable {X : Cx} {E : XK} {a b c : Expr} {fa fb fc : EM} {pos : Pos}
/-! ### names and constants -/
def eVar (i : Nat) : EM := fun s => match s.env[i]? with
  | some (some w) => .ok (w, s)
  | _ => .bad
theorem pd_var (i : Nat) {x : Str} {pos : Pos} (hN : X.N[i]? = some x := by rfl) (hv : Vis X.env.scope x := by first | exact Or.inl rfl | exact Or.inr (Or.inl rfl) | exact Or.inr (Or.inr rfl)) (hd : (x == ("__debug__" : Str)) = false := by decide)
    (hcd : (x == ("__classdict__" : Str)) = false := by decide) : PDE X E (.Name x pos) (eVar i) := ⟨PE.imp (pe_var hN hv hd hcd) fun σ H Q h => by
  obtain ⟨F, G, as, s, R, h⟩ := h
  unfold eVar at h
  split at h
  · rename_i w e
    obtain ⟨v, e1, r, nf⟩ := R.env i w e
    exact ⟨v, e1, h v G H R (Ext.refl _ _ _) r fun xs a e _ => absurd e (nf xs)⟩
  · exact h.elim⟩
def eC (x : D) : EM := fun s => .ok (.d x, s)
theorem pd_const {e : Expr} {v : V} {x : D} (h : PE X e (tC v)) (r : ∀ G, Rp X.kw G v x) : PDE X E e (eC x) := ⟨PE.imp h fun σ H Q h => by
  obtain ⟨F, G, as, s, R, h⟩ := h
  exact h v G H R (Ext.refl _ _ _) (r G) (fun _ _ e _ => nomatch e)⟩
theorem pd_int {i j pos} : PDE X E (.Constant (.int i) j pos) (eC (.int i)) := pd_const pe_int fun _ => .int i
theorem pd_bl {b j pos} : PDE X E (.Constant (.bool b) j pos) (eC (.bool b)) := pd_const pe_bl fun _ => .bl b
theorem pd_non {j pos} : PDE X E (.Constant .none j pos) (eC .none) := pd_const pe_non fun _ => .non
theorem pd_str {x j pos} : PDE X E (.Constant (.str x) j pos) (eC (.str x)) := pd_const pe_str fun _ => .str x
theorem pd_gint {x : Str} {pos : Pos} {i : Int} (hm : ∃ t, X.mg x = some (.int i t)) (hg : Gl X x := by rfl) (hd : (x == ("__debug__" : Str)) = false := by decide) : PDE X E (.Name x pos) (eC (.int i)) := by
  obtain ⟨t, hm⟩ := hm
  exact pd_const (pe_glob hg hm (show RelV (V.int i) _ from ⟨t, rfl⟩) hd) fun _ => .int i
theorem pd_gstr {x : Str} {pos : Pos} {z : Str} (hm : ∃ t, X.mg x = some (.str z t)) (hg : Gl X x := by rfl) (hd : (x == ("__debug__" : Str)) = false := by decide) : PDE X E (.Name x pos) (eC (.str z)) := by
  obtain ⟨t, hm⟩ := hm
  exact pd_const (pe_glob hg hm (show RelV (V.str z) _ from ⟨t, rfl⟩) hd) fun _ => .str z

/-! ### operators by values -/
/-- r is met where g tells what comes -/
def OpD (X : Cx) (E : XK) (r : R2) (g : W → W → EM) : Prop := ∀ (F : Addr → Prop) (G H : Hp) (as : List Addr) (s : S) (σ : L2.St) (x y : V) (wa wb : W) (Q : VK), Rep X.kw F G H as σ s → RpW X.kw F G H as x wa → RpW X.kw F G H as y wb → eK X.kw X.mg E F G H as s σ (g wa wb s) Q → r x y H Q
def eBin (g : W → W → EM) (fa fb : EM) : EM := fun s => (fa s).bind fun p => (fb p.2).bind fun q => g p.1 q.1 q.2
theorem bin_ok {r : R2} {g : W → W → EM} (hg : OpD X E r g) (σ : L2.St) (H : Hp) (Q : VK) (h : eT X.kw X.mg E (eBin g fa fb) σ H Q) : tOp r (eT X.kw X.mg E fa) (eT X.kw X.mg E fb) σ H Q := by
  obtain ⟨F, G, as, s, R, h⟩ := h
  refine eT.seq R h fun G1 H1 w s1 v R1 X1 r1 _ h1 => ?_
  refine eT.seqP R1 r1 h1 fun G2 H2 w2 s2 v2 R2 X2 r1 r2 _ h2 => ?_
  exact hg F G2 H2 as s2 σ v v2 w w2 Q R2 r1 r2 h2
theorem pd_op {op : Operator} {r : R2} {g : W → W → EM} (ho : OpR X (binaryOp op) r) (hg : OpD X E r g) (ha : PDE X E a fa) (hb : PDE X E b fb) : PDE X E (.BinOp a op b pos) (eBin g fa fb) :=
  ⟨PE.imp (pe_op ho ha.pe hb.pe) (bin_ok hg)⟩
theorem pd_cmp {op : CmpOp} {r : R2} {g : W → W → EM} (ho : OpR X (compareOp op) r) (hg : OpD X E r g) (ha : PDE X E a fa) (hb : PDE X E b fb) (hm : behindInMarks op b = false := by first | exact nomark _ | rfl) : PDE X E (.Compare a [op] [b] pos) (eBin g fa fb) :=
  ⟨PE.imp (pe_cmpR ho ha.pe hb.pe hm) (bin_ok hg)⟩
/-- a plain answer -/
theorem eK.val {F : Addr → Prop} {G H : Hp} {as : List Addr} {s : S} {σ : L2.St} {K : KW} {mg : Str → Option Value} {x : D} {v : V} {Q : VK} (R : Rep K F G H as σ s) (h : eK K mg E F G H as s σ (.ok (.d x, s)) Q) (r : Rp K G v x) : Q v H := h v G H R (Ext.refl _ _ _) r (fun _ _ e _ => nomatch e)
/-- two ints -/
def g2I (f : Int → Int → Option D) : W → W → EM := fun wa wb s => match wa, wb with
  | .d (.int i), .d (.int j) => (match f i j with
    | some x => .ok (.d x, s)
    | none => .bad)
  | _, _ => .bad
theorem g2I_ok {f : Int → Int → Option D} {wa wb : W} {s : S} {K : KW} {mg : Str → Option Value} {F : Addr → Prop} {G H : Hp} {as : List Addr} {σ : L2.St} {x y : V} {Q : VK} (ra : RpW K F G H as x wa) (rb : RpW K F G H as y wb) (h : eK K mg E F G H as s σ (g2I f wa wb s) Q) :
    ∃ i j z, x = .int i ∧ y = .int j ∧ f i j = some z ∧ eK K mg E F G H as s σ (.ok (.d z, s)) Q := by
  unfold g2I at h
  split at h
  · rename_i i j
    split at h
    · rename_i z e
      cases ra; cases rb
      exact ⟨i, j, z, rfl, rfl, e, h⟩
    · exact h.elim
  · exact h.elim
theorem od_int {f : Int → Int → Int} : OpD X E (rI0 fun i j => .int (f i j)) (g2I fun i j => some (.int (f i j))) := fun F G H as s σ x y wa wb Q R ra rb h => by
  obtain ⟨i, j, z, rfl, rfl, e, h⟩ := g2I_ok ra rb h
  cases e
  exact ⟨i, j, rfl, rfl, eK.val R h (.int _)⟩
theorem od_intC {f : Int → Int → Int} {C : Int → Int → Prop} {cb : Int → Int → Bool} (hc : ∀ i j, cb i j = true → C i j) : OpD X E (rI C fun i j => .int (f i j)) (g2I fun i j => if cb i j then some (.int (f i j)) else none) := fun F G H as s σ x y wa wb Q R ra rb h => by
  obtain ⟨i, j, z, rfl, rfl, e, h⟩ := g2I_ok ra rb h
  split at e
  · rename_i hb
    cases e
    exact ⟨i, j, rfl, rfl, hc _ _ hb, eK.val R h (.int _)⟩
  · cases e
theorem od_bool {f : Int → Int → Bool} : OpD X E (rI0 fun i j => .bl (f i j)) (g2I fun i j => some (.bool (f i j))) := fun F G H as s σ x y wa wb Q R ra rb h => by
  obtain ⟨i, j, z, rfl, rfl, e, h⟩ := g2I_ok ra rb h
  cases e
  exact ⟨i, j, rfl, rfl, eK.val R h (.bl _)⟩
abbrev eAdd := eBin (g2I fun i j => some (.int (i + j)))
abbrev eSub := eBin (g2I fun i j => some (.int (i - j)))
theorem pd_addI (ha : PDE X E a fa) (hb : PDE X E b fb) : PDE X E (.BinOp a .Add b pos) (eAdd fa fb) := pd_op op_add od_int ha hb
theorem pd_subI (ha : PDE X E a fa) (hb : PDE X E b fb) : PDE X E (.BinOp a .Sub b pos) (eSub fa fb) := pd_op op_sub od_int ha hb
abbrev eLt := eBin (g2I fun i j => some (.bool (decide (i < j))))
abbrev eLe := eBin (g2I fun i j => some (.bool (decide (i ≤ j))))
abbrev eGt := eBin (g2I fun i j => some (.bool (decide (j < i))))
abbrev eGe := eBin (g2I fun i j => some (.bool (decide (j ≤ i))))
theorem pd_lt (ha : PDE X E a fa) (hb : PDE X E b fb) : PDE X E (.Compare a [.Lt] [b] pos) (eLt fa fb) := pd_cmp op_lt od_bool ha hb
theorem pd_le (ha : PDE X E a fa) (hb : PDE X E b fb) : PDE X E (.Compare a [.LtE] [b] pos) (eLe fa fb) := pd_cmp op_le od_bool ha hb
theorem pd_gt (ha : PDE X E a fa) (hb : PDE X E b fb) : PDE X E (.Compare a [.Gt] [b] pos) (eGt fa fb) := pd_cmp op_gt od_bool ha hb
theorem pd_ge (ha : PDE X E a fa) (hb : PDE X E b fb) : PDE X E (.Compare a [.GtE] [b] pos) (eGe fa fb) := pd_cmp op_ge od_bool ha hb
end
end
end PD

set_option Elab.async false
set_option linter.all false
set_option maxRecDepth 100000
set_option maxHeartbeats 4000000
namespace PD
noncomputable section
open PySem PySem.Spec PyProof.Rows L2

/-! ### what a value is as data -/
def dat (s : S) : W → Option D
  | .d x => some x
  | .c n => (match s.mem[n]? with
    | some (some (.l xs)) => some (.list xs)
    | _ => none)
  | .f xs => some (.list xs)
section
variable {K : KW} {mg : Str → Option Value} {E : XK} {F : Addr → Prop} {G H : Hp} {as : List Addr} {s : S} {σ : L2.St} {v : V} {w : W} {x : D} {xs : List D}
theorem Rep.cellAt (R : Rep K F G H as σ s) {n : Nat} {a : Addr} {c : Cell} (e : s.mem[n]? = some (some c)) (ha : as[n]? = some a) : G a = none ∧ CellAt K G H a c := by
  obtain ⟨b, e1, e2, e3⟩ := R.cell n c e
  rw [ha] at e1; cases e1
  exact ⟨e2, e3⟩
theorem dat_c {n : Nat} (h : dat s (.c n) = some x) : ∃ xs, s.mem[n]? = some (some (.l xs)) ∧ x = .list xs := by
  have h2 : (match s.mem[n]? with
    | some (some (.l xs)) => some (PyData.list xs)
    | _ => none) = some x := h
  split at h2
  · rename_i xs e
    exact ⟨xs, e, (Option.some.inj h2).symm⟩
  · cases h2
theorem dat_rp (R : Rep K F G H as σ s) (r : RpW K F G H as v w) (h : dat s w = some x) : Rp K H v x := by
  cases w with
  | d y => cases h; exact Rp.mono R.same r
  | c n =>
    obtain ⟨a, ha, rfl⟩ := r
    obtain ⟨xs, e, rfl⟩ := dat_c h
    obtain ⟨_, vs, h1, h2⟩ := R.cellAt e ha
    exact .lst (SqL.of h1) (h2.mono R.same)
  | f xs =>
    cases h
    obtain ⟨a, vs, rfl, h1, _, _, _, h2⟩ := r
    exact .lst (SqL.of h1) (h2.mono R.same)
/-- a list, by its items -/
theorem dat_lst (R : Rep K F G H as σ s) (r : RpW K F G H as v w) (h : dat s w = some (.list xs)) : ∃ a vs, v = .ref a ∧ SqL K H a vs ∧ RpA K G vs xs := by
  cases w with
  | d y =>
    cases h
    cases r with
    | lst h1 h2 => exact ⟨_, _, rfl, Same.seq R.same h1, h2⟩
  | c n =>
    obtain ⟨a, ha, rfl⟩ := r
    obtain ⟨ys, e, e2⟩ := dat_c h
    cases e2
    obtain ⟨_, vs, h1, h2⟩ := R.cellAt e ha
    exact ⟨a, vs, rfl, SqL.of h1, h2⟩
  | f ys =>
    cases h
    obtain ⟨a, vs, rfl, h1, _, _, _, h2⟩ := r
    exact ⟨a, vs, rfl, SqL.of h1, h2⟩
theorem dat_tup (R : Rep K F G H as σ s) (r : RpW K F G H as v w) (h : dat s w = some (.tuple xs)) : w = .d (.tuple xs) ∧ ∃ a vs, v = .ref a ∧ SqT K H a vs ∧ RpA K G vs xs := by
  cases w with
  | d y =>
    cases h
    cases r with
    | tup h1 h2 => exact ⟨rfl, _, _, rfl, seqT R.same h1, h2⟩
  | c n =>
    obtain ⟨ys, e, e2⟩ := dat_c h
    cases e2
  | f ys => cases h
theorem dat_int (r : RpW K F G H as v w) {i : Int} (h : dat s w = some (.int i)) : v = .int i := by
  cases w with
  | d y => cases h; cases r; rfl
  | c n => obtain ⟨ys, e, e2⟩ := dat_c h; cases e2
  | f ys => cases h
theorem dat_str (r : RpW K F G H as v w) {i : Str} (h : dat s w = some (.str i)) : v = .str i := by
  cases w with
  | d y => cases h; cases r; rfl
  | c n => obtain ⟨ys, e, e2⟩ := dat_c h; cases e2
  | f ys => cases h
end

mutual
theorem dp_of {K : KW} {H : Hp} : ∀ {v : V} {x : D}, Rp K H v x → PyData.canLay0 x = true → Dp K H v x
  | _, _, .non, _ => .non
  | _, _, .bl b, _ => .bl b
  | _, _, .int i, _ => .int i
  | _, _, .str x, _ => .str x
  | _, _, .lst h r, c => .lst h (dpA_of r c)
  | _, _, .tup h r, c => .tup h (dpA_of r c)
  | _, _, .dic _ _, c => nomatch c
  | _, _, .dicN _ _, c => nomatch c
theorem dpA_of {K : KW} {H : Hp} : ∀ {vs : List V} {xs : List D}, RpA K H vs xs → PyData.canLayAll0 xs = true → DpAll K H vs xs
  | _, _, .nil, _ => .nil
  | _, _, .cons h r, c => .cons (dp_of h (Bool.and_eq_true_iff.mp c).1) (dpA_of r (Bool.and_eq_true_iff.mp c).2)
end

/-! ### == and != -/
@[simp] def scD : D → D → Bool
  | .none, .none => true | .none, .int _ => true | .int _, .none => true | .none, .bool _ => true | .bool _, .none => true | .none, .str _ => true | .str _, .none => true
  | .int _, .int _ => true | .bool _, .bool _ => true | .str _, .str _ => true
  | .int _, .str _ => true | .str _, .int _ => true | .bool _, .str _ => true | .str _, .bool _ => true
  | _, _ => false
theorem scal_eq {K : KW} {H : Hp} {v u : V} {x y : D} (h : scD x y = true) (rx : Rp K H v x) (ry : Rp K H u y) : scal v u = true ∧ decide (v = u) = PyData.eqv x y := by
  cases rx <;> cases ry <;> first
    | (exfalso; revert h; decide)
    | (exfalso; revert h; simp [scD]; done)
    | exact ⟨rfl, rfl⟩
    | (refine ⟨rfl, ?_⟩; simp [PyData.eqv]; done)
    | (refine ⟨rfl, ?_⟩; simp only [PyData.eqv]; rw [Bool.eq_iff_iff]; simp; done)
def gEq (n : Bool) : W → W → EM := fun wa wb s => match dat s wa, dat s wb with
  | some x, some y => if scD x y || (SeqAt.shaped x && SeqAt.shaped y) then .ok (.d (.bool (if n then !PyData.eqv x y else PyData.eqv x y)), s) else .bad
  | _, _ => .bad
section
variable {X : Cx} {E : XK} {a b c : Expr} {fa fb fc : EM} {pos : Pos} {k : Nat}
theorem od_eq : OpD X E (fun x y H Q => rEq x y H Q ∨ rEqD X.K x y H Q) (gEq false) := fun F G H as s σ x y wa wb Q R ra rb h => by
  unfold gEq at h
  split at h
  · rename_i dx dy e1 e2
    split at h
    · rename_i hc
      rcases Bool.or_eq_true_iff.mp hc with hs | hs
      · obtain ⟨h1, h2⟩ := scal_eq hs (dat_rp R ra e1) (dat_rp R rb e2)
        exact .inl ⟨h1, by rw [h2]; exact eK.val R h (.bl _)⟩
      · obtain ⟨s1, s2⟩ := Bool.and_eq_true_iff.mp hs
        exact .inr ⟨dx, dy, dp_of (dat_rp R ra e1) (SeqAt.canLay_of_shaped s1), dp_of (dat_rp R rb e2) (SeqAt.canLay_of_shaped s2), s1, s2, eK.val R h (.bl _)⟩
    · exact h.elim
  · exact h.elim
theorem od_ne : OpD X E (fun x y H Q => rNe x y H Q ∨ rNeD X.K x y H Q) (gEq true) := fun F G H as s σ x y wa wb Q R ra rb h => by
  unfold gEq at h
  split at h
  · rename_i dx dy e1 e2
    split at h
    · rename_i hc
      rcases Bool.or_eq_true_iff.mp hc with hs | hs
      · obtain ⟨h1, h2⟩ := scal_eq hs (dat_rp R ra e1) (dat_rp R rb e2)
        exact .inl ⟨h1, by rw [h2]; exact eK.val R h (.bl _)⟩
      · obtain ⟨s1, s2⟩ := Bool.and_eq_true_iff.mp hs
        exact .inr ⟨dx, dy, dp_of (dat_rp R ra e1) (SeqAt.canLay_of_shaped s1), dp_of (dat_rp R rb e2) (SeqAt.canLay_of_shaped s2), s1, s2, eK.val R h (.bl _)⟩
    · exact h.elim
  · exact h.elim
abbrev eEq := eBin (gEq false)
abbrev eNe := eBin (gEq true)
theorem pd_eq (hr : Room k X.A) (ha : PDE X E a fa) (hb : PDE X E b fb) : PDE X E (.Compare a [.Eq] [b] pos) (eEq fa fb) := pd_cmp (op_eq.or (op_eqD hr.units)) od_eq ha hb
theorem pd_ne (hr : Room k X.A) (ha : PDE X E a fa) (hb : PDE X E b fb) : PDE X E (.Compare a [.NotEq] [b] pos) (eNe fa fb) := pd_cmp (op_ne.or (op_neD hr.units)) od_ne ha hb
/-! ### is None -/
def gIsN (n : Bool) : W → W → EM := fun wa wb s => match wb with
  | .d .none => .ok (.d (.bool (match wa with
    | .d .none => !n
    | _ => n)), s)
  | _ => .bad
theorem isN_dec {K : KW} {F : Addr → Prop} {G H : Hp} {as : List Addr} {v : V} {w : W} (r : RpW K F G H as v w) : decide (v = .non) = (match w with
    | .d .none => true
    | _ => false) := by
  cases w with
  | d x => cases r <;> rfl
  | c n => obtain ⟨a, _, rfl⟩ := r; rfl
  | f xs => obtain ⟨a, _, rfl, _⟩ := r; rfl
theorem od_isN : OpD X E (fun x y H Q => y = .non ∧ Q (.bl (decide (x = .non))) H) (gIsN false) := fun F G H as s σ x y wa wb Q R ra rb h => by
  unfold gIsN at h
  split at h
  · cases rb
    refine ⟨rfl, ?_⟩
    rw [isN_dec ra]
    refine eK.val R h ?_
    cases wa with
    | d z => cases z <;> exact .bl _
    | _ => exact .bl _
  · exact h.elim
theorem od_notN : OpD X E (fun x y H Q => y = .non ∧ Q (.bl (!decide (x = .non))) H) (gIsN true) := fun F G H as s σ x y wa wb Q R ra rb h => by
  unfold gIsN at h
  split at h
  · cases rb
    refine ⟨rfl, ?_⟩
    rw [isN_dec ra]
    refine eK.val R h ?_
    cases wa with
    | d z => cases z <;> exact .bl _
    | _ => exact .bl _
  · exact h.elim
abbrev eIsN := eBin (gIsN false)
abbrev eNotN := eBin (gIsN true)
theorem pd_isN (ha : PDE X E a fa) (hb : PDE X E b fb) : PDE X E (.Compare a [.Is] [b] pos) (eIsN fa fb) := pd_cmp op_isN od_isN ha hb
theorem pd_notN (ha : PDE X E a fa) (hb : PDE X E b fb) : PDE X E (.Compare a [.IsNot] [b] pos) (eNotN fa fb) := pd_cmp op_notN od_notN ha hb

/-! ### and, or, not as values; if-expressions; tests -/
abbrev TM := S → Res (Bool × S)
def tK (K : KW) (mg : Str → Option Value) (E : XK) (F : Addr → Prop) (G H : Hp) (as : List Addr) (s : S) (σ : L2.St) (r : Res (Bool × S)) (Q : Bool → Hp → Prop) : Prop := match r with
  | .ok (b, s') => ∀ G' H', Rep K F G' H' as σ s' → Ext G H (live as s) G' H' (live as s') → Q b H'
  | .exc c => ∀ C H', mg c = some (.ref C) → (∀ a o, H a = some o → ¬ live as s a → H' a = some o) → E (.ref C) none H'
  | .bad => False
def tT (K : KW) (mg : Str → Option Value) (E : XK) (f : TM) : TT := fun σ H Q => ∃ (F : Addr → Prop) (G : Hp) (as : List Addr) (s : S), Rep K F G H as σ s ∧ tK K mg E F G H as s σ (f s) Q
structure PDT (X : Cx) (E : XK) (e : Expr) (f : TM) : Prop where
  pt : PT X e (tT X.kw X.mg E f)
structure PDW (X : Cx) (E : XK) (e : Expr) (f : TM) : Prop where
  pw : PW X e (tT X.kw X.mg E f)
theorem PDW.t {e : Expr} {f : TM} (h : PDW X E e f) : PDT X E e f := ⟨h.pw.pt⟩
theorem tK.ext {K : KW} {mg : Str → Option Value} {F : Addr → Prop} {G H G1 H1 : Hp} {as : List Addr} {s s1 : S} {σ : L2.St} {r : Res (Bool × S)} {Q : Bool → Hp → Prop} (h : tK K mg E F G H as s σ r Q) (e : Ext G H (live as s) G1 H1 (live as s1)) : tK K mg E F G1 H1 as s1 σ r Q := by
  cases r with
  | ok p => exact fun G' H' R' x => h G' H' R' (e.trans x)
  | exc c => exact fun C H' hc k => h C H' hc (keepX e k)
  | bad => exact h
def tOf (f : EM) : TM := fun s => (f s).bind fun p => match p.1 with
  | .d (.bool b) => .ok (b, p.2)
  | _ => .bad
theorem pdt_val (h : PDE X E a fa) (he : ∀ whole, isTrue a X.env whole = (do let v ← whole; standAt a.pos; holding [v] (truthy v)) := by intro _; rfl) : PDT X E a (tOf fa) :=
  ⟨PT.imp (pt_val h.pe he) fun σ H Q h => by
    obtain ⟨F, G, as, s, R, h⟩ := h
    refine ⟨F, G, as, s, R, ?_⟩
    unfold tOf at h
    cases e : fa s with
    | ok p =>
      obtain ⟨w, s1⟩ := p
      rw [e, Res.bind_ok] at h
      dsimp only at h
      clear e
      intro v G1 H1 R1 X1 r n
      split at h
      · cases r
        exact ⟨_, rfl, h G1 H1 R1 X1⟩
      · exact h.elim
    | exc c => rw [e] at h; exact h
    | bad => rw [e] at h; exact h⟩
/-- one test, then by its answer -/
theorem tT.seq {K : KW} {mg : Str → Option Value} {F : Addr → Prop} {G H : Hp} {as : List Addr} {s : S} {σ : L2.St} {f : TM} {α : Type} {k : Bool × S → Res α} {P : Res α → Prop} {Q1 : Bool → Hp → Prop} (R : Rep K F G H as σ s) (h : P ((f s).bind k))
    (hx : ∀ c, P (.exc c) → ∀ C H', mg c = some (.ref C) → (∀ a o, H a = some o → ¬ live as s a → H' a = some o) → E (.ref C) none H') (hb : P .bad → False)
    (hk : ∀ (G1 H1 : Hp) (b : Bool) (s1 : S), Rep K F G1 H1 as σ s1 → Ext G H (live as s) G1 H1 (live as s1) → P (k (b, s1)) → Q1 b H1) : tT K mg E f σ H Q1 := by
  refine ⟨F, G, as, s, R, ?_⟩
  cases e : f s with
  | ok p =>
    obtain ⟨b, s1⟩ := p
    rw [e] at h
    exact fun G1 H1 R1 X1 => hk G1 H1 b s1 R1 X1 h
  | exc c => rw [e] at h; exact hx c h
  | bad => rw [e] at h; exact (hb h).elim
def tAnd_ (f g : TM) : TM := fun s => (f s).bind fun p => if p.1 then g p.2 else .ok (false, p.2)
def tOr_ (f g : TM) : TM := fun s => (f s).bind fun p => if p.1 then .ok (true, p.2) else g p.2
def tNot_ (f : TM) : TM := fun s => (f s).bind fun p => .ok (!p.1, p.2)
variable {ta tb : TM} {rest : List Expr}
theorem pdw_and1 (h : PDT X E a ta) : PDW X E (.BoolOp .And [a] pos) ta := ⟨pw_and1 h.pt⟩
theorem pdw_or1 (h : PDT X E a ta) : PDW X E (.BoolOp .Or [a] pos) ta := ⟨pw_or1 h.pt⟩
theorem pdw_and (ha : PDT X E a ta) (hb : PDW X E (.BoolOp .And (b :: rest) pos) tb) : PDW X E (.BoolOp .And (a :: b :: rest) pos) (tAnd_ ta tb) := ⟨PW.imp (pw_and ha.pt hb.pw) fun σ H Q h => by
  obtain ⟨F, G, as, s, R, h⟩ := h
  refine tT.seq (P := fun r => tK X.kw X.mg E F G H as s σ r Q) R h (fun c h => h) (fun h => h) fun G1 H1 b s1 R1 X1 h1 => ?_
  cases b with
  | true => exact ⟨F, G1, as, s1, R1, tK.ext h1 X1⟩
  | false => exact h1 G1 H1 R1 X1⟩
theorem pdw_or (ha : PDT X E a ta) (hb : PDW X E (.BoolOp .Or (b :: rest) pos) tb) : PDW X E (.BoolOp .Or (a :: b :: rest) pos) (tOr_ ta tb) := ⟨PW.imp (pw_or ha.pt hb.pw) fun σ H Q h => by
  obtain ⟨F, G, as, s, R, h⟩ := h
  refine tT.seq (P := fun r => tK X.kw X.mg E F G H as s σ r Q) R h (fun c h => h) (fun h => h) fun G1 H1 b s1 R1 X1 h1 => ?_
  cases b with
  | false => exact ⟨F, G1, as, s1, R1, tK.ext h1 X1⟩
  | true => exact h1 G1 H1 R1 X1⟩
theorem pdt_not (ha : PDT X E a ta) : PDT X E (.UnaryOp .Not a pos) (tNot_ ta) := ⟨PT.imp (pt_not ha.pt) fun σ H Q h => by
  obtain ⟨F, G, as, s, R, h⟩ := h
  exact tT.seq (P := fun r => tK X.kw X.mg E F G H as s σ r Q) R h (fun c h => h) (fun h => h) fun G1 H1 b s1 R1 X1 h1 => h1 G1 H1 R1 X1⟩
/-! as values -/
def eAnd_ (f g : EM) : EM := fun s => (f s).bind fun p => match p.1 with
  | .d (.bool true) => g p.2
  | .d (.bool false) => .ok (.d (.bool false), p.2)
  | _ => .bad
def eOr_ (f g : EM) : EM := fun s => (f s).bind fun p => match p.1 with
  | .d (.bool true) => .ok (.d (.bool true), p.2)
  | .d (.bool false) => g p.2
  | _ => .bad
def eNot_ (f : EM) : EM := fun s => (f s).bind fun p => match p.1 with
  | .d (.bool b) => .ok (.d (.bool (!b)), p.2)
  | _ => .bad
theorem pd_one {op} (h : PDE X E a fa) : PDE X E (.BoolOp op [a] pos) fa := ⟨pe_one h.pe⟩
theorem pd_and (ha : PDE X E a fa) (hb : PDE X E (.BoolOp .And (b :: rest) pos) fb) : PDE X E (.BoolOp .And (a :: b :: rest) pos) (eAnd_ fa fb) := ⟨PE.imp (pe_and ha.pe hb.pe) fun σ H Q h => by
  obtain ⟨F, G, as, s, R, h⟩ := h
  refine eT.seq R h fun G1 H1 w s1 v R1 X1 r _ h1 => ?_
  dsimp only at h1
  split at h1
  · cases r
    exact ⟨true, rfl, ⟨F, G1, as, s1, R1, h1⟩⟩
  · cases r
    exact ⟨false, rfl, eK.val R1 h1 (.bl _)⟩
  · exact h1.elim⟩
theorem pd_or (ha : PDE X E a fa) (hb : PDE X E (.BoolOp .Or (b :: rest) pos) fb) : PDE X E (.BoolOp .Or (a :: b :: rest) pos) (eOr_ fa fb) := ⟨PE.imp (pe_or ha.pe hb.pe) fun σ H Q h => by
  obtain ⟨F, G, as, s, R, h⟩ := h
  refine eT.seq R h fun G1 H1 w s1 v R1 X1 r _ h1 => ?_
  dsimp only at h1
  split at h1
  · cases r
    exact ⟨true, rfl, eK.val R1 h1 (.bl _)⟩
  · cases r
    exact ⟨false, rfl, ⟨F, G1, as, s1, R1, h1⟩⟩
  · exact h1.elim⟩
theorem pd_not (ha : PDE X E a fa) : PDE X E (.UnaryOp .Not a pos) (eNot_ fa) := ⟨PE.imp (pe_not ha.pe) fun σ H Q h => by
  obtain ⟨F, G, as, s, R, h⟩ := h
  refine eT.seq R h fun G1 H1 w s1 v R1 X1 r _ h1 => ?_
  dsimp only at h1
  split at h1
  · cases r
    exact ⟨_, rfl, eK.val R1 h1 (.bl _)⟩
  · exact h1.elim⟩
def eIf_ (t : TM) (f g : EM) : EM := fun s => (t s).bind fun p => if p.1 then f p.2 else g p.2
theorem pd_if (hc : PDT X E c ta) (ha : PDE X E a fa) (hb : PDE X E b fb) : PDE X E (.IfExp c a b pos) (eIf_ ta fa fb) := ⟨PE.imp (pe_ifExp hc.pt ha.pe hb.pe) fun σ H Q h => by
  obtain ⟨F, G, as, s, R, h⟩ := h
  refine tT.seq (P := fun r => eK X.kw X.mg E F G H as s σ r Q) R h (fun c h => h) (fun h => h) fun G1 H1 b s1 R1 X1 h1 => ?_
  cases b with
  | true => exact ⟨F, G1, as, s1, R1, eK.ext h1 R R1 X1⟩
  | false => exact ⟨F, G1, as, s1, R1, eK.ext h1 R R1 X1⟩⟩
end
end
end PD

set_option Elab.async false
set_option linter.all false
set_option maxRecDepth 100000
set_option maxHeartbeats 4000000
namespace PD
noncomputable section
open PySem PySem.Spec PyProof.Rows L2

/-! ### a cell becomes plain data -/
def frzO (n : Nat) (xs : List D) : Option W → Option W
  | some (.c m) => if m = n then some (.d (.list xs)) else some (.c m)
  | o => o
def frz (n : Nat) (xs : List D) (s : S) : S := ⟨s.env.map (frzO n xs), s.mem.set n none, s.base⟩
def toD : W → S → Option (D × S)
  | .d x, s => some (x, s)
  | .f xs, s => some (.list xs, s)
  | .c n, s => (match s.mem[n]? with
    | some (some (.l xs)) => if s.base ≤ n then some (.list xs, frz n xs s) else none
    | _ => none)
section
variable {K : KW} {mg : Str → Option Value} {E : XK} {F : Addr → Prop} {G H : Hp} {as : List Addr} {s s' : S} {σ : L2.St} {v : V} {w : W} {x : D} {xs : List D}
theorem same_upd {G : Hp} {p : Addr} {o : HO} (h : G p = none) : Same G (upd G p o) := fun b x e => by
  rw [upd_ne (ne_of_none e h)]
  exact e
theorem nd_at {as : List Addr} (nd : as.Nodup) {m n : Nat} {a : Addr} (h1 : as[m]? = some a) (h2 : as[n]? = some a) : m = n := by
  obtain ⟨l1, e1⟩ := List.getElem?_eq_some_iff.mp h1
  obtain ⟨l2, e2⟩ := List.getElem?_eq_some_iff.mp h2
  exact (List.getElem_inj nd).mp (e1.trans e2.symm)
theorem CellAt.mono {G' H' : Hp} {a : Addr} {c : Cell} (h : CellAt K G H a c) (sg : Same G G') (k : ∀ o, H a = some o → H' a = some o) : CellAt K G' H' a c := by
  cases c with
  | l xs => obtain ⟨vs, h1, h2⟩ := h; exact ⟨vs, k _ h1, h2.mono sg⟩
  | m kvs => obtain ⟨vs, h1, h2⟩ := h; exact ⟨vs, k _ h1, Paired.mapP h2 fun p q z => ⟨z.1, Rp.mono sg z.2⟩⟩
  | t P q => obtain ⟨h0, ps, h1, h2, h3⟩ := h; exact ⟨h0, ps, k _ h1, h2, fun pos cv e => let ⟨c, e1, e2⟩ := h3 pos cv e; ⟨c, e1, sg _ _ e2⟩⟩
/-- an object that nobody owns is laid to the plain ones -/
theorem Rep.lay {a : Addr} {o : HO} (R : Rep K F G H as σ s) (g : G a = none) (h : H a = some o) (nf : ¬ F a) (na : ∀ (n : Nat) (c : Cell), s.mem[n]? = some (some c) → as[n]? ≠ some a) : Rep K F (upd G a o) H as σ s := by
  have sg : Same G (upd G a o) := same_upd g
  refine ⟨fun b u e => ?_, R.len, R.alen, R.nd, R.dom, fun b hb => ?_, fun n c e => ?_, fun i w e => ?_⟩
  · by_cases q : b = a
    · subst q; rw [upd_same] at e; cases e; exact h
    · rw [upd_ne q] at e; exact R.same _ _ e
  · obtain ⟨h1, h2, h3⟩ := R.fo b hb
    have nb : b ≠ a := fun z => nf (by rw [← z]; exact hb)
    exact ⟨by rw [upd_ne nb]; exact h1, h2, h3⟩
  · obtain ⟨b, h1, h2, h3⟩ := R.cell n c e
    have nb : b ≠ a := fun z => na n c e (by rw [← z]; exact h1)
    exact ⟨b, h1, by rw [upd_ne nb]; exact h2, h3.mono sg fun _ z => z⟩
  · obtain ⟨v, h1, h2, h3⟩ := R.env i w e
    refine ⟨v, h1, ?_, h3⟩
    cases w with
    | d x => exact Rp.mono sg h2
    | c m => exact h2
    | f ys => exact absurd rfl (h3 ys)
theorem toD_ok (R : Rep K F G H as σ s) (r : RpW K F G H as v w) (h : toD w s = some (x, s')) : ∃ G', Rep K F G' H as σ s' ∧ Ext G H (live as s) G' H (live as s') ∧ Rp K G' v x := by
  cases w with
  | d y => cases h; exact ⟨G, R, Ext.refl _ _ _, r⟩
  | f ys =>
    cases h
    obtain ⟨a, vs, rfl, h1, h2, h3, h4, h5⟩ := r
    have sg : Same G (upd G a (.lst vs)) := same_upd h2
    exact ⟨_, R.lay h2 h1 h4 fun n c _ z => h3 (List.mem_of_getElem? z), ⟨sg, fun _ _ z _ => z, fun _ z => .inl z⟩, .lst (SqL.of upd_same) (h5.mono sg)⟩
  | c n =>
    obtain ⟨a, ha, rfl⟩ := r
    have h2 : (match s.mem[n]? with
      | some (some (.l xs)) => if s.base ≤ n then some (PyData.list xs, frz n xs s) else none
      | _ => none) = some (x, s') := h
    split at h2
    · rename_i ys e
      split at h2
      · cases h2
        obtain ⟨g0, vs, h1, h5⟩ := R.cellAt e ha
        have sg : Same G (upd G a (.lst vs)) := same_upd g0
        have nf : ¬ F a := fun z => (R.fo a z).2.1 (List.mem_of_getElem? ha)
        refine ⟨upd G a (.lst vs), ⟨fun b u e => ?_, by simpa [frz] using R.len, by simpa [frz] using R.alen, R.nd, R.dom, fun b hb => ?_, fun m c e2 => ?_, fun i w e2 => ?_⟩, ⟨sg, fun _ _ z _ => z, fun b z => ?_⟩, .lst (SqL.of upd_same) (h5.mono sg)⟩
        · by_cases q : b = a
          · subst q; rw [upd_same] at e; cases e; exact h1
          · rw [upd_ne q] at e; exact R.same _ _ e
        · obtain ⟨k1, k2, k3⟩ := R.fo b hb
          have nb : b ≠ a := fun z => nf (by rw [← z]; exact hb)
          exact ⟨by rw [upd_ne nb]; exact k1, k2, k3⟩
        · have e2 : (s.mem.set n none)[m]? = some (some c) := e2
          by_cases q : m = n
          · subst q
            rw [List.getElem?_set_self (List.getElem?_eq_some_iff.mp e).1] at e2
            cases e2
          · rw [List.getElem?_set_ne (Ne.symm q)] at e2
            obtain ⟨b, k1, k2, k3⟩ := R.cell m c e2
            have nb : b ≠ a := fun z => q (nd_at R.nd k1 (by rw [z]; exact ha))
            exact ⟨b, k1, by rw [upd_ne nb]; exact k2, k3.mono sg fun _ z => z⟩
        · have e2 : (s.env.map (frzO n ys))[i]? = some (some w) := e2
          rw [List.getElem?_map] at e2
          cases e3 : s.env[i]? with
          | none => rw [e3] at e2; cases e2
          | some o =>
            rw [e3] at e2
            have e4 : frzO n ys o = some w := Option.some.inj e2
            cases o with
            | none => cases e4
            | some w0 =>
              obtain ⟨v, k1, k2, k3⟩ := R.env i w0 e3
              cases w0 with
              | d y => cases e4; exact ⟨v, k1, Rp.mono sg k2, fun _ z => nomatch z⟩
              | f zs => exact absurd rfl (k3 zs)
              | c m =>
                have e4 : (if m = n then some (W.d (PyData.list ys)) else some (.c m)) = some w := e4
                split at e4
                · rename_i q
                  cases e4
                  obtain ⟨b, k4, rfl⟩ := k2
                  rw [q, ha] at k4
                  cases k4
                  exact ⟨_, k1, .lst (SqL.of upd_same) (h5.mono sg), fun _ z => nomatch z⟩
                · cases e4
                  exact ⟨v, k1, k2, fun _ z => nomatch z⟩
        · obtain ⟨m, c, k1, k2⟩ := z
          have k1 : (s.mem.set n none)[m]? = some (some c) := k1
          by_cases q : m = n
          · subst q
            rw [List.getElem?_set_self (List.getElem?_eq_some_iff.mp e).1] at k1
            cases k1
          · rw [List.getElem?_set_ne (Ne.symm q)] at k1
            exact .inl ⟨m, c, k1, k2⟩
      · cases h2
    · cases h2
end

/-! ### arguments: true: a cell as it is; false: plain data -/
abbrev AM := S → Res (List W × S)
inductive RpWs (K : KW) (G : Hp) (as : List Addr) : List V → List W → Prop
  | nil : RpWs K G as [] []
  | d {v : V} {x : D} {vs : List V} {ws : List W} : Rp K G v x → RpWs K G as vs ws → RpWs K G as (v :: vs) (.d x :: ws)
  | c {a : Addr} {n : Nat} {vs : List V} {ws : List W} : as[n]? = some a → RpWs K G as vs ws → RpWs K G as (.ref a :: vs) (.c n :: ws)
theorem RpWs.mono {K : KW} {G G' : Hp} {as : List Addr} (s : Same G G') : ∀ {vs : List V} {ws : List W}, RpWs K G as vs ws → RpWs K G' as vs ws
  | _, _, .nil => .nil
  | _, _, .d h r => .d (Rp.mono s h) (r.mono s)
  | _, _, .c h r => .c h (r.mono s)
theorem RpWs.length {K : KW} {G : Hp} {as : List Addr} : ∀ {vs : List V} {ws : List W}, RpWs K G as vs ws → vs.length = ws.length
  | _, _, .nil => rfl
  | _, _, .d _ r => by simp [RpWs.length r]
  | _, _, .c _ r => by simp [RpWs.length r]
def aK (K : KW) (mg : Str → Option Value) (E : XK) (F : Addr → Prop) (G H : Hp) (as : List Addr) (s : S) (σ : L2.St) (r : Res (List W × S)) (Q : List V → Hp → Prop) : Prop := match r with
  | .ok (ws, s') => ∀ vs G' H', Rep K F G' H' as σ s' → Ext G H (live as s) G' H' (live as s') → RpWs K G' as vs ws → Q vs H'
  | .exc c => ∀ C H', mg c = some (.ref C) → (∀ a o, H a = some o → ¬ live as s a → H' a = some o) → E (.ref C) none H'
  | .bad => False
def aT (K : KW) (mg : Str → Option Value) (E : XK) (f : AM) : TA := fun σ H Q => ∃ (F : Addr → Prop) (G : Hp) (as : List Addr) (s : S), Rep K F G H as σ s ∧ aK K mg E F G H as s σ (f s) Q
structure PDA (X : Cx) (E : XK) (es : List Expr) (f : AM) : Prop where
  pa : PA X es (aT X.kw X.mg E f)
theorem aK.ext {K : KW} {mg : Str → Option Value} {E : XK} {F : Addr → Prop} {G H G1 H1 : Hp} {as : List Addr} {s s1 : S} {σ : L2.St} {r : Res (List W × S)} {Q : List V → Hp → Prop} (h : aK K mg E F G H as s σ r Q) (e : Ext G H (live as s) G1 H1 (live as s1)) : aK K mg E F G1 H1 as s1 σ r Q := by
  cases r with
  | ok p => exact fun v G' H' R' x w => h v G' H' R' (e.trans x) w
  | exc c => exact fun C H' hc k => h C H' hc (keepX e k)
  | bad => exact h
def aNil : AM := fun s => .ok ([], s)
/-- keep: the cell itself -/
def aCons (keep : Bool) (f : EM) (g : AM) : AM := fun s => (f s).bind fun p => match keep, p.1 with
  | true, .c n => (g p.2).bind fun q => .ok (.c n :: q.1, q.2)
  | true, _ => .bad
  | false, w => (match toD w p.2 with
    | some (x, s2) => (g s2).bind fun q => .ok (.d x :: q.1, q.2)
    | none => .bad)
section
variable {X : Cx} {E : XK} {e : Expr} {es : List Expr} {f : EM} {g : AM}
theorem pda_nil : PDA X E [] aNil := ⟨PA.imp pa_nil fun σ H Q h => by
  obtain ⟨F, G, as, s, R, h⟩ := h
  exact h [] G H R (Ext.refl _ _ _) .nil⟩
theorem pda_cons (keep : Bool) (he : PDE X E e f) (hr : PDA X E es g) (hs : starEach (e :: es) X.env = (false, eval e X.env) :: starEach es X.env := by rfl) : PDA X E (e :: es) (aCons keep f g) := ⟨PA.imp (pa_cons he.pe hr.pa hs) fun σ H Q h => by
  obtain ⟨F, G, as, s, R, h⟩ := h
  refine ⟨F, G, as, s, R, ?_⟩
  unfold aCons at h
  cases e : f s with
  | exc c => rw [e] at h; exact h
  | bad => rw [e] at h; exact h
  | ok p =>
    obtain ⟨w, s1⟩ := p
    rw [e, Res.bind_ok] at h
    dsimp only at h
    intro v G1 H1 R1 X1 r n
    cases keep with
    | true =>
      cases w with
      | c m =>
        dsimp only at h
        obtain ⟨a, ha, rfl⟩ := r
        refine ⟨F, G1, as, s1, R1, ?_⟩
        have h := aK.ext h X1
        cases e2 : g s1 with
        | exc c => rw [e2] at h; exact h
        | bad => rw [e2] at h; exact h
        | ok q =>
          rw [e2] at h
          exact fun vs G2 H2 R2 X2 r2 => h _ G2 H2 R2 X2 (.c ha r2)
      | d x => exact h.elim
      | f x => exact h.elim
    | false =>
      dsimp only at h
      split at h
      · rename_i x s2 e2
        obtain ⟨G2, R2, X2, r2⟩ := toD_ok R1 r e2
        refine ⟨F, G2, as, s2, R2, ?_⟩
        have h := aK.ext h (X1.trans X2)
        cases e3 : g s2 with
        | exc c => rw [e3] at h; exact h
        | bad => rw [e3] at h; exact h
        | ok q =>
          rw [e3] at h
          exact fun vs G3 H3 R3 X3 r3 => h _ G3 H3 R3 X3 (.d (Rp.mono X3.same r2) r3)
      · exact h.elim⟩
end

/-! ### calls of the program's own defs -/
abbrev FM := List (Option Cell) → List W → Res (W × List (Option Cell))
/-- what a def promises that computes Fm -/
def spF (K : KW) (mg : Str → Option Value) (n : Nat) (Fm : FM) : Sp := fun vs H Q E => ∃ (F : Addr → Prop) (G : Hp) (as : List Addr) (mem : List (Option Cell)) (ws : List W), vs.length = n ∧ Rep K F G H as [] ⟨[], mem, 0⟩ ∧ RpWs K G as vs ws ∧ match Fm mem ws with
  | .ok (w, mem') => ∀ v G' H', Rep K F G' H' as [] ⟨[], mem', 0⟩ → Ext G H (live as ⟨[], mem, 0⟩) G' H' (live as ⟨[], mem', 0⟩) → RpW K F G' H' as v w → New H v w → Q v H'
  | .exc c => ∀ C H', mg c = some (.ref C) → (∀ a o, H a = some o → ¬ live as ⟨[], mem, 0⟩ a → H' a = some o) → E (.ref C) none H'
  | .bad => False
/-- the def stands, and keeps that promise -/
structure Df (P : Program) (w : World) (K : PySem.W.Frag) (mg : Str → Option Value) (base : Heap) (k : Nat) (x : Str) (ps : List Str) (Fm : FM) : Prop where
  ex : ∃ (f : Addr) (fd : FuncData), FnOk P w K mg base (L2.CX P w) k f fd ps (spF ⟨K, P, w⟩ mg ps.length Fm) ∧ mg x = some (.ref f) ∧ PySem.W.keepIn K (.ref f) = true ∧ Binds K fd ps []
theorem Df.mono {P : Program} {w : World} {K : PySem.W.Frag} {mg : Str → Option Value} {base : Heap} {k j : Nat} {x : Str} {ps : List Str} {Fm : FM} (h : Df P w K mg base k x ps Fm) (l : k ≤ j) : Df P w K mg base j x ps Fm := by
  obtain ⟨f, fd, h1, h2⟩ := h.ex
  exact ⟨f, fd, h1.mono l, h2⟩
def eCall (Fm : FM) (g : AM) : EM := fun s => (g s).bind fun p => (Fm p.2.mem p.1).bind fun q => .ok (q.1, { p.2 with mem := q.2 })
section
variable {X : Cx} {E : XK} {e : Expr} {es : List Expr} {f : EM} {g : AM} {k j : Nat} {x : Str} {ps : List Str} {Fm : FM} {p pos : Pos}
theorem live_eq {as : List Addr} {s t : S} (h : s.mem = t.mem) : live as s = live as t := by
  funext a; unfold live; rw [h]
theorem Rep.bare {K : KW} {F : Addr → Prop} {G H : Hp} {as : List Addr} {σ : L2.St} {s : S} (R : Rep K F G H as σ s) : Rep K F G H as [] ⟨[], s.mem, 0⟩ :=
  ⟨R.same, rfl, R.alen, R.nd, R.dom, R.fo, R.cell, fun i w h => by simp at h⟩
/-- behind a call -/
theorem Rep.back {K : KW} {F : Addr → Prop} {G H G' H' : Hp} {as : List Addr} {σ : L2.St} {s : S} {mem' : List (Option Cell)} {L L' : Addr → Prop} (R : Rep K F G H as σ s) (R' : Rep K F G' H' as [] ⟨[], mem', 0⟩) (e : Ext G H L G' H' L') : Rep K F G' H' as σ { s with mem := mem' } :=
  ⟨R'.same, R.len, R'.alen, R.nd, R'.dom, R'.fo, R'.cell, fun i w h => by
    obtain ⟨v, h1, h2, h3⟩ := R.env i w h
    refine ⟨v, h1, ?_, h3⟩
    cases w with
    | d x => exact Rp.mono e.same h2
    | c m => exact h2
    | f ys => exact absurd rfl (h3 ys)⟩
theorem callF_ok {F : Addr → Prop} {G H : Hp} {as : List Addr} {s : S} {σ : L2.St} {vs : List V} {ws : List W} {Q : VK} (hl : vs.length = ps.length) (R : Rep X.kw F G H as σ s) (r : RpWs X.kw G as vs ws) (h : eK X.kw X.mg E F G H as s σ ((Fm s.mem ws).bind fun q => .ok (q.1, { s with mem := q.2 })) Q) :
    spF X.kw X.mg ps.length Fm (vs ++ []) H Q E := by
  rw [List.append_nil]
  refine ⟨F, G, as, s.mem, ws, hl, R.bare, r, ?_⟩
  cases e : Fm s.mem ws with
  | exc c => rw [e] at h; exact h
  | bad => rw [e] at h; exact h
  | ok q =>
    rw [e] at h
    exact fun v G' H' R' X' r' n => h v G' H' (R.back R' X') X' r' n
theorem pd_call (c : Df X.prog X.w X.K X.mg X.base k x ps Fm) (hr : Room j X.A) (ha : PDA X E (e :: es) g) (hx : Passes (L2.CX X.prog X.w) X E) (hn : (e :: es).length = ps.length := by rfl) (hkj : k ≤ j := by decide) (hg : Gl X x := by rfl) (hdb : (x == ("__debug__" : Str)) = false := by decide)
    (he : starEach (e :: es) X.env = (false, eval e X.env) :: starEach es X.env := by rfl) (hpl : (backTo pos (starEach es X.env)).any (·.1) = false := by rfl) (hlen : ∀ s ws s', g s = .ok (ws, s') → ws.length = ps.length) : PDE X E (.Call (.Name x p) (e :: es) [] pos) (eCall Fm g) := by
  obtain ⟨fa, fd, F, hm, kp, b⟩ := c.ex
  refine ⟨PE.imp (pe_call F (hr.mono hkj) hg hm kp b .nil hx ha.pa hdb he hpl) fun σ H Q h => ?_⟩
  obtain ⟨Fo, G, as, s, R, h⟩ := h
  refine ⟨Fo, G, as, s, R, ?_⟩
  unfold eCall at h
  cases e : g s with
  | exc c => rw [e] at h; exact h
  | bad => rw [e] at h; exact h
  | ok q =>
    obtain ⟨ws, s1⟩ := q
    rw [e, Res.bind_ok] at h
    intro vs G1 H1 R1 X1 r1
    exact callF_ok (by rw [r1.length]; exact hlen _ _ _ e) R1 r1 (eK.ext h R R1 X1)
theorem aCons_len {keep : Bool} {f : EM} {g : AM} {n : Nat} (h : ∀ s ws s', g s = .ok (ws, s') → ws.length = n) : ∀ s ws s', aCons keep f g s = .ok (ws, s') → ws.length = n + 1 := fun s ws s' e => by
  unfold aCons at e
  cases e1 : f s with
  | exc c => rw [e1] at e; cases e
  | bad => rw [e1] at e; cases e
  | ok p =>
    rw [e1, Res.bind_ok] at e
    split at e
    · cases e2 : g p.2 with
      | exc c => rw [e2] at e; cases e
      | bad => rw [e2] at e; cases e
      | ok q => rw [e2] at e; cases e; simp [h _ _ _ e2]
    · cases e
    · split at e
      · rename_i x s2 e3
        cases e2 : g s2 with
        | exc c => rw [e2] at e; cases e
        | bad => rw [e2] at e; cases e
        | ok q => rw [e2] at e; cases e; simp [h _ _ _ e2]
      · cases e
theorem aNil_len : ∀ s ws s', aNil s = .ok (ws, s') → ws.length = 0 := fun s ws s' e => by cases e; rfl
end
end
end PD

set_option Elab.async false
set_option linter.all false
set_option maxRecDepth 100000
set_option maxHeartbeats 4000000
namespace PD
noncomputable section
open PySem PySem.Spec PyProof.Rows L2

/-! ### statements -/
inductive Out where
  | nx | rt (w : W) | bk | ct
abbrev SM := S → Res (Out × S)
def nK (K : KW) (F : Addr → Prop) (G H : Hp) (as : List Addr) (s s' : S) (Q : L2.St → Hp → Prop) : Prop := ∀ σ' G' H' as', Rep K F G' H' as' σ' s' → Ext G H (live as s) G' H' (live as' s') → as <+: as' → Q σ' H'
def sK (K : KW) (mg : Str → Option Value) (E : XK) (F : Addr → Prop) (G H : Hp) (as : List Addr) (s : S) (r : Res (Out × S)) (D : Ends) : Prop := match r with
  | .ok (.nx, s') => nK K F G H as s s' D.nx
  | .ok (.rt w, s') => ∀ v σ' G' H' as', Rep K F G' H' as' σ' s' → Ext G H (live as s) G' H' (live as' s') → as <+: as' → RpW K F G' H' as' v w → New H v w → D.rt v H'
  | .ok (.bk, s') => nK K F G H as s s' D.bk
  | .ok (.ct, s') => nK K F G H as s s' D.ct
  | .exc c => ∀ C H', mg c = some (.ref C) → (∀ a o, H a = some o → ¬ live as s a → H' a = some o) → E (.ref C) none H'
  | .bad => False
def sT (K : KW) (mg : Str → Option Value) (E : XK) (f : SM) : TS := fun D σ H => ∃ (F : Addr → Prop) (G : Hp) (as : List Addr) (s : S), Rep K F G H as σ s ∧ sK K mg E F G H as s (f s) D
structure PDS (X : Cx) (E : XK) (st : Stmt) (f : SM) : Prop where
  ps : PS X st (sT X.kw X.mg E f)
structure PDSs (X : Cx) (E : XK) (sts : List Stmt) (f : SM) : Prop where
  pss : PSs X sts (sT X.kw X.mg E f)
section
variable {K : KW} {mg : Str → Option Value} {E : XK} {F : Addr → Prop} {G H G1 H1 : Hp} {as as1 : List Addr} {s s1 : S} {σ σ1 : L2.St}
theorem newX' {a : Addr} (R1 : Rep K F G1 H1 as1 σ1 s1) (e : Ext G H (live as s) G1 H1 (live as1 s1)) (p : as <+: as1) (h : H1 a = none) : H a = none := by
  cases q : H a with
  | none => rfl
  | some o =>
    by_cases l : live as s a
    · obtain ⟨n, c, _, z⟩ := l
      obtain ⟨o', z'⟩ := R1.dom a (p.subset (List.mem_of_getElem? z))
      rw [h] at z'; cases z'
    · rw [e.keep a o q l] at h; cases h
theorem nK.ext {s2 : S} {Q : L2.St → Hp → Prop} (h : nK K F G H as s s2 Q) (e : Ext G H (live as s) G1 H1 (live as1 s1)) (p : as <+: as1) : nK K F G1 H1 as1 s1 s2 Q := fun σ' G' H' as' R' x q => h σ' G' H' as' R' (e.trans x) (p.trans q)
theorem sK.ext {r : Res (Out × S)} {D : Ends} (h : sK K mg E F G H as s r D) (R1 : Rep K F G1 H1 as1 σ1 s1) (e : Ext G H (live as s) G1 H1 (live as1 s1)) (p : as <+: as1) : sK K mg E F G1 H1 as1 s1 r D := by
  cases r with
  | ok q =>
    obtain ⟨o, s'⟩ := q
    cases o with
    | nx => exact nK.ext h e p
    | bk => exact nK.ext h e p
    | ct => exact nK.ext h e p
    | rt w => exact fun v σ' G' H' as' R' x q' r' n => h v σ' G' H' as' R' (e.trans x) (p.trans q') r' fun xs a hw hv => newX' R1 e p (n xs a hw hv)
  | exc c => exact fun C H' hc k => h C H' hc (keepX e k)
  | bad => exact h
theorem sK.exc {c : Str} {D D' : Ends} (h : sK K mg E F G H as s (.exc c) D) : sK K mg E F G H as s (.exc c) D' := h
/-- an expression first -/
theorem eT.seqS {fa : EM} {k : W × S → Res (Out × S)} {D : Ends} {Q1 : VK} (R : Rep K F G H as σ s) (h : sK K mg E F G H as s ((fa s).bind k) D)
    (hk : ∀ (G1 H1 : Hp) (w : W) (s1 : S) (v : V), Rep K F G1 H1 as σ s1 → Ext G H (live as s) G1 H1 (live as s1) → RpW K F G1 H1 as v w → New H v w → sK K mg E F G H as s (k (w, s1)) D → Q1 v H1) : eT K mg E fa σ H Q1 := by
  refine ⟨F, G, as, s, R, ?_⟩
  cases e : fa s with
  | ok p =>
    obtain ⟨w, s1⟩ := p
    rw [e] at h
    exact fun v G1 H1 R1 X1 r n => hk G1 H1 w s1 v R1 X1 r n h
  | exc c => rw [e] at h; exact h
  | bad => rw [e] at h; exact h
end
section
variable {X : Cx} {E : XK} {st : Stmt} {rest body orelse : List Stmt} {f g : SM} {fe : EM} {e c : Expr} {pos : Pos} {tc : TM}
def sNil : SM := fun s => .ok (.nx, s)
def sCons (f g : SM) : SM := fun s => (f s).bind fun p => match p.1 with
  | .nx => g p.2
  | o => .ok (o, p.2)
theorem pds_nil : PDSs X E [] sNil := ⟨PSs.imp pss_nil fun D σ H h => by
  obtain ⟨F, G, as, s, R, h⟩ := h
  exact h σ G H as R (Ext.refl _ _ _) (List.prefix_refl _)⟩
theorem pds_cons (h1 : PDS X E st f) (h2 : PDSs X E rest g) : PDSs X E (st :: rest) (sCons f g) := ⟨PSs.imp (pss_cons h1.ps h2.pss) fun D σ H h => by
  obtain ⟨F, G, as, s, R, h⟩ := h
  refine ⟨F, G, as, s, R, ?_⟩
  unfold sCons at h
  cases e : f s with
  | exc c => rw [e] at h; exact h
  | bad => rw [e] at h; exact h
  | ok p =>
    obtain ⟨o, s1⟩ := p
    rw [e, Res.bind_ok] at h
    cases o with
    | nx => exact fun σ1 G1 H1 as1 R1 X1 p1 => ⟨F, G1, as1, s1, R1, sK.ext h R1 X1 p1⟩
    | rt w => exact h
    | bk => exact h
    | ct => exact h⟩
theorem pds_one (h : PDS X E st f) : PDSs X E [st] f := ⟨pss_one h.ps⟩
def sRet (f : EM) : SM := fun s => (f s).bind fun p => .ok (.rt p.1, p.2)
theorem pds_ret (h : PDE X E e fe) : PDS X E (.Return (some e) pos) (sRet fe) := ⟨PS.imp (ps_ret h.pe) fun D σ H h => by
  obtain ⟨F, G, as, s, R, h⟩ := h
  exact eT.seqS R h fun G1 H1 w s1 v R1 X1 r n h1 => h1 v σ G1 H1 as R1 X1 (List.prefix_refl _) r n⟩
def sRetN : SM := fun s => .ok (.rt (.d .none), s)
theorem pds_retN : PDS X E (.Return none pos) sRetN := ⟨PS.imp ps_retN fun D σ H h => by
  obtain ⟨F, G, as, s, R, h⟩ := h
  exact h .non σ G H as R (Ext.refl _ _ _) (List.prefix_refl _) .non (fun _ _ e _ => nomatch e)⟩
def sExpr (f : EM) : SM := fun s => (f s).bind fun p => .ok (.nx, p.2)
theorem pds_expr (h : PDE X E e fe) (hs : swapsWith e none pos.line X.env = pure false := by rfl) : PDS X E (.Expr e pos) (sExpr fe) := ⟨PS.imp (ps_expr h.pe hs) fun D σ H h => by
  obtain ⟨F, G, as, s, R, h⟩ := h
  exact eT.seqS R h fun G1 H1 w s1 v R1 X1 r n h1 => h1 σ G1 H1 as R1 X1 (List.prefix_refl _)⟩
theorem pds_pass : PDS X E (.Pass pos) sNil := ⟨PS.imp ps_pass fun D σ H h => by
  obtain ⟨F, G, as, s, R, h⟩ := h
  exact h σ G H as R (Ext.refl _ _ _) (List.prefix_refl _)⟩
def sIf (t : TM) (f g : SM) : SM := fun s => (t s).bind fun p => if p.1 then f p.2 else g p.2
theorem pds_if (hc : PDT X E c tc) (ha : PDSs X E body f) (hb : PDSs X E orelse g) : PDS X E (.If c body orelse pos) (sIf tc f g) := ⟨PS.imp (ps_if hc.pt ha.pss hb.pss) fun D σ H h => by
  obtain ⟨F, G, as, s, R, h⟩ := h
  refine tT.seq (P := fun r => sK X.kw X.mg E F G H as s r D) R h (fun c h => h) (fun h => h) fun G1 H1 b s1 R1 X1 h1 => ?_
  cases b with
  | true => exact ⟨F, G1, as, s1, R1, sK.ext h1 R1 X1 (List.prefix_refl _)⟩
  | false => exact ⟨F, G1, as, s1, R1, sK.ext h1 R1 X1 (List.prefix_refl _)⟩⟩

/-! ### stores -/
def S.put (s : S) (i : Nat) (w : W) : S := { s with env := s.env.set i (some w) }
/-- a value to a slot; cell: a list that was just made becomes a new cell, else plain data -/
def store (cell : Bool) (i : Nat) (w : W) (s : S) : Option S := if i < s.env.length then (match w with
  | .d x => some (s.put i (.d x))
  | .c n => some (s.put i (.c n))
  | .f xs => if cell then some { s with env := s.env.set i (some (.c s.mem.length)), mem := s.mem ++ [some (.l xs)] } else some (s.put i (.d (.list xs)))) else none
theorem Rep.put {K : KW} {F : Addr → Prop} {G H : Hp} {as : List Addr} {σ : L2.St} {s : S} {i : Nat} {v : V} {w : W} (R : Rep K F G H as σ s) (r : RpW K F G H as v w) (nf : ∀ xs, w ≠ .f xs) (hi : i < s.env.length) : Rep K F G H as (σ.set i (some v)) (s.put i w) :=
  ⟨R.same, by simpa [S.put] using R.len, R.alen, R.nd, R.dom, R.fo, R.cell, fun j w' e => by
    have e : (s.env.set i (some w))[j]? = some (some w') := e
    by_cases q : i = j
    · subst q
      rw [List.getElem?_set_self hi] at e
      cases e
      exact ⟨v, by rw [List.getElem?_set_self (by rw [R.len]; exact hi)], r, nf⟩
    · rw [List.getElem?_set_ne q] at e
      obtain ⟨u, h1, h2⟩ := R.env j w' e
      exact ⟨u, by rw [List.getElem?_set_ne q]; exact h1, h2⟩⟩
theorem store_ok {K : KW} {F : Addr → Prop} {G H : Hp} {as : List Addr} {σ : L2.St} {s s' : S} {i : Nat} {v : V} {w : W} {cell : Bool} (R : Rep K F G H as σ s) (r : RpW K F G H as v w) (h : store cell i w s = some s') :
    ∃ G' as', Rep K F G' H as' (σ.set i (some v)) s' ∧ Same G G' ∧ as <+: as' ∧ ∀ a, live as' s' a → live as s a ∨ ((∃ xs, w = .f xs) ∧ v = .ref a) := by
  unfold store at h
  split at h
  · rename_i hi
    cases w with
    | d x => cases h; exact ⟨G, as, R.put r (fun _ z => nomatch z) hi, Same.refl _, List.prefix_refl _, fun a z => .inl z⟩
    | c n => cases h; exact ⟨G, as, R.put r (fun _ z => nomatch z) hi, Same.refl _, List.prefix_refl _, fun a z => .inl z⟩
    | f xs =>
      dsimp only at h
      cases cell with
      | false =>
        rw [if_neg Bool.false_ne_true] at h
        cases h
        obtain ⟨G', R', X', r'⟩ := toD_ok (s := s) (w := .f xs) (x := .list xs) R r rfl
        exact ⟨G', as, R'.put (w := .d (.list xs)) r' (fun _ z => nomatch z) hi, X'.same, List.prefix_refl _, fun a z => .inl z⟩
      | true =>
        rw [if_pos rfl] at h
        cases h
        obtain ⟨a, vs, rfl, h1, h2, h3, h4, h5⟩ := r
        have hn : (as ++ [a])[s.mem.length]? = some a := by rw [← R.alen]; simp
        refine ⟨G, as ++ [a], ⟨R.same, by simpa using R.len, by simp [R.alen], ?_, fun b hb => ?_, fun b hb => ?_, fun n c e => ?_, fun j w' e => ?_⟩, Same.refl _, ⟨[a], rfl⟩, fun b hb => ?_⟩
        · rw [List.nodup_append]
          exact ⟨R.nd, by simp, fun x hx y hy z => by
            have : y = a := by simpa using hy
            exact h3 (by rw [← this, ← z]; exact hx)⟩
        · rcases List.mem_append.mp hb with hb | hb
          · exact R.dom b hb
          · have : b = a := by simpa using hb
            exact ⟨_, by rw [this]; exact h1⟩
        · obtain ⟨k1, k2, k3⟩ := R.fo b hb
          refine ⟨k1, fun z => ?_, k3⟩
          rcases List.mem_append.mp z with z | z
          · exact k2 z
          · have : b = a := by simpa using z
            exact h4 (by rw [← this]; exact hb)
        · have e : (s.mem ++ [some (Cell.l xs)])[n]? = some (some c) := e
          by_cases q : n < s.mem.length
          · rw [List.getElem?_append_left q] at e
            obtain ⟨b, k1, k2, k3⟩ := R.cell n c e
            exact ⟨b, by rw [List.getElem?_append_left (by rw [R.alen]; exact q)]; exact k1, k2, k3⟩
          · have q' : n = s.mem.length := by
              have := (List.getElem?_eq_some_iff.mp e).1
              simp at this
              omega
            subst q'
            simp at e
            subst e
            exact ⟨a, hn, h2, vs, h1, h5⟩
        · have e : (s.env.set i (some (.c s.mem.length)))[j]? = some (some w') := e
          by_cases q : i = j
          · subst q
            rw [List.getElem?_set_self hi] at e
            cases e
            exact ⟨.ref a, by rw [List.getElem?_set_self (by rw [R.len]; exact hi)], ⟨a, hn, rfl⟩, fun _ z => nomatch z⟩
          · rw [List.getElem?_set_ne q] at e
            obtain ⟨u, k1, k2, k3⟩ := R.env j w' e
            refine ⟨u, by rw [List.getElem?_set_ne q]; exact k1, ?_, k3⟩
            cases w' with
            | d x => exact k2
            | c m =>
              obtain ⟨b, k4, k5⟩ := k2
              exact ⟨b, by rw [List.getElem?_append_left (List.getElem?_eq_some_iff.mp k4).1]; exact k4, k5⟩
            | f ys => exact absurd rfl (k3 ys)
        · obtain ⟨n, c, e, k⟩ := hb
          have e : (s.mem ++ [some (Cell.l xs)])[n]? = some (some c) := e
          by_cases q : n < s.mem.length
          · rw [List.getElem?_append_left q] at e
            rw [List.getElem?_append_left (by rw [R.alen]; exact q)] at k
            exact .inl ⟨n, c, e, k⟩
          · have q' : n = s.mem.length := by
              have := (List.getElem?_eq_some_iff.mp e).1
              simp at this
              omega
            subst q'
            rw [hn] at k
            cases k
            exact .inr ⟨⟨xs, rfl⟩, rfl⟩
  · cases h
/-- the state behind a store, from the statement's begin -/
theorem store_nK {K : KW} {F : Addr → Prop} {G H G1 H1 : Hp} {as : List Addr} {σ : L2.St} {s s1 s' : S} {i : Nat} {v : V} {w : W} {cell : Bool} {Q : L2.St → Hp → Prop} (R1 : Rep K F G1 H1 as σ s1) (X1 : Ext G H (live as s) G1 H1 (live as s1)) (r : RpW K F G1 H1 as v w) (n : New H v w)
    (hs : store cell i w s1 = some s') (h : nK K F G H as s s' Q) : Q (σ.set i (some v)) H1 := by
  obtain ⟨G2, as2, R2, sg, p2, l2⟩ := store_ok R1 r hs
  refine h _ G2 H1 as2 R2 ⟨X1.same.trans sg, X1.keep, fun a z => ?_⟩ p2
  rcases l2 a z with z | ⟨⟨xs, z1⟩, z2⟩
  · exact X1.new a z
  · exact .inr (n xs a z1 z2)
def sSet (cell : Bool) (i : Nat) (f : EM) : SM := fun s => (f s).bind fun p => match store cell i p.1 p.2 with
  | some s' => .ok (.nx, s')
  | none => .bad
theorem set_of {i : Nat} {cell : Bool} (h : PS X st (tAsg (eT X.kw X.mg E fe) (gName i))) : PDS X E st (sSet cell i fe) := ⟨PS.imp h fun D σ H h => by
  obtain ⟨F, G, as, s, R, h⟩ := h
  refine eT.seqS R h fun G1 H1 w s1 v R1 X1 r n h1 => ?_
  dsimp only at h1
  split at h1
  · rename_i s' hs
    exact store_nK R1 X1 r n hs h1
  · exact h1.elim⟩
theorem pds_set (cell : Bool) (i : Nat) {x : Str} {pos' : Pos} (hN : X.N.Nodup) (he : PDE X E e fe) (hi : X.N[i]? = some x := by rfl) (hx : Loc X.env.scope x := by first | exact Or.inl rfl | exact Or.inr rfl) (hs : swapsWith e (some (.Name x pos')) pos.line X.env = pure false := by rfl) (hf : X.fn x = true ∨ X.env.scope.names.lookup x = some .local := by first | exact .inl rfl | exact .inr rfl | assumption) :
    PDS X E (.Assign [.Name x pos'] e pos) (sSet cell i fe) := set_of (ps_set hN hi hx he.pe hs hf)
/-! ### raise -/
/-- X() -/
theorem pmk_own0 {C : Addr} {bmB : List Value} {B newId initId : String} {x : Str} {p pos : Pos} (F : ExcBaseFacts B newId initId bmB) (q : PySem.W.excIn X.K C bmB newId = true) (gC : X.mg x = some (.ref C)) (kC : PySem.W.keepIn X.K (.ref C) = true) (r : Raises X (.ref C)) (hg : Gl X x)
    (hdb : (x == ("__debug__" : Str)) = false := by decide) : PMk X (.Call (.Name x p) [] [] pos) (fun _ H Q => Q (.ref C) none H) := by
  intro pins s σ H Q I h
  refine wpAny_Call_Name_kw (ld_glob I hg gC ?_ hdb)
  refine PySem.W.callWith_K0 I.kIn kC ?_
  show wpAny _ _ (call (.ref C) []) _ _ _
  obtain ⟨bm, N, nm, qn, bs, hdct, sn, sub, ab, col, dd, k0, k1, k2, k3, k5, mN, hC, hN, hni, T⟩ := exc_obj I.kIn q
  refine wpAny_call_exc_subT F T hC hN hni (fun h' e hm => ?_) (by show 0 ≤ sizeLine; omega)
  exact mk_of I hm r h (I.hok.gone hm.new)
/-- an exception class of the program: no __init__, over ValueError -/
structure ExcC (K : PySem.W.Frag) (mg : Str → Option Value) (c : Str) : Prop where
  ex : ∃ C, mg c = some (.ref C) ∧ PySem.W.excIn K C [.type "ValueError", .type "Exception", .type "BaseException", .type "object"] "ValueError.__new__" = true ∧ PySem.W.keepIn K (.ref C) = true ∧
    PySem.W.subIn K (.ref C) (.type "BaseException") = some true ∧ PySem.W.typeIn K (.ref C) = some (.type "type")
def sRaise (c : Str) : SM := fun _ => .exc c
theorem pds_raise {c : Str} {p pos' : Pos} (hm : ExcC X.K X.mg c) (hcalm : X.calm = true) (tk : Takes X (fun cls d _ H => E cls d H)) (hg : Gl X c := by rfl) (hdb : (c == ("__debug__" : Str)) = false := by decide) : PDS X E (.Raise (some (.Call (.Name c p) [] [] pos')) none pos) (sRaise c) := by
  obtain ⟨C, m, x1, x2, x3, x4⟩ := hm.ex
  refine ⟨PS.imp (ps_raise hcalm tk (pmk_own0 PySem.F.excBase_ValueError x1 m x2 (raises_own x3 x4) hg hdb)) fun D σ H h => ?_⟩
  obtain ⟨F, G, as, s, R, h⟩ := h
  exact h C H m fun _ _ z _ => z
end

/-! ### a def by its body -/
def fin (mem : List (Option Cell)) (r : Res (Out × S)) : Res (W × List (Option Cell)) := r.bind fun p => match p.1 with
  | .nx => .ok (.d .none, p.2.mem.take mem.length)
  | .rt (.d x) => .ok (.d x, p.2.mem.take mem.length)
  | .rt (.f xs) => .ok (.f xs, p.2.mem.take mem.length)
  | .rt (.c n) => if n < mem.length then .ok (.c n, p.2.mem.take mem.length) else (match p.2.mem[n]? with
    | some (some (.l xs)) => .ok (.f xs, p.2.mem.take mem.length)
    | _ => .bad)
  | _ => .bad
def s0 (N : List Str) (mem : List (Option Cell)) (ws : List W) : S := ⟨ws.map some ++ List.replicate (N.length - ws.length) none, mem, mem.length⟩
def fnOf (N : List Str) (g : SM) : FM := fun mem ws => fin mem (g (s0 N mem ws))
section
variable {K : KW} {mg : Str → Option Value} {E : XK} {F : Addr → Prop} {G H G1 H1 G' H' : Hp} {as as' : List Addr} {s s1 : S} {σ σ' : L2.St} {mem : List (Option Cell)} {vs : List V} {ws : List W}
theorem RpWs.get : ∀ {vs : List V} {ws : List W} {i : Nat} {w : W}, RpWs K G as vs ws → ws[i]? = some w → ∃ v, vs[i]? = some v ∧ RpW K F G H as v w ∧ ∀ xs, w ≠ .f xs
  | _, _, _, _, .nil, e => by simp at e
  | _, _, 0, _, .d h _, e => by
    simp at e; subst e
    exact ⟨_, rfl, h, fun _ z => nomatch z⟩
  | _, _, 0, _, .c h _, e => by
    simp at e; subst e
    exact ⟨_, rfl, ⟨_, h, rfl⟩, fun _ z => nomatch z⟩
  | _, _, i + 1, w, .d _ r, e => by
    obtain ⟨v, a, b⟩ := RpWs.get (i := i) (w := w) r (by simpa using e)
    exact ⟨v, by simpa using a, b⟩
  | _, _, i + 1, w, .c _ r, e => by
    obtain ⟨v, a, b⟩ := RpWs.get (i := i) (w := w) r (by simpa using e)
    exact ⟨v, by simpa using a, b⟩
theorem Rep.start (N : List Str) (R : Rep K F G H as [] ⟨[], mem, 0⟩) (r : RpWs K G as vs ws) : Rep K F G H as (L2.start N vs) (s0 N mem ws) :=
  ⟨R.same, by simp [L2.start, s0, r.length], R.alen, R.nd, R.dom, R.fo, R.cell, fun i w e => by
    have e : (ws.map some ++ List.replicate (N.length - ws.length) (none : Option W))[i]? = some (some w) := e
    by_cases hi : i < ws.length
    · rw [List.getElem?_append_left (by simpa using hi), List.getElem?_map] at e
      cases e2 : ws[i]? with
      | none => rw [e2] at e; cases e
      | some w0 =>
        rw [e2] at e
        cases e
        obtain ⟨v, h1, h2, h3⟩ := r.get (F := F) (H := H) e2
        refine ⟨v, ?_, h2, h3⟩
        unfold L2.start
        rw [List.getElem?_append_left (by simpa [r.length] using hi), List.getElem?_map, h1]
        rfl
    · rw [List.getElem?_append_right (by simpa using hi), List.getElem?_replicate] at e
      split at e <;> cases e⟩
/-- what was there before stays -/
theorem Rep.cutS (R : Rep K F G' H' as' σ' s1) (p : as <+: as') (hm : mem.length = as.length) : Rep K F G' H' as [] ⟨[], s1.mem.take mem.length, 0⟩ := by
  obtain ⟨t, rfl⟩ := p
  have hl : mem.length ≤ s1.mem.length := by
    have := R.alen
    rw [List.length_append] at this
    omega
  refine ⟨R.same, rfl, ?_, (List.nodup_append.mp R.nd).1, fun a h => R.dom a (List.mem_append_left _ h), fun a h => ?_, fun n c e => ?_, fun i w e => by simp at e⟩
  · show as.length = (s1.mem.take mem.length).length
    rw [List.length_take]; omega
  · obtain ⟨k1, k2, k3⟩ := R.fo a h
    exact ⟨k1, fun z => k2 (List.mem_append_left _ z), k3⟩
  · have e : (s1.mem.take mem.length)[n]? = some (some c) := e
    rw [List.getElem?_take] at e
    split at e
    · rename_i hn
      obtain ⟨a, k1, k2⟩ := R.cell n c e
      exact ⟨a, by rw [List.getElem?_append_left (by omega)] at k1; exact k1, k2⟩
    · cases e
theorem live_cut {t : List Addr} {b : Addr} (hm : mem.length = as.length) (h : live as ⟨[], s1.mem.take mem.length, 0⟩ b) : live (as ++ t) s1 b := by
  obtain ⟨n, c, e, k⟩ := h
  have e : (s1.mem.take mem.length)[n]? = some (some c) := e
  rw [List.getElem?_take] at e
  split at e
  · exact ⟨n, c, e, by rw [List.getElem?_append_left (List.getElem?_eq_some_iff.mp k).1]; exact k⟩
  · cases e
theorem RpW.cutS {v : V} {w : W} (r : RpW K F G' H' (as ++ t) v w) (hn : ∀ n, w = .c n → n < as.length) : RpW K F G' H' as v w := by
  cases w with
  | d x => exact r
  | c n =>
    obtain ⟨a, h, e⟩ := r
    exact ⟨a, by rw [List.getElem?_append_left (hn n rfl)] at h; exact h, e⟩
  | f xs =>
    obtain ⟨a, vs, e, h1, h2, h3, h4, h5⟩ := r
    exact ⟨a, vs, e, h1, h2, fun z => h3 (List.mem_append_left _ z), h4, h5⟩
theorem fin_ok {Q : VK} {r : Res (Out × S)} {sb : S} (hs : sb.mem = mem) (R : Rep K F G H as σ sb) (h : match fin mem r with
    | .ok (w, mem') => ∀ v G' H', Rep K F G' H' as [] ⟨[], mem', 0⟩ → Ext G H (live as ⟨[], mem, 0⟩) G' H' (live as ⟨[], mem', 0⟩) → RpW K F G' H' as v w → New H v w → Q v H'
    | .exc c => ∀ C H', mg c = some (.ref C) → (∀ a o, H a = some o → ¬ live as ⟨[], mem, 0⟩ a → H' a = some o) → E (.ref C) none H'
    | .bad => False) : sK K mg E F G H as sb r { nx := fun _ H' => Q .non H', rt := Q } := by
  have hm : mem.length = as.length := by rw [← hs]; exact R.alen.symm
  have el : live as sb = live as ⟨[], mem, 0⟩ := live_eq hs
  cases r with
  | bad => exact h
  | exc c =>
    intro C H' hc k
    exact h C H' hc (by rw [← el]; exact k)
  | ok p =>
    obtain ⟨o, s1⟩ := p
    have cutX : ∀ {G' H' : Hp} {as' : List Addr}, Ext G H (live as sb) G' H' (live as' s1) → as <+: as' → Ext G H (live as ⟨[], mem, 0⟩) G' H' (live as ⟨[], s1.mem.take mem.length, 0⟩) := fun {G' H' as'} x p => by
      obtain ⟨t, rfl⟩ := p
      rw [el] at x
      exact ⟨x.same, x.keep, fun a z => x.new a (live_cut hm z)⟩
    cases o with
    | nx => exact fun σ' G' H' as' R' X' p' => h .non G' H' (R'.cutS p' hm) (cutX X' p') .non fun _ _ e _ => nomatch e
    | bk => exact h.elim
    | ct => exact h.elim
    | rt w =>
      intro v σ' G' H' as' R' X' p' r' n'
      have R2 := R'.cutS p' hm
      have X2 := cutX X' p'
      obtain ⟨t, rfl⟩ := p'
      cases w with
      | d x => exact h v G' H' R2 X2 r' n'
      | f xs => exact h v G' H' R2 X2 (r'.cutS fun n z => nomatch z) n'
      | c n =>
        unfold fin at h
        rw [Res.bind_ok] at h
        dsimp only at h
        by_cases hn : n < mem.length
        · rw [if_pos hn] at h
          exact h v G' H' R2 X2 (r'.cutS fun m z => by cases z; omega) n'
        · rw [if_neg hn] at h
          cases e : s1.mem[n]? with
          | none => rw [e] at h; exact h.elim
          | some o =>
            rw [e] at h
            cases o with
            | none => exact h.elim
            | some c =>
              cases c with
              | m kvs => exact h.elim
              | t P q => exact h.elim
              | l xs =>
                obtain ⟨a, ha, rfl⟩ := r'
                obtain ⟨g0, vs, h1, h2⟩ := R'.cellAt e ha
                have na : a ∉ as := fun z => by
                  obtain ⟨m, hm'⟩ := List.getElem?_of_mem z
                  have := nd_at R'.nd ha (show (as ++ t)[m]? = some a by rw [List.getElem?_append_left (List.getElem?_eq_some_iff.mp hm').1]; exact hm')
                  have := (List.getElem?_eq_some_iff.mp hm').1
                  omega
                refine h _ G' H' R2 X2 ⟨a, vs, rfl, h1, g0, na, fun z => (R'.fo a z).2.1 (List.mem_of_getElem? ha), h2⟩ fun ys b _ hb => ?_
                cases hb
                rcases X'.new a ⟨n, _, e, ha⟩ with z | z
                · exact absurd z (not_live na)
                · exact z
end
/-- a def of the text keeps the promise of its body's meaning -/
theorem Df.mk' {P : Program} {w : World} {K : PySem.W.Frag} {mg : Str → Option Value} {base : Heap} {k : Nat} {x : Str} {st : Stmt} {f : Addr} {fd : FuncData} {N ps : List Str} {g : SM} (Fn : Fun K x x st f fd) (Sc : FnScope N ps (defScope st)) (hm : mg x = some (.ref f)) (hb : Binds K fd ps [])
    (body : ∀ (cdv : Value) (A : Around) (outer : List Env) (s : Shared) (H : Hp) (E : XK), Room k (A.deeper (envOfC x (defScope st) s.heap.objs.size f cdv)) → PDSs (cxOf (L2.CX P w) P w K mg base N x (defScope st) f cdv A outer s H E) E (defBody st) g) :
    Df P w K mg base (k + 1) x ps (fnOf N g) := by
  refine ⟨f, fd, Fn.okX Sc (fun vs H Q E h => ?_) (fun cdv A outer s H vs Q E hr h => ⟨_, (body cdv A outer s H E hr).pss, ?_⟩), hm, Fn.kp, hb⟩
  · obtain ⟨_, _, _, _, _, hl, _⟩ := h
    exact hl
  · obtain ⟨F, G, as, mem, ws, hl, R, r, h⟩ := h
    exact ⟨F, G, as, s0 N mem ws, R.start N r, fin_ok (sb := s0 N mem ws) rfl (R.start N r) h⟩
end
end PD

set_option Elab.async false
set_option linter.all false
set_option maxRecDepth 100000
set_option maxHeartbeats 4000000
namespace PD
noncomputable section
open PySem PySem.Spec PyProof.Rows L2

/-! ### new objects -/
section
variable {K : KW} {mg : Str → Option Value} {E : XK} {F : Addr → Prop} {G H : Hp} {as : List Addr} {s s' : S} {σ : L2.St} {v : V} {w : W} {x : D} {xs : List D} {p : Addr} {o : HO}
theorem Rep.fresh (R : Rep K F G H as σ s) (hp : H p = none) : G p = none ∧ p ∉ as ∧ ¬ F p := by
  refine ⟨R.same.free hp, fun z => ?_, fun z => ?_⟩
  · obtain ⟨o, e⟩ := R.dom p z
    rw [hp] at e; cases e
  · obtain ⟨_, _, o, e⟩ := R.fo p z
    rw [hp] at e; cases e
/-- a new object that is not plain (yet) -/
theorem Rep.new (R : Rep K F G H as σ s) (hp : H p = none) (o : HO) : Rep K F G (upd H p o) as σ s := by
  have sh : Same H (upd H p o) := same_upd hp
  exact ⟨R.same.trans sh, R.len, R.alen, R.nd, fun a h => by
    obtain ⟨u, e⟩ := R.dom a h
    exact ⟨u, sh a u e⟩, fun a h => by
    obtain ⟨k1, k2, u, e⟩ := R.fo a h
    exact ⟨k1, k2, u, sh a u e⟩, fun n c e => by
    obtain ⟨a, k1, k2, k3⟩ := R.cell n c e
    exact ⟨a, k1, k2, k3.mono (Same.refl _) fun u z => sh a u z⟩, fun i w e => by
    obtain ⟨v, k1, k2, k3⟩ := R.env i w e
    exact ⟨v, k1, (show RpW K F G (upd H p o) as v w by
      cases w with
      | d x => exact k2
      | c n => exact k2
      | f ys => exact absurd rfl (k3 ys)), k3⟩⟩
theorem Ext.alloc (hp : H p = none) {L : Addr → Prop} : Ext G H L G (upd H p o) L := ⟨Same.refl _, fun a u e _ => same_upd hp a u e, fun _ z => .inl z⟩
/-- a new plain object -/
theorem Rep.newG (R : Rep K F G H as σ s) (hp : H p = none) (o : HO) : Rep K F (upd G p o) (upd H p o) as σ s := by
  obtain ⟨g, na, nf⟩ := R.fresh hp
  exact (R.new hp o).lay g upd_same nf fun n c _ z => na (List.mem_of_getElem? z)
theorem Ext.allocG (g : G p = none) (hp : H p = none) {L : Addr → Prop} : Ext G H L (upd G p o) (upd H p o) L := ⟨same_upd g, fun a u e _ => same_upd hp a u e, fun _ z => .inl z⟩
/-- a new list as a value -/
theorem Rep.newF {vs : List V} (R : Rep K F G H as σ s) (hp : H p = none) (r : RpA K G vs xs) : RpW K F G (upd H p (.lst vs)) as (.ref p) (.f xs) := by
  obtain ⟨g, na, nf⟩ := R.fresh hp
  exact ⟨p, vs, rfl, upd_same, g, na, nf, r⟩
end
/-- plain items of values -/
def dsOf : List W → Option (List D)
  | [] => some []
  | .d x :: r => (dsOf r).map (x :: ·)
  | _ :: _ => none
theorem dsOf_ok {K : KW} {G : Hp} {as : List Addr} : ∀ {vs : List V} {ws : List W} {ds : List D}, RpWs K G as vs ws → dsOf ws = some ds → RpA K G vs ds
  | _, _, _, .nil, e => by cases e; exact .nil
  | _, _, ds, .d (ws := ws) (x := x) h r, e => by
    have e : (dsOf ws).map (x :: ·) = some ds := e
    cases q : dsOf ws with
    | none => rw [q] at e; cases e
    | some es => rw [q] at e; cases e; exact .cons h (dsOf_ok r q)
  | _, _, _, .c h r, e => nomatch e
section
variable {X : Cx} {E : XK} {e a b c : Expr} {es : List Expr} {fe fa fb fc : EM} {g : AM} {pos : Pos} {k : Nat}
def eTup (g : AM) : EM := fun s => (g s).bind fun p => match dsOf p.1 with
  | some ds => if ds.length ≤ sizeLine then .ok (.d (.tuple ds), p.2) else .bad
  | none => .bad
theorem pd_tup {x1} (h : PDA X E es g) : PDE X E (.Tuple es x1 pos) (eTup g) := ⟨PE.imp (pe_tup h.pa) fun σ H Q h => by
  obtain ⟨F, G, as, s, R, h⟩ := h
  refine ⟨F, G, as, s, R, ?_⟩
  unfold eTup at h
  cases e : g s with
  | exc c => rw [e] at h; exact h
  | bad => rw [e] at h; exact h
  | ok q =>
    obtain ⟨ws, s1⟩ := q
    rw [e, Res.bind_ok] at h
    dsimp only at h
    intro vs G1 H1 R1 X1 r1
    have h := eK.ext h R R1 X1
    split at h
    · rename_i ds e2
      split at h
      · rename_i hz
        have ra := dsOf_ok r1 e2
        refine ⟨by rw [ra.length]; exact hz, fun p hp => ?_⟩
        obtain ⟨gp, _, _⟩ := R1.fresh hp
        exact h _ _ _ (R1.newG hp _) (Ext.allocG gp hp) (.tup (SqT.of upd_same) (ra.mono (same_upd gp))) fun _ _ z _ => nomatch z
      · exact h.elim
    · exact h.elim⟩
def eLst (g : AM) : EM := fun s => (g s).bind fun p => match dsOf p.1 with
  | some ds => if ds.length ≤ sizeLine then .ok (.f ds, p.2) else .bad
  | none => .bad
theorem pd_lst (h : PDA X E es g) : PDE X E (.List es pos) (eLst g) := ⟨PE.imp (pe_lst h.pa) fun σ H Q h => by
  obtain ⟨F, G, as, s, R, h⟩ := h
  refine ⟨F, G, as, s, R, ?_⟩
  unfold eLst at h
  cases e : g s with
  | exc c => rw [e] at h; exact h
  | bad => rw [e] at h; exact h
  | ok q =>
    obtain ⟨ws, s1⟩ := q
    rw [e, Res.bind_ok] at h
    dsimp only at h
    intro vs G1 H1 R1 X1 r1
    have h := eK.ext h R R1 X1
    split at h
    · rename_i ds e2
      split at h
      · rename_i hz
        have ra := dsOf_ok r1 e2
        refine ⟨by rw [ra.length]; exact hz, fun p hp => ?_⟩
        exact h _ _ _ (R1.new hp _) (Ext.alloc hp) (R1.newF hp ra) fun _ b _ hb => by cases hb; exact hp
      · exact h.elim
    · exact h.elim⟩

/-! ### built-ins of one argument -/
def eB1 (g : W → EM) (f : EM) : EM := fun s => (f s).bind fun p => g p.1 p.2
def UnD (X : Cx) (E : XK) (r : List V → Hp → VK → Prop) (g : W → EM) : Prop := ∀ (F : Addr → Prop) (G H : Hp) (as : List Addr) (s : S) (σ : L2.St) (v : V) (w : W) (Q : VK), Rep X.kw F G H as σ s → RpW X.kw F G H as v w → eK X.kw X.mg E F G H as s σ (g w s) Q → r [v] H Q
theorem b1_ok {r : List V → Hp → VK → Prop} {gg : W → EM} (hg : UnD X E r gg) (σ : L2.St) (H : Hp) (Q : VK) (h : eT X.kw X.mg E (eB1 gg fe) σ H Q) : tCB r (tCons (eT X.kw X.mg E fe) tNil) σ H Q := by
  obtain ⟨F, G, as, s, R, h⟩ := h
  exact eT.seq R h fun G1 H1 w s1 v R1 X1 r1 _ h1 => hg F G1 H1 as s1 σ v w Q R1 r1 h1
theorem pd_b1 {id : String} {x : Str} {p : Pos} {r : List V → Hp → VK → Prop} {gg : W → EM} (hc : CallR X (.builtin id) r) (hgg : UnD X E r gg) (hm : X.mg x = none) (hv : bootBuiltins x = some (.builtin id)) (ha : PDE X E e fe) (hg : Gl X x := by rfl) (hn : x ≠ "__name__" := by decide) (hdb : (x == ("__debug__" : Str)) = false := by decide)
    (he : starEach [e] X.env = (false, eval e X.env) :: starEach [] X.env := by rfl) : PDE X E (.Call (.Name x p) [e] [] pos) (eB1 gg fe) :=
  ⟨PE.imp (pe_callB hc hg hm hv (pa_cons ha.pe pa_nil he) hn hdb he) (b1_ok hgg)⟩
theorem pd_t1 {T : String} {x : Str} {p : Pos} {r : List V → Hp → VK → Prop} {gg : W → EM} (hc : CallR X (.type T) r) (hgg : UnD X E r gg) (hm : X.mg x = none) (hv : bootBuiltins x = some (.type T)) (ha : PDE X E e fe) (hg : Gl X x := by rfl) (hn : x ≠ "__name__" := by decide) (hdb : (x == ("__debug__" : Str)) = false := by decide)
    (he : starEach [e] X.env = (false, eval e X.env) :: starEach [] X.env := by rfl) : PDE X E (.Call (.Name x p) [e] [] pos) (eB1 gg fe) :=
  ⟨PE.imp (pe_callTy hc hg hm hv (pa_cons ha.pe pa_nil he) hn hdb he) (b1_ok hgg)⟩
def gLen : W → EM := fun w s => match dat s w with
  | some (.list xs) => .ok (.d (.int xs.length), s)
  | some (.tuple xs) => .ok (.d (.int xs.length), s)
  | some (.str z) => if z.length ≤ sizeLine then .ok (.d (.int z.length), s) else .bad
  | _ => .bad
theorem ud_len : UnD X E (fun xs H Q => (∃ p ys, xs = [.ref p] ∧ (SqL X.K H p ys ∨ SqT X.K H p ys) ∧ Q (.int ys.length) H) ∨ (∃ z, xs = [.str z] ∧ z.length ≤ sizeLine ∧ Q (.int z.length) H)) gLen := fun F G H as s σ v w Q R r h => by
  unfold gLen at h
  split at h
  · rename_i xs e
    obtain ⟨a, vs, rfl, h1, h2⟩ := dat_lst R r e
    exact .inl ⟨a, vs, rfl, .inl (h1), by rw [h2.length]; exact eK.val R h (.int _)⟩
  · rename_i xs e
    obtain ⟨_, a, vs, rfl, h1, h2⟩ := dat_tup R r e
    exact .inl ⟨a, vs, rfl, .inr h1, by rw [h2.length]; exact eK.val R h (.int _)⟩
  · rename_i z e
    split at h
    · rename_i hz
      exact .inr ⟨z, by rw [dat_str r e], hz, eK.val R h (.int _)⟩
    · exact h.elim
  · exact h.elim
abbrev eLen := eB1 gLen
theorem pd_len {p : Pos} (hm : X.mg "len" = none) (ha : PDE X E e fe) (hg : Gl X "len" := by rfl) (he : starEach [e] X.env = (false, eval e X.env) :: starEach [] X.env := by rfl) : PDE X E (.Call (.Name "len" p) [e] [] pos) (eLen fe) :=
  pd_b1 (call_len_seq.or call_len_str) ud_len hm PySem.boot_len ha hg (by decide) (by decide) he
def boolsOf : List D → Option (List Bool)
  | [] => some []
  | .bool b :: r => (boolsOf r).map (b :: ·)
  | _ :: _ => none
theorem boolsOf_ok {K : KW} {G : Hp} : ∀ {vs : List V} {ds : List D} {bs : List Bool}, RpA K G vs ds → boolsOf ds = some bs → vs = bs.map V.bl
  | _, _, _, .nil, e => by cases e; rfl
  | _, _, bs, .cons (ds := ds) (.bl b) r, e => by
    have e : (boolsOf ds).map (b :: ·) = some bs := e
    cases q : boolsOf ds with
    | none => rw [q] at e; cases e
    | some es => rw [q] at e; cases e; rw [boolsOf_ok r q]; rfl
  | _, _, _, .cons .non _, e => nomatch e
  | _, _, _, .cons (.int _) _, e => nomatch e
  | _, _, _, .cons (.str _) _, e => nomatch e
  | _, _, _, .cons (.lst _ _) _, e => nomatch e
  | _, _, _, .cons (.tup _ _) _, e => nomatch e
  | _, _, _, .cons (.dic _ _) _, e => nomatch e
  | _, _, _, .cons (.dicN _ _) _, e => nomatch e
def gAll (any : Bool) : W → EM := fun w s => match dat s w with
  | some (.list xs) => (match boolsOf xs with
    | some bs => .ok (.d (.bool (if any then bs.any id else bs.all id)), s)
    | none => .bad)
  | _ => .bad
theorem ud_all : UnD X E (rAll X.K) (gAll false) := fun F G H as s σ v w Q R r h => by
  unfold gAll at h
  split at h
  · rename_i xs e
    split at h
    · rename_i bs e2
      obtain ⟨a, vs, rfl, h1, h2⟩ := dat_lst R r e
      rw [boolsOf_ok h2 e2] at h1
      exact ⟨a, bs, rfl, h1, eK.val R h (.bl _)⟩
    · exact h.elim
  · exact h.elim
theorem ud_any : UnD X E (rAny X.K) (gAll true) := fun F G H as s σ v w Q R r h => by
  unfold gAll at h
  split at h
  · rename_i xs e
    split at h
    · rename_i bs e2
      obtain ⟨a, vs, rfl, h1, h2⟩ := dat_lst R r e
      rw [boolsOf_ok h2 e2] at h1
      exact ⟨a, bs, rfl, h1, eK.val R h (.bl _)⟩
    · exact h.elim
  · exact h.elim
theorem pd_all {p : Pos} (hm : X.mg "all" = none) (hcalm : X.calm = true) (ha : PDE X E e fe) (hg : Gl X "all" := by rfl) (he : starEach [e] X.env = (false, eval e X.env) :: starEach [] X.env := by rfl) : PDE X E (.Call (.Name "all" p) [e] [] pos) (eB1 (gAll false) fe) :=
  pd_b1 (cr_all hcalm) ud_all hm (by decide +kernel) ha hg (by decide) (by decide) he
theorem pd_any {p : Pos} (hm : X.mg "any" = none) (hcalm : X.calm = true) (ha : PDE X E e fe) (hg : Gl X "any" := by rfl) (he : starEach [e] X.env = (false, eval e X.env) :: starEach [] X.env := by rfl) : PDE X E (.Call (.Name "any" p) [e] [] pos) (eB1 (gAll true) fe) :=
  pd_b1 (cr_any hcalm) ud_any hm (by decide +kernel) ha hg (by decide) (by decide) he

/-! ### isinstance with a built-in type -/
def tyD : D → String
  | .none => "NoneType" | .bool _ => "bool" | .int _ => "int" | .str _ => "str" | .list _ => "list" | .tuple _ => "tuple" | .dict _ => "dict"
/-- a value's type, also of a dict with nested keys -/
inductive TyY (K : KW) (H : Hp) : V → Value → Prop where
  | x {v : V} {t : Value} (h : TyX K H v t) : TyY K H v t
  | n {a : Addr} {o : Obj} {es : List (NestedKey × Addr × V)} (h : H a = some (.frz o (dN K a es))) : TyY K H (.ref a) (.type "dict")
def rIsiY (K : KW) : List V → Hp → VK → Prop := fun xs H Q => ∃ (x c : V) (t u : Value) (b : Bool), xs = [x, c] ∧ ClsV c u ∧ TyY K H x t ∧ PySem.W.kitOne K.K t u = some b ∧ Q (.bl b) H
theorem call_isiY : CallR X (.builtin "isinstance") (rIsiY X.kw) := by
  intro pins s σ H xs us Q I r h
  obtain ⟨x, c, t, u, b, rfl, k, ty, e, q⟩ := h
  cases ty with
  | x ty => exact call_isi pins s σ H _ us Q I r ⟨x, c, t, u, b, rfl, k, ty, e, q⟩
  | @n a o es ha =>
    obtain ⟨u1, u2, rfl, r1, r2⟩ := vals2 r
    have e2 := k.eq r2
    subst e2
    cases (show u1 = Value.ref a from r1)
    obtain ⟨_, ⟨_, _, _, _, o, _, _, ho, hx, _⟩, _⟩ := (show ObjOk X.prog X.w H s.heap a (.frz _ (dN X.kw a es)) from I.hok a _ ha)
    exact PySem.W.kia_one PySem.W.kitx_dict I.kIn ⟨o, ho, hx.1⟩ e (fun z => nomatch z) fun tk => ⟨.bl b, H, I.tok tk, rfl, q⟩
theorem tyX_of {K : KW} {H : Hp} {v : V} {x : D} (r : Rp K H v x) : TyY K H v (.type (tyD x)) := by
  cases r with
  | non => exact .x (.base .non)
  | bl b => exact .x (.base (.bl b))
  | int i => exact .x (.base (.int i))
  | str z => exact .x (.base (.str z))
  | lst h _ =>
    rcases h with (h | ⟨o, h⟩) | ⟨o, _, _, h, hc, _⟩
    · exact .x (.base (.lst h))
    · exact .x (.base (.frz h))
    · exact .x (.kList h hc)
  | tup h _ =>
    rcases h with (h | ⟨o, h⟩) | ⟨o, _, _, h, hc, _⟩
    · exact .x (.base (.tup h))
    · exact .x (.fTuple h)
    · exact .x (.kTuple h hc)
  | dic h _ => exact .x (.base (.dK h))
  | dicN h _ => exact .n h
def gIsi (t : D → Bool) : W → EM := fun w s => match dat s w with
  | some x => .ok (.d (.bool (t x)), s)
  | none => .bad
def eIsi (t : D → Bool) (f : EM) : EM := fun s => (f s).bind fun p => gIsi t p.1 p.2
theorem pd_isi {T : String} {xT : Str} {t : D → Bool} {p p2 : Pos} (hm : X.mg "isinstance" = none) (hmT : X.mg xT = none) (hvT : bootBuiltins xT = some (.type T)) (hk : ∀ x, kitB (tyD x) T = some (t x)) (ha : PDE X E e fe) (hnT : xT ≠ "__name__" := by decide) (hdT : (xT == ("__debug__" : Str)) = false := by decide)
    (hg : Gl X "isinstance" := by rfl) (hgT : Gl X xT := by rfl) (he : starEach [e, .Name xT p2] X.env = (false, eval e X.env) :: starEach [.Name xT p2] X.env := by rfl) (he2 : starEach [.Name xT p2] X.env = (false, eval (.Name xT p2) X.env) :: starEach [] X.env := by rfl) : PDE X E (.Call (.Name "isinstance" p) [e, .Name xT p2] [] pos) (eIsi t fe) :=
  ⟨PE.imp (pe_callB call_isiY hg hm (by decide +kernel) (pa_cons ha.pe (pa_cons (pe_bltn (v := .ty T) hgT hmT hvT rfl hnT hdT) pa_nil he2) he) (by decide) (by decide) he) fun σ H Q h => by
    obtain ⟨F, G, as, s, R, h⟩ := h
    refine eT.seq R h fun G1 H1 w s1 v R1 X1 r1 _ h1 => ?_
    dsimp only [gIsi] at h1
    split at h1
    · rename_i x e2
      exact ⟨v, .ty T, .type (tyD x), .type T, t x, rfl, .ty T, tyX_of (dat_rp R1 r1 e2), kit_ty (hk x), eK.val R1 h1 (.bl _)⟩
    · exact h1.elim⟩
@[simp] def isInt : D → Bool | .int _ => true | .bool _ => true | _ => false
@[simp] def isBool : D → Bool | .bool _ => true | _ => false
@[simp] def isStr : D → Bool | .str _ => true | _ => false
@[simp] def isTup : D → Bool | .tuple _ => true | _ => false
@[simp] def isLst : D → Bool | .list _ => true | _ => false
@[simp] def isDct : D → Bool | .dict _ => true | _ => false
theorem kAny {T : String} {t : D → Bool} {b0 b1 b2 b3 b4 b5 b6 : Bool} (h0 : kitB "NoneType" T = some b0) (h1 : kitB "bool" T = some b1) (h2 : kitB "int" T = some b2) (h3 : kitB "str" T = some b3) (h4 : kitB "list" T = some b4) (h5 : kitB "tuple" T = some b5) (h6 : kitB "dict" T = some b6)
    (k0 : t .none = b0) (k1 : ∀ b, t (.bool b) = b1) (k2 : ∀ b, t (.int b) = b2) (k3 : ∀ b, t (.str b) = b3) (k4 : ∀ b, t (.list b) = b4) (k5 : ∀ b, t (.tuple b) = b5) (k6 : ∀ b, t (.dict b) = b6) : ∀ x : D, kitB (tyD x) T = some (t x)
  | .none => by rw [k0]; exact h0
  | .bool b => by rw [k1]; exact h1
  | .int b => by rw [k2]; exact h2
  | .str b => by rw [k3]; exact h3
  | .list b => by rw [k4]; exact h4
  | .tuple b => by rw [k5]; exact h5
  | .dict b => by rw [k6]; exact h6
theorem kInt : ∀ x : D, kitB (tyD x) "int" = some (isInt x) := kAny (show kitB "NoneType" "int" = some false by decide +kernel) (show kitB "bool" "int" = some true by decide +kernel) (show kitB "int" "int" = some true by decide +kernel) (show kitB "str" "int" = some false by decide +kernel) (show kitB "list" "int" = some false by decide +kernel) (show kitB "tuple" "int" = some false by decide +kernel) (show kitB "dict" "int" = some false by decide +kernel) rfl (fun _ => rfl) (fun _ => rfl) (fun _ => rfl) (fun _ => rfl) (fun _ => rfl) (fun _ => rfl)
theorem kBool : ∀ x : D, kitB (tyD x) "bool" = some (isBool x) := kAny (show kitB "NoneType" "bool" = some false by decide +kernel) (show kitB "bool" "bool" = some true by decide +kernel) (show kitB "int" "bool" = some false by decide +kernel) (show kitB "str" "bool" = some false by decide +kernel) (show kitB "list" "bool" = some false by decide +kernel) (show kitB "tuple" "bool" = some false by decide +kernel) (show kitB "dict" "bool" = some false by decide +kernel) rfl (fun _ => rfl) (fun _ => rfl) (fun _ => rfl) (fun _ => rfl) (fun _ => rfl) (fun _ => rfl)
theorem kStr : ∀ x : D, kitB (tyD x) "str" = some (isStr x) := kAny (show kitB "NoneType" "str" = some false by decide +kernel) (show kitB "bool" "str" = some false by decide +kernel) (show kitB "int" "str" = some false by decide +kernel) (show kitB "str" "str" = some true by decide +kernel) (show kitB "list" "str" = some false by decide +kernel) (show kitB "tuple" "str" = some false by decide +kernel) (show kitB "dict" "str" = some false by decide +kernel) rfl (fun _ => rfl) (fun _ => rfl) (fun _ => rfl) (fun _ => rfl) (fun _ => rfl) (fun _ => rfl)
theorem kTup : ∀ x : D, kitB (tyD x) "tuple" = some (isTup x) := kAny (show kitB "NoneType" "tuple" = some false by decide +kernel) (show kitB "bool" "tuple" = some false by decide +kernel) (show kitB "int" "tuple" = some false by decide +kernel) (show kitB "str" "tuple" = some false by decide +kernel) (show kitB "list" "tuple" = some false by decide +kernel) (show kitB "tuple" "tuple" = some true by decide +kernel) (show kitB "dict" "tuple" = some false by decide +kernel) rfl (fun _ => rfl) (fun _ => rfl) (fun _ => rfl) (fun _ => rfl) (fun _ => rfl) (fun _ => rfl)
theorem kLst : ∀ x : D, kitB (tyD x) "list" = some (isLst x) := kAny (show kitB "NoneType" "list" = some false by decide +kernel) (show kitB "bool" "list" = some false by decide +kernel) (show kitB "int" "list" = some false by decide +kernel) (show kitB "str" "list" = some false by decide +kernel) (show kitB "list" "list" = some true by decide +kernel) (show kitB "tuple" "list" = some false by decide +kernel) (show kitB "dict" "list" = some false by decide +kernel) rfl (fun _ => rfl) (fun _ => rfl) (fun _ => rfl) (fun _ => rfl) (fun _ => rfl) (fun _ => rfl)
theorem kDct : ∀ x : D, kitB (tyD x) "dict" = some (isDct x) := kAny (show kitB "NoneType" "dict" = some false by decide +kernel) (show kitB "bool" "dict" = some false by decide +kernel) (show kitB "int" "dict" = some false by decide +kernel) (show kitB "str" "dict" = some false by decide +kernel) (show kitB "list" "dict" = some false by decide +kernel) (show kitB "tuple" "dict" = some false by decide +kernel) (show kitB "dict" "dict" = some true by decide +kernel) rfl (fun _ => rfl) (fun _ => rfl) (fun _ => rfl) (fun _ => rfl) (fun _ => rfl) (fun _ => rfl)

/-! ### subscripts -/
def gIx : W → W → EM := fun wa wb s => match dat s wa, wb with
  | some (.list xs), .d (.int i) => (match atI xs i with
    | some x => .ok (.d x, s)
    | none => .bad)
  | some (.tuple xs), .d (.int i) => (match atI xs i with
    | some x => .ok (.d x, s)
    | none => .bad)
  | some (.str z), .d (.int i) => (match atI z.cps.toList i with
    | some c => if z.length ≤ sizeLine then .ok (.d (.str ⟨#[c]⟩), s) else .bad
    | none => .bad)
  | _, _ => .bad
theorem atI_rp {K : KW} {G : Hp} {vs : List V} {xs : List D} {i : Int} {x : D} (r : RpA K G vs xs) (h : atI xs i = some x) : ∃ v, atI vs i = some v ∧ Rp K G v x := by
  unfold atI at h ⊢
  rw [r.length]
  cases q : ixN xs.length i with
  | none => rw [q] at h; cases h
  | some j =>
    rw [q] at h
    exact r.get h
theorem od_ix : OpD X E (rIx X.K) gIx := fun F G H as s σ x y wa wb Q R ra rb h => by
  unfold gIx at h
  split at h
  · rename_i xs i e
    split at h
    · rename_i d e2
      obtain ⟨a, vs, rfl, h1, h2⟩ := dat_lst R ra e
      cases rb
      obtain ⟨v, h3, h4⟩ := atI_rp h2 e2
      exact .inl ⟨a, vs, i, v, rfl, rfl, h1, h3, eK.val R h h4⟩
    · exact h.elim
  · rename_i xs i e
    split at h
    · rename_i d e2
      obtain ⟨_, a, vs, rfl, h1, h2⟩ := dat_tup R ra e
      cases rb
      obtain ⟨v, h3, h4⟩ := atI_rp h2 e2
      exact .inr (.inl ⟨a, vs, i, v, rfl, rfl, h1, h3, eK.val R h h4⟩)
    · exact h.elim
  · rename_i z i e
    split at h
    · rename_i c e2
      split at h
      · rename_i hz
        cases rb
        exact .inr (.inr ⟨z, i, c, dat_str ra e, rfl, hz, e2, eK.val R h (.str _)⟩)
      · exact h.elim
    · exact h.elim
  · exact h.elim
abbrev eIx := eBin gIx
theorem pd_ix (ha : PDE X E a fa) (hb : PDE X E b fb) (hs : PlainIx b := by exact fun _ _ => rfl) : PDE X E (.Subscript a b pos) (eIx fa fb) := ⟨PE.imp (pe_ix ix_seq ha.pe hb.pe hs) (bin_ok od_ix)⟩
end
end
end PD

set_option Elab.async false
set_option linter.all false
set_option maxRecDepth 100000
set_option maxHeartbeats 4000000
namespace PD
noncomputable section
open PySem PySem.Spec PyProof.Rows L2

/-! ### what is walked -/
/-- from heaps that hold G, the iterator yields these plain items -/
def WalkI (K : KW) (G : Hp) (J : It) (xs : List D) : Prop := ∀ (i : Nat) (G1 H : Hp), Same G G1 → Same G1 H →
  (xs.length ≤ i → J.stop i H) ∧ ∀ d, xs[i]? = some d → J.go i H ∧ ∀ x H', J.yld i H x H' → (H' = H ∧ Rp K G1 x d) ∨ ∃ T o, H T = none ∧ H' = upd H T o ∧ Rp K (upd G1 T o) x d
def iK (K : KW) (mg : Str → Option Value) (E : XK) (F : Addr → Prop) (G H : Hp) (as : List Addr) (s : S) (σ : L2.St) (r : Res (List D × S)) (Q : It → Hp → Prop) : Prop := match r with
  | .ok (xs, s') => ∀ J G' H', Rep K F G' H' as σ s' → Ext G H (live as s) G' H' (live as s') → WalkI K G' J xs → Q J H'
  | .exc c => ∀ C H', mg c = some (.ref C) → (∀ a o, H a = some o → ¬ live as s a → H' a = some o) → E (.ref C) none H'
  | .bad => False
abbrev IM := S → Res (List D × S)
def iT (K : KW) (mg : Str → Option Value) (E : XK) (f : IM) : TI := fun σ H Q => ∃ (F : Addr → Prop) (G : Hp) (as : List Addr) (s : S), Rep K F G H as σ s ∧ iK K mg E F G H as s σ (f s) Q
structure PDI (X : Cx) (E : XK) (tg e : Expr) (f : IM) : Prop where
  pi : PI X tg e (iT X.kw X.mg E f)
theorem PI.imp {X : Cx} {tg e : Expr} {t t' : TI} (h : PI X tg e t) (k : ∀ σ H Q, t' σ H Q → t σ H Q) : PI X tg e t' := ⟨fun pins s σ H Q I q => h.run pins s σ H Q I (k σ H Q q)⟩
theorem sq_inj {K : KW} {G H : Hp} {a : Addr} {xs ys : List V} (sg : Same G H) (h : SqL K G a xs) (h' : ∀ xs, SqL K H a xs → ∀ ys, SqL K H a ys → xs = ys) (q : SqL K H a ys) : ys = xs := h' _ q _ (sg.seq h)
section
variable {X : Cx} {E : XK} {tg e e2 : Expr} {fe f2 : EM}
theorem walk_list {K : KW} {G : Hp} {a : Addr} {vs : List V} {xs : List D} (h : SqL K G a vs) (r : RpA K G vs xs) : WalkI K G (Itl K a) xs := fun i G1 H s1 s2 => by
  have hH : SqL K H a vs := (s1.trans s2).seq h
  refine ⟨fun hi => ⟨vs, hH, by rw [r.length]; exact hi⟩, fun d hd => ?_⟩
  obtain ⟨v, h1, h2⟩ := r.get hd
  refine ⟨⟨vs, v, hH, h1⟩, fun x H' y => .inl ⟨y.1, ?_⟩⟩
  have := y.2 vs hH
  rw [h1] at this; cases this
  exact Rp.mono s1 h2
theorem walk_tup {K : KW} {G : Hp} {a : Addr} {vs : List V} {xs : List D} (h : SqT K G a vs) (r : RpA K G vs xs) : WalkI K G (Itt K a) xs := fun i G1 H s1 s2 => by
  have hH : SqT K H a vs := seqT (s1.trans s2) h
  refine ⟨fun hi => ⟨vs, hH, by rw [r.length]; exact hi⟩, fun d hd => ?_⟩
  obtain ⟨v, h1, h2⟩ := r.get hd
  refine ⟨⟨vs, v, hH, h1⟩, fun x H' y => .inl ⟨y.1, ?_⟩⟩
  have := y.2 vs hH
  rw [h1] at this; cases this
  exact Rp.mono s1 h2
theorem walk_range {K : KW} {G : Hp} {lo : Int} {n : Nat} : WalkI K G (Itr lo n) ((List.range n).map fun (i : Nat) => PyData.int (lo + i)) := fun i G1 H s1 s2 => by
  refine ⟨fun hi => (show n ≤ i by simpa using hi), fun d hd => ?_⟩
  have hi : i < n := by
    have := (List.getElem?_eq_some_iff.mp hd).1
    simpa using this
  have e : d = .int (lo + i) := by
    rw [List.getElem?_map, List.getElem?_range hi] at hd
    exact (Option.some.inj hd).symm
  subst e
  exact ⟨hi, fun x H' y => .inl ⟨y.1, by rw [y.2]; exact .int _⟩⟩
theorem walk_str {K : KW} {G : Hp} {z : Str} : WalkI K G (Its z) (z.cps.toList.map fun (c : Nat) => PyData.str ⟨#[c]⟩) := fun i G1 H s1 s2 => by
  refine ⟨fun hi => (show z.cps.size ≤ i by simpa using hi), fun d hd => ?_⟩
  rw [List.getElem?_map] at hd
  cases q : z.cps.toList[i]? with
  | none => rw [q] at hd; cases hd
  | some c =>
    rw [q] at hd
    cases hd
    have hi : i < z.cps.size := by simpa using (List.getElem?_eq_some_iff.mp q).1
    refine ⟨hi, fun x H' y => .inl ⟨y.1, ?_⟩⟩
    obtain ⟨c', h1, h2⟩ := y.2
    have : c' = c := by
      have h3 : z.cps.toList[i]? = some c' := by rw [Array.getElem?_toList]; exact h1
      rw [q] at h3
      exact (Option.some.inj h3).symm
    rw [h2, this]
    exact .str _
/-- a list, a tuple, a text that is walked is plain from then on -/
def iOf (f : EM) : IM := fun s => (f s).bind fun p => match toD p.1 p.2 with
  | some (.list xs, s') => .ok (xs, s')
  | some (.tuple xs, s') => .ok (xs, s')
  | some (.str z, s') => .ok (z.cps.toList.map fun (c : Nat) => PyData.str ⟨#[c]⟩, s')
  | _ => .bad
/-- one expression, walked -/
theorem iK.ext {K : KW} {mg : Str → Option Value} {F : Addr → Prop} {G H G1 H1 : Hp} {as : List Addr} {s s1 : S} {σ : L2.St} {r : Res (List D × S)} {Q : It → Hp → Prop} (h : iK K mg E F G H as s σ r Q) (e : Ext G H (live as s) G1 H1 (live as s1)) : iK K mg E F G1 H1 as s1 σ r Q := by
  cases r with
  | ok p => exact fun J G' H' R' x w => h J G' H' R' (e.trans x) w
  | exc c => exact fun C H' hc k => h C H' hc (keepX e k)
  | bad => exact h
theorem eT.seqI {K : KW} {mg : Str → Option Value} {F : Addr → Prop} {G H : Hp} {as : List Addr} {s : S} {σ : L2.St} {fa : EM} {k : W × S → Res (List D × S)} {Q : It → Hp → Prop} {Q1 : VK} (R : Rep K F G H as σ s) (h : iK K mg E F G H as s σ ((fa s).bind k) Q)
    (hk : ∀ (G1 H1 : Hp) (w : W) (s1 : S) (v : V), Rep K F G1 H1 as σ s1 → RpW K F G1 H1 as v w → iK K mg E F G1 H1 as s1 σ (k (w, s1)) Q → Q1 v H1) : eT K mg E fa σ H Q1 := by
  refine ⟨F, G, as, s, R, ?_⟩
  cases e : fa s with
  | ok p =>
    obtain ⟨w, s1⟩ := p
    rw [e] at h
    exact fun v G1 H1 R1 X1 r n => hk G1 H1 w s1 v R1 r (iK.ext h X1)
  | exc c => rw [e] at h; exact h
  | bad => rw [e] at h; exact h
def lstOnly (f : EM) : IM := fun s => (f s).bind fun p => match toD p.1 p.2 with
  | some (.list xs, s') => .ok (xs, s')
  | _ => .bad
def tupOnly (f : EM) : IM := fun s => (f s).bind fun p => match toD p.1 p.2 with
  | some (.tuple xs, s') => .ok (xs, s')
  | _ => .bad
def strOnly (f : EM) : IM := fun s => (f s).bind fun p => match toD p.1 p.2 with
  | some (.str z, s') => .ok (z.cps.toList.map fun (c : Nat) => PyData.str ⟨#[c]⟩, s')
  | _ => .bad
theorem pdi_list (h : PDE X E e fe) : PDI X E tg e (lstOnly fe) := ⟨PI.imp (pi_list h.pe) fun σ H Q h => by
  obtain ⟨F, G, as, s, R, h⟩ := h
  refine eT.seqI R h fun G1 H1 w s1 v R1 r1 h1 => ?_
  dsimp only at h1
  split at h1
  · rename_i xs s' e
    obtain ⟨G2, R2, X2, r2⟩ := toD_ok R1 r1 e
    cases r2 with
    | lst k1 k2 => exact ⟨_, rfl, ⟨_, R2.same.seq (k1)⟩, h1 _ G2 H1 R2 X2 (walk_list (k1) k2)⟩
  · exact h1.elim⟩
theorem pdi_tup (h : PDE X E e fe) : PDI X E tg e (tupOnly fe) := ⟨PI.imp (pi_tup h.pe) fun σ H Q h => by
  obtain ⟨F, G, as, s, R, h⟩ := h
  refine eT.seqI R h fun G1 H1 w s1 v R1 r1 h1 => ?_
  dsimp only at h1
  split at h1
  · rename_i xs s' e
    obtain ⟨G2, R2, X2, r2⟩ := toD_ok R1 r1 e
    cases r2 with
    | tup k1 k2 => exact ⟨_, rfl, ⟨_, seqT R2.same k1⟩, h1 _ G2 H1 R2 X2 (walk_tup k1 k2)⟩
  · exact h1.elim⟩
theorem pdi_str (h : PDE X E e fe) : PDI X E tg e (strOnly fe) := ⟨PI.imp (pi_str h.pe) fun σ H Q h => by
  obtain ⟨F, G, as, s, R, h⟩ := h
  refine eT.seqI R h fun G1 H1 w s1 v R1 r1 h1 => ?_
  dsimp only at h1
  split at h1
  · rename_i z s' e
    obtain ⟨G2, R2, X2, r2⟩ := toD_ok R1 r1 e
    cases r2 with
    | str => exact ⟨_, rfl, h1 _ G2 H1 R2 X2 walk_str⟩
  · exact h1.elim⟩
/-- a list, a tuple or a text, whichever it is -/
theorem pdi_any (h : PDE X E e fe) : PDI X E tg e (iOf fe) := ⟨⟨fun pins s σ H Q I h' => by
  obtain ⟨F, G, as, s0, R, h'⟩ := h'
  unfold iOf at h'
  cases q : fe s0 with
  | exc c =>
    refine (pdi_list (tg := tg) h).pi.run pins s σ H Q I ⟨F, G, as, s0, R, ?_⟩
    unfold lstOnly
    rw [q] at h' ⊢
    exact h'
  | bad => rw [q] at h'; exact h'.elim
  | ok p =>
    rw [q, Res.bind_ok] at h'
    split at h'
    · rename_i xs s' e2
      refine (pdi_list (tg := tg) h).pi.run pins s σ H Q I ⟨F, G, as, s0, R, ?_⟩
      unfold lstOnly
      rw [q, Res.bind_ok, e2]
      exact h'
    · rename_i xs s' e2
      refine (pdi_tup (tg := tg) h).pi.run pins s σ H Q I ⟨F, G, as, s0, R, ?_⟩
      unfold tupOnly
      rw [q, Res.bind_ok, e2]
      exact h'
    · rename_i z s' e2
      refine (pdi_str (tg := tg) h).pi.run pins s σ H Q I ⟨F, G, as, s0, R, ?_⟩
      unfold strOnly
      rw [q, Res.bind_ok, e2]
      exact h'
    · exact h'.elim⟩⟩
/-- guards that nothing unfolds (an Int against 2 ^ 62 by counting down would never end) -/
noncomputable def inBo : { f : Int → Bool // ∀ i, f i = (decide (-(2 ^ 62) ≤ i) && decide (i < 2 ^ 62)) } := Classical.choice ⟨⟨fun i => decide (-(2 ^ 62) ≤ i) && decide (i < 2 ^ 62), fun _ => rfl⟩⟩
def inB (i : Int) : Bool := inBo.1 i
theorem inB_eq (i : Int) : inB i = (decide (-(2 ^ 62) ≤ i) && decide (i < 2 ^ 62)) := inBo.2 i
theorem inB_ba {i : Int} (h : inB i = true) : decide (-(2 ^ 62) ≤ i) = true ∧ decide (i < 2 ^ 62) = true := Bool.and_eq_true_iff.mp (by rw [← inB_eq]; exact h)
def iRange1 (f : EM) : IM := fun s => (f s).bind fun p => match p.1 with
  | .d (.int j) => if inB j then .ok ((List.range j.toNat).map fun (i : Nat) => PyData.int (0 + i), p.2) else .bad
  | _ => .bad
theorem pdi_range1 {p pos : Pos} (hm : X.mg "range" = none) (h : PDE X E e fe) (hg : Gl X "range" := by rfl) (hs : starEach [e] X.env = [(false, eval e X.env)] := by rfl) (hs' : starEach [e] X.env = (false, eval e X.env) :: starEach [] X.env := by rfl) : PDI X E tg (.Call (.Name "range" p) [e] [] pos) (iRange1 fe) :=
  ⟨PI.imp (pi_range1 hg hm (pa_cons h.pe pa_nil hs') hs) fun σ H Q h => by
  obtain ⟨F, G, as, s, R, h⟩ := h
  refine eT.seqI R h fun G1 H1 w s1 v R1 r1 h1 => ?_
  dsimp only at h1
  split at h1
  · rename_i j
    split at h1
    · rename_i hb
      obtain ⟨b1, b2⟩ := inB_ba hb
      cases r1
      exact ⟨j, rfl, of_decide_eq_true b1, of_decide_eq_true b2, h1 _ G1 H1 R1 (Ext.refl _ _ _) walk_range⟩
    · exact h1.elim
  · exact h1.elim⟩
def iRange2 (f g : EM) : IM := fun s => (f s).bind fun p => (g p.2).bind fun q => match p.1, q.1 with
  | .d (.int i), .d (.int j) => if inB i && inB j then .ok ((List.range (j - i).toNat).map fun (k : Nat) => PyData.int (i + k), q.2) else .bad
  | _, _ => .bad
theorem pdi_range2 {p pos : Pos} (hm : X.mg "range" = none) (h : PDE X E e fe) (h2 : PDE X E e2 f2) (hg : Gl X "range" := by rfl) (hs : starEach [e, e2] X.env = [(false, eval e X.env), (false, eval e2 X.env)] := by rfl) (hs2 : starEach [e2] X.env = [(false, eval e2 X.env)] := by rfl)
    (hs' : starEach [e, e2] X.env = (false, eval e X.env) :: starEach [e2] X.env := by rfl) (hs3 : starEach [e2] X.env = (false, eval e2 X.env) :: starEach [] X.env := by rfl) : PDI X E tg (.Call (.Name "range" p) [e, e2] [] pos) (iRange2 fe f2) :=
  ⟨PI.imp (pi_range2 hg hm (pa_cons h.pe (pa_cons h2.pe pa_nil hs3) hs') hs hs2) fun σ H Q h => by
  obtain ⟨F, G, as, s, R, h⟩ := h
  refine eT.seqI R h fun G1 H1 w s1 v R1 r1 h1 => ?_
  refine ⟨pn F v w, G1, as, s1, R1.pend r1, ?_⟩
  dsimp only at h1
  cases q : f2 s1 with
  | exc c => rw [q] at h1; exact h1
  | bad => rw [q] at h1; exact h1
  | ok p2 =>
    obtain ⟨w2, s2⟩ := p2
    rw [q, Res.bind_ok] at h1
    dsimp only at h1
    intro v2 G2 H2 R2 X2 r2 n2
    split at h1
    · rename_i i j
      split at h1
      · rename_i hb
        obtain ⟨b1, b2⟩ := Bool.and_eq_true_iff.mp hb
        obtain ⟨b3, b4⟩ := inB_ba b1
        obtain ⟨b5, b6⟩ := inB_ba b2
        cases r1
        cases r2
        exact ⟨i, j, rfl, ⟨of_decide_eq_true b3, of_decide_eq_true b4, of_decide_eq_true b5, of_decide_eq_true b6⟩, h1 _ G2 H2 R2.unpend X2 walk_range⟩
      · exact h1.elim
    · exact h1.elim⟩
/-! enumerate of a list -/
def enumFrom (k : Nat) : List D → List D
  | [] => []
  | d :: r => .tuple [.int (k : Nat), d] :: enumFrom (k + 1) r
theorem enumFrom_get : ∀ {xs : List D} {k i : Nat}, (enumFrom k xs)[i]? = xs[i]?.map fun d => PyData.tuple [.int ((k + i : Nat) : Int), d]
  | [], _, _ => by simp [enumFrom]
  | _ :: _, k, 0 => by simp [enumFrom]
  | _ :: r, k, i + 1 => by
    simp only [enumFrom, List.getElem?_cons_succ]
    rw [enumFrom_get (xs := r)]
    congr 1
    funext d
    rw [show k + 1 + i = k + (i + 1) by omega]
theorem enumFrom_len : ∀ {xs : List D} {k : Nat}, (enumFrom k xs).length = xs.length
  | [], _ => rfl
  | _ :: r, k => by simp [enumFrom, enumFrom_len (xs := r)]
theorem walk_enum {K : KW} {G : Hp} {a : Addr} {vs : List V} {xs : List D} (h : SqL K G a vs) (r : RpA K G vs xs) : WalkI K G (Ite K a) (enumFrom 0 xs) := fun i G1 H s1 s2 => by
  have hH : SqL K H a vs := (s1.trans s2).seq h
  refine ⟨fun hi => ⟨vs, hH, by rw [r.length]; rw [enumFrom_len] at hi; exact hi⟩, fun d hd => ?_⟩
  rw [enumFrom_get] at hd
  cases q : xs[i]? with
  | none => rw [q] at hd; cases hd
  | some d0 =>
    rw [q] at hd
    cases hd
    obtain ⟨v, h1, h2⟩ := r.get q
    refine ⟨⟨vs, v, hH, h1⟩, fun x H' y => .inr ?_⟩
    obtain ⟨T, x0, rfl, hT, rfl, hx⟩ := y
    have := hx vs hH
    rw [h1] at this; cases this
    refine ⟨T, _, hT, rfl, .tup (SqT.of upd_same) ?_⟩
    rw [show ((0 + i : Nat) : Int) = ((i : Nat) : Int) by simp]
    exact .cons (.int _) (.cons (Rp.mono (s1.trans (same_upd (s2.free hT))) h2) .nil)
def iEnumL (f : EM) : IM := fun s => (lstOnly f s).bind fun p => .ok (enumFrom 0 p.1, p.2)
theorem pdi_enum {p pos tpos : Pos} {elts : List Expr} {kk : Nat} (hm : X.mg "enumerate" = none) (h : PDE X E e fe) (hg : Gl X "enumerate" := by rfl) (hs : starEach [e] X.env = [(false, eval e X.env)] := by rfl) (hs' : starEach [e] X.env = (false, eval e X.env) :: starEach [] X.env := by rfl) :
    PDI X E (.Tuple elts kk tpos) (.Call (.Name "enumerate" p) [e] [] pos) (iEnumL fe) :=
  ⟨PI.imp (pi_enum hg hm (pa_cons h.pe pa_nil hs') hs) fun σ H Q h => by
  obtain ⟨F, G, as, s, R, h⟩ := h
  refine ⟨F, G, as, s, R, ?_⟩
  unfold iEnumL lstOnly at h
  cases q : fe s with
  | exc c => rw [q] at h; exact h
  | bad => rw [q] at h; exact h
  | ok p =>
    obtain ⟨w, s1⟩ := p
    rw [q, Res.bind_ok] at h
    dsimp only at h
    intro v G1 H1 R1 X1 r1 n1
    cases e2 : toD w s1 with
    | none => rw [e2] at h; exact h.elim
    | some p2 =>
      obtain ⟨x, s2⟩ := p2
      rw [e2] at h
      cases x with
      | list xs =>
        have h := iK.ext h X1
        obtain ⟨G2, R2, X2, r2⟩ := toD_ok R1 r1 e2
        cases r2 with
        | lst k1 k2 => exact ⟨_, _, rfl, R2.same.seq (k1), h _ G2 H1 R2 X2 (walk_enum (k1) k2)⟩
      | _ => exact h.elim⟩
/-! zip of two lists, of two tuples -/
def zip2 : List D → List D → List D
  | x :: xs, y :: ys => .tuple [x, y] :: zip2 xs ys
  | _, _ => []
theorem zip2_get : ∀ {xs ys : List D} {i : Nat} {d : D}, (zip2 xs ys)[i]? = some d → ∃ x y, xs[i]? = some x ∧ ys[i]? = some y ∧ d = .tuple [x, y]
  | [], _, _, _, h => by simp [zip2] at h
  | _ :: _, [], _, _, h => by simp [zip2] at h
  | x :: xs, y :: ys, 0, d, h => by simp [zip2] at h; exact ⟨x, y, rfl, rfl, h.symm⟩
  | x :: xs, y :: ys, i + 1, d, h => by
    obtain ⟨a, b, h1, h2, h3⟩ := zip2_get (xs := xs) (ys := ys) (i := i) (d := d) (by simpa [zip2] using h)
    exact ⟨a, b, by simpa using h1, by simpa using h2, h3⟩
theorem zip2_len : ∀ {xs ys : List D}, (zip2 xs ys).length = min xs.length ys.length
  | [], _ => by simp [zip2]
  | _ :: _, [] => by simp [zip2]
  | x :: xs, y :: ys => by simp only [zip2, List.length_cons, zip2_len (xs := xs) (ys := ys)]; omega
theorem walk_zip {K : KW} {G : Hp} {a b : Addr} {vs us : List V} {xs ys : List D} (h : SqL K G a vs) (r : RpA K G vs xs) (h' : SqL K G b us) (r' : RpA K G us ys) : WalkI K G (Itz K a b) (zip2 xs ys) := fun i G1 H s1 s2 => by
  have hH : SqL K H a vs := (s1.trans s2).seq h
  have hH' : SqL K H b us := (s1.trans s2).seq h'
  refine ⟨fun hi => ⟨vs, us, hH, hH', by rw [r.length, r'.length]; rw [zip2_len] at hi; omega⟩, fun d hd => ?_⟩
  obtain ⟨x, y, e1, e2, rfl⟩ := zip2_get hd
  obtain ⟨v, h1, h2⟩ := r.get e1
  obtain ⟨u, h3, h4⟩ := r'.get e2
  refine ⟨⟨vs, us, v, u, hH, hH', h1, h3⟩, fun x H' y => .inr ?_⟩
  obtain ⟨T, x0, y0, rfl, hT, rfl, hx, hy⟩ := y
  have := hx vs hH
  rw [h1] at this; cases this
  have := hy us hH'
  rw [h3] at this; cases this
  have sm := s1.trans (same_upd (o := .tup [v, u]) (s2.free hT))
  exact ⟨T, _, hT, rfl, .tup (SqT.of upd_same) (.cons (Rp.mono sm h2) (.cons (Rp.mono sm h4) .nil))⟩
theorem walk_zipT {K : KW} {G : Hp} {a b : Addr} {vs us : List V} {xs ys : List D} (h : SqT K G a vs) (r : RpA K G vs xs) (h' : SqT K G b us) (r' : RpA K G us ys) : WalkI K G (RZ.ItzT K a b) (zip2 xs ys) := fun i G1 H s1 s2 => by
  have hH : SqT K H a vs := seqT (s1.trans s2) h
  have hH' : SqT K H b us := seqT (s1.trans s2) h'
  refine ⟨fun hi => ⟨vs, us, hH, hH', by rw [r.length, r'.length]; rw [zip2_len] at hi; omega⟩, fun d hd => ?_⟩
  obtain ⟨x, y, e1, e2, rfl⟩ := zip2_get hd
  obtain ⟨v, h1, h2⟩ := r.get e1
  obtain ⟨u, h3, h4⟩ := r'.get e2
  refine ⟨⟨vs, us, v, u, hH, hH', h1, h3⟩, fun x H' y => .inr ?_⟩
  obtain ⟨T, x0, y0, rfl, hT, rfl, hx, hy⟩ := y
  have := hx vs hH
  rw [h1] at this; cases this
  have := hy us hH'
  rw [h3] at this; cases this
  have sm := s1.trans (same_upd (o := .tup [v, u]) (s2.free hT))
  exact ⟨T, _, hT, rfl, .tup (SqT.of upd_same) (.cons (Rp.mono sm h2) (.cons (Rp.mono sm h4) .nil))⟩
def iZip2 (f g : EM) : IM := fun s => (f s).bind fun p => match toD p.1 p.2 with
  | some (x, s1) => (g s1).bind fun q => (match toD q.1 q.2 with
    | some (y, s2) => (match x, y with
      | .list xs, .list ys => .ok (zip2 xs ys, s2)
      | .tuple xs, .tuple ys => .ok (zip2 xs ys, s2)
      | _, _ => .bad)
    | none => .bad)
  | none => .bad
theorem pdi_zip {p pos tpos : Pos} {elts : List Expr} {kk : Nat} (hm : X.mg "zip" = none) (h : PDE X E e fe) (h2 : PDE X E e2 f2) (hg : Gl X "zip" := by rfl)
    (hs : starEach [e, e2] X.env = (false, eval e X.env) :: starEach [e2] X.env := by rfl) (hpl : (backTo pos (starEach [e2] X.env)).any (·.1) = false := by rfl) (hs3 : starEach [e2] X.env = (false, eval e2 X.env) :: starEach [] X.env := by rfl) : PDI X E (.Tuple elts kk tpos) (.Call (.Name "zip" p) [e, e2] [] pos) (iZip2 fe f2) :=
  ⟨PI.imp (RZ.pi_zipA hg hm (pa_cons h.pe (pa_cons h2.pe pa_nil hs3) hs) hs hpl) fun σ H Q h => by
  obtain ⟨F, G, as, s, R, h⟩ := h
  refine eT.seqI R h fun G1 H1 w s1 v R1 r1 h1 => ?_
  dsimp only at h1
  split at h1
  · rename_i x s2 e1
    obtain ⟨G2, R2, X2, r2⟩ := toD_ok R1 r1 e1
    have h1 := iK.ext h1 X2
    refine ⟨F, G2, as, s2, R2, ?_⟩
    cases q : f2 s2 with
    | exc c => rw [q] at h1; exact h1
    | bad => rw [q] at h1; exact h1
    | ok p2 =>
      obtain ⟨w2, s3⟩ := p2
      rw [q, Res.bind_ok] at h1
      dsimp only at h1
      intro v2 G3 H3 R3 X3 r3 n3
      split at h1
      · rename_i y s4 e3
        obtain ⟨G4, R4, X4, r4⟩ := toD_ok R3 r3 e3
        have r2' : Rp X.kw G4 v x := Rp.mono (X3.same.trans X4.same) r2
        have h1 := iK.ext h1 (X3.trans X4)
        split at h1
        · cases r2' with
          | lst k1 k2 => cases r4 with
            | lst k3 k4 => exact ⟨_, _, _, _, rfl, .inl ⟨R4.same.seq (k1), R4.same.seq (k3), h1 _ G4 H3 R4 (Ext.refl _ _ _) (walk_zip (k1) k2 (k3) k4)⟩⟩
        · cases r2' with
          | tup k1 k2 => cases r4 with
            | tup k3 k4 => exact ⟨_, _, _, _, rfl, .inr ⟨seqT R4.same k1, seqT R4.same k3, h1 _ G4 H3 R4 (Ext.refl _ _ _) (walk_zipT k1 k2 k3 k4)⟩⟩
        · exact h1.elim
      · exact h1.elim
  · exact h1.elim⟩
end
end
end PD

set_option Elab.async false
set_option linter.all false
set_option maxRecDepth 100000
set_option maxHeartbeats 4000000
namespace PD
noncomputable section
open PySem PySem.Spec PyProof.Rows L2

/-! ### targets -/
abbrev GM := D → S → Option S
/-- tgt at the slots is -/
def gT (K : KW) (is : List Nat) (tgt : GM) : TG := fun v σ H Q => ∃ (F : Addr → Prop) (G : Hp) (as : List Addr) (s s' : S) (d : D), Rep K F G H as σ s ∧ Rp K G v d ∧ tgt d s = some s' ∧ ∀ σ', Rep K F G H as σ' s' → wipe σ' is = wipe σ is → Q σ' H
structure PDG (X : Cx) (tg : Expr) (is : List Nat) (tgt : GM) : Prop where
  pg : PG X tg (gT X.kw is tgt)
  mem : ∀ d s s', tgt d s = some s' → s'.mem = s.mem ∧ s'.base = s.base
def gT1 (i : Nat) : GM := fun d s => if i < s.env.length then some (s.put i (.d d)) else none
theorem PG.imp {X : Cx} {tg : Expr} {t t' : TG} (h : PG X tg t) (k : ∀ v σ H Q, t' v σ H Q → t v σ H Q) : PG X tg t' := ⟨fun pins s σ H v u Q I r q => h.run pins s σ H v u Q I r (k v σ H Q q)⟩
theorem wipe_set1 {σ : L2.St} {i : Nat} {v : V} : wipe (σ.set i (some v)) [i] = wipe σ [i] := by
  show (σ.set i (some v)).set i none = σ.set i none
  rw [List.set_set]
section
variable {X : Cx} {E : XK} {tg e : Expr} {pos : Pos}
theorem pdg_name (i : Nat) {x : Str} (hN : X.N.Nodup) (hi : X.N[i]? = some x := by rfl) (hx : Loc X.env.scope x := by first | exact Or.inl rfl | exact Or.inr rfl) (hf : X.fn x = true ∨ X.env.scope.names.lookup x = some .local := by first | exact .inl rfl | exact .inr rfl | assumption) : PDG X (.Name x pos) [i] (gT1 i) :=
  ⟨PG.imp (pg_name hN hi hx hf) fun v σ H Q h => by
    obtain ⟨F, G, as, s, s', d, R, r, e, k⟩ := h
    unfold gT1 at e
    split at e
    · rename_i hl
      cases e
      exact k _ (R.put (w := .d d) r (fun _ z => nomatch z) hl) wipe_set1
    · exact (nomatch e), fun d s s' e => by
    unfold gT1 at e
    split at e
    · cases e; exact ⟨rfl, rfl⟩
    · cases e⟩
/-- several names, from the left -/
def putAll : List Nat → List D → S → Option S
  | [], [], s => some s
  | i :: is, d :: ds, s => if i < s.env.length then putAll is ds (s.put i (.d d)) else none
  | _, _, _ => none
theorem putAll_mem : ∀ {is : List Nat} {ds : List D} {s s' : S}, putAll is ds s = some s' → s'.mem = s.mem ∧ s'.base = s.base
  | [], [], s, s', h => by cases h; exact ⟨rfl, rfl⟩
  | i :: is, d :: ds, s, s', h => by
    unfold putAll at h
    split at h
    · obtain ⟨a, b⟩ := putAll_mem h
      exact ⟨a, b⟩
    · cases h
  | [], _ :: _, _, _, h => by cases h
  | _ :: _, [], _, _, h => by cases h
def gTs (K : KW) (is : List Nat) : TGs := fun vs σ H Q => ∃ (F : Addr → Prop) (G : Hp) (as : List Addr) (s s' : S) (ds : List D), Rep K F G H as σ s ∧ RpA K G vs ds ∧ putAll is ds s = some s' ∧ ∀ σ', Rep K F G H as σ' s' → wipe σ' is = wipe σ is → Q σ' H
structure PDGs (X : Cx) (tgs : List Expr) (is : List Nat) : Prop where
  pgs : PGs X tgs (gTs X.kw is)
theorem pdgs_nil : PDGs X [] [] := ⟨⟨fun pins s σ H vs us Q I r h => by
  obtain ⟨F, G, as, s1, s', ds, R, ra, e, k⟩ := h
  refine (pgs_nil (X := X)).run pins s σ H vs us Q I r ?_
  cases ra with
  | nil => cases e; exact ⟨rfl, k σ R rfl⟩
  | cons _ _ => cases e⟩⟩
theorem wipe_set_in {i : Nat} {v : Option V} : ∀ {is : List Nat} {σ : L2.St}, i ∈ is → wipe (σ.set i v) is = wipe σ is := by
  intro is σ hi
  apply List.ext_getElem?
  intro j
  by_cases hj : j ∈ is
  · have w : ∀ τ : L2.St, ∀ x, (wipe τ is)[j]? ≠ some (some x) := fun τ x h => (wipe_some h).2 hj
    have l : ∀ τ : L2.St, (wipe τ is).length = τ.length := fun τ => wipe_length τ is
    by_cases hl : j < σ.length
    · have h1 : ∃ y, (wipe (σ.set i v) is)[j]? = some y := ⟨_, List.getElem?_eq_getElem (by rw [l]; simpa using hl)⟩
      have h2 : ∃ y, (wipe σ is)[j]? = some y := ⟨_, List.getElem?_eq_getElem (by rw [l]; exact hl)⟩
      obtain ⟨y1, h1⟩ := h1
      obtain ⟨y2, h2⟩ := h2
      cases y1 with
      | some x => exact absurd h1 (w _ x)
      | none =>
        cases y2 with
        | some x => exact absurd h2 (w _ x)
        | none => rw [h1, h2]
    · rw [List.getElem?_eq_none (by rw [l]; simpa using hl), List.getElem?_eq_none (by rw [l]; omega)]
  · rw [wipe_out hj, wipe_out hj, List.getElem?_set_ne (show i ≠ j from fun z => hj (by rw [← z]; exact hi))]
theorem wipe_cons {i : Nat} {is : List Nat} {σ τ : L2.St} (h : wipe σ is = wipe τ is) : wipe σ (i :: is) = wipe τ (i :: is) := by
  show (wipe σ is).set i none = (wipe τ is).set i none
  rw [h]
theorem pdgs_cons (i : Nat) {x : Str} {is : List Nat} {es : List Expr} (hN : X.N.Nodup) (hr : PDGs X es is) (hi : X.N[i]? = some x := by rfl) (hx : Loc X.env.scope x := by first | exact Or.inl rfl | exact Or.inr rfl) (hf : X.fn x = true ∨ X.env.scope.names.lookup x = some .local := by first | exact .inl rfl | exact .inr rfl | assumption)
    (hs : (assignEach (.Name x pos :: es) X.env).map (·.2) = assign (.Name x pos) X.env :: (assignEach es X.env).map (·.2) := by rfl) : PDGs X (.Name x pos :: es) (i :: is) := ⟨⟨fun pins s σ H vs us Q I r h => by
  obtain ⟨F, G, as, s1, s', ds, R, ra, e, k⟩ := h
  refine (pgs_cons (pg_name (pos := pos) hN hi hx hf) hr.pgs hs).run pins s σ H vs us Q I r ?_
  cases ra with
  | nil => cases e
  | cons h1 h2 =>
    unfold putAll at e
    split at e
    · rename_i hl
      refine ⟨_, _, rfl, F, G, as, _, s', _, R.put (w := .d _) h1 (fun _ z => nomatch z) hl, h2, e, fun σ' R' hw => k σ' R' ?_⟩
      rw [wipe_cons hw]
      exact wipe_set_in (List.mem_cons_self)
    · cases e⟩⟩
def gTupT (is : List Nat) : GM := fun d s => match d with
  | .tuple ds => putAll is ds s
  | .list ds => putAll is ds s
  | _ => none
theorem putAll_len : ∀ {is : List Nat} {ds : List D} {s s' : S}, putAll is ds s = some s' → ds.length = is.length
  | [], [], _, _, _ => rfl
  | i :: is, d :: ds, s, s', h => by
    unfold putAll at h
    split at h
    · simp [putAll_len h]
    · cases h
  | [], _ :: _, _, _, h => by cases h
  | _ :: _, [], _, _, h => by cases h
theorem pdg_tup {es : List Expr} {k : Nat} {is : List Nat} (hc : X.calm = true) (h : PDGs X es is) (hn : (assignEach es X.env).length = is.length := by rfl) (hst : (assignEach es X.env).findIdx? (·.1) = none := by rfl) : PDG X (.Tuple es k pos) is (gTupT is) :=
  ⟨⟨fun pins s σ H v u Q I r h' => by
    obtain ⟨F, G, as, s1, s', d, R, rd, e, kk⟩ := h'
    unfold gTupT at e
    split at e
    · rename_i ds
      refine (pg_tup hc h.pgs hn hst).run pins s σ H v u Q I r ?_
      cases rd with
      | tup h1 h2 => exact ⟨_, _, rfl, seqT R.same h1, by rw [h2.length, putAll_len e], F, G, as, s1, s', ds, R, h2, e, kk⟩
    · rename_i ds
      refine (pg_lst hc h.pgs hn hst).run pins s σ H v u Q I r ?_
      cases rd with
      | lst h1 h2 => exact ⟨_, _, rfl, Same.seq R.same h1, by rw [h2.length, putAll_len e], F, G, as, s1, s', ds, R, h2, e, kk⟩
    · exact (nomatch e)⟩, fun d s s' e => by
    unfold gTupT at e
    split at e
    · exact putAll_mem e
    · exact putAll_mem e
    · cases e⟩
/-- a, b = e -/
def sTup (is : List Nat) (f : EM) : SM := fun s => (f s).bind fun p => match p.1 with
  | .d x => (match gTupT is x p.2 with
    | some s' => .ok (.nx, s')
    | none => .bad)
  | _ => .bad
theorem pds_tup {es : List Expr} {k : Nat} {is : List Nat} {fe : EM} {pt : Pos} (hg : PDG X (.Tuple es k pt) is (gTupT is)) (he : PDE X E e fe) (hs : swapsWithSole [.Tuple es k pt] e pos.line X.env = pure false := by rfl) (hw : swappedStores [.Tuple es k pt] e X.env = pure none := by rfl)
    (h1 : (assignEach [.Tuple es k pt] X.env).map (·.2) = [assign (.Tuple es k pt) X.env] := by rfl) : PDS X E (.Assign [.Tuple es k pt] e pos) (sTup is fe) := ⟨PS.imp (ps_asg he.pe hg.pg hs hw h1) fun D σ H h => by
  obtain ⟨F, G, as, s, R, h⟩ := h
  refine eT.seqS R h fun G1 H1 w s1 v R1 X1 r n h1 => ?_
  dsimp only at h1
  split at h1
  · rename_i x
    split at h1
    · rename_i s' e
      refine ⟨F, G1, as, s1, s', x, R1, r, e, fun σ' R' _ => ?_⟩
      exact h1 σ' G1 H1 as R' ⟨X1.same, X1.keep, fun a z => X1.new a (by rw [live_eq (hg.mem _ _ _ e).1] at z; exact z)⟩ (List.prefix_refl _)
    · exact h1.elim
  · exact h1.elim⟩
end

/-! ### for -/
def forGo (tgt : GM) (body : SM) : List D → S → Res (Out × S)
  | [], s => .ok (.nx, s)
  | d :: r, s => match tgt d s with
    | none => .bad
    | some s1 => (body s1).bind fun p => match p.1 with
      | .nx => forGo tgt body r p.2
      | .ct => forGo tgt body r p.2
      | .bk => .ok (.nx, p.2)
      | .rt w => .ok (.rt w, p.2)
def sFor (it : IM) (tgt : GM) (body : SM) : SM := fun s => (it s).bind fun p => forGo tgt body p.1 p.2
section
variable {X : Cx} {E : XK} {tg iter e c : Expr} {pos : Pos} {fi : IM} {is : List Nat} {tgt : GM} {body : List Stmt} {fb : SM} {tc : TM}
theorem pds_for (hi : PDI X E tg iter fi) (hg : PDG X tg is tgt) (hb : PDSs X E body fb) (hc : X.calm = true) (hp : PassesOwn (model X.prog X.w) X.A X.env X.xe) (hs : ∀ x, foldedSetIterable iter X.env x = pure x := by intro _; rfl) : PDS X E (.For tg iter body [] pos) (sFor fi tgt fb) := by
  refine ⟨PS.imp (ps_for hp hc hi.pi hg.pg hb.pss hs) fun D σ H h => ?_⟩
  obtain ⟨F, G, as, s, R, h⟩ := h
  refine ⟨F, G, as, s, R, ?_⟩
  unfold sFor at h
  cases e : fi s with
  | exc c => rw [e] at h; exact h
  | bad => rw [e] at h; exact h
  | ok p =>
    obtain ⟨xs, s1⟩ := p
    rw [e, Res.bind_ok] at h
    dsimp only at h
    intro J G1 H1 R1 X1 wk
    have h := sK.ext h R1 X1 (List.prefix_refl _)
    refine ⟨fun i m σ' H' => ∃ (G' : Hp) (as' : List Addr) (s' : S), m = xs.length - i ∧ i ≤ xs.length ∧ Rep X.kw F G' H' as' σ' s' ∧ Ext G1 H1 (live as s1) G' H' (live as' s') ∧ as <+: as' ∧ sK X.kw X.mg E F G1 H1 as s1 (forGo tgt fb (xs.drop i) s') D,
      ⟨xs.length, G1, as, s1, rfl, Nat.zero_le _, R1, Ext.refl _ _ _, List.prefix_refl _, h⟩, fun i m σ' H' hW => ?_⟩
    obtain ⟨G2, as2, s2, rfl, hi, R2, X2, p2, h2⟩ := hW
    obtain ⟨w1, w2⟩ := wk i G2 H' X2.same R2.same
    by_cases hlt : i < xs.length
    · have hd : xs[i]? = some xs[i] := List.getElem?_eq_getElem hlt
      have dr : xs.drop i = xs[i] :: xs.drop (i + 1) := List.drop_eq_getElem_cons hlt
      obtain ⟨go, yl⟩ := w2 _ hd
      rw [dr] at h2
      unfold forGo at h2
      cases e2 : tgt xs[i] s2 with
      | none => rw [e2] at h2; exact h2.elim
      | some s3 =>
        rw [e2] at h2
        dsimp only at h2
        refine .inr ⟨go, fun σ3 H3 => ∃ (G' : Hp) (as' : List Addr) (s' : S), Rep X.kw F G' H3 as' σ3 s' ∧ Ext G1 H1 (live as s1) G' H3 (live as' s') ∧ as <+: as' ∧ sK X.kw X.mg E F G1 H1 as s1 (forGo tgt fb (xs.drop (i + 1)) s') D,
          fun σ3 H3 hN => ⟨xs.length - (i + 1), by omega, by
            obtain ⟨G', as', s', a1, a2, a3, a4⟩ := hN
            exact ⟨G', as', s', rfl, hlt, a1, a2, a3, a4⟩⟩, fun x H3 hy => ?_⟩
        have main : ∀ (G3 : Hp), Rep X.kw F G3 H3 as2 σ' s2 → Ext G2 H' (live as2 s2) G3 H3 (live as2 s2) → Rp X.kw G3 x xs[i] → gT X.kw is tgt x σ' H3 fun σ2 H2 => sT X.kw X.mg E fb { D with nx := fun σ3 H3 => ∃ (G' : Hp) (as' : List Addr) (s' : S), Rep X.kw F G' H3 as' σ3 s' ∧ Ext G1 H1 (live as s1) G' H3 (live as' s') ∧ as <+: as' ∧ sK X.kw X.mg E F G1 H1 as s1 (forGo tgt fb (xs.drop (i + 1)) s') D, ct := fun σ3 H3 => ∃ (G' : Hp) (as' : List Addr) (s' : S), Rep X.kw F G' H3 as' σ3 s' ∧ Ext G1 H1 (live as s1) G' H3 (live as' s') ∧ as <+: as' ∧ sK X.kw X.mg E F G1 H1 as s1 (forGo tgt fb (xs.drop (i + 1)) s') D, bk := D.nx } σ2 H2 := by
          intro G3 R3 X3 r3
          refine ⟨F, G3, as2, s2, s3, xs[i], R3, r3, e2, fun σ4 R4 _ => ⟨F, G3, as2, s3, R4, ?_⟩⟩
          have el : live as2 s3 = live as2 s2 := live_eq (hg.mem _ _ _ e2).1
          have X4 : Ext G1 H1 (live as s1) G3 H3 (live as2 s3) := by rw [el]; exact X2.trans X3
          have h4 := sK.ext h2 R4 X4 p2
          cases e5 : fb s3 with
          | exc c => rw [e5] at h4; exact h4
          | bad => rw [e5] at h4; exact h4
          | ok q =>
            obtain ⟨o, s5⟩ := q
            rw [e5, Res.bind_ok] at h4
            rw [e5, Res.bind_ok] at h2
            cases o with
            | nx => exact fun σ5 G5 H5 as5 R5 X5 p5 => ⟨G5, as5, s5, R5, X4.trans X5, p2.trans p5, h2⟩
            | ct => exact fun σ5 G5 H5 as5 R5 X5 p5 => ⟨G5, as5, s5, R5, X4.trans X5, p2.trans p5, h2⟩
            | bk => exact h4
            | rt w => exact h4
        rcases yl x H3 hy with ⟨rfl, r3⟩ | ⟨T, o, hT, rfl, r3⟩
        · exact main G2 R2 (Ext.refl _ _ _) r3
        · exact main _ (R2.newG hT o) (Ext.allocG (R2.same.free hT) hT) r3
    · have : i = xs.length := by omega
      subst this
      refine .inl ⟨w1 (Nat.le_refl _), ?_⟩
      rw [List.drop_length] at h2
      exact h2 σ' G2 H' as2 R2 X2 p2
/-! ### while, at most n turns -/
def whGo (t : TM) (body : SM) : Nat → S → Res (Out × S)
  | 0, _ => .bad
  | n + 1, s => (t s).bind fun b => if b.1 then (body b.2).bind fun p => (match p.1 with
      | .nx => whGo t body n p.2
      | .ct => whGo t body n p.2
      | .bk => .ok (.nx, p.2)
      | .rt w => .ok (.rt w, p.2)) else .ok (.nx, b.2)
theorem pds_while (n : Nat) (hc : PDT X E c tc) (hb : PDSs X E body fb) (hp : PassesOwn (model X.prog X.w) X.A X.env X.xe) : PDS X E (.While c body [] pos) (whGo tc fb n) := by
  refine ⟨PS.imp (ps_while hp hc.pt hb.pss) fun D σ H h => ?_⟩
  obtain ⟨F, G, as, s, R, h⟩ := h
  refine ⟨fun m σ' H' => ∃ (G' : Hp) (as' : List Addr) (s' : S), Rep X.kw F G' H' as' σ' s' ∧ Ext G H (live as s) G' H' (live as' s') ∧ as <+: as' ∧ sK X.kw X.mg E F G H as s (whGo tc fb m s') D, ⟨n, G, as, s, R, Ext.refl _ _ _, List.prefix_refl _, h⟩, fun m σ1 H1 hW => ?_⟩
  obtain ⟨G1, as1, s1, R1, X1, p1, h1⟩ := hW
  cases m with
  | zero => exact h1.elim
  | succ m =>
    unfold whGo at h1
    refine tT.seq (P := fun r => sK X.kw X.mg E F G H as s r D) R1 h1 (fun c h => ?_) (fun h => h) fun G2 H2 b s2 R2 X2 h2 => ?_
    · exact fun C H' hc k => h C H' hc (keepX X1 k)
    · dsimp only at h2
      have X12 := X1.trans X2
      cases b with
      | false => exact h2 σ1 G2 H2 as1 R2 X12 p1
      | true =>
        rw [if_pos rfl] at h2 ⊢
        refine ⟨fun σ3 H3 => ∃ (G' : Hp) (as' : List Addr) (s' : S), Rep X.kw F G' H3 as' σ3 s' ∧ Ext G H (live as s) G' H3 (live as' s') ∧ as <+: as' ∧ sK X.kw X.mg E F G H as s (whGo tc fb m s') D, fun σ3 H3 hN => ⟨m, Nat.lt_succ_self _, hN⟩, F, G2, as1, s2, R2, ?_⟩
        have h4 := sK.ext h2 R2 X12 p1
        cases e5 : fb s2 with
        | exc c => rw [e5] at h4; exact h4
        | bad => rw [e5] at h4; exact h4
        | ok q =>
          obtain ⟨o, s5⟩ := q
          rw [e5, Res.bind_ok] at h4
          rw [e5, Res.bind_ok] at h2
          cases o with
          | nx => exact fun σ5 G5 H5 as5 R5 X5 p5 => ⟨G5, as5, s5, R5, X12.trans X5, p1.trans p5, h2⟩
          | ct => exact fun σ5 G5 H5 as5 R5 X5 p5 => ⟨G5, as5, s5, R5, X12.trans X5, p1.trans p5, h2⟩
          | bk => exact h4
          | rt w => exact h4
end
end
end PD

set_option Elab.async false
set_option linter.all false
set_option maxRecDepth 100000
set_option maxHeartbeats 4000000
namespace PD
noncomputable section
open PySem PySem.Spec PyProof.Rows L2

/-! ### list comprehensions -/
def wipeE (env : List (Option W)) : List Nat → List (Option W)
  | [] => env
  | v :: vs => (wipeE env vs).set v none
theorem wipeE_len {env : List (Option W)} : ∀ {vs : List Nat}, (wipeE env vs).length = env.length
  | [] => rfl
  | v :: vs => by unfold wipeE; rw [List.length_set, wipeE_len]
theorem wipeE_some {env : List (Option W)} {i : Nat} {w : W} : ∀ {vs : List Nat}, (wipeE env vs)[i]? = some (some w) → env[i]? = some (some w) ∧ i ∉ vs
  | [], h => ⟨h, by simp⟩
  | v :: vs, h => by
    unfold wipeE at h
    by_cases hi : v = i
    · subst hi
      by_cases hv : v < (wipeE env vs).length
      · rw [List.getElem?_set_self hv] at h; cases h
      · rw [List.getElem?_eq_none (by simpa using hv)] at h; cases h
    · rw [List.getElem?_set_ne hi] at h
      obtain ⟨h1, h2⟩ := wipeE_some h
      exact ⟨h1, by simp only [List.mem_cons, not_or]; exact ⟨fun e => hi e.symm, h2⟩⟩
def nox {α : Type} : Res α → Res α
  | .ok a => .ok a
  | _ => .bad
theorem nox_ok {α : Type} (a : α) : nox (.ok a) = .ok a := rfl
section
variable {K : KW} {F F' : Addr → Prop} {G H G' H' : Hp} {as : List Addr} {s s2 : S} {σ σ2 : L2.St}
theorem Rep.wiped (own : List Nat) (R : Rep K F G H as σ s) : Rep K F G H as (wipe σ own) { s with env := wipeE s.env own } :=
  ⟨R.same, by rw [wipe_length]; show σ.length = (wipeE s.env own).length; rw [wipeE_len]; exact R.len, R.alen, R.nd, R.dom, R.fo, R.cell, fun i w h => by
    obtain ⟨h1, h2⟩ := wipeE_some h
    obtain ⟨v, k1, k2⟩ := R.env i w h1
    exact ⟨v, by rw [wipe_out h2]; exact k1, k2⟩⟩
theorem Rep.swapEnv (R : Rep K F G H as σ s) (R' : Rep K F' G' H' as σ2 s2) (sg : Same G G') : Rep K F' G' H' as σ { s2 with env := s.env } :=
  ⟨R'.same, R.len, R'.alen, R'.nd, R'.dom, R'.fo, R'.cell, fun i w h => by
    obtain ⟨v, k1, k2, k3⟩ := R.env i w h
    refine ⟨v, k1, ?_, k3⟩
    cases w with
    | d x => exact Rp.mono sg k2
    | c n => exact k2
    | f xs => exact absurd rfl (k3 xs)⟩
end
structure PDTs (X : Cx) (ifs : List Expr) (f : TM) : Prop where
  pt : PTs X ifs (tT X.kw X.mg E0 f)
def tYes_ : TM := fun s => .ok (true, s)
theorem PTs.imp {X : Cx} {e : List Expr} {t t' : TT} (h : PTs X e t) (k : ∀ σ H Q, t' σ H Q → t σ H Q) : PTs X e t' := ⟨fun pins s σ H Q I q => h.run pins s σ H Q I (k σ H Q q)⟩
theorem pdts_nil {X : Cx} : PDTs X [] tYes_ := ⟨PTs.imp pts_nil fun σ H Q h => by
  obtain ⟨F, G, as, s, R, h⟩ := h
  exact h G H R (Ext.refl _ _ _)⟩
theorem pdts_one {X : Cx} {c : Expr} {f : TM} (h : PDT X E0 c f) : PDTs X [c] f := ⟨pts_one h.pt⟩
def lcGo (own : List Nat) (tgt : GM) (tt : TM) (fe : EM) (env0 : List (Option W)) : List D → S → List D → Res (List D × S)
  | [], s, acc => .ok (acc, s)
  | d :: r, s, acc => match tgt d { s with env := wipeE env0 own } with
    | none => .bad
    | some s1 => (nox (tt s1)).bind fun b => if b.1 then (nox (fe b.2)).bind fun p => (match toD p.1 p.2 with
        | some (x, s3) => if acc.length < sizeLine then lcGo own tgt tt fe env0 r { s3 with env := env0 } (acc ++ [x]) else .bad
        | none => .bad)
      else lcGo own tgt tt fe env0 r { b.2 with env := env0 } acc
def eLc (own : List Nat) (fi : IM) (tgt : GM) (tt : TM) (fe : EM) : EM := fun s => (fi s).bind fun p => (lcGo own tgt tt fe p.2.env p.1 p.2 []).bind fun q => .ok (.f q.1, q.2)
section
variable {X : Cx} {E : XK} {elt tg iter : Expr} {ifs : List Expr} {scope : Scope} {own : List (Str × Nat)} {pos : Pos} {fi : IM} {is : List Nat} {tgt : GM} {tt : TM} {fe : EM}
/-- the reading of a comprehension -/
theorem lc_ok (hgm : ∀ d s s', tgt d s = some s' → s'.mem = s.mem ∧ s'.base = s.base) (his : is = own.map (·.2)) {σ : L2.St} {H : Hp} {Q : VK} (h : eT X.kw X.mg E (eLc (own.map (·.2)) fi tgt tt fe) σ H Q) : tLc (iT X.kw X.mg E fi) (gT X.kw is tgt) (tT X.kw X.mg E0 tt) (eT X.kw X.mg E0 fe) (own.map (·.2)) σ H Q := by
  subst his
  generalize own.map (·.2) = vs at *
  obtain ⟨F, G, as, s, R, h⟩ := h
  refine ⟨F, G, as, s, R, ?_⟩
  unfold eLc at h
  cases e : fi s with
  | exc c => rw [e] at h; exact h
  | bad => rw [e] at h; exact h
  | ok p =>
    obtain ⟨xs, s1⟩ := p
    rw [e, Res.bind_ok] at h
    dsimp only at h
    intro J G1 H1 R1 X1 wk Dl hD
    have h := eK.ext h R R1 X1
    obtain ⟨gD, nasD, nFD⟩ := R1.fresh hD
    refine ⟨fun i m H' => ∃ (G' : Hp) (s' : S) (vacc : List V) (acc : List D), m = xs.length - i ∧ i ≤ xs.length ∧ s'.env = s1.env ∧ Rep X.kw (fun a => F a ∨ a = Dl) G' H' as σ s' ∧ Ext G1 H1 (live as s1) G' H' (live as s') ∧ H' Dl = some (.lst vacc) ∧ RpA X.kw G' vacc acc ∧
        eK X.kw X.mg E F G1 H1 as s1 σ ((lcGo vs tgt tt fe s1.env (xs.drop i) s' acc).bind fun q => .ok (.f q.1, q.2)) Q,
      ⟨xs.length, G1, s1, [], [], rfl, Nat.zero_le _, rfl, ?_, Ext.alloc hD, upd_same, .nil, h⟩, fun i m H' hW => ?_⟩
    · have R2 := R1.new hD (.lst [])
      refine ⟨R2.same, R2.len, R2.alen, R2.nd, R2.dom, fun a ha => ?_, R2.cell, fun i w hw => ?_⟩
      · rcases ha with ha | rfl
        · exact R2.fo a ha
        · exact ⟨gD, nasD, _, upd_same⟩
      · obtain ⟨v, k1, k2, k3⟩ := R2.env i w hw
        exact ⟨v, k1, k2.noF k3, k3⟩
    obtain ⟨G2, s2, vacc, acc, rfl, hi, he2, R2, X2, hDl, hacc, h2⟩ := hW
    obtain ⟨w1, w2⟩ := wk i G2 H' X2.same R2.same
    by_cases hlt : i < xs.length
    · have hd : xs[i]? = some xs[i] := List.getElem?_eq_getElem hlt
      have dr : xs.drop i = xs[i] :: xs.drop (i + 1) := List.drop_eq_getElem_cons hlt
      obtain ⟨go, yl⟩ := w2 _ hd
      rw [dr] at h2
      unfold lcGo at h2
      cases e2 : tgt xs[i] { s2 with env := wipeE s1.env vs } with
      | none => rw [e2] at h2; exact h2.elim
      | some s3 =>
        rw [e2] at h2
        dsimp only at h2
        refine .inr ⟨go, fun H3 => ∃ (G' : Hp) (s' : S) (vacc : List V) (acc : List D), s'.env = s1.env ∧ Rep X.kw (fun a => F a ∨ a = Dl) G' H3 as σ s' ∧ Ext G1 H1 (live as s1) G' H3 (live as s') ∧ H3 Dl = some (.lst vacc) ∧ RpA X.kw G' vacc acc ∧
            eK X.kw X.mg E F G1 H1 as s1 σ ((lcGo vs tgt tt fe s1.env (xs.drop (i + 1)) s' acc).bind fun q => .ok (.f q.1, q.2)) Q,
          fun H3 hN => ⟨xs.length - (i + 1), by omega, by
            obtain ⟨G', s', vacc, acc, a0, a1, a2, a3, a4, a5⟩ := hN
            exact ⟨G', s', vacc, acc, rfl, hlt, a0, a1, a2, a3, a4, a5⟩⟩, fun x H3 hy => ?_⟩
        have main : ∀ (G3 : Hp), Rep X.kw (fun a => F a ∨ a = Dl) G3 H3 as σ s2 → Ext G2 H' (live as s2) G3 H3 (live as s2) → Rp X.kw G3 x xs[i] → H3 Dl = some (.lst vacc) → gT X.kw vs tgt x (wipe σ vs) H3 fun σ2 H2 => wipe σ2 vs = wipe σ vs ∧ tT X.kw X.mg E0 tt σ2 H2 fun b H3 =>
            if b = true then eT X.kw X.mg E0 fe σ2 H3 fun y H4 => ∃ acc, H4 Dl = some (.lst acc) ∧ acc.length < sizeLine ∧ (∃ (G' : Hp) (s' : S) (vacc : List V) (acc' : List D), s'.env = s1.env ∧ Rep X.kw (fun a => F a ∨ a = Dl) G' (upd H4 Dl (.lst (acc ++ [y]))) as σ s' ∧ Ext G1 H1 (live as s1) G' (upd H4 Dl (.lst (acc ++ [y]))) (live as s') ∧ (upd H4 Dl (.lst (acc ++ [y]))) Dl = some (.lst vacc) ∧ RpA X.kw G' vacc acc' ∧
              eK X.kw X.mg E F G1 H1 as s1 σ ((lcGo vs tgt tt fe s1.env (xs.drop (i + 1)) s' acc').bind fun q => .ok (.f q.1, q.2)) Q) else (∃ (G' : Hp) (s' : S) (vacc : List V) (acc : List D), s'.env = s1.env ∧ Rep X.kw (fun a => F a ∨ a = Dl) G' H3 as σ s' ∧ Ext G1 H1 (live as s1) G' H3 (live as s') ∧ H3 Dl = some (.lst vacc) ∧ RpA X.kw G' vacc acc ∧
              eK X.kw X.mg E F G1 H1 as s1 σ ((lcGo vs tgt tt fe s1.env (xs.drop (i + 1)) s' acc).bind fun q => .ok (.f q.1, q.2)) Q) := by
          intro G3 R3 X3 r3 hD3
          have R3w := R3.wiped vs
          rw [he2] at R3w
          refine ⟨_, G3, as, _, s3, xs[i], R3w, r3, e2, fun σ4 R4 hw => ⟨hw.trans (wipe_wipe σ vs), _, G3, as, s3, R4, ?_⟩⟩
          have em : s3.mem = s2.mem := (hgm _ _ _ e2).1
          have el : live as s3 = live as s2 := live_eq em
          have X4 : Ext G1 H1 (live as s1) G3 H3 (live as s3) := by rw [el]; exact X2.trans X3
          cases e5 : tt s3 with
          | exc c => rw [e5] at h2; exact h2.elim
          | bad => rw [e5] at h2; exact h2.elim
          | ok q =>
            obtain ⟨b, s5⟩ := q
            rw [e5, nox_ok, Res.bind_ok] at h2
            dsimp only at h2
            intro G5 H5 R5 X5
            have hD5 : H5 Dl = some (.lst vacc) := X5.keep _ _ hD3 (not_live nasD)
            have X45 := X4.trans X5
            cases b with
            | false =>
              rw [if_neg Bool.false_ne_true] at h2 ⊢
              have RR := R3.swapEnv R5 X5.same
              rw [he2] at RR
              exact ⟨G5, { s5 with env := s1.env }, vacc, acc, rfl, RR, ⟨X45.same, X45.keep, fun a z => X45.new a z⟩, hD5, hacc.mono (X3.same.trans X5.same), h2⟩
            | true =>
              rw [if_pos rfl] at h2 ⊢
              refine ⟨_, G5, as, s5, R5, ?_⟩
              cases e6 : fe s5 with
              | exc c => rw [e6] at h2; exact h2.elim
              | bad => rw [e6] at h2; exact h2.elim
              | ok q =>
                obtain ⟨w6, s6⟩ := q
                rw [e6, nox_ok, Res.bind_ok] at h2
                dsimp only at h2
                intro v6 G6 H6 R6 X6 r6 _
                cases e7 : toD w6 s6 with
                | none => rw [e7] at h2; exact h2.elim
                | some q7 =>
                  obtain ⟨x7, s7⟩ := q7
                  rw [e7] at h2
                  dsimp only at h2
                  obtain ⟨G7, R7, X7, r7⟩ := toD_ok R6 r6 e7
                  have hD6 : H6 Dl = some (.lst vacc) := X6.keep _ _ hD5 (not_live nasD)
                  have sg : Same G3 G7 := (X5.same.trans X6.same).trans X7.same
                  by_cases hz : acc.length < sizeLine
                  · rw [if_pos hz] at h2
                    have ha7 : RpA X.kw G7 vacc acc := hacc.mono (X3.same.trans sg)
                    refine ⟨vacc, hD6, by rw [ha7.length]; exact hz, G7, { s7 with env := s1.env }, vacc ++ [v6], acc ++ [x7], rfl, ?_, ?_, upd_same, ha7.append (.cons r7 .nil), h2⟩
                    · have RR := R3.swapEnv R7 sg
                      rw [he2] at RR
                      have gD7 : G7 Dl = none := (R7.fo Dl (.inr rfl)).1
                      refine ⟨fun a o z => ?_, RR.len, RR.alen, RR.nd, fun a z => ?_, fun a z => ?_, fun n c z => ?_, fun j w z => ?_⟩
                      · have : a ≠ Dl := fun q => by rw [q, gD7] at z; cases z
                        rw [upd_ne this]; exact RR.same a o z
                      · have : a ≠ Dl := fun q => nasD (by rw [← q]; exact z)
                        rw [upd_ne this]; exact RR.dom a z
                      · obtain ⟨k1, k2, k3⟩ := RR.fo a z
                        refine ⟨k1, k2, ?_⟩
                        by_cases q : a = Dl
                        · exact ⟨_, by rw [q]; exact upd_same⟩
                        · rw [upd_ne q]; exact k3
                      · obtain ⟨a, k1, k2, k3⟩ := RR.cell n c z
                        have : a ≠ Dl := fun q => nasD (by rw [← q]; exact List.mem_of_getElem? k1)
                        exact ⟨a, k1, k2, k3.mono (Same.refl _) fun o z => by rw [upd_ne this]; exact z⟩
                      · obtain ⟨v, k1, k2, k3⟩ := RR.env j w z
                        refine ⟨v, k1, ?_, k3⟩
                        cases w with
                        | d x => exact k2
                        | c n => exact k2
                        | f ys => exact absurd rfl (k3 ys)
                    · have X8 := (X45.trans X6).trans X7
                      exact ⟨X8.same, fun a o z nl => by
                        have : a ≠ Dl := fun q => by rw [q, hD] at z; cases z
                        rw [upd_ne this]; exact X8.keep a o z nl, fun a z => X8.new a z⟩
                  · rw [if_neg hz] at h2; exact h2.elim
        rcases yl x H3 hy with ⟨rfl, r3⟩ | ⟨T, o, hT, rfl, r3⟩
        · exact main G2 R2 (Ext.refl _ _ _) r3 hDl
        · refine main _ (R2.newG hT o) (Ext.allocG (R2.same.free hT) hT) r3 ?_
          rw [upd_ne (ne_of_none hDl hT)]; exact hDl
    · have : i = xs.length := by omega
      subst this
      refine .inl ⟨w1 (Nat.le_refl _), ?_⟩
      rw [List.drop_length] at h2
      refine h2 (.ref Dl) G2 H' (R2.weak fun _ z => .inl z) X2 ⟨Dl, vacc, rfl, hDl, (R2.fo Dl (.inr rfl)).1, nasD, nFD, hacc⟩ fun ys b _ hb => ?_
      cases hb
      exact hD
where
  wipe_wipe (σ : L2.St) (vs : List Nat) : wipe (wipe σ vs) vs = wipe σ vs := by
    apply List.ext_getElem?
    intro j
    by_cases hj : j ∈ vs
    · have w : ∀ τ : L2.St, ∀ x, (wipe τ vs)[j]? ≠ some (some x) := fun τ x h => (wipe_some h).2 hj
      have l : ∀ τ : L2.St, (wipe τ vs).length = τ.length := fun τ => wipe_length τ vs
      by_cases hl : j < σ.length
      · obtain ⟨y1, h1⟩ : ∃ y, (wipe (wipe σ vs) vs)[j]? = some y := ⟨_, List.getElem?_eq_getElem (by rw [l, l]; exact hl)⟩
        obtain ⟨y2, h2⟩ : ∃ y, (wipe σ vs)[j]? = some y := ⟨_, List.getElem?_eq_getElem (by rw [l]; exact hl)⟩
        cases y1 with
        | some x => exact absurd h1 (w _ x)
        | none =>
          cases y2 with
          | some x => exact absurd h2 (w _ x)
          | none => rw [h1, h2]
      · rw [List.getElem?_eq_none (by rw [l, l]; omega), List.getElem?_eq_none (by rw [l]; omega)]
    · rw [wipe_out hj]
theorem gT1_mem (i : Nat) : ∀ d s s', gT1 i d s = some s' → s'.mem = s.mem ∧ s'.base = s.base := fun d s s' e => by
  unfold gT1 at e
  split at e
  · cases e; exact ⟨rfl, rfl⟩
  · cases e
theorem gTupT_mem (is : List Nat) : ∀ d s s', gTupT is d s = some s' → s'.mem = s.mem ∧ s'.base = s.base := fun d s s' e => by
  unfold gTupT at e
  split at e
  · exact putAll_mem e
  · exact putAll_mem e
  · cases e
theorem pd_lc (hcalm : X.calm = true) (hN : X.N.Nodup) (hi : PDI X E tg iter fi) (own : List (Str × Nat)) (ok : BlkOk X.N X.env.scope scope own)
    (hg : ∀ (s : Shared) (H : Hp) (C : Addr) (cl : List (Str × Addr)) (fp : List Addr), PDG (X.blk s H scope (compEnvC scope cl C X.env) fp) tg is tgt)
    (hgm : ∀ d s s', tgt d s = some s' → s'.mem = s.mem ∧ s'.base = s.base)
    (ht : ∀ (s : Shared) (H : Hp) (C : Addr) (cl : List (Str × Addr)) (fp : List Addr), PDTs (X.blk s H scope (compEnvC scope cl C X.env) fp) ifs tt)
    (he : ∀ (s : Shared) (H : Hp) (C : Addr) (cl : List (Str × Addr)) (fp : List Addr), PDE (X.blk s H scope (compEnvC scope cl C X.env) fp) E0 elt fe)
    (his : is = own.map (·.2) := by rfl) (hs : ∀ x, foldedSetIterable iter X.env x = pure x := by intro _; rfl) : PDE X E (.ListComp elt [⟨tg, iter, ifs, 0⟩] scope pos) (eLc (own.map (·.2)) fi tgt tt fe) :=
  ⟨PE.imp (pe_lc hcalm hN hi.pi ok (fun s H C cl fp => (hg s H C cl fp).pg) (fun s H C cl fp => (ht s H C cl fp).pt) (fun s H C cl fp => (he s H C cl fp).pe) hs) fun σ H Q h => lc_ok hgm his h⟩
/-- y = [..] -/
theorem pds_setLc (cell : Bool) (i : Nat) {y : Str} {py spos : Pos} (hcalm : X.calm = true) (hN : X.N.Nodup) (hi : PDI X E tg iter fi) (own : List (Str × Nat)) (ok : BlkOk X.N X.env.scope scope own)
    (hg : ∀ (s : Shared) (H : Hp) (C : Addr) (cl : List (Str × Addr)) (fp : List Addr), PDG (X.blk s H scope (compEnvC scope cl C X.env) fp) tg is tgt)
    (hgm : ∀ d s s', tgt d s = some s' → s'.mem = s.mem ∧ s'.base = s.base)
    (ht : ∀ (s : Shared) (H : Hp) (C : Addr) (cl : List (Str × Addr)) (fp : List Addr), PDTs (X.blk s H scope (compEnvC scope cl C X.env) fp) ifs tt)
    (he : ∀ (s : Shared) (H : Hp) (C : Addr) (cl : List (Str × Addr)) (fp : List Addr), PDE (X.blk s H scope (compEnvC scope cl C X.env) fp) E0 elt fe)
    (hsw : swapsWith (.ListComp elt [⟨tg, iter, ifs, 0⟩] scope pos) (some (.Name y py)) spos.line X.env = pure true)
    (hy : X.N[i]? = some y := by rfl) (hyl : X.env.scope.names.lookup y = some .local := by rfl)
    (his : is = own.map (·.2) := by rfl) (hs : ∀ x, foldedSetIterable iter X.env x = pure x := by intro _; rfl) : PDS X E (.Assign [.Name y py] (.ListComp elt [⟨tg, iter, ifs, 0⟩] scope pos) spos) (sSet cell i (eLc (own.map (·.2)) fi tgt tt fe)) :=
  set_of (PS.imp (ps_setLc hcalm hN hy hyl hsw hi.pi ok (fun s H C cl fp => (hg s H C cl fp).pg) (fun s H C cl fp => (ht s H C cl fp).pt) (fun s H C cl fp => (he s H C cl fp).pe) hs) fun D σ H h => lc_ok hgm his h)
end
end
end PD

set_option Elab.async false
set_option linter.all false
set_option maxRecDepth 100000
set_option maxHeartbeats 4000000
namespace PD
noncomputable section
open PySem PySem.Spec PyProof.Rows L2

section
variable {X : Cx} {E : XK} {a b c e : Expr} {fa fb fc fe : EM} {pos : Pos} {k : Nat}
theorem OpD.or {r r' : R2} {g g1 g2 : W → W → EM} (h1 : OpD X E r g1) (h2 : OpD X E r' g2) (hg : ∀ wa wb s, g wa wb s = g1 wa wb s ∨ g wa wb s = g2 wa wb s ∨ g wa wb s = .bad) : OpD X E (fun x y H Q => r x y H Q ∨ r' x y H Q) g := fun F G H as s σ x y wa wb Q R ra rb h => by
  rcases hg wa wb s with q | q | q
  · rw [q] at h; exact .inl (h1 F G H as s σ x y wa wb Q R ra rb h)
  · rw [q] at h; exact .inr (h2 F G H as s σ x y wa wb Q R ra rb h)
  · rw [q] at h; exact h.elim
/-- a new plain tuple, a new list -/
theorem eK.newT {F : Addr → Prop} {G H : Hp} {as : List Addr} {s : S} {σ : L2.St} {K : KW} {mg : Str → Option Value} {xs : List D} {vs : List V} {Q : VK} {p : Addr} (R : Rep K F G H as σ s) (h : eK K mg E F G H as s σ (.ok (.d (.tuple xs), s)) Q) (r : RpA K G vs xs) (hp : H p = none) : Q (.ref p) (upd H p (.tup vs)) := by
  obtain ⟨gp, _, _⟩ := R.fresh hp
  exact h _ _ _ (R.newG hp _) (Ext.allocG gp hp) (.tup (SqT.of upd_same) (r.mono (same_upd gp))) fun _ _ z _ => nomatch z
theorem eK.newL {F : Addr → Prop} {G H : Hp} {as : List Addr} {s : S} {σ : L2.St} {K : KW} {mg : Str → Option Value} {xs : List D} {vs : List V} {Q : VK} {p : Addr} (R : Rep K F G H as σ s) (h : eK K mg E F G H as s σ (.ok (.f xs, s)) Q) (r : RpA K G vs xs) (hp : H p = none) : Q (.ref p) (upd H p (.lst vs)) :=
  h _ _ _ (R.new hp _) (Ext.alloc hp) (R.newF hp r) fun _ b _ hb => by cases hb; exact hp
theorem eK.same {F : Addr → Prop} {G H : Hp} {as : List Addr} {s : S} {σ : L2.St} {K : KW} {mg : Str → Option Value} {w : W} {v : V} {Q : VK} (R : Rep K F G H as σ s) (h : eK K mg E F G H as s σ (.ok (w, s)) Q) (r : RpW K F G H as v w) (nf : ∀ xs, w ≠ .f xs) : Q v H :=
  h v G H R (Ext.refl _ _ _) r fun xs _ e _ => absurd e (nf xs)
theorem vs_ne {K : KW} {G : Hp} {vs : List V} {xs : List D} (r : RpA K G vs xs) : vs = [] ↔ xs = [] := by
  cases r with
  | nil => simp
  | cons => simp
theorem RpA.rep {K : KW} {G : Hp} {vs : List V} {xs : List D} (r : RpA K G vs xs) : ∀ n : Nat, RpA K G (List.replicate n vs).flatten (List.replicate n xs).flatten
  | 0 => .nil
  | n + 1 => by
    rw [List.replicate_succ, List.replicate_succ, List.flatten_cons, List.flatten_cons]
    exact r.append (RpA.rep r n)
/-! ### + -/
def gAdd : W → W → EM := fun wa wb s => match dat s wa, dat s wb with
  | some (.int i), some (.int j) => .ok (.d (.int (i + j)), s)
  | some (.str x), some (.str y) => if x.length + y.length ≤ sizeLine then .ok (.d (.str (x ++ y)), s) else .bad
  | some (.list xs), some (.list ys) => if xs.length + ys.length ≤ sizeLine then .ok (.f (xs ++ ys), s) else .bad
  | some (.tuple xs), some (.tuple ys) => if xs.length + ys.length ≤ sizeLine then .ok (.d (.tuple (xs ++ ys)), s) else .bad
  | _, _ => .bad
/-- lists, whoever made them -/
def rCatS (K : KW) : R2 := fun x y H Q => ∃ l b xs zs, x = .ref l ∧ y = .ref b ∧ SqL K H l xs ∧ SqL K H b zs ∧ xs.length + zs.length ≤ sizeLine ∧ ∀ p, H p = none → Q (.ref p) (upd H p (.lst (xs ++ zs)))
theorem op_catS : OpR X (binaryOp .Add) (rCatS X.kw) := by
  intro pins s σ H x y v u Q I rx ry h
  obtain ⟨l, b, xs, zs, rfl, rfl, hH, hB, hz, q⟩ := h
  cases rx
  cases ry
  obtain ⟨its, r, pl, z⟩ := I.list hH
  obtain ⟨its2, r2, pl2, z2⟩ := I.list hB
  obtain ⟨⟨cls, dd, data, sl⟩, n, ho, hc, hdd, hd⟩ := pl
  obtain ⟨⟨cls2, dd2, data2, sl2⟩, n2, ho2, hc2, hdd2, hd2⟩ := pl2
  simp only at hc hd hc2 hd2
  subst hc hd hc2 hd2
  have e : its.toArray ++ its2.toArray = (its ++ its2).toArray := by simp
  refine concat_meets ⟨_, ho, rfl⟩ ⟨_, ho2, rfl⟩ noFill_list_add seq_list_add PySem.F.slot_list_add PySem.F.entry_list_add (PySem.F.args_list_add_2 _ _) (PyProof.Rows.list_addW l b its.toArray its2.toArray n n2 dd dd2 sl sl2 (by rw [List.size_toArray, List.size_toArray, ← r.length, ← r2.length]; exact hz)) ⟨ho, ho2, ?_⟩
  rw [e]
  exact ⟨.ref _, _, I.lnew (t' := s.toks) (r.append r2) (by rw [List.length_append]; omega), rfl, q _ I.fresh⟩
theorem od_add : OpD X E (fun x y H Q => rI0 (fun i j => .int (i + j)) x y H Q ∨ (fun x y H Q => (∃ i j, x = .str i ∧ y = .str j ∧ i.length + j.length ≤ sizeLine ∧ Q (.str (i ++ j)) H) ∨ (fun x y H Q => rCatS X.kw x y H Q ∨ rCatA X.K x y H Q) x y H Q) x y H Q) gAdd := fun F G H as s σ x y wa wb Q R ra rb h => by
  unfold gAdd at h
  split at h
  · rename_i i j e1 e2
    exact .inl ⟨i, j, dat_int ra e1, dat_int rb e2, eK.val R h (.int _)⟩
  · rename_i i j e1 e2
    split at h
    · rename_i hz
      exact .inr (.inl ⟨i, j, dat_str ra e1, dat_str rb e2, hz, eK.val R h (.str _)⟩)
    · exact h.elim
  · rename_i xs ys e1 e2
    split at h
    · rename_i hz
      obtain ⟨a, vs, rfl, h1, h2⟩ := dat_lst R ra e1
      obtain ⟨b, us, rfl, h3, h4⟩ := dat_lst R rb e2
      exact .inr (.inr (.inl ⟨a, b, vs, us, rfl, rfl, h1, h3, by rw [h2.length, h4.length]; exact hz, fun p hp => eK.newL R h (h2.append h4) hp⟩))
    · exact h.elim
  · rename_i xs ys e1 e2
    split at h
    · rename_i hz
      obtain ⟨_, a, vs, rfl, h1, h2⟩ := dat_tup R ra e1
      obtain ⟨_, b, us, rfl, h3, h4⟩ := dat_tup R rb e2
      have ra' := dat_rp R ra e1
      refine .inr (.inr (.inr ⟨a, b, vs, us, rfl, rfl, h1, h3, by rw [h2.length, h4.length]; exact hz, fun q => ?_, fun _ q => ?_, fun _ _ p hp => eK.newT R h (h2.append h4) hp⟩))
      · have := (vs_ne h2).mp q
        subst this
        rw [List.nil_append] at h
        obtain ⟨rfl, _⟩ := dat_tup R rb e2
        exact eK.same R h rb fun _ z => nomatch z
      · have := (vs_ne h4).mp q
        subst this
        rw [List.append_nil] at h
        obtain ⟨rfl, _⟩ := dat_tup R ra e1
        exact eK.same R h ra fun _ z => nomatch z
    · exact h.elim
  · exact h.elim
theorem pd_add (ha : PDE X E a fa) (hb : PDE X E b fb) : PDE X E (.BinOp a .Add b pos) (eBin gAdd fa fb) := pd_op (op_add.or (op_add_str.or (op_catS.or op_catA))) od_add ha hb
/-! ### * -/
def cMul (i j : Int) : Bool := decide (i.natAbs.log2 + j.natAbs.log2 < 1000000)
noncomputable def cRepo : { f : Nat → Int → Bool // ∀ n k, f n k = decide (-(2 ^ 63) ≤ k ∧ k < 2 ^ 63 ∧ n * k.toNat ≤ sizeLine) } := Classical.choice ⟨⟨fun n k => decide (-(2 ^ 63) ≤ k ∧ k < 2 ^ 63 ∧ n * k.toNat ≤ sizeLine), fun _ _ => rfl⟩⟩
def cRep (n : Nat) (k : Int) : Bool := cRepo.1 n k
theorem cRep_eq (n : Nat) (k : Int) : cRep n k = decide (-(2 ^ 63) ≤ k ∧ k < 2 ^ 63 ∧ n * k.toNat ≤ sizeLine) := cRepo.2 n k
noncomputable def cRepTo : { f : Nat → Int → Bool // ∀ n k, f n k = decide (n ≠ 0 ∧ 2 ≤ k ∧ k ≤ 1000 ∧ n ≤ 1000) } := Classical.choice ⟨⟨fun n k => decide (n ≠ 0 ∧ 2 ≤ k ∧ k ≤ 1000 ∧ n ≤ 1000), fun _ _ => rfl⟩⟩
def cRepT (n : Nat) (k : Int) : Bool := cRepTo.1 n k
theorem cRepT_eq (n : Nat) (k : Int) : cRepT n k = decide (n ≠ 0 ∧ 2 ≤ k ∧ k ≤ 1000 ∧ n ≤ 1000) := cRepTo.2 n k
def gMul : W → W → EM := fun wa wb s => match wa, wb with
  | .d (.int i), .d (.int j) => if cMul i j then .ok (.d (.int (i * j)), s) else .bad
  | .f xs, .d (.int k) => if cRep xs.length k then .ok (.f (List.replicate k.toNat xs).flatten, s) else .bad
  | .d (.tuple xs), .d (.int k) => if cRepT xs.length k then .ok (.d (.tuple (List.replicate k.toNat xs).flatten), s) else .bad
  | _, _ => .bad
theorem od_mul : OpD X E (fun x y H Q => rI CMulW (fun i j => .int (i * j)) x y H Q ∨ (fun x y H Q => rRep x y H Q ∨ rRepT X.K x y H Q) x y H Q) gMul := fun F G H as s σ x y wa wb Q R ra rb h => by
  unfold gMul at h
  split at h
  · rename_i i j
    split at h
    · rename_i hz
      cases rb
      exact .inl ⟨i, j, dat_int (s := s) ra rfl, rfl, (show i.natAbs.log2 + j.natAbs.log2 < 1000000 from of_decide_eq_true hz), eK.val R h (.int _)⟩
    · exact h.elim
  · rename_i xs k
    split at h
    · rename_i hz
      have hz := of_decide_eq_true ((cRep_eq _ _).symm.trans hz)
      cases rb
      obtain ⟨a, vs, rfl, h1, _, _, _, h2⟩ := ra
      exact .inr (.inl ⟨a, k, vs, rfl, rfl, h1, hz.1, hz.2.1, by rw [h2.length]; exact hz.2.2, fun p hp => eK.newL R h (h2.rep _) hp⟩)
    · exact h.elim
  · rename_i xs k
    split at h
    · rename_i hz
      have hz := of_decide_eq_true ((cRepT_eq _ _).symm.trans hz)
      cases rb
      obtain ⟨_, a, vs, rfl, h1, h2⟩ := dat_tup R ra rfl
      exact .inr (.inr ⟨a, k, vs, rfl, rfl, h1, fun q => hz.1 (by rw [(vs_ne h2).mp q]; rfl), hz.2.1, hz.2.2.1, by rw [h2.length]; exact hz.2.2.2, fun p hp => eK.newT R h (h2.rep _) hp⟩)
    · exact h.elim
  · exact h.elim
theorem pd_mul (ha : PDE X E a fa) (hb : PDE X E b fb) : PDE X E (.BinOp a .Mult b pos) (eBin gMul fa fb) := pd_op (op_mulW.or (op_rep.or op_repT)) od_mul ha hb
/-! ### other arithmetic -/
def cDiv (i j : Int) : Bool := decide (0 < j) && decide (j.natAbs.log2 < 9000)
abbrev eDiv := eBin (g2I fun i j => if cDiv i j then some (.int (i / j)) else none)
theorem pd_div (ha : PDE X E a fa) (hb : PDE X E b fb) : PDE X E (.BinOp a .FloorDiv b pos) (eDiv fa fb) := pd_op op_fdivW (od_intC (C := CDivW) fun i j h => ⟨of_decide_eq_true (Bool.and_eq_true_iff.mp h).1, of_decide_eq_true (Bool.and_eq_true_iff.mp h).2⟩) ha hb
abbrev eMod := eBin (g2I fun i j => if decide (0 < j) then some (.int (i % j)) else none)
theorem pd_mod (ha : PDE X E a fa) (hb : PDE X E b fb) : PDE X E (.BinOp a .Mod b pos) (eMod fa fb) := pd_op op_mod (od_intC (C := fun _ j => 0 < j) (cb := fun _ j => decide (0 < j)) fun i j h => of_decide_eq_true h) ha hb
def cPow (i j : Int) : Bool := decide (0 ≤ j) && (decide (j ≤ 1000000) && decide (i.natAbs < 2 ^ 64))
theorem cPow_ok (i j : Int) (h : cPow i j = true) : CPow i j := ⟨of_decide_eq_true (Bool.and_eq_true_iff.mp h).1, of_decide_eq_true (Bool.and_eq_true_iff.mp (Bool.and_eq_true_iff.mp h).2).1, of_decide_eq_true (Bool.and_eq_true_iff.mp (Bool.and_eq_true_iff.mp h).2).2⟩
abbrev ePow := eBin (g2I fun i j => if cPow i j then some (.int (i ^ j.toNat)) else none)
theorem pd_pow (ha : PDE X E a fa) (hb : PDE X E b fb) : PDE X E (.BinOp a .Pow b pos) (ePow fa fb) := pd_op op_pow (od_intC (C := CPow) cPow_ok) ha hb
abbrev eShl := eBin (g2I fun i j => if cPow i j then some (.int (i * 2 ^ j.toNat)) else none)
theorem pd_shl (ha : PDE X E a fa) (hb : PDE X E b fb) : PDE X E (.BinOp a .LShift b pos) (eShl fa fb) := pd_op op_shl (od_intC (C := CPow) cPow_ok) ha hb
abbrev eShr := eBin (g2I fun i j => if decide (0 ≤ j) then some (.int (i / 2 ^ j.toNat)) else none)
theorem pd_shr (ha : PDE X E a fa) (hb : PDE X E b fb) : PDE X E (.BinOp a .RShift b pos) (eShr fa fb) := pd_op op_shr (od_intC (C := fun _ j => 0 ≤ j) (cb := fun _ j => decide (0 ≤ j)) fun i j h => of_decide_eq_true h) ha hb
def eNeg (f : EM) : EM := fun s => (f s).bind fun p => match p.1 with
  | .d (.int i) => .ok (.d (.int (-i)), p.2)
  | _ => .bad
theorem pd_neg (ha : PDE X E a fa) : PDE X E (.UnaryOp .USub a pos) (eNeg fa) := ⟨PE.imp (pe_un un_neg ha.pe) fun σ H Q h => by
  obtain ⟨F, G, as, s, R, h⟩ := h
  refine eT.seq R h fun G1 H1 w s1 v R1 X1 r _ h1 => ?_
  dsimp only at h1
  split at h1
  · cases r
    exact ⟨_, rfl, eK.val R1 h1 (.int _)⟩
  · exact h1.elim⟩
/-! ### order: ints and texts -/
def gOrd (fi : Int → Int → Bool) (fs : Str → Str → Bool) : W → W → EM := fun wa wb s => match wa, wb with
  | .d (.int i), .d (.int j) => .ok (.d (.bool (fi i j)), s)
  | .d (.str x), .d (.str y) => .ok (.d (.bool (fs x y)), s)
  | _, _ => .bad
theorem od_ord {fi : Int → Int → Bool} {fs : Str → Str → Bool} : OpD X E (fun x y H Q => rI0 (fun i j => .bl (fi i j)) x y H Q ∨ ∃ i j, x = .str i ∧ y = .str j ∧ Q (.bl (fs i j)) H) (gOrd fi fs) := fun F G H as s σ x y wa wb Q R ra rb h => by
  unfold gOrd at h
  split at h
  · cases ra; cases rb
    exact .inl ⟨_, _, rfl, rfl, eK.val R h (.bl _)⟩
  · cases ra; cases rb
    exact .inr ⟨_, _, rfl, rfl, eK.val R h (.bl _)⟩
  · exact h.elim
theorem gOrd_f {fi : Int → Int → Bool} {fs : Str → Str → Bool} {wa : W} {xs : List D} {s : S} : gOrd fi fs wa (.f xs) s = .bad := by
  cases wa with
  | d x => cases x <;> rfl
  | c n => rfl
  | f ys => rfl
abbrev gLt := gOrd (fun i j => decide (i < j)) (fun x y => decide (x.cps.toList < y.cps.toList))
abbrev gLe := gOrd (fun i j => decide (i ≤ j)) (fun x y => !decide (y.cps.toList < x.cps.toList))
abbrev gGt := gOrd (fun i j => decide (j < i)) (fun x y => decide (y.cps.toList < x.cps.toList))
abbrev gGe := gOrd (fun i j => decide (j ≤ i)) (fun x y => !decide (x.cps.toList < y.cps.toList))
theorem pd_ltA (ha : PDE X E a fa) (hb : PDE X E b fb) : PDE X E (.Compare a [.Lt] [b] pos) (eBin gLt fa fb) := pd_cmp (op_lt.or op_lt_str) od_ord ha hb
theorem pd_leA (ha : PDE X E a fa) (hb : PDE X E b fb) : PDE X E (.Compare a [.LtE] [b] pos) (eBin gLe fa fb) := pd_cmp (op_le.or op_le_str) od_ord ha hb
theorem pd_gtA (ha : PDE X E a fa) (hb : PDE X E b fb) : PDE X E (.Compare a [.Gt] [b] pos) (eBin gGt fa fb) := pd_cmp (op_gt.or op_gt_str) od_ord ha hb
theorem pd_geA (ha : PDE X E a fa) (hb : PDE X E b fb) : PDE X E (.Compare a [.GtE] [b] pos) (eBin gGe fa fb) := pd_cmp (op_ge.or op_ge_str) od_ord ha hb
/-! ### a <= b <= c -/
def eChain (g g' : W → W → EM) (fa fb fc : EM) : EM := fun s => (fa s).bind fun p => (fb p.2).bind fun q => (g p.1 q.1 q.2).bind fun t => match t.1 with
  | .d (.bool true) => (fc t.2).bind fun u => g' q.1 u.1 u.2
  | .d (.bool false) => .ok (.d (.bool false), t.2)
  | _ => .bad
/-- the middle one is plain -/
theorem pd_chain {op op' : CmpOp} {r r' : R2} {fi fi' : Int → Int → Bool} {fs fs' : Str → Str → Bool} (ho : OpR X (compareOp op) r) (ho' : OpR X (compareOp op') r') (hg : OpD X E r (gOrd fi fs)) (hg' : OpD X E r' (gOrd fi' fs')) (ha : PDE X E a fa) (hb : PDE X E b fb) (hc : PDE X E c fc)
    (hm : lastMarks [op, op'] [b, c] = false := by with_unfolding_all rfl) : PDE X E (.Compare a [op, op'] [b, c] pos) (eChain (gOrd fi fs) (gOrd fi' fs') fa fb fc) := ⟨PE.imp (pe_chain ho ho' ha.pe hb.pe hc.pe hm) fun σ H Q h => by
  obtain ⟨F, G, as, s, R, h⟩ := h
  refine eT.seq R h fun G1 H1 w s1 v R1 X1 r1 _ h1 => ?_
  refine eT.seqP R1 r1 h1 fun G2 H2 w2 s2 v2 R2 X2 r1 r2 _ h2 => ?_
  dsimp only at h2
  refine hg F G2 H2 as s2 σ v v2 w w2 _ R2 r1 r2 ?_
  cases q : gOrd fi fs w w2 s2 with
  | exc c => rw [q] at h2; exact h2
  | bad => rw [q] at h2; exact h2
  | ok t =>
    obtain ⟨w3, s3⟩ := t
    rw [q, Res.bind_ok] at h2
    dsimp only at h2
    intro v3 G3 H3 R3 X3 r3 n3
    have nf : ∀ xs, w2 ≠ .f xs := fun xs z => by
      subst z
      rw [gOrd_f] at q
      cases q
    have h2 := eK.ext h2 R2 R3 X3
    split at h2
    · cases r3
      refine ⟨true, rfl, ?_⟩
      rw [if_pos rfl]
      have r2' : RpW X.kw F G3 H3 as v2 w2 := by
        cases w2 with
        | d x => exact Rp.mono X3.same r2
        | c n => exact r2
        | f xs => exact absurd rfl (nf xs)
      exact eT.seqP R3 r2' h2 fun G4 H4 w4 s4 v4 R4 X4 r2 r4 _ h4 => hg' F G4 H4 as s4 σ v2 v4 w2 w4 Q R4 r2 r4 h4
    · cases r3
      refine ⟨false, rfl, ?_⟩
      rw [if_neg Bool.false_ne_true]
      exact eK.val R3 h2 (.bl _)
    · exact h2.elim⟩
theorem pd_leLe (ha : PDE X E a fa) (hb : PDE X E b fb) (hc : PDE X E c fc) (hm : lastMarks [.LtE, .LtE] [b, c] = false := by with_unfolding_all rfl) : PDE X E (.Compare a [.LtE, .LtE] [b, c] pos) (eChain gLe gLe fa fb fc) := pd_chain (op_le.or op_le_str) (op_le.or op_le_str) od_ord od_ord ha hb hc hm
/-! ### in -/
@[simp] def flatD : D → Bool
  | .none => true | .bool _ => true | .int _ => true | .str _ => true
  | _ => false
theorem flat_of {K : KW} {H : Hp} {v : V} {x : D} (r : Rp K H v x) (h : flatD x = true) : flatV v = true := by
  cases r <;> first | rfl | cases h
theorem eqV_of {K : KW} {H : Hp} {v u : V} {x y : D} (r : Rp K H v x) (r' : Rp K H u y) (h : flatD x = true) (h' : flatD y = true) : eqV v u = PyData.eqv x y := by
  cases r <;> cases r' <;> first | rfl | cases h | cases h'
def inD (x : D) (xs : List D) : Bool := xs.any fun y => PyData.eqv y x
theorem inV_of {K : KW} {H : Hp} {v : V} {x : D} (r : Rp K H v x) (h : flatD x = true) : ∀ {vs : List V} {xs : List D}, RpA K H vs xs → xs.all flatD = true → inV v vs = inD x xs ∧ vs.all flatV = true
  | _, _, .nil, _ => ⟨rfl, rfl⟩
  | _, _, .cons h1 r1, e => by
    rw [List.all_cons, Bool.and_eq_true] at e
    obtain ⟨i1, i2⟩ := inV_of r h r1 e.2
    refine ⟨?_, by rw [List.all_cons, i2, flat_of h1 e.1]; rfl⟩
    unfold inV inD at i1 ⊢
    rw [List.any_cons, List.any_cons, i1, eqV_of h1 r e.1 h]
def gIn (neg : Bool) : W → W → EM := fun wa wb s => match dat s wa, dat s wb with
  | some x, some (.list xs) => if flatD x && xs.all flatD then .ok (.d (.bool (if neg then !inD x xs else inD x xs)), s) else .bad
  | some x, some (.tuple xs) => if flatD x && xs.all flatD then .ok (.d (.bool (if neg then !inD x xs else inD x xs)), s) else .bad
  | some (.str x), some (.str y) => (match x.cps.toList with
    | [c] => .ok (.d (.bool (if neg then !decide (c ∈ y.cps.toList) else decide (c ∈ y.cps.toList))), s)
    | _ => .bad)
  | _, _ => .bad
def rSign (neg : Bool) : R2 := fun x y H Q => ∃ (c : Nat) (z : Str), x = .str ⟨#[c]⟩ ∧ y = .str z ∧ Q (.bl (if neg then !decide (c ∈ z.cps.toList) else decide (c ∈ z.cps.toList))) H
theorem od_in {neg : Bool} : OpD X E (fun x y H Q => rIn X.K neg x y H Q ∨ rSign neg x y H Q) (gIn neg) := fun F G H as s σ x y wa wb Q R ra rb h => by
  unfold gIn at h
  split at h
  · rename_i x xs e1 e2
    split at h
    · rename_i hz
      obtain ⟨z1, z2⟩ := Bool.and_eq_true_iff.mp hz
      obtain ⟨a, vs, rfl, h1, h2⟩ := dat_lst R rb e2
      have rx := dat_rp R ra e1
      obtain ⟨i1, i2⟩ := inV_of rx z1 (h2.mono R.same) z2
      exact .inl ⟨a, vs, rfl, .inl (h1), flat_of rx z1, i2, by rw [i1]; exact eK.val R h (.bl _)⟩
    · exact h.elim
  · rename_i x xs e1 e2
    split at h
    · rename_i hz
      obtain ⟨z1, z2⟩ := Bool.and_eq_true_iff.mp hz
      obtain ⟨_, a, vs, rfl, h1, h2⟩ := dat_tup R rb e2
      have rx := dat_rp R ra e1
      obtain ⟨i1, i2⟩ := inV_of rx z1 (h2.mono R.same) z2
      exact .inl ⟨a, vs, rfl, .inr h1, flat_of rx z1, i2, by rw [i1]; exact eK.val R h (.bl _)⟩
    · exact h.elim
  · rename_i x y e1 e2
    split at h
    · rename_i c hc
      have ex : x = ⟨#[c]⟩ := by
        obtain ⟨⟨l⟩⟩ := x
        simp at hc
        rw [hc]
      exact .inr ⟨c, y, by rw [dat_str ra e1, ex], dat_str rb e2, eK.val R h (.bl _)⟩
    · exact h.elim
  · exact h.elim
theorem op_sign (neg : Bool) : OpR X (compareOp (if neg then .NotIn else .In)) (rSign neg) := by
  cases neg with
  | true => exact op_notIn_sign
  | false => exact op_in_sign
theorem pd_in (ha : PDE X E a fa) (hb : PDE X E b fb) (hm : behindInMarks .In b = false := by rfl) : PDE X E (.Compare a [.In] [b] pos) (eBin (gIn false) fa fb) := pd_cmp (op_in_seq.or (op_sign false)) od_in ha hb hm
theorem pd_notIn (ha : PDE X E a fa) (hb : PDE X E b fb) (hm : behindInMarks .NotIn b = false := by rfl) : PDE X E (.Compare a [.NotIn] [b] pos) (eBin (gIn true) fa fb) := pd_cmp (op_notIn_seq.or (op_sign true)) od_in ha hb hm
end
end
end PD

set_option Elab.async false
set_option linter.all false
set_option maxRecDepth 100000
set_option maxHeartbeats 4000000
namespace PD
noncomputable section
open PySem PySem.Spec PyProof.Rows L2

/-! ### slices -/
abbrev OM := S → Res (Option Int × S)
def oK (K : KW) (mg : Str → Option Value) (E : XK) (F : Addr → Prop) (G H : Hp) (as : List Addr) (s : S) (σ : L2.St) (r : Res (Option Int × S)) (Q : Option Int → Hp → Prop) : Prop := match r with
  | .ok (o, s') => ∀ G' H', Rep K F G' H' as σ s' → Ext G H (live as s) G' H' (live as s') → Q o H'
  | .exc c => ∀ C H', mg c = some (.ref C) → (∀ a o, H a = some o → ¬ live as s a → H' a = some o) → E (.ref C) none H'
  | .bad => False
def oT (K : KW) (mg : Str → Option Value) (E : XK) (f : OM) : TO := fun σ H Q => ∃ (F : Addr → Prop) (G : Hp) (as : List Addr) (s : S), Rep K F G H as σ s ∧ oK K mg E F G H as s σ (f s) Q
structure PDO (X : Cx) (E : XK) (e : Option Expr) (f : OM) : Prop where
  po : PO X e (oT X.kw X.mg E f)
theorem PO.imp {X : Cx} {e : Option Expr} {t t' : TO} (h : PO X e t) (k : ∀ σ H Q, t' σ H Q → t σ H Q) : PO X e t' := ⟨fun pins s σ H Q I q => h.run pins s σ H Q I (k σ H Q q)⟩
def oNone : OM := fun s => .ok (none, s)
def oSome (f : EM) : OM := fun s => (f s).bind fun p => match p.1 with
  | .d (.int i) => .ok (some i, p.2)
  | _ => .bad
section
variable {X : Cx} {E : XK} {a b c e : Expr} {fa fb fc fe : EM} {pos : Pos} {k : Nat} {lo hi : Option Expr} {fl fh : OM}
theorem pdo_none : PDO X E none oNone := ⟨PO.imp po_none fun σ H Q h => by
  obtain ⟨F, G, as, s, R, h⟩ := h
  exact h G H R (Ext.refl _ _ _)⟩
theorem pdo_some (he : PDE X E e fe) : PDO X E (some e) (oSome fe) := ⟨PO.imp (po_some he.pe) fun σ H Q h => by
  obtain ⟨F, G, as, s, R, h⟩ := h
  refine ⟨F, G, as, s, R, ?_⟩
  unfold oSome at h
  cases q : fe s with
  | exc c => rw [q] at h; exact h
  | bad => rw [q] at h; exact h
  | ok p =>
    obtain ⟨w, s1⟩ := p
    rw [q, Res.bind_ok] at h
    dsimp only at h
    intro v G1 H1 R1 X1 r _
    split at h
    · cases r
      exact ⟨_, rfl, h G1 H1 R1 X1⟩
    · exact h.elim⟩
def cutD (xs : List D) (lo hi : Option Int) : List D := (xs.drop (HT.sIx xs.length 0 lo)).take (HT.sIx xs.length xs.length hi - HT.sIx xs.length 0 lo)
def gSl (lo hi : Option Int) : W → EM := fun w s => match dat s w with
  | some (.list xs) => .ok (.f (cutD xs lo hi), s)
  | some (.tuple xs) => .ok (.d (.tuple (cutD xs lo hi)), s)
  | some (.str z) => if z.length ≤ sizeLine then .ok (.d (.str (cutS z lo hi)), s) else .bad
  | _ => .bad
def eSl (fe : EM) (fl fh : OM) : EM := fun s => (fe s).bind fun p => (fl p.2).bind fun l => (fh l.2).bind fun h => gSl l.1 h.1 p.1 h.2
theorem cut_rp {K : KW} {G : Hp} {vs : List V} {xs : List D} (r : RpA K G vs xs) (lo hi : Option Int) : RpA K G (cutV vs lo hi) (cutD xs lo hi) := by
  unfold cutV cutD
  rw [r.length]
  exact (r.drop _).take _
theorem take_all {xs : List D} {lo hi : Option Int} (h : HT.sIx xs.length 0 lo = 0 ∧ HT.sIx xs.length xs.length hi = xs.length) : cutD xs lo hi = xs := by
  unfold cutD
  rw [h.1, h.2]
  simp
theorem oT.seq {K : KW} {mg : Str → Option Value} {F : Addr → Prop} {G H : Hp} {as : List Addr} {s : S} {σ : L2.St} {fo : OM} {k : Option Int × S → Res (W × S)} {Q : VK} {Q1 : Option Int → Hp → Prop} {v0 : V} {w0 : W} (R : Rep K F G H as σ s) (r0 : RpW K F G H as v0 w0) (h : eK K mg E F G H as s σ ((fo s).bind k) Q)
    (hk : ∀ (G1 H1 : Hp) (o : Option Int) (s1 : S), Rep K F G1 H1 as σ s1 → RpW K F G1 H1 as v0 w0 → eK K mg E F G1 H1 as s1 σ (k (o, s1)) Q → Q1 o H1) : oT K mg E fo σ H Q1 := by
  refine ⟨pn F v0 w0, G, as, s, R.pend r0, ?_⟩
  cases e : fo s with
  | ok p =>
    obtain ⟨o, s1⟩ := p
    rw [e] at h
    exact fun G1 H1 R1 X1 => hk G1 H1 o s1 R1.unpend (r0.mono R1 X1) (eK.ext h R R1.unpend X1)
  | exc c => rw [e] at h; exact h
  | bad => rw [e] at h; exact h
theorem pd_slice {p2 : Pos} (he : PDE X E e fe) (hl : PDO X E lo fl) (hh : PDO X E hi fh) : PDE X E (.Subscript e (.Slice lo hi none p2) pos) (eSl fe fl fh) := ⟨PE.imp (pe_slice (sl_list.or (sl_tupA.or sl_str)) he.pe hl.po hh.po) fun σ H Q h => by
  obtain ⟨F, G, as, s, R, h⟩ := h
  refine eT.seq R h fun G1 H1 w s1 v R1 X1 r1 _ h1 => ?_
  refine oT.seq R1 r1 h1 fun G2 H2 o s2 R2 r2 h2 => ?_
  refine oT.seq R2 r2 h2 fun G3 H3 u s3 R3 r3 h3 => ?_
  dsimp only at h3
  unfold gSl at h3
  split at h3
  · rename_i xs e
    obtain ⟨a, vs, rfl, k1, k2⟩ := dat_lst R3 r3 e
    exact .inl ⟨a, vs, rfl, k1, fun p hp => eK.newL R3 h3 (cut_rp k2 _ _) hp⟩
  · rename_i xs e
    obtain ⟨ew, a, vs, rfl, k1, k2⟩ := dat_tup R3 r3 e
    subst ew
    refine .inr (.inl ⟨a, vs, rfl, k1, fun q => ?_, fun _ p hp => eK.newT R3 h3 (cut_rp k2 _ _) hp⟩)
    rw [k2.length] at q
    rw [take_all q] at h3
    exact eK.same R3 h3 r3 fun _ z => nomatch z
  · rename_i z e
    split at h3
    · rename_i hz
      exact .inr (.inr ⟨z, dat_str r3 e, hz, eK.val R3 h3 (.str _)⟩)
    · exact h3.elim
  · exact h3.elim⟩
/-! ### xs[::-1] of a list -/
theorem pd_revL {kk : Nat} {p1 p2 p3 : Pos} (he : PDE X E e fe) : PDE X E (.Subscript e (.Slice none none (some (.UnaryOp .USub (.Constant (.int 1) kk p1) p2)) p3) pos) (eB1 (fun w s => match dat s w with
    | some (.list xs) => .ok (.f xs.reverse, s)
    | _ => .bad) fe) := ⟨PE.imp (pe_revL he.pe) fun σ H Q h => by
  obtain ⟨F, G, as, s, R, h⟩ := h
  refine eT.seq R h fun G1 H1 w s1 v R1 X1 r1 _ h1 => ?_
  dsimp only at h1
  split at h1
  · rename_i xs e
    obtain ⟨a, vs, rfl, k1, k2⟩ := dat_lst R1 r1 e
    exact ⟨a, vs, rfl, k1, fun p hp => eK.newL R1 h1 k2.reverse hp⟩
  · exact h1.elim⟩

/-! ### further built-ins -/
def gList : W → EM := fun w s => match dat s w with
  | some (.list xs) => .ok (.f xs, s)
  | some (.tuple xs) => .ok (.f xs, s)
  | _ => .bad
theorem ud_list : UnD X E (fun xs H Q => ∃ p ys, xs = [.ref p] ∧ (SqL X.K H p ys ∨ SqT X.K H p ys) ∧ ∀ l, H l = none → Q (.ref l) (upd H l (.lst ys))) gList := fun F G H as s σ v w Q R r h => by
  unfold gList at h
  split at h
  · rename_i xs e
    obtain ⟨a, vs, rfl, h1, h2⟩ := dat_lst R r e
    exact ⟨a, vs, rfl, .inl (h1), fun p hp => eK.newL R h h2 hp⟩
  · rename_i xs e
    obtain ⟨_, a, vs, rfl, h1, h2⟩ := dat_tup R r e
    exact ⟨a, vs, rfl, .inr h1, fun p hp => eK.newL R h h2 hp⟩
  · exact h.elim
theorem pd_list {p : Pos} (hm : X.mg "list" = none) (ha : PDE X E e fe) (hg : Gl X "list" := by rfl) (he : starEach [e] X.env = (false, eval e X.env) :: starEach [] X.env := by rfl) : PDE X E (.Call (.Name "list" p) [e] [] pos) (eB1 gList fe) :=
  pd_t1 call_list_of ud_list hm (by decide +kernel) ha hg (by decide) (by decide) he
def gTuple : W → EM := fun w s => match dat s w with
  | some (.list xs) => .ok (.d (.tuple xs), s)
  | some (.tuple xs) => .ok (.d (.tuple xs), s)
  | _ => .bad
theorem ud_tuple : UnD X E (fun xs H Q => ∃ p ys, xs = [.ref p] ∧ ((SqL X.K H p ys ∧ ∀ l, H l = none → Q (.ref l) (upd H l (.tup ys))) ∨ (SqT X.K H p ys ∧ Q (.ref p) H))) gTuple := fun F G H as s σ v w Q R r h => by
  unfold gTuple at h
  split at h
  · rename_i xs e
    obtain ⟨a, vs, rfl, h1, h2⟩ := dat_lst R r e
    exact ⟨a, vs, rfl, .inl ⟨h1, fun p hp => eK.newT R h h2 hp⟩⟩
  · rename_i xs e
    obtain ⟨rfl, a, vs, rfl, h1, h2⟩ := dat_tup R r e
    exact ⟨a, vs, rfl, .inr ⟨h1, eK.same R h r fun _ z => nomatch z⟩⟩
  · exact h.elim
theorem pd_tuple {p : Pos} (hm : X.mg "tuple" = none) (ha : PDE X E e fe) (hg : Gl X "tuple" := by rfl) (he : starEach [e] X.env = (false, eval e X.env) :: starEach [] X.env := by rfl) : PDE X E (.Call (.Name "tuple" p) [e] [] pos) (eB1 gTuple fe) :=
  pd_t1 call_tuple_of ud_tuple hm (by decide +kernel) ha hg (by decide) (by decide) he
def gInt : W → EM := fun w s => match w with
  | .d (.int i) => .ok (.d (.int i), s)
  | .d (.bool b) => .ok (.d (.int (if b then 1 else 0)), s)
  | _ => .bad
theorem ud_int : UnD X E (fun xs H Q => (∃ i, xs = [.int i] ∧ Q (.int i) H) ∨ ∃ k, xs = [.bl k] ∧ Q (.int (if k then 1 else 0)) H) gInt := fun F G H as s σ v w Q R r h => by
  unfold gInt at h
  split at h
  · cases r
    exact .inl ⟨_, rfl, eK.val R h (.int _)⟩
  · cases r
    exact .inr ⟨_, rfl, eK.val R h (.int _)⟩
  · exact h.elim
theorem pd_intC {p : Pos} (hm : X.mg "int" = none) (ha : PDE X E e fe) (hg : Gl X "int" := by rfl) (he : starEach [e] X.env = (false, eval e X.env) :: starEach [] X.env := by rfl) : PDE X E (.Call (.Name "int" p) [e] [] pos) (eB1 gInt fe) :=
  pd_t1 call_int1 ud_int hm (by decide +kernel) ha hg (by decide) (by decide) he
def gAbs : W → EM := fun w s => match w with
  | .d (.int i) => .ok (.d (.int (if i < 0 then -i else i)), s)
  | _ => .bad
theorem ud_abs : UnD X E (fun xs H Q => ∃ i, xs = [.int i] ∧ Q (.int (if i < 0 then -i else i)) H) gAbs := fun F G H as s σ v w Q R r h => by
  unfold gAbs at h
  split at h
  · cases r
    exact ⟨_, rfl, eK.val R h (.int _)⟩
  · exact h.elim
theorem pd_abs {p : Pos} (hm : X.mg "abs" = none) (ha : PDE X E e fe) (hg : Gl X "abs" := by rfl) (he : starEach [e] X.env = (false, eval e X.env) :: starEach [] X.env := by rfl) : PDE X E (.Call (.Name "abs" p) [e] [] pos) (eB1 gAbs fe) :=
  pd_b1 call_abs ud_abs hm (by decide +kernel) ha hg (by decide) (by decide) he
def gOrdC : W → EM := fun w s => match w with
  | .d (.str x) => if x.length = 1 then .ok (.d (.int (x.cps.getD 0 0 : Nat)), s) else .bad
  | _ => .bad
theorem ud_ordC : UnD X E (fun xs H Q => ∃ x, xs = [.str x] ∧ x.length = 1 ∧ Q (.int (x.cps.getD 0 0 : Nat)) H) gOrdC := fun F G H as s σ v w Q R r h => by
  unfold gOrdC at h
  split at h
  · split at h
    · rename_i hz
      cases r
      exact ⟨_, rfl, hz, eK.val R h (.int _)⟩
    · exact h.elim
  · exact h.elim
theorem pd_ord {p : Pos} (hm : X.mg "ord" = none) (ha : PDE X E e fe) (hg : Gl X "ord" := by rfl) (he : starEach [e] X.env = (false, eval e X.env) :: starEach [] X.env := by rfl) : PDE X E (.Call (.Name "ord" p) [e] [] pos) (eB1 gOrdC fe) :=
  pd_b1 call_ord ud_ordC hm (by decide +kernel) ha hg (by decide) (by decide) he
def intsOf : List D → Option (List Int)
  | [] => some []
  | .int b :: r => (intsOf r).map (b :: ·)
  | _ :: _ => none
theorem intsOf_ok {K : KW} {G : Hp} : ∀ {vs : List V} {ds : List D} {bs : List Int}, RpA K G vs ds → intsOf ds = some bs → vs = bs.map V.int
  | _, _, _, .nil, e => by cases e; rfl
  | _, _, bs, .cons (ds := ds) (.int b) r, e => by
    have e : (intsOf ds).map (b :: ·) = some bs := e
    cases q : intsOf ds with
    | none => rw [q] at e; cases e
    | some es => rw [q] at e; cases e; rw [intsOf_ok r q]; rfl
  | _, _, _, .cons .non _, e => nomatch e
  | _, _, _, .cons (.bl _) _, e => nomatch e
  | _, _, _, .cons (.str _) _, e => nomatch e
  | _, _, _, .cons (.lst _ _) _, e => nomatch e
  | _, _, _, .cons (.tup _ _) _, e => nomatch e
  | _, _, _, .cons (.dic _ _) _, e => nomatch e
  | _, _, _, .cons (.dicN _ _) _, e => nomatch e
theorem RpA.ints {K : KW} {G : Hp} : ∀ ns : List Int, RpA K G (ns.map V.int) (ns.map PyData.int)
  | [] => .nil
  | n :: r => .cons (.int n) (RpA.ints r)
def sortI (ns : List Int) : List Int := ns.mergeSort (fun a b => decide (a ≤ b))
theorem sortI_ok (ns : List Int) : (sortI ns).Perm ns ∧ (sortI ns).Pairwise (· ≤ ·) := by
  refine ⟨List.mergeSort_perm _ _, ?_⟩
  have h := List.pairwise_mergeSort (le := fun (a b : Int) => decide (a ≤ b)) (fun a b c h1 h2 => by simp at *; omega) (fun a b => by simp; omega) ns
  exact h.imp fun h => by simpa using h
def gSorted : W → EM := fun w s => match dat s w with
  | some (.list xs) => (match intsOf xs with
    | some ns => .ok (.f ((sortI ns).map PyData.int), s)
    | none => .bad)
  | _ => .bad
theorem ud_sorted : UnD X E (rSortedI X.K) gSorted := fun F G H as s σ v w Q R r h => by
  unfold gSorted at h
  split at h
  · rename_i xs e
    split at h
    · rename_i ns e2
      obtain ⟨a, vs, rfl, h1, h2⟩ := dat_lst R r e
      rw [intsOf_ok h2 e2] at h1
      refine ⟨a, ns, rfl, h1, fun ns' p hp hs hn => ?_⟩
      have : ns' = sortI ns := (hp.trans (sortI_ok ns).1.symm).eq_of_pairwise (fun x y _ _ h1 h2 => Int.le_antisymm h1 h2) hs (sortI_ok ns).2
      rw [this]
      exact eK.newL R h (RpA.ints _) hn
    · exact h.elim
  · exact h.elim
theorem pd_sorted {p : Pos} (hm : X.mg "sorted" = none) (ha : PDE X E e fe) (hg : Gl X "sorted" := by rfl) (he : starEach [e] X.env = (false, eval e X.env) :: starEach [] X.env := by rfl) : PDE X E (.Call (.Name "sorted" p) [e] [] pos) (eB1 gSorted fe) :=
  pd_b1 cr_sortedI ud_sorted hm (by decide +kernel) ha hg (by decide) (by decide) he
/-! two arguments -/
theorem pd_b2 {id : String} {x : Str} {p : Pos} {fi : Int → Int → Int} (hc : CallR X (.builtin id) (fun xs H Q => ∃ i j, xs = [.int i, .int j] ∧ Q (.int (fi i j)) H)) (hm : X.mg x = none) (hv : bootBuiltins x = some (.builtin id)) (ha : PDE X E a fa) (hb : PDE X E b fb) (hg : Gl X x := by rfl) (hn : x ≠ "__name__" := by decide) (hdb : (x == ("__debug__" : Str)) = false := by decide)
    (he : starEach [a, b] X.env = (false, eval a X.env) :: starEach [b] X.env := by rfl) (he2 : starEach [b] X.env = (false, eval b X.env) :: starEach [] X.env := by rfl) (hpl : (backTo pos (starEach [b] X.env)).any (·.1) = false := by rfl) : PDE X E (.Call (.Name x p) [a, b] [] pos) (eBin (g2I fun i j => some (.int (fi i j))) fa fb) :=
  ⟨PE.imp (pe_callB hc hg hm hv (pa_cons ha.pe (pa_cons hb.pe pa_nil he2) he) hn hdb he hpl) fun σ H Q h => by
    obtain ⟨F, G, as, s, R, h⟩ := h
    refine eT.seq R h fun G1 H1 w s1 v R1 X1 r1 _ h1 => ?_
    refine eT.seqP R1 r1 h1 fun G2 H2 w2 s2 v2 R2 X2 r1 r2 _ h2 => ?_
    obtain ⟨i, j, z, rfl, rfl, e, h⟩ := g2I_ok r1 r2 h2
    cases e
    exact ⟨i, j, rfl, eK.val R2 h (.int _)⟩⟩
theorem pd_max2 {p : Pos} (hm : X.mg "max" = none) (hcalm : X.calm = true) (ha : PDE X E a fa) (hb : PDE X E b fb) (hg : Gl X "max" := by rfl) (he : starEach [a, b] X.env = (false, eval a X.env) :: starEach [b] X.env := by rfl) (he2 : starEach [b] X.env = (false, eval b X.env) :: starEach [] X.env := by rfl) (hpl : (backTo pos (starEach [b] X.env)).any (·.1) = false := by rfl) : PDE X E (.Call (.Name "max" p) [a, b] [] pos) (eBin (g2I fun i j => some (.int (if j > i then j else i))) fa fb) :=
  pd_b2 (call_max2 hcalm) hm (by decide +kernel) ha hb hg (by decide) (by decide) he he2 hpl
theorem pd_min2 {p : Pos} (hm : X.mg "min" = none) (hcalm : X.calm = true) (ha : PDE X E a fa) (hb : PDE X E b fb) (hg : Gl X "min" := by rfl) (he : starEach [a, b] X.env = (false, eval a X.env) :: starEach [b] X.env := by rfl) (he2 : starEach [b] X.env = (false, eval b X.env) :: starEach [] X.env := by rfl) (hpl : (backTo pos (starEach [b] X.env)).any (·.1) = false := by rfl) : PDE X E (.Call (.Name "min" p) [a, b] [] pos) (eBin (g2I fun i j => some (.int (if j < i then j else i))) fa fb) :=
  pd_b2 (call_min2 hcalm) hm (by decide +kernel) ha hb hg (by decide) (by decide) he he2 hpl
/-! sep.join of a list of texts -/
def strsOf : List D → Option (List Str)
  | [] => some []
  | .str b :: r => (strsOf r).map (b :: ·)
  | _ :: _ => none
theorem strsOf_ok {K : KW} {G : Hp} : ∀ {vs : List V} {ds : List D} {bs : List Str}, RpA K G vs ds → strsOf ds = some bs → vs = bs.map V.str
  | _, _, _, .nil, e => by cases e; rfl
  | _, _, bs, .cons (ds := ds) (.str b) r, e => by
    have e : (strsOf ds).map (b :: ·) = some bs := e
    cases q : strsOf ds with
    | none => rw [q] at e; cases e
    | some es => rw [q] at e; cases e; rw [strsOf_ok r q]; rfl
  | _, _, _, .cons .non _, e => nomatch e
  | _, _, _, .cons (.bl _) _, e => nomatch e
  | _, _, _, .cons (.int _) _, e => nomatch e
  | _, _, _, .cons (.lst _ _) _, e => nomatch e
  | _, _, _, .cons (.tup _ _) _, e => nomatch e
  | _, _, _, .cons (.dic _ _) _, e => nomatch e
  | _, _, _, .cons (.dicN _ _) _, e => nomatch e
def eJoin (fa fb : EM) : EM := fun s => (fa s).bind fun p => match p.1 with
  | .d (.str z) => (fb p.2).bind fun q => (match dat q.2 q.1 with
    | some (.list xs) => (match strsOf xs with
      | some ys => if (ys.map (·.length)).sum + ys.length * z.length ≤ 16777216 then .ok (.d (.str (Txt.join z ys)), q.2) else .bad
      | none => .bad)
    | _ => .bad)
  | _ => .bad
theorem pd_join {apos : Pos} (ha : PDE X E a fa) (hb : PDE X E b fb) (hs : starEach [b] X.env = [(false, eval b X.env)] := by rfl) (hbase : attributeBase a "join" X.env (eval a X.env) = eval a X.env := by rfl) (hline : (apos.endLine == pos.line) = true := by rfl) : PDE X E (.Call (.Attribute a "join" apos) [b] [] pos) (eJoin fa fb) :=
  ⟨PE.imp (pe_join ha.pe hb.pe hs hbase hline) fun σ H Q h => by
    obtain ⟨F, G, as, s, R, h⟩ := h
    refine eT.seq R h fun G1 H1 w s1 v R1 X1 r1 _ h1 => ?_
    dsimp only at h1
    split at h1
    · rename_i z
      cases r1
      refine ⟨⟨_, rfl⟩, eT.seq R1 h1 fun G2 H2 w2 s2 v2 R2 X2 r2 _ h2 => ?_⟩
      dsimp only at h2
      split at h2
      · rename_i xs e
        split at h2
        · rename_i ys e2
          split at h2
          · rename_i hz
            obtain ⟨a, vs, rfl, k1, k2⟩ := dat_lst R2 r2 e
            rw [strsOf_ok k2 e2] at k1
            exact ⟨_, a, ys, rfl, rfl, .inl (k1), hz, eK.val R2 h2 (.str _)⟩
          · exact h2.elim
        · exact h2.elim
      · exact h2.elim
    · exact h1.elim⟩
end
end
end PD

set_option Elab.async false
set_option linter.all false
set_option maxRecDepth 100000
set_option maxHeartbeats 4000000
namespace PD
noncomputable section
open PySem PySem.Spec PyProof.Rows L2

/-! ### what changes a cell -/
section
variable {K : KW} {mg : Str → Option Value} {F : Addr → Prop} {G H : Hp} {as : List Addr} {s : S} {σ : L2.St}
theorem Rep.mut {n : Nat} {a : Addr} {c c' : Cell} {o : HO} (R : Rep K F G H as σ s) (e : s.mem[n]? = some (some c)) (ha : as[n]? = some a) (h : CellAt K G (upd H a o) a c') : Rep K F G (upd H a o) as σ { s with mem := s.mem.set n (some c') } := by
  obtain ⟨g0, _⟩ := R.cellAt e ha
  have hn : n < s.mem.length := (List.getElem?_eq_some_iff.mp e).1
  refine ⟨fun b u z => ?_, R.len, by simpa using R.alen, R.nd, fun b hb => ?_, fun b hb => ?_, fun m d z => ?_, fun i w z => ?_⟩
  · have : b ≠ a := fun q => by rw [q, g0] at z; cases z
    rw [upd_ne this]; exact R.same b u z
  · by_cases q : b = a
    · exact ⟨_, by rw [q]; exact upd_same⟩
    · rw [upd_ne q]; exact R.dom b hb
  · obtain ⟨k1, k2, k3⟩ := R.fo b hb
    have : b ≠ a := fun q => k2 (by rw [q]; exact List.mem_of_getElem? ha)
    exact ⟨k1, k2, by rw [upd_ne this]; exact k3⟩
  · have z : (s.mem.set n (some c'))[m]? = some (some d) := z
    by_cases q : n = m
    · subst q
      rw [List.getElem?_set_self hn] at z
      cases z
      exact ⟨a, ha, g0, h⟩
    · rw [List.getElem?_set_ne q] at z
      obtain ⟨b, k1, k2, k3⟩ := R.cell m d z
      have : b ≠ a := fun z => q (nd_at R.nd ha (by rw [← z]; exact k1))
      exact ⟨b, k1, k2, k3.mono (Same.refl _) fun u y => by rw [upd_ne this]; exact y⟩
  · obtain ⟨v, k1, k2, k3⟩ := R.env i w z
    refine ⟨v, k1, ?_, k3⟩
    cases w with
    | d x => exact k2
    | c m => exact k2
    | f xs => exact absurd rfl (k3 xs)
theorem Ext.mut {n : Nat} {a : Addr} {c c' : Cell} {o : HO} (e : s.mem[n]? = some (some c)) (ha : as[n]? = some a) : Ext G H (live as s) G (upd H a o) (live as { s with mem := s.mem.set n (some c') }) := by
  refine ⟨Same.refl _, fun b u z nl => ?_, fun b z => ?_⟩
  · have : b ≠ a := fun q => nl ⟨n, c, e, by rw [q]; exact ha⟩
    rw [upd_ne this]; exact z
  · obtain ⟨m, d, k1, k2⟩ := z
    have k1 : (s.mem.set n (some c'))[m]? = some (some d) := k1
    by_cases q : n = m
    · subst q
      exact .inl ⟨n, c, e, k2⟩
    · rw [List.getElem?_set_ne q] at k1
      exact .inl ⟨m, d, k1, k2⟩
end
/-- a list's method: what it holds and the arguments give the answer and what it holds then -/
abbrev MM := List D → List W → Option (D × List D)
def MtD (X : Cx) (r : V → List V → Hp → VK → Prop) (g : MM) : Prop := ∀ (G H : Hp) (as : List Addr) (a : Addr) (vs us : List V) (xs : List D) (ws : List W) (x : D) (ys : List D) (Q : VK), Same G H → G a = none → H a = some (.lst vs) → RpA X.kw G vs xs → RpWs X.kw G as us ws → g xs ws = some (x, ys) →
  (∀ v zs, RpA X.kw G zs ys → Rp X.kw G v x → Q v (upd H a (.lst zs))) → r (.ref a) us H Q
def eMeth (g : MM) (fo : EM) (ga : AM) : EM := fun s => (fo s).bind fun p => match p.1 with
  | .c n => (match p.2.mem[n]? with
    | some (some (.l _)) => (ga p.2).bind fun q => (match q.2.mem[n]? with
      | some (some (.l xs)) => (match g xs q.1 with
        | some (x, ys) => .ok (.d x, { q.2 with mem := q.2.mem.set n (some (.l ys)) })
        | none => .bad)
      | _ => .bad)
    | _ => .bad)
  | _ => .bad
section
variable {X : Cx} {E : XK} {a b c e o : Expr} {es : List Expr} {fa fb fc fe fo : EM} {pos : Pos} {k : Nat} {ga : AM}
theorem meth_ok {r : V → List V → Hp → VK → Prop} {g : MM} (hg : MtD X r g) {σ : L2.St} {H : Hp} {Q : VK} (h : eT X.kw X.mg E (eMeth g fo ga) σ H Q) : tBM X.K "list" r (eT X.kw X.mg E fo) (aT X.kw X.mg E ga) σ H Q := by
  obtain ⟨F, G, as, s, R, h⟩ := h
  refine eT.seq R h fun G1 H1 w s1 v R1 X1 r1 _ h1 => ?_
  dsimp only at h1
  cases w with
  | d x => exact h1.elim
  | f x => exact h1.elim
  | c n =>
    dsimp only at h1
    obtain ⟨a, ha, rfl⟩ := r1
    split at h1
    · rename_i xs0 e0
      obtain ⟨_, vs0, k0, _⟩ := R1.cellAt e0 ha
      refine ⟨.inl ⟨rfl, vs0, SqL.of k0⟩, F, G1, as, s1, R1, ?_⟩
      cases q : ga s1 with
      | exc c => rw [q] at h1; exact h1
      | bad => rw [q] at h1; exact h1
      | ok p =>
        obtain ⟨ws, s2⟩ := p
        rw [q, Res.bind_ok] at h1
        dsimp only at h1
        intro us G2 H2 R2 X2 r2
        have h1 := eK.ext h1 R1 R2 X2
        split at h1
        · rename_i xs e2
          split at h1
          · rename_i x ys e3
            obtain ⟨g2, vs, k1, k2⟩ := R2.cellAt e2 ha
            refine hg G2 H2 as a vs us xs ws x ys Q R2.same g2 k1 k2 r2 e3 fun v zs rz rv => ?_
            exact h1 v G2 _ (R2.mut e2 ha ⟨zs, upd_same, rz⟩) (Ext.mut e2 ha) rv fun _ _ z _ => nomatch z
          · exact h1.elim
        · exact h1.elim
    · exact h1.elim
theorem pd_meth {name : Str} {id : String} {apos : Pos} {r : V → List V → Hp → VK → Prop} {g : MM} (slot : Slot "list" name id) (hty : typeOf (.builtin id) = pure (.type "method_descriptor")) (hm : MtR X id r) (hg : MtD X r g) (ho : PDE X E o fo) (ha : PDA X E (e :: es) ga)
    (hbase : attributeBase o name X.env (eval o X.env) = eval o X.env := by rfl)
    (hfew : ((backTo pos (starEach (e :: es) X.env)).all (fun x => !x.1) && (backToKw pos (keywordEach [] X.env)).all (fun x => x.1.isSome)
      && decide ((e :: es).length + ([] : List Keyword).length + (if ([] : List Keyword).isEmpty then 0 else 1) < 30)) = true := by rfl)
    (hline : (apos.endLine == pos.line) = true := by rfl) (hs : starEach (e :: es) X.env = (false, eval e X.env) :: starEach es X.env := by rfl) (hplain : (backTo pos (starEach es X.env)).any (·.1) = false := by rfl) :
    PDE X E (.Call (.Attribute o name apos) (e :: es) [] pos) (eMeth g fo ga) := ⟨PE.imp (pe_bm PySem.F.plainAttrs_list slot hty hm ho.pe ha.pa hbase hfew hline hs hplain) fun σ H Q h => meth_ok hg h⟩
def mAppend : MM := fun xs ws => match ws with
  | [.d x] => if xs.length < sizeLine then some (.none, xs ++ [x]) else none
  | _ => none
theorem md_append : MtD X rAppend mAppend := fun G H as a vs us xs ws x ys Q sg g0 h1 h2 h3 h4 h5 => by
  unfold mAppend at h4
  split at h4
  · split at h4
    · rename_i hz
      cases h4
      cases h3 with
      | d k1 k2 => cases k2; exact ⟨a, vs, _, rfl, rfl, h1, by rw [h2.length]; exact hz, h5 _ _ (h2.append (.cons k1 .nil)) .non⟩
    · cases h4
  · cases h4
theorem pd_append {apos : Pos} (ho : PDE X E o fo) (ha : PDE X E e fe) (hbase : attributeBase o "append" X.env (eval o X.env) = eval o X.env := by rfl)
    (hfew : ((backTo pos (starEach [e] X.env)).all (fun x => !x.1) && (backToKw pos (keywordEach [] X.env)).all (fun x => x.1.isSome)
      && decide (([e] : List Expr).length + ([] : List Keyword).length + (if ([] : List Keyword).isEmpty then 0 else 1) < 30)) = true := by rfl)
    (hline : (apos.endLine == pos.line) = true := by rfl) (hs : starEach [e] X.env = (false, eval e X.env) :: starEach [] X.env := by rfl) (hplain : (backTo pos (starEach [] X.env)).any (·.1) = false := by rfl) : PDE X E (.Call (.Attribute o "append" apos) [e] [] pos) (eMeth mAppend fo (aCons false fe aNil)) :=
  pd_meth PySem.F.slot_list_append PySem.F.type_list_append mt_append md_append ho (pda_cons false ha pda_nil hs) hbase hfew hline hs hplain
theorem list_extendW (l : Addr) (items : Array Value) (n : Nat) (b : Addr) (items2 : Array Value) (n2 : Nat) (dd2 : Option Addr) (sl2 : Array (Option Value)) (hc0 : ¬(!items.isEmpty && Builtin.List.listTooLong (items.size + items2.size)) = true) (hc1 : items.size ≤ sizeLine) (hs2 : items.size + items2.size ≤ sizeLine + 1) :
    Meets (Builtin.«list.extend» ⟨[.ref l, .ref b], []⟩) (fun _ R s => s.heap.get? l = some { cls := .type "list", dict := none, data := .seq items n, slots := #[] } ∧ s.heap.get? b = some { cls := .type "list", dict := dd2, data := .seq items2 n2, slots := sl2 } ∧ R (.ok (.ret Value.none)) { s with heap := s.heap.update l (Obj.mapSeq fun x => x ++ items2), toks := s.toks }) :=
  .of_wp fun prog w A R s h => by
    obtain ⟨hp, g, d, tk, os⟩ := s; obtain ⟨hl, hb, h⟩ := h; have f1 := AutoSeq1.idx_int; have f2 := AutoSeq1.sub_tuple_tuple; have f3 := AutoSeq1.sub_list_list; have f4 := AutoSeq1.sub_tuple_list; have f5 := AutoSeq1.sub_list_tuple
    have hz' : (items ++ items2).size ≤ sizeLine + 1 := by rw [Array.size_append]; exact hs2
    wp_walk using (wpAny_updateSeq hl rfl (hz := hc1) (_hz' := hz')), wpAny_loadPart' hl, wpAny_loadPart' hb; exact ⟨_, rfl, h⟩
def rExtendS (K : KW) : V → List V → Hp → VK → Prop := fun x vs H Q => ∃ l b xs zs, x = .ref l ∧ vs = [.ref b] ∧ H l = some (.lst xs) ∧ SqL K H b zs ∧ xs.length + zs.length ≤ sizeLine ∧ Q .non (upd H l (.lst (xs ++ zs)))
theorem mt_extendS {X : Cx} : MtR X "list.extend" (rExtendS X.kw) := by
  intro pins s σ H x vs v us Q I rx rv h
  obtain ⟨l, b, xs, zs, rfl, rfl, hH, hB, hz, q⟩ := h
  cases rx
  obtain ⟨u, rfl, ru⟩ := rv.one
  cases ru
  obtain ⟨z, its, n, r, hl, e⟩ := I.lstM hH
  obtain ⟨its2, r2, pl2, z2⟩ := I.list hB
  obtain ⟨⟨cls2, dd2, data2, sl2⟩, n2, ho2, hc2, hdd2, hd2⟩ := pl2
  simp only at hc2 hd2
  subst hc2 hd2
  have hl2 := r2.length
  have hsz : its.toArray.size + its2.toArray.size ≤ sizeLine := by rw [List.size_toArray, List.size_toArray]; omega
  have hlong : ¬ (!its.toArray.isEmpty && Builtin.List.listTooLong (its.toArray.size + its2.toArray.size)) = true := by
    rw [notLongL hsz, Bool.and_false]
    exact Bool.false_ne_true
  refine call_meets PySem.F.slot_list_extend ⟨_, e, rfl⟩ PySem.F.entry_list_extend (PySem.F.args_list_extend_2 _ _)
    (list_extendW l its.toArray n b its2.toArray n2 dd2 sl2 hlong (by rw [List.size_toArray]; omega) (by omega)) ⟨e, ho2, ?_⟩
  refine ⟨.non, _, I.lset (its' := its ++ its2) hH e (by simp) (r.append r2) ?_, rfl, q⟩
  rw [List.length_append]
  omega
def mExtend : MM := fun xs ws => match ws with
  | [.d (.list zs)] => if xs.length + zs.length ≤ sizeLine then some (.none, xs ++ zs) else none
  | _ => none
theorem md_extend : MtD X (rExtendS X.kw) mExtend := fun G H as a vs us xs ws x ys Q sg g0 h1 h2 h3 h4 h5 => by
  unfold mExtend at h4
  split at h4
  · split at h4
    · rename_i hz
      cases h4
      cases h3 with
      | d k1 k2 =>
        cases k2
        cases k1 with
        | lst k3 k4 => exact ⟨a, _, vs, _, rfl, rfl, h1, Same.seq sg k3, by rw [h2.length, k4.length]; exact hz, h5 _ _ (h2.append k4) .non⟩
    · cases h4
  · cases h4
theorem pd_extend {apos : Pos} (ho : PDE X E o fo) (ha : PDE X E e fe) (hbase : attributeBase o "extend" X.env (eval o X.env) = eval o X.env := by rfl)
    (hfew : ((backTo pos (starEach [e] X.env)).all (fun x => !x.1) && (backToKw pos (keywordEach [] X.env)).all (fun x => x.1.isSome)
      && decide (([e] : List Expr).length + ([] : List Keyword).length + (if ([] : List Keyword).isEmpty then 0 else 1) < 30)) = true := by rfl)
    (hline : (apos.endLine == pos.line) = true := by rfl) (hs : starEach [e] X.env = (false, eval e X.env) :: starEach [] X.env := by rfl) (hplain : (backTo pos (starEach [] X.env)).any (·.1) = false := by rfl) : PDE X E (.Call (.Attribute o "extend" apos) [e] [] pos) (eMeth mExtend fo (aCons false fe aNil)) :=
  pd_meth PySem.F.slot_list_extend PySem.F.type_list_extend mt_extendS md_extend ho (pda_cons false ha pda_nil hs) hbase hfew hline hs hplain
def mPopAt : MM := fun xs ws => match ws with
  | [.d (.int i)] => if inB i = true then (match seqIndex? i xs.length with
    | some k => (match xs[k]? with
      | some x => some (x, xs.eraseIdx k)
      | none => none)
    | none => none) else none
  | _ => none
theorem md_popAt : MtD X rPopAt mPopAt := fun G H as a vs us xs ws x ys Q sg g0 h1 h2 h3 h4 h5 => by
  unfold mPopAt at h4
  split at h4
  · split at h4
    · rename_i hz
      split at h4
      · rename_i k e1
        split at h4
        · rename_i y e2
          cases h4
          obtain ⟨v, e3, e4⟩ := h2.get e2
          cases h3 with
          | d k1 k2 =>
            cases k2
            cases k1
            exact ⟨a, vs, _, k, v, rfl, rfl, h1, (by have := of_decide_eq_true (inB_ba hz).1; omega), (by have := of_decide_eq_true (inB_ba hz).2; omega), by rw [h2.length]; exact e1, e3, h5 _ _ (h2.eraseIdx k) e4⟩
        · cases h4
      · cases h4
    · cases h4
  · cases h4
theorem pd_popAt {apos : Pos} (ho : PDE X E o fo) (ha : PDE X E e fe) (hbase : attributeBase o "pop" X.env (eval o X.env) = eval o X.env := by rfl)
    (hfew : ((backTo pos (starEach [e] X.env)).all (fun x => !x.1) && (backToKw pos (keywordEach [] X.env)).all (fun x => x.1.isSome)
      && decide (([e] : List Expr).length + ([] : List Keyword).length + (if ([] : List Keyword).isEmpty then 0 else 1) < 30)) = true := by rfl)
    (hline : (apos.endLine == pos.line) = true := by rfl) (hs : starEach [e] X.env = (false, eval e X.env) :: starEach [] X.env := by rfl) (hplain : (backTo pos (starEach [] X.env)).any (·.1) = false := by rfl) : PDE X E (.Call (.Attribute o "pop" apos) [e] [] pos) (eMeth mPopAt fo (aCons false fe aNil)) :=
  pd_meth PySem.F.slot_list_pop PySem.F.type_list_pop mt_popAt md_popAt ho (pda_cons false ha pda_nil hs) hbase hfew hline hs hplain
/-! ### xs[i] = e -/
def sItem (fe fo fi : EM) : SM := fun s => (fe s).bind fun p => match toD p.1 p.2 with
  | some (x, s1) => (fo s1).bind fun q => (match q.1 with
    | .c n => (fi q.2).bind fun t => (match t.1, t.2.mem[n]? with
      | .d (.int i), some (some (.l xs)) => (match ixN xs.length i with
        | some j => .ok (.nx, { t.2 with mem := t.2.mem.set n (some (.l (xs.set j x))) })
        | none => .bad)
      | _, _ => .bad)
    | _ => .bad)
  | none => .bad
theorem pds_item {i : Expr} {fi : EM} {p1 : Pos} (he : PDE X E e fe) (ho : PDE X E o fo) (hi : PDE X E i fi)
    (ha : ∀ v, assign (.Subscript o i p1) X.env v = (do
      let ov ← holding [v] (eval o X.env)
      let iv ← holding [v, ov] (eval i X.env)
      standAt p1
      holding [v, ov, iv] (setItem ov iv v)
      release [v, ov, iv] []) := by intro _; rfl)
    (hs : swapsWithSole [.Subscript o i p1] e pos.line X.env = pure false := by rfl) (hw : swappedStores [.Subscript o i p1] e X.env = pure none := by rfl)
    (h1 : (assignEach [.Subscript o i p1] X.env).map (·.2) = [assign (.Subscript o i p1) X.env] := by rfl) : PDS X E (.Assign [.Subscript o i p1] e pos) (sItem fe fo fi) := ⟨PS.imp (ps_asg he.pe (pg_sub ho.pe hi.pe set_list ha) hs hw h1) fun D σ H h => by
  obtain ⟨F, G, as, s, R, h⟩ := h
  refine eT.seqS R h fun G1 H1 w s1 v R1 X1 r1 n1 h1 => ?_
  dsimp only at h1
  split at h1
  · rename_i x s2 e2
    obtain ⟨G2, R2, X2, r2⟩ := toD_ok R1 r1 e2
    have h1 := sK.ext h1 R2 (X1.trans X2) (List.prefix_refl _)
    refine eT.seqS R2 h1 fun G3 H3 w3 s3 v3 R3 X3 r3 n3 h3 => ?_
    dsimp only at h3
    cases w3 with
    | d _ => exact h3.elim
    | f _ => exact h3.elim
    | c n =>
      dsimp only at h3
      obtain ⟨a, ha, rfl⟩ := r3
      have h3 := sK.ext h3 R3 X3 (List.prefix_refl _)
      refine eT.seqS R3 h3 fun G4 H4 w4 s4 v4 R4 X4 r4 n4 h4 => ?_
      dsimp only at h4
      split at h4
      · rename_i i xs e3
        split at h4
        · rename_i j ej
          obtain ⟨g4, vs, k1, k2⟩ := R4.cellAt e3 ha
          cases r4
          refine ⟨a, vs, i, j, rfl, rfl, k1, by rw [k2.length]; exact ej, ?_⟩
          have rx : Rp X.kw G4 v x := Rp.mono (X3.same.trans X4.same) r2
          exact h4 σ G4 _ as (R4.mut e3 ha ⟨_, upd_same, k2.set rx j⟩) (X4.trans (Ext.mut e3 ha)) (List.prefix_refl _)
        · exact h4.elim
      · exact h4.elim
  · exact h1.elim⟩
/-! ### x += e, x -= e -/
def sAug (f : Int → Int → Int) (i : Nat) (fe : EM) : SM := fun s => match s.env[i]? with
  | some (some (.d (.int x))) => (fe s).bind fun p => (match p.1 with
    | .d (.int y) => if i < p.2.env.length then .ok (.nx, p.2.put i (.d (.int (f x y)))) else .bad
    | _ => .bad)
  | _ => .bad
theorem aug_ok {f : Int → Int → Int} {i : Nat} {D : Ends} {σ : L2.St} {H : Hp} (h : sT X.kw X.mg E (sAug f i fe) D σ H) : tAug i (eT X.kw X.mg E fe) (ipI f) D σ H := by
  obtain ⟨F, G, as, s, R, h⟩ := h
  unfold sAug at h
  split at h
  · rename_i x e
    obtain ⟨v, k1, k2, _⟩ := R.env i _ e
    cases k2
    refine ⟨_, k1, eT.seqS R h fun G1 H1 w s1 v R1 X1 r1 n1 h1 => ?_⟩
    dsimp only at h1
    split at h1
    · rename_i y
      split at h1
      · rename_i hl
        cases r1
        exact ⟨x, y, rfl, rfl, h1 _ G1 H1 as (R1.put (w := .d (.int (f x y))) (.int _) (fun _ z => nomatch z) hl) ⟨X1.same, X1.keep, X1.new⟩ (List.prefix_refl _)⟩
      · exact h1.elim
    · exact h1.elim
  · exact h.elim
theorem pds_augAdd (i : Nat) {x : Str} {pos' : Pos} (hN : X.N.Nodup) (he : PDE X E e fe) (hi : X.N[i]? = some x := by rfl) (hx : Loc X.env.scope x := by first | exact Or.inl rfl | exact Or.inr rfl) (hf : X.fn x = true ∨ X.env.scope.names.lookup x = some .local := by first | exact .inl rfl | exact .inr rfl | assumption) : PDS X E (.AugAssign (.Name x pos') .Add e pos) (sAug (fun i j => i + j) i fe) :=
  ⟨PS.imp (ps_aug hN hi hx he.pe ip_add hf) fun D σ H h => aug_ok h⟩
theorem pds_augSub (i : Nat) {x : Str} {pos' : Pos} (hN : X.N.Nodup) (he : PDE X E e fe) (hi : X.N[i]? = some x := by rfl) (hx : Loc X.env.scope x := by first | exact Or.inl rfl | exact Or.inr rfl) (hf : X.fn x = true ∨ X.env.scope.names.lookup x = some .local := by first | exact .inl rfl | exact .inr rfl | assumption) : PDS X E (.AugAssign (.Name x pos') .Sub e pos) (sAug (fun i j => i - j) i fe) :=
  ⟨PS.imp (ps_aug hN hi hx he.pe ip_sub hf) fun D σ H h => aug_ok h⟩
/-! ### a, b = e1, e2 -/
def sPar (c1 c2 : Bool) (i j : Nat) (f g : EM) : SM := fun s => (f s).bind fun p => (g p.2).bind fun q => match store c1 i p.1 q.2 with
  | some s1 => (match store c2 j q.1 s1 with
    | some s2 => .ok (.nx, s2)
    | none => .bad)
  | none => .bad
theorem RpW.grow {K : KW} {F : Addr → Prop} {G G' H : Hp} {as as' : List Addr} {σ' : L2.St} {s' : S} {u : V} {w : W} (h : RpW K F G H as u w) (R : Rep K (pn F u w) G' H as' σ' s') (sg : Same G G') (p : as <+: as') : RpW K F G' H as' u w := by
  cases w with
  | d x => exact Rp.mono sg h
  | c n =>
    obtain ⟨a, h1, h2⟩ := h
    obtain ⟨t, rfl⟩ := p
    exact ⟨a, by rw [List.getElem?_append_left (List.getElem?_eq_some_iff.mp h1).1]; exact h1, h2⟩
  | f xs =>
    obtain ⟨a, vs, rfl, h1, h2, h3, h4, h5⟩ := h
    obtain ⟨k1, k2, _⟩ := R.fo a (.inr ⟨⟨xs, rfl⟩, rfl⟩)
    exact ⟨a, vs, rfl, h1, k1, k2, h4, h5.mono sg⟩
theorem RpW.apart {K : KW} {F : Addr → Prop} {G H : Hp} {as : List Addr} {v u : V} {w w2 : W} (r : RpW K F G H as v w) (r2 : RpW K (pn F v w) G H as u w2) : RpW K (pn F u w2) G H as v w := by
  cases w with
  | d x => exact r
  | c n => exact r
  | f xs =>
    obtain ⟨a, vs, rfl, h1, h2, h3, h4, h5⟩ := r
    refine ⟨a, vs, rfl, h1, h2, h3, fun z => ?_, h5⟩
    rcases z with z | ⟨⟨ys, rfl⟩, e⟩
    · exact h4 z
    · obtain ⟨b, us, rfl, k1, k2, k3, k4, _⟩ := r2
      cases e
      exact k4 (.inr ⟨⟨xs, rfl⟩, rfl⟩)
theorem pds_par (c1 c2 : Bool) (i j : Nat) {x y : Str} {px py pt : Pos} {kt k2 : Nat} {pt2 : Pos} (hc : X.calm = true) (hN : X.N.Nodup) (ha : PDE X E a fa) (hb : PDE X E b fb) (hi : X.N[i]? = some x := by rfl) (hj : X.N[j]? = some y := by rfl) (hij : i ≠ j := by decide)
    (hx : X.env.scope.names.lookup x = some .local := by rfl) (hy : X.env.scope.names.lookup y = some .local := by rfl)
    (hw : swappedStores [.Tuple [.Name x px, .Name y py] kt pt] (.Tuple [a, b] k2 pt2) X.env = pure (some [x, y]) := by rfl)
    (hs : swapsWithSole [.Tuple [.Name x px, .Name y py] kt pt] (.Tuple [a, b] k2 pt2) pos.line X.env = pure false := by rfl)
    (he : starEach [a, b] X.env = (false, eval a X.env) :: starEach [b] X.env := by rfl) (he2 : starEach [b] X.env = (false, eval b X.env) :: starEach [] X.env := by rfl) :
    PDS X E (.Assign [.Tuple [.Name x px, .Name y py] kt pt] (.Tuple [a, b] k2 pt2) pos) (sPar c1 c2 i j fa fb) := ⟨PS.imp (ps_par hc hN hi hj hij hx hy (pa_cons ha.pe (pa_cons hb.pe pa_nil he2) he) hw hs) fun D σ H h => by
  obtain ⟨F, G, as, s, R, h⟩ := h
  refine eT.seqS R h fun G1 H1 w s1 v R1 X1 r1 n1 h1 => ?_
  refine ⟨pn F v w, G1, as, s1, R1.pend r1, ?_⟩
  dsimp only at h1
  cases q : fb s1 with
  | exc c => rw [q] at h1; exact fun C H' hc k => h1 C H' hc (keepX X1 k)
  | bad => rw [q] at h1; exact h1
  | ok p =>
    obtain ⟨w2, s2⟩ := p
    rw [q, Res.bind_ok] at h1
    dsimp only at h1
    intro u G2 H2 R2 X2 r2 n2
    refine ⟨v, u, rfl, ?_⟩
    have X12 := X1.trans X2
    have r1' : RpW X.kw F G2 H2 as v w := r1.mono R2 X2
    have ra := r1'.apart r2
    split at h1
    · rename_i s3 e3
      split at h1
      · rename_i s4 e4
        have R2' : Rep X.kw (pn F u w2) G2 H2 as σ s2 := R2.unpend.pend (r2.weak fun _ z => .inl z)
        obtain ⟨G3, as3, R3, sg3, p3, l3⟩ := store_ok R2' ra e3
        have r2' : RpW X.kw F G3 H2 as3 u w2 := (r2.weak fun _ z => .inl z).grow R3 sg3 p3
        obtain ⟨G4, as4, R4, sg4, p4, l4⟩ := store_ok R3.unpend r2' e4
        refine h1 _ G4 H2 as4 R4 ⟨X12.same.trans (sg3.trans sg4), X12.keep, fun b z => ?_⟩ (p3.trans p4)
        rcases l4 b z with z | ⟨⟨ys, z1⟩, z2⟩
        · rcases l3 b z with z | ⟨⟨ys, z1⟩, z2⟩
          · exact X12.new b z
          · exact .inr (n1 ys b z1 z2)
        · exact .inr (newX R R1 X1 (n2 ys b z1 z2))
      · exact h1.elim
    · exact h1.elim⟩
end
section
variable {P : Program} {w : World} {K : PySem.W.Frag} {mg : Str → Option Value} {base : Heap} {N : List Str} {x : Str} {sc : Scope} {f : Addr} {cdv : Value} {A : Around} {outer : List Env} {s : Shared} {H : Hp} {E : XK}
theorem tk_cx : Takes (cxOf (L2.CX P w) P w K mg base N x sc f cdv A outer s H E) (fun cls d _ H => E cls d H) := takes_of rfl rfl rfl rfl
theorem hx_cx : Passes (L2.CX P w) (cxOf (L2.CX P w) P w K mg base N x sc f cdv A outer s H E) E := passes_call (tk_cx (K := K) (mg := mg) (base := base) (N := N) (x := x) (sc := sc) (f := f) (cdv := cdv) (A := A) (outer := outer) (s := s) (H := H)) fun _ _ _ _ h => h
end
end
end PD

set_option Elab.async false
set_option linter.all false
set_option maxRecDepth 100000
set_option maxHeartbeats 4000000
namespace PD
noncomputable section
open PySem PySem.Spec PyProof.Rows L2
section
variable {X : Cx} {E : XK} {a b c e : Expr} {fa fb fc fe : EM} {pos : Pos} {k : Nat}
/-! ### comparisons as tests -/
theorem tOf_val {K : KW} {mg : Str → Option Value} {f : EM} {σ : L2.St} {H : Hp} {Q : Bool → Hp → Prop} (h : tT K mg E (tOf f) σ H Q) : eT K mg E f σ H (fun x H' => ∃ k, x = .bl k ∧ Q k H') := by
  obtain ⟨F, G, as, s, R, h⟩ := h
  refine ⟨F, G, as, s, R, ?_⟩
  unfold tOf at h
  cases e : f s with
  | ok p =>
    obtain ⟨w, s1⟩ := p
    rw [e, Res.bind_ok] at h
    dsimp only at h
    clear e
    intro v G1 H1 R1 X1 r n
    split at h
    · cases r
      exact ⟨_, rfl, h G1 H1 R1 X1⟩
    · exact h.elim
  | exc c => rw [e] at h; exact h
  | bad => rw [e] at h; exact h
theorem pdt_cmp {op : CmpOp} {r : R2} {g : W → W → EM} (ho : OpR X (compareOp op) r) (hg : OpD X E r g) (ha : PDE X E a fa) (hb : PDE X E b fb) (hm : behindInMarks op b = false) : PDT X E (.Compare a [op] [b] pos) (tOf (eBin g fa fb)) :=
  ⟨PT.imp (pt_cmpR ho ha.pe hb.pe hm) fun σ H Q h => bin_ok hg σ H _ (tOf_val h)⟩
theorem pdt_eq (hr : Room k X.A) (ha : PDE X E a fa) (hb : PDE X E b fb) : PDT X E (.Compare a [.Eq] [b] pos) (tOf (eEq fa fb)) := pdt_cmp (op_eq.or (op_eqD hr.units)) od_eq ha hb (nomark _)
theorem pdt_ne (hr : Room k X.A) (ha : PDE X E a fa) (hb : PDE X E b fb) : PDT X E (.Compare a [.NotEq] [b] pos) (tOf (eNe fa fb)) := pdt_cmp (op_ne.or (op_neD hr.units)) od_ne ha hb (nomark _)
theorem pdt_isN (ha : PDE X E a fa) (hb : PDE X E b fb) : PDT X E (.Compare a [.Is] [b] pos) (tOf (eIsN fa fb)) := pdt_cmp op_isN od_isN ha hb (nomark _)
theorem pdt_notN (ha : PDE X E a fa) (hb : PDE X E b fb) : PDT X E (.Compare a [.IsNot] [b] pos) (tOf (eNotN fa fb)) := pdt_cmp op_notN od_notN ha hb (nomark _)
theorem pdt_ltA (ha : PDE X E a fa) (hb : PDE X E b fb) : PDT X E (.Compare a [.Lt] [b] pos) (tOf (eBin gLt fa fb)) := pdt_cmp (op_lt.or op_lt_str) od_ord ha hb (nomark _)
theorem pdt_leA (ha : PDE X E a fa) (hb : PDE X E b fb) : PDT X E (.Compare a [.LtE] [b] pos) (tOf (eBin gLe fa fb)) := pdt_cmp (op_le.or op_le_str) od_ord ha hb (nomark _)
theorem pdt_gtA (ha : PDE X E a fa) (hb : PDE X E b fb) : PDT X E (.Compare a [.Gt] [b] pos) (tOf (eBin gGt fa fb)) := pdt_cmp (op_gt.or op_gt_str) od_ord ha hb (nomark _)
theorem pdt_geA (ha : PDE X E a fa) (hb : PDE X E b fb) : PDT X E (.Compare a [.GtE] [b] pos) (tOf (eBin gGe fa fb)) := pdt_cmp (op_ge.or op_ge_str) od_ord ha hb (nomark _)
theorem pdt_in (ha : PDE X E a fa) (hb : PDE X E b fb) (hm : behindInMarks .In b = false := by rfl) : PDT X E (.Compare a [.In] [b] pos) (tOf (eBin (gIn false) fa fb)) := pdt_cmp (op_in_seq.or (op_sign false)) od_in ha hb hm
theorem pdt_notIn (ha : PDE X E a fa) (hb : PDE X E b fb) (hm : behindInMarks .NotIn b = false := by rfl) : PDT X E (.Compare a [.NotIn] [b] pos) (tOf (eBin (gIn true) fa fb)) := pdt_cmp (op_notIn_seq.or (op_sign true)) od_in ha hb hm
theorem chain_ok {r r' : R2} {fi fi' : Int → Int → Bool} {fs fs' : Str → Str → Bool} (hg : OpD X E r (gOrd fi fs)) (hg' : OpD X E r' (gOrd fi' fs')) (σ : L2.St) (H : Hp) (Q : VK) (h : eT X.kw X.mg E (eChain (gOrd fi fs) (gOrd fi' fs') fa fb fc) σ H Q) : tChain r r' (eT X.kw X.mg E fa) (eT X.kw X.mg E fb) (eT X.kw X.mg E fc) σ H Q := by
  obtain ⟨F, G, as, s, R, h⟩ := h
  refine eT.seq R h fun G1 H1 w s1 v R1 X1 r1 _ h1 => ?_
  refine eT.seqP R1 r1 h1 fun G2 H2 w2 s2 v2 R2 X2 r1 r2 _ h2 => ?_
  dsimp only at h2
  refine hg F G2 H2 as s2 σ v v2 w w2 _ R2 r1 r2 ?_
  cases q : gOrd fi fs w w2 s2 with
  | exc c => rw [q] at h2; exact h2
  | bad => rw [q] at h2; exact h2
  | ok t =>
    obtain ⟨w3, s3⟩ := t
    rw [q, Res.bind_ok] at h2
    dsimp only at h2
    intro v3 G3 H3 R3 X3 r3 n3
    have nf : ∀ xs, w2 ≠ .f xs := fun xs z => by
      subst z
      rw [gOrd_f] at q
      cases q
    have h2 := eK.ext h2 R2 R3 X3
    split at h2
    · cases r3
      refine ⟨true, rfl, ?_⟩
      rw [if_pos rfl]
      have r2' : RpW X.kw F G3 H3 as v2 w2 := by
        cases w2 with
        | d x => exact Rp.mono X3.same r2
        | c n => exact r2
        | f xs => exact absurd rfl (nf xs)
      exact eT.seqP R3 r2' h2 fun G4 H4 w4 s4 v4 R4 X4 r2 r4 _ h4 => hg' F G4 H4 as s4 σ v2 v4 w2 w4 Q R4 r2 r4 h4
    · cases r3
      refine ⟨false, rfl, ?_⟩
      rw [if_neg Bool.false_ne_true]
      exact eK.val R3 h2 (.bl _)
    · exact h2.elim
theorem pdt_leLe (ha : PDE X E a fa) (hb : PDE X E b fb) (hc : PDE X E c fc) (hm : lastMarks [.LtE, .LtE] [b, c] = false := by with_unfolding_all rfl) : PDT X E (.Compare a [.LtE, .LtE] [b, c] pos) (tOf (eChain gLe gLe fa fb fc)) :=
  ⟨PT.imp (pt_chain (op_le.or op_le_str) (op_le.or op_le_str) ha.pe hb.pe hc.pe hm) fun σ H Q h => chain_ok od_ord od_ord σ H _ (tOf_val h)⟩
/-! ### a tuple of ints of the module -/
def GTup (K : PySem.W.Frag) (mg : Str → Option Value) (x : Str) (ds : List Int) : Prop := ∃ a, mg x = some (.ref a) ∧ ∀ H : Hp, SqT K H a (ds.map V.int)
theorem pd_gtup {x : Str} {ds : List Int} (hm : GTup X.K X.mg x ds) (hg : Gl X x := by rfl) (hd : (x == ("__debug__" : Str)) = false := by decide) : PDE X E (.Name x pos) (eC (.tuple (ds.map PyData.int))) := by
  obtain ⟨a, hm, h⟩ := hm
  exact pd_const (pe_glob hg hm (show RelV (V.ref a) _ from rfl) hd) fun G => .tup (h G) (RpA.ints ds)
end
end
end PD

set_option Elab.async false
set_option linter.all false
set_option maxRecDepth 100000
set_option maxHeartbeats 4000000
namespace PD
noncomputable section
open PySem PySem.Spec PyProof.Rows L2

/-! ### zip of three tuples -/
def Itz3 (K : PySem.W.Frag) (a b c : Addr) : It :=
  ⟨fun i H => ∃ (xs ys zs : List V) (x y z : V), SqT K H a xs ∧ SqT K H b ys ∧ SqT K H c zs ∧ xs[i]? = some x ∧ ys[i]? = some y ∧ zs[i]? = some z,
    fun i H v H' => ∃ T x y z, v = .ref T ∧ H T = none ∧ H' = upd H T (.tup [x, y, z]) ∧ (∀ xs, SqT K H a xs → xs[i]? = some x) ∧ (∀ ys, SqT K H b ys → ys[i]? = some y) ∧ ∀ zs, SqT K H c zs → zs[i]? = some z,
    fun i H => ∃ xs ys zs : List V, SqT K H a xs ∧ SqT K H b ys ∧ SqT K H c zs ∧ (xs.length ≤ i ∨ ys.length ≤ i ∨ zs.length ≤ i)⟩
theorem drawsAt {prog : Program} {w : World} {A : Around} (hh : A.handled = none) {it t : Addr} (hne : t ≠ it) (items : Array Value) {i : Nat} {h : Heap} (h1 : h.IsTupleIter it t i) (h2 : h.IsTuple t items) :
    ∃ (n : Nat) (Pr : Nat → Value → Prop) (St : Nat → Heap → Prop), Draws prog w A it [it, t] n Pr St ∧ St i h ∧ i ≤ n ∧ (items.size ≤ i → i = n) := by
  by_cases hl : items.size ≤ i
  · refine ⟨i, fun _ _ => True, fun j h => j = i ∧ h.IsTupleIter it t i ∧ h.IsTuple t items, ?_, ⟨rfl, h1, h2⟩, Nat.le_refl _, fun _ => rfl⟩
    exact { live := fun _ _ st => let ⟨o, ho, _⟩ := st.2.1; ⟨o, ho⟩
            frame := fun _ _ _ st hk => ⟨st.1, st.2.1.at fun o e => hk it (by simp) o e, st.2.2.at fun o e => hk t (by simp) o e⟩
            item := fun j s Q E hj st _ => absurd hj (by rw [st.1]; exact Nat.lt_irrefl _)
            done := fun s Q E st hE => wpAny_nextOf_tuple_end hh st.2.1 st.2.2 (by simp [hl]) hE }
  · exact ⟨_, _, _, Draws.tuple hh it t hne items, ⟨h1, h2⟩, by omega, fun q => absurd q hl⟩
theorem turn_zip3 {P : Program} {w : World} {K : PySem.W.Frag} {elts : List Expr} {kk : Nat} {tpos : Pos} {a b c z TI TO i1 i2 i3 : Addr} (D : ZipSep3 z TI TO i1 i2 i3 [i1, a] [i2, b] [i3, c]) (n1 : a ≠ i1) (n2 : b ≠ i2) (n3 : c ≠ i3) :
    Turn P w K (.Tuple elts kk tpos) (Itz3 K a b c) [z, TI, TO, i1, i2, i3] z (fun i h => IsZip h z TI TO .none ∧ IsTupOf3 h TI (.ref i1) (.ref i2) (.ref i3) ∧ (∃ x y u, IsTupOf3 h TO x y u) ∧ h.IsTupleIter i1 a i ∧ h.IsTupleIter i2 b i ∧ h.IsTupleIter i3 c i) where
  mem := by simp
  obj := fun i h st c' hc => by
    obtain ⟨hz, hTI, ⟨x, y, u, hTO⟩, ⟨o1, e1, _, d1⟩, ⟨o2, e2, _, d2⟩, ⟨o3, e3, _, d3⟩⟩ := st
    have e' : c' = z ∨ c' = TI ∨ c' = TO ∨ c' = i1 ∨ c' = i2 ∨ c' = i3 := by simpa using hc
    rcases e' with q | q | q | q | q | q
    · rw [q]; exact ⟨_, hz, fun v q => nomatch q⟩
    · rw [q]; exact ⟨_, hTI, fun v q => nomatch q⟩
    · rw [q]; exact ⟨_, hTO, fun v q => nomatch q⟩
    · rw [q]; exact ⟨o1, e1, fun v q => by rw [d1] at q; cases q⟩
    · rw [q]; exact ⟨o2, e2, fun v q => by rw [d2] at q; cases q⟩
    · rw [q]; exact ⟨o3, e3, fun v q => by rw [d3] at q; cases q⟩
  keep := fun i h h' st k => by
    obtain ⟨hz, hTI, ⟨x, y, u, hTO⟩, h1, h2, h3⟩ := st
    exact ⟨k z (by simp) _ hz, k TI (by simp) _ hTI, ⟨x, y, u, k TO (by simp) _ hTO⟩, h1.at fun o q => k i1 (by simp) o q, h2.at fun o q => k i2 (by simp) o q, h3.at fun o q => k i3 (by simp) o q⟩
  item := by
    intro X hP hw hK hc i pins s σ H E I hf st hg
    subst hP hw hK
    obtain ⟨hz, hTI, ⟨x0, y0, u0, hTO⟩, h1, h2, h3⟩ := st
    obtain ⟨xs, ys, zs, x, y, v, hqx, hqy, hqz, hx, hy, hv⟩ := hg
    obtain ⟨its, rv, p, _⟩ := I.tuple hqx
    obtain ⟨its2, rv2, p2, _⟩ := I.tuple hqy
    obtain ⟨its3, rv3, p3, _⟩ := I.tuple hqz
    obtain ⟨u, hu, ru⟩ := rv.get hx
    obtain ⟨u2, hu2, ru2⟩ := rv2.get hy
    obtain ⟨u3, hu3, ru3⟩ := rv3.get hv
    have hzl : z < s.heap.objs.size := Heap.lt_size hz
    have hh : X.A.in1.handled = none := I.ok.hd hc
    refine wpAny_pyNext_zipD3_item D (Draws.tuple hh i1 a n1 its.toArray) (Draws.tuple hh i2 b n2 its2.toArray) (Draws.tuple hh i3 c n3 its3.toArray) hz hTI hTO ⟨h1, p⟩ ⟨h2, p2⟩ ⟨h3, p3⟩
      (by simpa using (List.getElem?_eq_some_iff.mp hu).1) (by simpa using (List.getElem?_eq_some_iff.mp hu2).1) (by simpa using (List.getElem?_eq_some_iff.mp hu3).1) fun x1 x2 x3 h' tk q1 q2 q3 z' TO' s1 s2 s3 hT hsz hk => ?_
    rw [List.getElem?_toArray, hu] at q1
    rw [List.getElem?_toArray, hu2] at q2
    rw [List.getElem?_toArray, hu3] at q3
    cases q1; cases q2; cases q3
    refine ⟨_, rfl, wpAny_letOwnedTupleGo_zip (s := { s with heap := h', toks := tk }) z' fun h'' z'' sb => ?_⟩
    have hT2 : h''.get? s.heap.objs.size = some { cls := .type "tuple", data := .seq #[u, u2, u3] } := (sb.2 _ (Nat.ne_of_gt hzl)).trans hT
    have new : ObjOk X.prog X.w (upd H s.heap.objs.size (.tup [x, y, v])) h'' s.heap.objs.size (.tup [x, y, v]) :=
      ⟨by show 3 ≤ sizeLine; decide, [u, u2, u3], .cons ru (.cons ru2 (.cons ru3 .nil)), ⟨_, hT2, rfl, _, rfl⟩⟩
    have I1 : Inv X pins σ (upd H s.heap.objs.size (.tup [x, y, v])) { s with heap := h'', toks := tk } :=
      I.turnedNew (t' := tk) (ch := [z, TI, TO, i1, i2, i3]) (fun c o hb q => (sb.2 c (fun q' => hb (by simp [q']))).trans (hk c o (fun q' => hb (by simp [q'])) (fun q' => hb (by simp [q'])) (fun q' => hb (by simp [q'])) (fun q' => hb (by simp [q'])) (fun q' => hb (by simp [q'])) q)) hf (Nat.le_refl _) new
    refine ⟨.ref s.heap.objs.size, _, I1, rfl, ⟨_, x, y, v, rfl, I.hok.fresh (Nat.le_refl _), rfl, fun l hl => by rw [I.tuple_inj hl hqx]; exact hx, fun l hl => by rw [I.tuple_inj hl hqy]; exact hy, fun l hl => by rw [I.tuple_inj hl hqz]; exact hv⟩, ⟨z'', ?_, ⟨u, u2, u3, ?_⟩, ?_, ?_, ?_⟩, fun c hcm => ?_⟩
    · exact (sb.2 _ D.TIz).trans (hk _ _ D.TIz D.TITO D.TIi1 D.TIi2 D.TIi3 hTI)
    · exact (sb.2 _ D.TOz).trans TO'
    · exact s1.1.at fun o q => (sb.2 _ D.zi1.symm).trans q
    · exact s2.1.at fun o q => (sb.2 _ D.zi2.symm).trans q
    · exact s3.1.at fun o q => (sb.2 _ D.zi3.symm).trans q
    · have hlt : c < s.heap.objs.size := by
        have e' : c = z ∨ c = TI ∨ c = TO ∨ c = i1 ∨ c = i2 ∨ c = i3 := by simpa using hcm
        rcases e' with q | q | q | q | q | q
        · rw [q]; exact hzl
        · rw [q]; exact Heap.lt_size hTI
        · rw [q]; exact Heap.lt_size hTO
        · rw [q]; obtain ⟨_, e1, _⟩ := h1; exact Heap.lt_size e1
        · rw [q]; obtain ⟨_, e2, _⟩ := h2; exact Heap.lt_size e2
        · rw [q]; obtain ⟨_, e3, _⟩ := h3; exact Heap.lt_size e3
      rw [upd_ne (Nat.ne_of_lt hlt)]
      exact (hf c hcm).1
  done := by
    intro X hP hw hK hc i pins s σ H E I hf st hg
    subst hP hw hK
    obtain ⟨hz, hTI, ⟨x0, y0, u0, hTO⟩, h1, h2, h3⟩ := st
    obtain ⟨xs, ys, zs, hqx, hqy, hqz, hend⟩ := hg
    obtain ⟨its, rv, p, _⟩ := I.tuple hqx
    obtain ⟨its2, rv2, p2, _⟩ := I.tuple hqy
    obtain ⟨its3, rv3, p3, _⟩ := I.tuple hqz
    have hh : X.A.in1.handled = none := I.ok.hd hc
    have l1 := rv.length
    have l2 := rv2.length
    have l3 := rv3.length
    obtain ⟨m1, P1, S1, D1, t1, e1, f1⟩ := drawsAt (prog := X.prog) (w := X.w) hh n1 its.toArray h1 p
    obtain ⟨m2, P2, S2, D2, t2, e2, f2⟩ := drawsAt (prog := X.prog) (w := X.w) hh n2 its2.toArray h2 p2
    obtain ⟨m3, P3, S3, D3, t3, e3, f3⟩ := drawsAt (prog := X.prog) (w := X.w) hh n3 its3.toArray h3 p3
    refine wpAny_pyNext_zipD3_end D D1 D2 D3 hz hTI hTO t1 t2 t3 e1 e2 e3 ?_ fun h' tk hk => ⟨rfl, I.turnedL (t' := tk) (ch := [z, TI, TO, i1, i2, i3]) (fun c o hb q =>
      hk c o (fun q' => hb (by simp [q'])) (fun q' => hb (by simp [q'])) (fun q' => hb (by simp [q'])) (fun q' => hb (by simp [q'])) (fun q' => hb (by simp [q'])) q) hf⟩
    rcases hend with q | q | q
    · exact .inl (f1 (by simp; omega))
    · exact .inr (.inl (f2 (by simp; omega)))
    · exact .inr (.inr (f3 (by simp; omega)))
  self := fun A i s Q E st h => wpAny_pyIter_zip st.1 h
def iZip3_ (K : PySem.W.Frag) (ta : TA) : TI := fun σ H R => ta σ H fun vs H1 => ∃ a b c xs ys zs, vs = [.ref a, .ref b, .ref c] ∧ SqT K H1 a xs ∧ SqT K H1 b ys ∧ SqT K H1 c zs ∧ R (Itz3 K a b c) H1
theorem pi_zip3 {X : Cx} {e e2 e3 : Expr} {ta : TA} {p pos tpos : Pos} {elts : List Expr} {kk : Nat} (hg : Gl X "zip") (hm : X.mg "zip" = none) (ha : PA X [e, e2, e3] ta)
    (hs : starEach [e, e2, e3] X.env = (false, eval e X.env) :: starEach [e2, e3] X.env := by rfl) (hpl : (backTo pos (starEach [e2, e3] X.env)).any (·.1) = false := by rfl) :
    PI X (.Tuple elts kk tpos) (.Call (.Name "zip" p) [e, e2, e3] [] pos) (iZip3_ X.K ta) := by
  refine ⟨fun pins s σ H R I h => ?_⟩
  refine Call_ (ld_blt I hg hm PyProof.Rows.boot_zip (PyProof.Rows.callWith_type1 (thn (ha.run pos pins s σ H _ I h) fun us s1 ⟨vs, H1, I1, r1, q1⟩ => ?_) hs hpl))
  obtain ⟨a, b, c, xs, ys, zs, ex, hqx, hqy, hqz, q⟩ := q1
  subst ex
  cases r1 with
  | cons r rr =>
    cases rr with
    | cons r' rr =>
      cases rr with
      | cons r'' rr =>
        cases rr
        cases r
        cases r'
        cases r''
        obtain ⟨its, rv, p1, _⟩ := I1.tuple hqx
        obtain ⟨its2, rv2, p2, _⟩ := I1.tuple hqy
        obtain ⟨its3, rv3, p3, _⟩ := I1.tuple hqz
        have la : a < s1.heap.objs.size := by obtain ⟨o, ho, _⟩ := id p1; exact Heap.lt_size ho
        have lb : b < s1.heap.objs.size := by obtain ⟨o, ho, _⟩ := id p2; exact Heap.lt_size ho
        have lc : c < s1.heap.objs.size := by obtain ⟨o, ho, _⟩ := id p3; exact Heap.lt_size ho
        refine zip_begins3 (begins_tuple a its.toArray) (begins_tuple b its2.toArray) (begins_tuple c its3.toArray) p1 p2 p3 fun h' hz hTI hTO h1 h2 h3 hsz hk => wpAny_pyIter_zip hz ?_
        have I2 : Inv X pins σ H1 { s1 with heap := h' } := I1.kept (t' := s1.toks) hk
        have fresh : ∀ d, d ∈ [s1.heap.objs.size + 5, s1.heap.objs.size + 3, s1.heap.objs.size + 4, s1.heap.objs.size, s1.heap.objs.size + 1, s1.heap.objs.size + 2] → FpOk X pins H1 d := fun d hcm => by
          have hle : s1.heap.objs.size ≤ d := by
            have e' : d = s1.heap.objs.size + 5 ∨ d = s1.heap.objs.size + 3 ∨ d = s1.heap.objs.size + 4 ∨ d = s1.heap.objs.size ∨ d = s1.heap.objs.size + 1 ∨ d = s1.heap.objs.size + 2 := by simpa using hcm
            rcases e' with z | z | z | z | z | z
            · rw [z]; exact Nat.le_add_right _ _
            · rw [z]; exact Nat.le_add_right _ _
            · rw [z]; exact Nat.le_add_right _ _
            · rw [z]; exact Nat.le_refl _
            · rw [z]; exact Nat.le_add_right _ _
            · rw [z]; exact Nat.le_add_right _ _
          exact I1.fpOk hle (I1.hok.fresh hle)
        refine ⟨s1.heap.objs.size + 5, [s1.heap.objs.size + 5, s1.heap.objs.size + 3, s1.heap.objs.size + 4, s1.heap.objs.size, s1.heap.objs.size + 1, s1.heap.objs.size + 2], _, _, H1, rfl, I2,
          turn_zip3 (zip_sep3 (fp1 := [a]) (fp2 := [b]) (fp3 := [c]) (fun x hx => by rw [List.mem_singleton.mp hx]; exact la) (fun x hx => by rw [List.mem_singleton.mp hx]; exact lb) (fun x hx => by rw [List.mem_singleton.mp hx]; exact lc)) (Nat.ne_of_lt la) (Nat.ne_of_lt (Nat.lt_succ_of_lt lb)) (Nat.ne_of_lt (Nat.lt_succ_of_lt (Nat.lt_succ_of_lt lc))), ⟨hz, hTI, ⟨_, _, _, hTO⟩, ⟨_, h1, rfl, rfl⟩, ⟨_, h2, rfl, rfl⟩, ⟨_, h3, rfl, rfl⟩⟩, fresh, q⟩
def zip3 : List D → List D → List D → List D
  | x :: xs, y :: ys, z :: zs => .tuple [x, y, z] :: zip3 xs ys zs
  | _, _, _ => []
theorem zip3_get : ∀ {xs ys zs : List D} {i : Nat} {d : D}, (zip3 xs ys zs)[i]? = some d → ∃ x y z, xs[i]? = some x ∧ ys[i]? = some y ∧ zs[i]? = some z ∧ d = .tuple [x, y, z]
  | [], _, _, _, _, h => by simp [zip3] at h
  | _ :: _, [], _, _, _, h => by simp [zip3] at h
  | _ :: _, _ :: _, [], _, _, h => by simp [zip3] at h
  | x :: xs, y :: ys, z :: zs, 0, d, h => by simp [zip3] at h; exact ⟨x, y, z, rfl, rfl, rfl, h.symm⟩
  | x :: xs, y :: ys, z :: zs, i + 1, d, h => by
    obtain ⟨a, b, c, h1, h2, h3, h4⟩ := zip3_get (xs := xs) (ys := ys) (zs := zs) (i := i) (d := d) (by simpa [zip3] using h)
    exact ⟨a, b, c, by simpa using h1, by simpa using h2, by simpa using h3, h4⟩
theorem zip3_len : ∀ {xs ys zs : List D}, (zip3 xs ys zs).length = min xs.length (min ys.length zs.length)
  | [], _, _ => by simp [zip3]
  | _ :: _, [], _ => by simp [zip3]
  | _ :: _, _ :: _, [] => by simp [zip3]
  | x :: xs, y :: ys, z :: zs => by simp only [zip3, List.length_cons, zip3_len (xs := xs) (ys := ys) (zs := zs)]; omega
theorem walk_zip3 {K : KW} {G : Hp} {a b c : Addr} {vs us ts : List V} {xs ys zs : List D} (h : SqT K G a vs) (r : RpA K G vs xs) (h' : SqT K G b us) (r' : RpA K G us ys) (h'' : SqT K G c ts) (r'' : RpA K G ts zs) : WalkI K G (Itz3 K a b c) (zip3 xs ys zs) := fun i G1 H s1 s2 => by
  have hH : SqT K H a vs := seqT (s1.trans s2) h
  have hH' : SqT K H b us := seqT (s1.trans s2) h'
  have hH'' : SqT K H c ts := seqT (s1.trans s2) h''
  refine ⟨fun hi => ⟨vs, us, ts, hH, hH', hH'', by rw [r.length, r'.length, r''.length]; rw [zip3_len] at hi; omega⟩, fun d hd => ?_⟩
  obtain ⟨x, y, z, e1, e2, e3, rfl⟩ := zip3_get hd
  obtain ⟨v, h1, h2⟩ := r.get e1
  obtain ⟨u, h3, h4⟩ := r'.get e2
  obtain ⟨t, h5, h6⟩ := r''.get e3
  refine ⟨⟨vs, us, ts, v, u, t, hH, hH', hH'', h1, h3, h5⟩, fun x H' y => .inr ?_⟩
  obtain ⟨T, x0, y0, z0, rfl, hT, rfl, hx, hy, hz⟩ := y
  have := hx vs hH
  rw [h1] at this; cases this
  have := hy us hH'
  rw [h3] at this; cases this
  have := hz ts hH''
  rw [h5] at this; cases this
  have sm := s1.trans (same_upd (o := .tup [v, u, t]) (s2.free hT))
  exact ⟨T, _, hT, rfl, .tup (SqT.of upd_same) (.cons (Rp.mono sm h2) (.cons (Rp.mono sm h4) (.cons (Rp.mono sm h6) .nil)))⟩
section
variable {X : Cx} {E : XK} {tg e e2 e3 : Expr} {fe f2 f3 : EM}
def iZip3 (f g k : EM) : IM := fun s => (f s).bind fun p => match p.1 with
  | .d (.tuple xs) => (g p.2).bind fun q => (match q.1 with
    | .d (.tuple ys) => (k q.2).bind fun r => (match r.1 with
      | .d (.tuple zs) => .ok (zip3 xs ys zs, r.2)
      | _ => .bad)
    | _ => .bad)
  | _ => .bad
theorem pdi_zip3 {p pos tpos : Pos} {elts : List Expr} {kk : Nat} (hm : X.mg "zip" = none) (h : PDE X E e fe) (h2 : PDE X E e2 f2) (h3 : PDE X E e3 f3) (hg : Gl X "zip" := by rfl)
    (hs : starEach [e, e2, e3] X.env = (false, eval e X.env) :: starEach [e2, e3] X.env := by rfl) (hpl : (backTo pos (starEach [e2, e3] X.env)).any (·.1) = false := by rfl) (hs2 : starEach [e2, e3] X.env = (false, eval e2 X.env) :: starEach [e3] X.env := by rfl) (hs3 : starEach [e3] X.env = (false, eval e3 X.env) :: starEach [] X.env := by rfl) : PDI X E (.Tuple elts kk tpos) (.Call (.Name "zip" p) [e, e2, e3] [] pos) (iZip3 fe f2 f3) :=
  ⟨PI.imp (pi_zip3 hg hm (pa_cons h.pe (pa_cons h2.pe (pa_cons h3.pe pa_nil hs3) hs2) hs) hs hpl) fun σ H Q h => by
  obtain ⟨F, G, as, s, R, h⟩ := h
  refine eT.seqI R h fun G1 H1 w s1 v R1 r1 h1 => ?_
  dsimp only at h1
  split at h1
  · rename_i xs
    refine ⟨F, G1, as, s1, R1, ?_⟩
    cases q : f2 s1 with
    | exc c => rw [q] at h1; exact h1
    | bad => rw [q] at h1; exact h1
    | ok p2 =>
      obtain ⟨w2, s2⟩ := p2
      rw [q, Res.bind_ok] at h1
      dsimp only at h1
      intro v2 G2 H2 R2 X2 r2 n2
      have h2 := iK.ext h1 X2
      split at h2
      · rename_i ys
        refine ⟨F, G2, as, s2, R2, ?_⟩
        cases q3 : f3 s2 with
        | exc c => rw [q3] at h2; exact h2
        | bad => rw [q3] at h2; exact h2
        | ok p3 =>
          obtain ⟨w3, s3⟩ := p3
          rw [q3, Res.bind_ok] at h2
          dsimp only at h2
          intro v3 G3 H3 R3 X3 r3 n3
          have h3 := iK.ext h2 X3
          split at h3
          · rename_i zs
            have r1' : Rp X.kw G3 v (.tuple xs) := Rp.mono (X2.same.trans X3.same) r1
            have r2' : Rp X.kw G3 v2 (.tuple ys) := Rp.mono X3.same r2
            have r3' : Rp X.kw G3 v3 (.tuple zs) := r3
            cases r1' with
            | tup k1 k2 => cases r2' with
              | tup k3 k4 => cases r3' with
                | tup k5 k6 => exact ⟨_, _, _, _, _, _, rfl, seqT R3.same k1, seqT R3.same k3, seqT R3.same k5, h3 _ G3 H3 R3 (Ext.refl _ _ _) (walk_zip3 k1 k2 k3 k4 k5 k6)⟩
          · exact h3.elim
      · exact h2.elim
  · exact h1.elim⟩
end
end
end PD

set_option Elab.async false
set_option linter.all false
set_option maxRecDepth 100000
set_option maxHeartbeats 4000000
namespace HT
open PySem PySem.Spec PyProof.Rows
section
variable {prog : Program} {w : World} {A : Around} {E : Value → Shared → Prop} {s : Shared}
theorem rev_adjust (n : Nat) : Builtin.Slice.sliceAdjust none none (-1) (n : Int) = ((n : Int) - 1, -1) := by
  unfold Builtin.Slice.sliceAdjust
  simp
theorem rev_places (n : Nat) : Builtin.Slice.slicePlaces ((n : Int) - 1) (-1) (-1) = n := by
  unfold Builtin.Slice.slicePlaces
  have h1 : ¬ ((-1 : Int) > 0) := by decide
  simp only [h1, if_false]
  split
  · have e : ((n : Int) - 1 - -1 - 1) / (- -1) + 1 = (n : Int) := by
      rw [show (- -1 : Int) = 1 by decide, Int.ediv_one]
      omega
    rw [e, Int.toNat_natCast]
  · have e : n = 0 := by omega
    subst e
    rfl
theorem rev_applied {sl : Addr} {vs : Value} {n : Nat} {Q : Int × Int × Nat → Shared → Prop} (hs : s.heap.IsSliceOf sl .none .none vs) (ps : IsPart vs (some (-1)))
    (h : Q ((n : Int) - 1, -1, n) s) : wpAny (model prog w) A (Builtin.Slice.sliceApplied (.ref sl) (pure (n : Int))) Q E s := by
  obtain ⟨os, hos, hcs, hds⟩ := id hs
  unfold Builtin.Slice.sliceApplied Builtin.Slice.sliceFields
  refine wpAny_bind (wpAny_bind (wpAny_field hos hds (x := .none) rfl (wpAny_bind (wpAny_field hos hds (x := .none) rfl (wpAny_bind (wpAny_field hos hds (x := vs) rfl (wpAny_pure ?_)))))))
  refine wpAny_bind (slicePart_ ps ?_)
  show wpAny _ _ (if ((-1 : Int) == 0) = true then _ else _) _ _ s
  rw [if_neg (by decide)]
  refine wpAny_bind (slicePart_ .none (wpAny_bind (slicePart_ .none (wpAny_bind (wpAny_pure ?_)))))
  show wpAny _ _ (match Builtin.Slice.sliceAdjust none none (-1) (n : Int) with | (lo, hi) => pure (lo, (-1 : Int), Builtin.Slice.slicePlaces lo hi (-1))) _ _ s
  rw [rev_adjust n]
  show wpAny _ _ (pure ((n : Int) - 1, (-1 : Int), Builtin.Slice.slicePlaces ((n : Int) - 1) (-1) (-1))) _ _ s
  rw [rev_places]
  exact wpAny_pure h
theorem fm_congr {α β : Type} {f g : α → Option β} : ∀ {l : List α}, (∀ x ∈ l, f x = g x) → l.filterMap f = l.filterMap g
  | [], _ => rfl
  | a :: l, h => by
    rw [List.filterMap_cons, List.filterMap_cons, h a (List.mem_cons_self ..), fm_congr fun x hx => h x (List.mem_cons_of_mem _ hx)]
theorem rev_pick (xs : Array Value) : ((List.range xs.size).filterMap fun (m : Nat) => xs[((xs.size : Int) - 1 + (m : Int) * (-1)).toNat]?).toArray = xs.toList.reverse.toArray := by
  have e : ∀ (m : Nat), m ∈ List.range xs.size → xs[((xs.size : Int) - 1 + (m : Int) * (-1)).toNat]? = xs[xs.size - 1 - m]? := fun m hm => by
    have := List.mem_range.mp hm
    rw [show ((xs.size : Int) - 1 + (m : Int) * (-1)).toNat = xs.size - 1 - m by omega]
  have e2 : ((List.range xs.size).filterMap fun (m : Nat) => xs[((xs.size : Int) - 1 + (m : Int) * (-1)).toNat]?) = ((List.range xs.size).map fun k => xs.size - 1 - k).filterMap fun k => xs[k]? := by
    rw [List.filterMap_map]
    exact fm_congr fun m hm => e m hm
  rw [e2, PySem.W.krv_range, List.filterMap_reverse, PySem.W.krv_all]
theorem getItem_tuple_rev {t sl : Addr} {items : Array Value} {vs : Value} {Q : Value → Shared → Prop} (ht : IsTup s.heap t items) (hs : s.heap.IsSliceOf sl .none .none vs) (ps : IsPart vs (some (-1)))
    (h : Q (.ref s.heap.objs.size) { s with heap := s.heap.push { cls := .type "tuple", data := .seq items.toList.reverse.toArray } })
    (hsz : items.size ≤ sizeLine) : wpAny (model prog w) A (getItem (.ref t) (.ref sl)) Q E s := by
  have htake : sizeOk (.seq items.toList.reverse.toArray) := by
    show items.toList.reverse.toArray.size ≤ sizeLine
    simpa using hsz
  obtain ⟨os, hos, hcs, hds⟩ := id hs
  have hTs : s.TypeIs (.ref sl) "slice" := ⟨os, hos, hcs⟩
  unfold getItem
  try with_reducible refine wpAny_holding ?_
  first | refine wpAny_bind (wpAny_pure ?_) | skip
  refine wpAny_bind (wpAny_sequenceKey ht.typeIs (by decide) ?_)
  refine wpAny_bind (wpAny_callSpecial?_slot (name := Str.ofString "__getitem__") ht.typeIs PyProof.Rows.slot_tuple_getitem
    (wpAny_call_entry PyProof.Rows.slot_tuple_getitem ht.typeIs PyProof.Rows.entry_tuple_getitem ?_ (PyProof.Rows.args_tuple_getitem _ _)))
  show wpAny _ _ (Builtin.Tuple.tupleItemsOf (.ref t) >>= _) _ _ s
  refine wpAny_bind (tupleItemsOf_ ht ?_)
  refine wpAny_bind (wpAny_typeOf hTs ?_)
  rw [if_pos (by decide)]
  refine wpAny_bind (rev_applied hs ps ?_)
  have hno : ¬ (((((items.size : Nat) : Int) - 1 == 0) && (-1 : Int) == 1 && items.size == items.size) = true) := by
    intro q
    rw [Bool.and_eq_true, Bool.and_eq_true] at q
    exact absurd q.1.2 (by decide)
  show wpAny _ _ (if ((((items.size : Nat) : Int) - 1 == 0) && (-1 : Int) == 1 && items.size == items.size) = true then _ else _) _ _ s
  rw [if_neg hno, rev_pick]
  first
    | exact wpAny_bind (m := Builtin.Tuple.tupleExact _) (wpAny_newObj_type (wpAny_pure ⟨_, rfl, wpAny_pure h⟩) htake)
    | exact wpAny_bind (m := Builtin.Tuple.tupleExact _) (wpAny_newObj_type (wpAny_bind (wpAny_pure (wpAny_pure ⟨_, rfl, wpAny_pure h⟩))) htake)
    | exact wpAny_bind (wpAny_bind (m := Builtin.Tuple.tupleExact _) (wpAny_newObj_type (wpAny_pure (wpAny_pure ⟨_, rfl, wpAny_pure h⟩)) htake))
    | exact wpAny_bind (wpAny_bind (m := Builtin.Tuple.tupleExact _) (wpAny_newObj_type (wpAny_pure ⟨_, rfl, wpAny_pure h⟩) htake))
end
end HT
namespace PD
noncomputable section
open PySem PySem.Spec PyProof.Rows L2
/-! ### xs[::-1] of a list or a tuple -/
def tRevT (K : KW) (te : TE) : TE := fun σ H Q => te σ H fun x H1 => ∃ a xs, x = .ref a ∧ SqT K H1 a xs ∧ ∀ p, H1 p = none → Q (.ref p) (upd H1 p (.tup xs.reverse))
theorem pe_revT {X : Cx} {e : Expr} {te : TE} {k : Nat} {p1 p2 p3 pos : Pos} (he : PE X e te) : PE X (.Subscript e (.Slice none none (some (.UnaryOp .USub (.Constant (.int 1) k p1) p2)) p3) pos) (tRevT X.kw te) := by
  refine ⟨fun pins s σ H Q I h => ?_⟩
  refine Subscript_ (thn (he.run pins s σ H _ I h) fun v s1 ⟨x, H1, I1, r1, q1⟩ => ?_)
  obtain ⟨a, xs, ex, hx, q⟩ := q1
  subst ex
  cases r1
  have hst : PO X (some (.UnaryOp .USub (.Constant (.int 1) k p1) p2)) (tPart (tUn (rU fun i => .int (-i)) (tC (.int 1)))) := po_some (pe_un un_neg pe_int)
  refine wpAny_Slice (thn (po_none.run pins s1 σ H1 (fun o H2 => o = none ∧ H2 = H1) I1 ⟨rfl, rfl⟩) fun vl s2 ⟨l, H2, I2, pl, el, e2⟩ => ?_)
  subst el e2
  refine thn (po_none.run pins s2 σ H2 (fun o H3 => o = none ∧ H3 = H2) I2 ⟨rfl, rfl⟩) fun vu s3 ⟨u, H3, I3, pu, eu, e3⟩ => ?_
  subst eu e3
  refine thn (hst.run pins s3 σ H3 (fun o H4 => o = some (-1) ∧ H4 = H3) I3 ⟨1, rfl, -1, rfl, rfl, rfl⟩) fun vs s4 ⟨o, H4, I4, ps, eo, e4⟩ => ?_
  subst eo e4
  cases pl
  cases pu
  have I5 : Inv X pins σ H4 { s4 with heap := s4.heap.push { cls := .type "slice", data := .fields #[.none, .none, vs] } } := I4.kept (t' := s4.toks) fun b ob q => Heap.get?_push_of_some _ q
  obtain ⟨its, r, ht, hz⟩ := I5.tuple hx
  have hlen := r.length
  show wpAny (model X.prog X.w) X.A (subscriptTail e (.Slice none none (some (.UnaryOp .USub (.Constant (.int 1) k p1) p2)) p3) (.ref a) (.ref s4.heap.objs.size)) (EP X pins σ Q) X.xe { s4 with heap := s4.heap.push { cls := .type "slice", data := .fields #[.none, .none, vs] } }
  refine tail_any (ops := [.ref a, .ref s4.heap.objs.size]) ht.typeIs PyProof.Rows.slot_tuple_getitem.lookup ?_ (by with_unfolding_all rfl)
  refine HT.getItem_tuple_rev ht (Heap.IsSliceOf.new _ .none .none vs) ps ?_ (by rw [List.size_toArray]; omega)
  refine ⟨.ref _, _, I5.laid (t' := s4.toks) (o := .tup xs.reverse) (fun b ob q => Heap.get?_push_of_some _ q) (Nat.le_refl _) ?_, rfl, q _ (I5.hok.fresh (Nat.le_refl _))⟩
  exact ⟨by rw [List.length_reverse]; exact hz, _, r.reverse, IsTup.new _ _⟩
section
variable {X : Cx} {E : XK} {e : Expr} {fe : EM} {pos : Pos}
def gRev : W → EM := fun w s => match dat s w with
  | some (.list xs) => .ok (.f xs.reverse, s)
  | some (.tuple xs) => .ok (.d (.tuple xs.reverse), s)
  | _ => .bad
theorem pd_rev {kk : Nat} {p1 p2 p3 : Pos} (he : PDE X E e fe) : PDE X E (.Subscript e (.Slice none none (some (.UnaryOp .USub (.Constant (.int 1) kk p1) p2)) p3) pos) (eB1 gRev fe) := ⟨⟨fun pins s σ H Q I h => by
  obtain ⟨F, G, as, s0, R, h'⟩ := h
  cases q : fe s0 with
  | exc c =>
    refine (pe_revL he.pe).run pins s σ H Q I ⟨F, G, as, s0, R, ?_⟩
    unfold eB1 at h'
    rw [q] at h' ⊢
    exact h'
  | bad => unfold eB1 at h'; rw [q] at h'; exact h'.elim
  | ok p =>
    obtain ⟨w, s1⟩ := p
    have h0 := h'
    unfold eB1 gRev at h'
    rw [q, Res.bind_ok] at h'
    dsimp only at h'
    cases e : dat s1 w with
    | none => rw [e] at h'; exact h'.elim
    | some x =>
      rw [e] at h'
      cases x with
      | list xs =>
        refine (pe_revL he.pe).run pins s σ H Q I ⟨F, G, as, s0, R, ?_⟩
        rw [q]
        intro v G1 H1 R1 X1 r1 n1
        have h1 := eK.ext h' R R1 X1
        obtain ⟨a, vs, rfl, k1, k2⟩ := dat_lst R1 r1 e
        exact ⟨a, vs, rfl, k1, fun p hp => eK.newL R1 h1 k2.reverse hp⟩
      | tuple xs =>
        refine (pe_revT he.pe).run pins s σ H Q I ⟨F, G, as, s0, R, ?_⟩
        rw [q]
        intro v G1 H1 R1 X1 r1 n1
        have h1 := eK.ext h' R R1 X1
        obtain ⟨ew, a, vs, rfl, k1, k2⟩ := dat_tup R1 r1 e
        exact ⟨a, vs, rfl, k1, fun p hp => eK.newT R1 h1 k2.reverse hp⟩
      | _ => exact h'.elim⟩⟩
end
end
end PD

set_option Elab.async false
set_option linter.all false
set_option maxRecDepth 100000
set_option maxHeartbeats 4000000
namespace PD
noncomputable section
open PySem PySem.Spec PyProof.Rows L2

/-! ### a new cell -/
section
variable {K : KW} {F : Addr → Prop} {G H : Hp} {as : List Addr} {s : S} {σ : L2.St}
theorem Rep.newCell {a : Addr} {o : HO} {c : Cell} {i : Nat} (R : Rep K F G H as σ s) (h1 : H a = some o) (h2 : G a = none) (h3 : a ∉ as) (h4 : ¬ F a) (hc : CellAt K G H a c) (hi : i < s.env.length) :
    Rep K F G H (as ++ [a]) (σ.set i (some (.ref a))) { s with env := s.env.set i (some (.c s.mem.length)), mem := s.mem ++ [some c] } := by
  have hn : (as ++ [a])[s.mem.length]? = some a := by rw [← R.alen]; simp
  refine ⟨R.same, by simpa using R.len, by simp [R.alen], ?_, fun b hb => ?_, fun b hb => ?_, fun n c' e => ?_, fun j w' e => ?_⟩
  · rw [List.nodup_append]
    exact ⟨R.nd, by simp, fun x hx y hy z => by
      have : y = a := by simpa using hy
      exact h3 (by rw [← this, ← z]; exact hx)⟩
  · rcases List.mem_append.mp hb with hb | hb
    · exact R.dom b hb
    · have : b = a := by simpa using hb
      exact ⟨_, by rw [this]; exact h1⟩
  · obtain ⟨k1, k2, k3⟩ := R.fo b hb
    refine ⟨k1, fun z => ?_, k3⟩
    rcases List.mem_append.mp z with z | z
    · exact k2 z
    · have : b = a := by simpa using z
      exact h4 (by rw [← this]; exact hb)
  · have e : (s.mem ++ [some c])[n]? = some (some c') := e
    by_cases q : n < s.mem.length
    · rw [List.getElem?_append_left q] at e
      obtain ⟨b, k1, k2, k3⟩ := R.cell n c' e
      exact ⟨b, by rw [List.getElem?_append_left (by rw [R.alen]; exact q)]; exact k1, k2, k3⟩
    · have q' : n = s.mem.length := by
        have := (List.getElem?_eq_some_iff.mp e).1
        simp at this
        omega
      subst q'
      simp at e
      subst e
      exact ⟨a, hn, h2, hc⟩
  · have e : (s.env.set i (some (.c s.mem.length)))[j]? = some (some w') := e
    by_cases q : i = j
    · subst q
      rw [List.getElem?_set_self hi] at e
      cases e
      exact ⟨.ref a, by rw [List.getElem?_set_self (by rw [R.len]; exact hi)], ⟨a, hn, rfl⟩, fun _ z => nomatch z⟩
    · rw [List.getElem?_set_ne q] at e
      obtain ⟨u, k1, k2, k3⟩ := R.env j w' e
      refine ⟨u, by rw [List.getElem?_set_ne q]; exact k1, ?_, k3⟩
      cases w' with
      | d x => exact k2
      | c m =>
        obtain ⟨b, k4, k5⟩ := k2
        exact ⟨b, by rw [List.getElem?_append_left (List.getElem?_eq_some_iff.mp k4).1]; exact k4, k5⟩
      | f ys => exact absurd rfl (k3 ys)
theorem live_newCell {a b : Addr} {c : Cell} {env : List (Option W)} (R : Rep K F G H as σ s) (h : live (as ++ [a]) { s with env := env, mem := s.mem ++ [some c] } b) : live as s b ∨ b = a := by
  obtain ⟨n, c', e, k⟩ := h
  have e : (s.mem ++ [some c])[n]? = some (some c') := e
  by_cases q : n < s.mem.length
  · rw [List.getElem?_append_left q] at e
    rw [List.getElem?_append_left (by rw [R.alen]; exact q)] at k
    exact .inl ⟨n, c', e, k⟩
  · have q' : n = s.mem.length := by
      have := (List.getElem?_eq_some_iff.mp e).1
      simp at this
      omega
    subst q'
    have hn : (as ++ [a])[s.mem.length]? = some a := by rw [← R.alen]; simp
    rw [hn] at k
    cases k
    exact .inr rfl
end
section
variable {X : Cx} {E : XK} {e e2 e3 o i : Expr} {fe f2 f3 fo fi : EM} {pos : Pos}
/-! ### dicts -/
/-- {} that stays -/
def eDic : EM := fun s => .ok (.d dicS, s)
theorem pd_dic : PDE X E (.Dict [] [] pos) eDic := ⟨PE.imp pe_dnewK fun σ H Q h => by
  obtain ⟨F, G, as, s, R, h⟩ := h
  intro p hp
  obtain ⟨gp, _, _⟩ := R.fresh hp
  exact h _ _ _ (R.newG hp _) (Ext.allocG gp hp) (.dic upd_same rfl) fun _ _ z _ => nomatch z⟩
/-- x = {} that changes -/
def sNewD (i : Nat) : SM := fun s => if i < s.env.length then .ok (.nx, { s with env := s.env.set i (some (.c s.mem.length)), mem := s.mem ++ [some (.m [])] }) else .bad
theorem pds_newD (i : Nat) {x : Str} {p1 p2 : Pos} (hN : X.N.Nodup) (hi : X.N[i]? = some x := by rfl) (hx : Loc X.env.scope x := by first | exact Or.inl rfl | exact Or.inr rfl) (hs : swapsWith (.Dict [] [] p1) (some (.Name x p2)) pos.line X.env = pure false := by rfl) (hf : X.fn x = true ∨ X.env.scope.names.lookup x = some .local := by first | exact .inl rfl | exact .inr rfl | assumption) :
    PDS X E (.Assign [.Name x p2] (.Dict [] [] p1) pos) (sNewD i) := ⟨PS.imp (ps_set hN hi hx pe_dnewK hs hf) fun D σ H h => by
  obtain ⟨F, G, as, s, R, h⟩ := h
  intro p hp
  unfold sNewD at h
  split at h
  · rename_i hl
    obtain ⟨gp, na, nf⟩ := R.fresh hp
    have R1 := (R.new hp (.dK [])).newCell (a := p) (c := .m []) upd_same gp na nf ⟨[], upd_same, .nil⟩ hl
    refine h _ G _ _ R1 ⟨Same.refl _, fun a o e _ => same_upd hp a o e, fun a z => ?_⟩ ⟨[p], rfl⟩
    rcases live_newCell R z with z | z
    · exact .inl z
    · exact .inr (by rw [z]; exact hp)
  · exact h.elim⟩
def putD (kvs : List (Key × D)) (k : Key) (v : D) : List (Key × D) :=
  if (kvs.any fun kv => decide (kv.1 = k)) = true then kvs.map (fun kv => if kv.1 = k then (kv.1, v) else kv) else kvs ++ [(k, v)]
abbrev KvR (K : KW) (G : Hp) : Key × V → Key × D → Prop := fun p q => p.1 = q.1 ∧ Rp K G p.2 q.2
theorem kv_any {K : KW} {G : Hp} {k : Key} : ∀ {vs : List (Key × V)} {kvs : List (Key × D)}, Paired (KvR K G) vs kvs → (vs.any fun kv => decide (kv.1 = k)) = (kvs.any fun kv => decide (kv.1 = k))
  | _, _, .nil => rfl
  | _, _, .cons h r => by rw [List.any_cons, List.any_cons, kv_any r, h.1]
theorem kv_map {K : KW} {G : Hp} {k : Key} {v : V} {d : D} (hv : Rp K G v d) : ∀ {vs : List (Key × V)} {kvs : List (Key × D)}, Paired (KvR K G) vs kvs → Paired (KvR K G) (vs.map fun kv => if kv.1 = k then (kv.1, v) else kv) (kvs.map fun kv => if kv.1 = k then (kv.1, d) else kv)
  | _, _, .nil => .nil
  | _, _, .cons (a := a) (b := b) h r => by
    refine .cons ?_ (kv_map hv r)
    show KvR K G (if a.1 = k then (a.1, v) else a) (if b.1 = k then (b.1, d) else b)
    by_cases q : b.1 = k
    · rw [if_pos q, if_pos (h.1.trans q)]; exact ⟨h.1, hv⟩
    · rw [if_neg q, if_neg (fun z => q (h.1.symm.trans z))]; exact h
theorem kv_put {K : KW} {G : Hp} {k : Key} {v : V} {d : D} (hv : Rp K G v d) {vs : List (Key × V)} {kvs : List (Key × D)} (h : Paired (KvR K G) vs kvs) : Paired (KvR K G) (putK vs k v) (putD kvs k d) := by
  unfold putK putD
  rw [kv_any h]
  split
  · exact kv_map hv h
  · exact h.snoc ⟨rfl, hv⟩
def keyOf : W → Option Key
  | .d (.int i) => some (.inl i)
  | .d (.str x) => some (.inr x)
  | _ => none
theorem keyOf_ok {K : KW} {F : Addr → Prop} {G H : Hp} {as : List Addr} {v : V} {w : W} {k : Key} (r : RpW K F G H as v w) (h : keyOf w = some k) : v = kV k := by
  unfold keyOf at h
  split at h
  · cases h; cases r; rfl
  · cases h; cases r; rfl
  · cases h
/-- d[k] = v -/
def sPut (fe fo fi : EM) : SM := fun s => (fe s).bind fun p => match toD p.1 p.2 with
  | some (x, s1) => (fo s1).bind fun q => (match q.1 with
    | .c n => (fi q.2).bind fun t => (match keyOf t.1, t.2.mem[n]? with
      | some k, some (some (.m kvs)) => if kvs.length < sizeLine then .ok (.nx, { t.2 with mem := t.2.mem.set n (some (.m (putD kvs k x))) }) else .bad
      | _, _ => .bad)
    | _ => .bad)
  | none => .bad
theorem paired_len {α β : Type} {F : α → β → Prop} : ∀ {l₁ : List α} {l₂ : List β}, Paired F l₁ l₂ → l₁.length = l₂.length
  | _, _, .nil => rfl
  | _, _, .cons _ r => by rw [List.length_cons, List.length_cons, paired_len r]
theorem pds_put {p1 : Pos} {k : Nat} (hr : Room k X.A) (he : PDE X E e fe) (ho : PDE X E o fo) (hi : PDE X E i fi) (hs : swapsWith e (some (.Subscript o i p1)) pos.line X.env = pure false := by rfl) : PDS X E (.Assign [.Subscript o i p1] e pos) (sPut fe fo fi) := ⟨PS.imp (ps_dput (by have := hr.un; omega) ho.pe hi.pe he.pe hs) fun D σ H h => by
  obtain ⟨F, G, as, s, R, h⟩ := h
  refine eT.seqS R h fun G1 H1 w s1 v R1 X1 r1 n1 h1 => ?_
  dsimp only at h1
  split at h1
  · rename_i x s2 e2
    obtain ⟨G2, R2, X2, r2⟩ := toD_ok R1 r1 e2
    have h1 := sK.ext h1 R2 (X1.trans X2) (List.prefix_refl _)
    refine eT.seqS R2 h1 fun G3 H3 w3 s3 v3 R3 X3 r3 n3 h3 => ?_
    dsimp only at h3
    cases w3 with
    | d _ => exact h3.elim
    | f _ => exact h3.elim
    | c n =>
      dsimp only at h3
      obtain ⟨a, ha, rfl⟩ := r3
      have h3 := sK.ext h3 R3 X3 (List.prefix_refl _)
      refine eT.seqS R3 h3 fun G4 H4 w4 s4 v4 R4 X4 r4 n4 h4 => ?_
      dsimp only at h4
      split at h4
      · rename_i k kvs ek e3
        split at h4
        · rename_i hz
          obtain ⟨g4, vs, k1, k2⟩ := R4.cellAt e3 ha
          have rx : Rp X.kw G4 v x := Rp.mono (X3.same.trans X4.same) r2
          refine ⟨a, _, rfl, .inl ⟨vs, k, k1, keyOf_ok r4 ek, by rw [paired_len k2]; exact hz, rfl⟩, ?_⟩
          exact h4 σ G4 _ as (R4.mut e3 ha ⟨_, upd_same, kv_put rx k2⟩) (X4.trans (Ext.mut e3 ha)) (List.prefix_refl _)
        · exact h4.elim
      · exact h4.elim
  · exact h1.elim⟩
def kD : Key → D
  | .inl i => .int i
  | .inr x => .str x
theorem kv_keys {K : KW} {G : Hp} : ∀ {vs : List (Key × V)} {kvs : List (Key × D)}, Paired (KvR K G) vs kvs → RpA K G (vs.map fun kv => kV kv.1) (kvs.map fun kv => kD kv.1)
  | _, _, .nil => .nil
  | _, _, .cons (a := a) (b := b) h r => by
    refine .cons ?_ (kv_keys r)
    show Rp K G (kV a.1) (kD b.1)
    rw [h.1]
    cases b.1 with
    | inl i => exact .int i
    | inr x => exact .str x
/-- list(d) -/
def gListM : W → EM := fun w s => match w with
  | .c n => (match s.mem[n]? with
    | some (some (.m kvs)) => .ok (.f (kvs.map fun kv => kD kv.1), s)
    | _ => .bad)
  | _ => .bad
theorem ud_listM : UnD X E rListD gListM := fun F G H as s σ v w Q R r h => by
  unfold gListM at h
  split at h
  · rename_i n
    obtain ⟨a, ha, rfl⟩ := r
    split at h
    · rename_i kvs e
      obtain ⟨g0, vs, k1, k2⟩ := R.cellAt e ha
      exact ⟨a, vs, rfl, k1, fun q hq => eK.newL R h (kv_keys k2) hq⟩
    · exact h.elim
  · exact h.elim
theorem pd_listM {p : Pos} (hm : X.mg "list" = none) (hcalm : X.calm = true) (ha : PDE X E e fe) (hg : Gl X "list" := by rfl) (he : starEach [e] X.env = (false, eval e X.env) :: starEach [] X.env := by rfl) : PDE X E (.Call (.Name "list" p) [e] [] pos) (eB1 gListM fe) :=
  pd_t1 (call_list_dK hcalm) ud_listM hm (by decide +kernel) ha hg (by decide) (by decide) he
/-! ### tuple(range(n)) -/
def rgD (b : Int) : List D := (List.range (b - 0).toNat).map fun i => PyData.int (0 + (i : Nat))
def eTupRg (f : EM) : EM := fun s => (f s).bind fun p => match p.1 with
  | .d (.int n) => if 0 ≤ n ∧ n ≤ 16777216 then .ok (.d (.tuple (rgD n)), p.2) else .bad
  | _ => .bad
theorem rg_rp {K : KW} {G : Hp} : ∀ (l : List Nat), RpA K G (l.map fun i => V.int (0 + (i : Nat))) (l.map fun i => PyData.int (0 + (i : Nat)))
  | [] => .nil
  | _ :: l => .cons (.int _) (rg_rp l)
theorem pd_tupRg {p p2 pos2 : Pos} (hm2 : X.mg "tuple" = none) (hm : X.mg "range" = none) (hcalm : X.calm = true) (ha : PDE X E e fe) (hg2 : Gl X "tuple" := by rfl) (hg : Gl X "range" := by rfl) (he : starEach [e] X.env = (false, eval e X.env) :: starEach [] X.env := by rfl)
    (na : starEach [.Call (.Name "range" p2) [e] [] pos2] X.env = (false, eval (.Call (.Name "range" p2) [e] [] pos2) X.env) :: starEach [] X.env := by rfl) : PDE X E (.Call (.Name "tuple" p) [.Call (.Name "range" p2) [e] [] pos2] [] pos) (eTupRg fe) := ⟨PE.imp (pe_tupRg hcalm hg2 hm2 (prg_1 hg hm ha.pe he) na) fun σ H Q h => by
  obtain ⟨F, G, as, s, R, h⟩ := h
  refine eT.seq R h fun G1 H1 w s1 v R1 X1 r1 n1 h1 => ?_
  dsimp only at h1
  split at h1
  · rename_i n
    split at h1
    · rename_i hz
      cases r1
      refine ⟨n, rfl, RgOk.of_le (Int.le_refl _) hz.2 (by decide) hz.1, fun p hp => eK.newT R1 h1 (rg_rp _) hp⟩
    · exact h1.elim
  · exact h1.elim⟩
/-! ### range(a, b, -1) -/
def iRange3 (f g k : EM) : IM := fun s => (f s).bind fun p => (g p.2).bind fun q => (k q.2).bind fun t => match p.1, q.1, t.1 with
  | .d (.int i), .d (.int j), .d (.int c) => if inB i && inB j && decide (c = -1) then .ok ((List.range (i - j).toNat).map fun (k : Nat) => PyData.int (i + (k : Int) * (-1)), t.2) else .bad
  | _, _, _ => .bad
theorem walk_down {K : KW} {G : Hp} {lo : Int} {n : Nat} : WalkI K G (Itc lo (-1) n) ((List.range n).map fun (i : Nat) => PyData.int (lo + (i : Int) * (-1))) := fun i G1 H s1 s2 => by
  refine ⟨fun hi => (show n ≤ i by simpa using hi), fun d hd => ?_⟩
  have hi : i < n := by
    have := (List.getElem?_eq_some_iff.mp hd).1
    simpa using this
  have e : d = .int (lo + (i : Int) * (-1)) := by
    rw [List.getElem?_map, List.getElem?_range hi] at hd
    exact (Option.some.inj hd).symm
  subst e
  exact ⟨hi, fun x H' y => .inl ⟨y.1, by rw [y.2]; exact .int _⟩⟩
theorem pdi_range3 {tg : Expr} {p : Pos} (hm : X.mg "range" = none) (h : PDE X E e fe) (h2 : PDE X E e2 f2) (h3 : PDE X E e3 f3) (hg : Gl X "range" := by rfl)
    (hs : starEach [e, e2, e3] X.env = (false, eval e X.env) :: starEach [e2, e3] X.env := by rfl) (hpl : (backTo pos (starEach [e2, e3] X.env)).any (·.1) = false := by rfl) (hs2 : starEach [e2, e3] X.env = (false, eval e2 X.env) :: starEach [e3] X.env := by rfl) (hs3 : starEach [e3] X.env = (false, eval e3 X.env) :: starEach [] X.env := by rfl) : PDI X E tg (.Call (.Name "range" p) [e, e2, e3] [] pos) (iRange3 fe f2 f3) :=
  ⟨PI.imp (pi_range3 hg hm (pa_cons h.pe (pa_cons h2.pe (pa_cons h3.pe pa_nil hs3) hs2) hs) hs hpl) fun σ H Q h => by
  obtain ⟨F, G, as, s, R, h⟩ := h
  refine eT.seqI R h fun G1 H1 w s1 v R1 r1 h1 => ?_
  refine ⟨F, G1, as, s1, R1, ?_⟩
  dsimp only at h1
  cases q : f2 s1 with
  | exc c => rw [q] at h1; exact h1
  | bad => rw [q] at h1; exact h1
  | ok p2 =>
    obtain ⟨w2, s2⟩ := p2
    rw [q, Res.bind_ok] at h1
    dsimp only at h1
    intro v2 G2 H2 R2 X2 r2 n2
    have h2 := iK.ext h1 X2
    refine ⟨F, G2, as, s2, R2, ?_⟩
    cases q3 : f3 s2 with
    | exc c => rw [q3] at h2; exact h2
    | bad => rw [q3] at h2; exact h2
    | ok p3 =>
      obtain ⟨w3, s3⟩ := p3
      rw [q3, Res.bind_ok] at h2
      dsimp only at h2
      intro v3 G3 H3 R3 X3 r3 n3
      have h3 := iK.ext h2 X3
      split at h3
      · rename_i i j c
        split at h3
        · rename_i hb
          obtain ⟨hb1, hb2⟩ := Bool.and_eq_true_iff.mp hb
          obtain ⟨b1, b2⟩ := Bool.and_eq_true_iff.mp hb1
          obtain ⟨b3, b4⟩ := inB_ba b1
          obtain ⟨b5, b6⟩ := inB_ba b2
          have hc := of_decide_eq_true hb2
          subst hc
          cases r1
          cases r2
          cases r3
          exact ⟨i, j, -1, _, rfl, RgC.neg (of_decide_eq_true b3) (of_decide_eq_true b4) (of_decide_eq_true b5) (of_decide_eq_true b6), h3 _ G3 H3 R3 (Ext.refl _ _ _) walk_down⟩
        · exact h3.elim
      · exact h3.elim⟩
/-! ### len({x: True for x in xs}) -/
def keysV (ns : List Int) : List (Key × V) := ns.foldl (fun acc n => putK acc (.inl n) (.bl true)) []
theorem keysV_len : ∀ (ns : List Int) (acc : List (Key × V)), (ns.foldl (fun acc n => putK acc (.inl n) (.bl true)) acc).length ≤ acc.length + ns.length
  | [], acc => Nat.le_refl _
  | n :: r, acc => by
    refine Nat.le_trans (keysV_len r _) ?_
    have : (putK acc (.inl n) (.bl true)).length ≤ acc.length + 1 := by
      unfold putK
      split
      · rw [List.length_map]; omega
      · simp
    rw [List.length_cons]
    dsimp only
    omega
def eLenKeys (i : Nat) (f : EM) : EM := fun s => (f s).bind fun p => match p.1 with
  | .d (.tuple xs) => (match intsOf xs with
    | some ns => if ns.length < sizeLine ∧ i < p.2.env.length then .ok (.d (.int (keysV ns).length), p.2) else .bad
    | none => .bad)
  | _ => .bad
theorem ints_rp {K : KW} {G : Hp} : ∀ {vs : List V} {xs : List D} {ns : List Int}, RpA K G vs xs → intsOf xs = some ns → vs = ns.map V.int
  | _, _, _, .nil, e => by cases e; rfl
  | _, _, bs, .cons (ds := ds) (.int b) r, e => by
    have e : (intsOf ds).map (b :: ·) = some bs := e
    cases q : intsOf ds with
    | none => rw [q] at e; cases e
    | some es => rw [q] at e; cases e; rw [ints_rp r q]; rfl
  | _, _, _, .cons .non _, e => nomatch e
  | _, _, _, .cons (.bl _) _, e => nomatch e
  | _, _, _, .cons (.str _) _, e => nomatch e
  | _, _, _, .cons (.lst _ _) _, e => nomatch e
  | _, _, _, .cons (.tup _ _) _, e => nomatch e
  | _, _, _, .cons (.dic _ _) _, e => nomatch e
  | _, _, _, .cons (.dicN _ _) _, e => nomatch e
theorem upd_upd {H : Hp} {a : Addr} {x y : HO} : upd (upd H a x) a y = upd H a y := by
  funext b
  by_cases q : b = a
  · subst q; rw [upd_same, upd_same]
  · rw [upd_ne q, upd_ne q, upd_ne q]
theorem pd_lenKeys (i : Nat) {x : Str} {p p2 p3 p4 p5 : Pos} {j : Nat} {scope : Scope} (hm : X.mg "len" = none) (hcalm : X.calm = true) (hN : X.N.Nodup) (ha : PDE X E e fe) (ok : BlkOk X.N X.env.scope scope [(x, i)])
    (hg1 : ∀ (s : Shared) (H : Hp) (C : Addr) (cl : List (Str × Addr)) (fp : List Addr), PG (X.blk s H scope (compEnvC scope cl C X.env) fp) (.Name x p4) (gName i))
    (hk1 : ∀ (s : Shared) (H : Hp) (C : Addr) (cl : List (Str × Addr)) (fp : List Addr), PE (X.blk s H scope (compEnvC scope cl C X.env) fp) (.Name x p2) (tVar i))
    (hg : Gl X "len" := by rfl) (hs : ∀ y, foldedSetIterable e X.env y = pure y := by intro _; rfl)
    (he : starEach [.DictComp (.Name x p2) (.Constant (.bool true) j p3) [⟨.Name x p4, e, [], 0⟩] scope p5] X.env = (false, eval (.DictComp (.Name x p2) (.Constant (.bool true) j p3) [⟨.Name x p4, e, [], 0⟩] scope p5) X.env) :: starEach [] X.env := by rfl) :
    PDE X E (.Call (.Name "len" p) [.DictComp (.Name x p2) (.Constant (.bool true) j p3) [⟨.Name x p4, e, [], 0⟩] scope p5] [] pos) (eLenKeys i fe) := by
  have hb : PE X (.DictComp (.Name x p2) (.Constant (.bool true) j p3) [⟨.Name x p4, e, [], 0⟩] scope p5) _ :=
    pe_dc hcalm hN (pi_tup ha.pe) ok (g := gName i) (tt := tYes) (tk := tVar i) (tv := tC (.bl true)) hg1 (fun s H C cl fp => pts_nil) hk1 (fun s H C cl fp => pe_bl) hs
  refine ⟨PE.imp (pe_callB call_lenD hg hm PySem.boot_len (pa_cons hb pa_nil he) (by decide) (by decide) he) fun σ H Q h => ?_⟩
  obtain ⟨F, G, as, s, R, h⟩ := h
  refine eT.seq R h fun G1 H1 w s1 v R1 X1 r1 n1 h1 => ?_
  dsimp only at h1
  split at h1
  · rename_i xs
    split at h1
    · rename_i ns en
      split at h1
      · rename_i hz
        cases r1 with
        | tup k1 k2 =>
          rename_i a vs
          have ev := ints_rp k2 en
          have hq : SqT X.K H1 a vs := seqT R1.same k1
          refine ⟨a, rfl, ⟨vs, hq⟩, fun D hD => ?_⟩
          have ln : vs.length = ns.length := by rw [ev, List.length_map]
          refine dc_tup (xs := vs) (Pv := fun i Hh => Hh = upd H1 D (.dK (keysV (ns.take i)))) rfl (fun j Hh _ e => ?_) (fun j y Hh hy e => ?_) fun Hh e => ?_
          · rw [e]; exact seqT (K := X.kw) (same_upd hD) hq
          · have hj : j < ns.length := by rw [← ln]; exact (List.getElem?_eq_some_iff.mp hy).1
            have ey : y = .int ns[j] := by
              rw [ev, List.getElem?_map, List.getElem?_eq_getElem hj] at hy
              exact (Option.some.inj hy).symm
            refine ⟨?_, y, ?_, keysV (ns.take j), .inl ns[j], ey, by rw [e]; exact upd_same, ?_, ?_⟩
            · show ((σ.set i none).set i (some y)).set i none = σ.set i none
              rw [List.set_set, List.set_set]
            · show ((σ.set i none).set i (some y))[i]? = some (some y)
              rw [List.set_set, List.getElem?_set_self (by rw [R1.len]; exact hz.2)]
            · have := keysV_len (ns.take j) []
              rw [List.length_take] at this
              show (keysV (ns.take j)).length < sizeLine
              unfold keysV
              simp only [List.length_nil] at this
              omega
            · rw [e, upd_upd]
              congr 2
              unfold keysV
              rw [List.take_add_one, List.getElem?_eq_getElem hj, List.foldl_append]
              rfl
          · rw [e, ln, List.take_length]
            refine ⟨D, _, rfl, upd_same, ?_⟩
            exact h1 _ _ _ (R1.new hD _) (Ext.alloc hD) (.int _) fun _ _ z _ => nomatch z
      · exact h1.elim
    · exact h1.elim
  · exact h1.elim
end
/-- how many rounds a while may have: 2000, which nothing unfolds -/
noncomputable def rounds : { n : Nat // n = 2000 } := Classical.choice ⟨⟨2000, rfl⟩⟩
/-- a def of which nothing is said -/
theorem Df.bad {P : Program} {w : World} {K : PySem.W.Frag} {mg : Str → Option Value} {base : Heap} {k : Nat} {x : Str} {st : Stmt} {f : Addr} {fd : FuncData} {N ps : List Str} (Fn : Fun K x x st f fd) (Sc : FnScope N ps (defScope st)) (hm : mg x = some (.ref f)) (hb : Binds K fd ps []) :
    Df P w K mg base k x ps (fun _ _ => .bad) :=
  ⟨f, fd, ⟨fun vs H Q E h => by obtain ⟨_, _, _, _, _, hl, _⟩ := h; exact hl, fun A outer s H args us vs Q E _ _ _ _ h => by obtain ⟨_, _, _, _, _, _, _, _, h⟩ := h; exact h.elim⟩, hm, Fn.kp, hb⟩
end
end PD

set_option Elab.async false
set_option linter.all false
set_option maxRecDepth 100000
set_option maxHeartbeats 4000000
/-! PDW: the meanings of PD, run by simp: each combinator steps where its state is told -/
namespace PD
noncomputable section
open PySem PySem.Spec PyProof.Rows L2
def Res.wp {α : Type} (r : Res α) (Q : α → Prop) (X : Str → Prop) : Prop := match r with
  | .ok a => Q a
  | .exc c => X c
  | .bad => False
@[simp] theorem Res.wp_ok {α : Type} {a : α} {Q : α → Prop} {X : Str → Prop} : (Res.ok a).wp Q X = Q a := id rfl
@[simp] theorem Res.wp_exc {α : Type} {c : Str} {Q : α → Prop} {X : Str → Prop} : (Res.exc c : Res α).wp Q X = X c := id rfl
@[simp] theorem Res.wp_bad {α : Type} {Q : α → Prop} {X : Str → Prop} : (Res.bad : Res α).wp Q X = False := id rfl
@[simp] theorem Res.bind_ok' {α β : Type} (a : α) (k : α → Res β) : (Res.ok a).bind k = k a := id rfl
@[simp] theorem Res.bind_exc' {α β : Type} (c : Str) (k : α → Res β) : (Res.exc c : Res α).bind k = .exc c := id rfl
@[simp] theorem Res.bind_bad' {α β : Type} (k : α → Res β) : (Res.bad : Res α).bind k = .bad := id rfl
@[simp] theorem nox_ok' {α : Type} (a : α) : nox (.ok a) = .ok a := id rfl
theorem Res.wp_bind {α β : Type} {r : Res α} {k : α → Res β} {Q : β → Prop} {X : Str → Prop} : (r.bind k).wp Q X = r.wp (fun a => (k a).wp Q X) X := by cases r <;> rfl
@[simp] theorem Res.bind_assoc {α β γ : Type} {r : Res α} {k : α → Res β} {l : β → Res γ} : (r.bind k).bind l = r.bind fun a => (k a).bind l := by cases r <;> rfl
theorem Res.bind_ite {α β : Type} {c : Prop} [Decidable c] {r r' : Res α} {k : α → Res β} : (if c then r else r').bind k = if c then r.bind k else r'.bind k := by split <;> rfl
theorem Res.wp_mono {α : Type} {r : Res α} {Q Q' : α → Prop} {X X' : Str → Prop} (h : r.wp Q X) (hq : ∀ a, Q a → Q' a) (hx : ∀ c, X c → X' c) : r.wp Q' X' := by
  cases r with
  | ok a => exact hq a h
  | exc c => exact hx c h
  | bad => exact h
theorem Res.wp_then {α β : Type} {r : Res α} {k : α → Res β} {Q : β → Prop} {X : Str → Prop} {Q1 : α → Prop} {X1 : Str → Prop} (h : r.wp Q1 X1) (hq : ∀ a, Q1 a → (k a).wp Q X) (hx : ∀ c, X1 c → X c) : (r.bind k).wp Q X := by
  rw [Res.wp_bind]
  exact Res.wp_mono h hq hx
theorem Res.ok_of_wp {α : Type} {r : Res α} {Q : α → Prop} (h : r.wp Q fun _ => False) : ∃ a, r = .ok a ∧ Q a := by
  cases r with
  | ok a => exact ⟨a, rfl, h⟩
  | exc c => exact h.elim
  | bad => exact h.elim
/-- the greatest length; nothing unfolds it -/
noncomputable def SL : { n : Nat // n = sizeLine } := Classical.choice ⟨⟨sizeLine, rfl⟩⟩
def onB {α : Type} (w : W) (f g : Res α) : Res α := match w with
  | .d (.bool true) => f
  | .d (.bool false) => g
  | _ => .bad
@[simp] theorem onB_b {α : Type} {b : Bool} {f g : Res α} : onB (.d (.bool b)) f g = if b then f else g := by cases b <;> rfl
section
variable {e : List (Option W)} {m : List (Option Cell)} {b : Nat} {i j : Nat} {w w1 w2 : W} {s : S} {x y z : D} {xs ys zs : List D} {fa fb fc fe fo fi : EM} {ga : AM} {t u : TM} {f g h : SM} {mem : List (Option Cell)} {n : Int}
@[simp] theorem eVar_mk : eVar i ⟨e, m, b⟩ = match e[i]? with
  | some (some w) => .ok (w, ⟨e, m, b⟩)
  | _ => .bad := id rfl
@[simp] theorem eC_mk : eC x s = .ok (.d x, s) := id rfl
@[simp] theorem eBin_mk {gg : W → W → EM} : eBin gg fa fb ⟨e, m, b⟩ = (fa ⟨e, m, b⟩).bind fun p => (fb p.2).bind fun q => gg p.1 q.1 q.2 := id rfl
@[simp] theorem g2I_mk {k : Int → Int → Option D} {i j : Int} : g2I k (.d (.int i)) (.d (.int j)) s = match k i j with
  | some x => .ok (.d x, s)
  | none => .bad := id rfl
@[simp] theorem dat_d : dat s (.d x) = some x := id rfl
@[simp] theorem dat_f : dat s (.f xs) = some (.list xs) := id rfl
@[simp] theorem dat_cc : dat ⟨e, m, b⟩ (.c i) = match m[i]? with
  | some (some (.l xs)) => some (.list xs)
  | _ => none := id rfl
@[simp] theorem gEq_mk {k : Bool} : gEq k w1 w2 ⟨e, m, b⟩ = match dat ⟨e, m, b⟩ w1, dat ⟨e, m, b⟩ w2 with
  | some x, some y => if scD x y || (SeqAt.shaped x && SeqAt.shaped y) then .ok (.d (.bool (if k then !PyData.eqv x y else PyData.eqv x y)), ⟨e, m, b⟩) else .bad
  | _, _ => .bad := id rfl
@[simp] theorem gIsN_mk {k : Bool} : gIsN k w1 w2 ⟨e, m, b⟩ = match w2 with
  | .d .none => .ok (.d (.bool (match w1 with
    | .d .none => !k
    | _ => k)), ⟨e, m, b⟩)
  | _ => .bad := id rfl
@[simp] theorem tOf_mk : tOf fa ⟨e, m, b⟩ = (fa ⟨e, m, b⟩).bind fun p => match p.1 with
  | .d (.bool b) => .ok (b, p.2)
  | _ => .bad := id rfl
@[simp] theorem tAnd_mk : tAnd_ t u ⟨e, m, b⟩ = (t ⟨e, m, b⟩).bind fun p => if p.1 then u p.2 else .ok (false, p.2) := id rfl
@[simp] theorem tOr_mk : tOr_ t u ⟨e, m, b⟩ = (t ⟨e, m, b⟩).bind fun p => if p.1 then .ok (true, p.2) else u p.2 := id rfl
@[simp] theorem tNot_mk : tNot_ t ⟨e, m, b⟩ = (t ⟨e, m, b⟩).bind fun p => .ok (!p.1, p.2) := id rfl
@[simp] theorem tYes_mk : tYes_ s = .ok (true, s) := id rfl
@[simp] theorem eAnd_mk : eAnd_ fa fb ⟨e, m, b⟩ = (fa ⟨e, m, b⟩).bind fun p => onB p.1 (fb p.2) (.ok (.d (.bool false), p.2)) := id rfl
@[simp] theorem eOr_mk : eOr_ fa fb ⟨e, m, b⟩ = (fa ⟨e, m, b⟩).bind fun p => onB p.1 (.ok (.d (.bool true), p.2)) (fb p.2) := id rfl
@[simp] theorem eNot_mk : eNot_ fa ⟨e, m, b⟩ = (fa ⟨e, m, b⟩).bind fun p => match p.1 with
  | .d (.bool b) => .ok (.d (.bool (!b)), p.2)
  | _ => .bad := id rfl
@[simp] theorem eIf_mk : eIf_ t fa fb ⟨e, m, b⟩ = (t ⟨e, m, b⟩).bind fun p => if p.1 then fa p.2 else fb p.2 := id rfl
@[simp] theorem toD_d : toD (.d x) s = some (x, s) := id rfl
@[simp] theorem toD_f : toD (.f xs) s = some (.list xs, s) := id rfl
@[simp] theorem toD_c : toD (.c i) ⟨e, m, b⟩ = match m[i]? with
  | some (some (.l xs)) => if b ≤ i then some (.list xs, ⟨e.map (frzO i xs), m.set i none, b⟩) else none
  | _ => none := id rfl
@[simp] theorem frzO_n {k : Nat} : frzO k xs none = none := id rfl
@[simp] theorem frzO_d {k : Nat} : frzO k xs (some (.d x)) = some (.d x) := id rfl
@[simp] theorem frzO_c {k : Nat} : frzO k xs (some (.c j)) = if j = k then some (.d (.list xs)) else some (.c j) := id rfl
@[simp] theorem aNil_mk : aNil s = .ok ([], s) := id rfl
@[simp] theorem aConsF_mk : aCons false fa ga ⟨e, m, b⟩ = (fa ⟨e, m, b⟩).bind fun p => match toD p.1 p.2 with
  | some (x, s2) => (ga s2).bind fun q => .ok (.d x :: q.1, q.2)
  | none => .bad := by
  unfold aCons
  cases fa ⟨e, m, b⟩ <;> rfl
@[simp] theorem aConsT_mk : aCons true fa ga ⟨e, m, b⟩ = (fa ⟨e, m, b⟩).bind fun p => match p.1 with
  | .c n => (ga p.2).bind fun q => .ok (.c n :: q.1, q.2)
  | _ => .bad := by
  unfold aCons
  cases q : fa ⟨e, m, b⟩ with
  | ok a => obtain ⟨w, s⟩ := a; cases w <;> rfl
  | exc c => rfl
  | bad => rfl
@[simp] theorem eCall_mk {Fm : FM} : eCall Fm ga ⟨e, m, b⟩ = (ga ⟨e, m, b⟩).bind fun p => (Fm p.2.mem p.1).bind fun q => .ok (q.1, ⟨p.2.env, q.2, p.2.base⟩) := id rfl
@[simp] theorem sNil_mk : sNil s = .ok (.nx, s) := id rfl
@[simp] theorem sCons_mk : sCons f g ⟨e, m, b⟩ = (f ⟨e, m, b⟩).bind fun p => match p.1 with
  | .nx => g p.2
  | o => .ok (o, p.2) := id rfl
@[simp] theorem sRet_mk : sRet fa ⟨e, m, b⟩ = (fa ⟨e, m, b⟩).bind fun p => .ok (.rt p.1, p.2) := id rfl
@[simp] theorem sRetN_mk : sRetN s = .ok (.rt (.d .none), s) := id rfl
@[simp] theorem sExpr_mk : sExpr fa ⟨e, m, b⟩ = (fa ⟨e, m, b⟩).bind fun p => .ok (.nx, p.2) := id rfl
@[simp] theorem sIf_mk : sIf t f g ⟨e, m, b⟩ = (t ⟨e, m, b⟩).bind fun p => if p.1 then f p.2 else g p.2 := id rfl
@[simp] theorem sRaise_mk {c : Str} : sRaise c s = .exc c := id rfl
@[simp] theorem store_d {c : Bool} : store c i (.d x) ⟨e, m, b⟩ = if i < e.length then some ⟨e.set i (some (.d x)), m, b⟩ else none := id rfl
@[simp] theorem store_c {c : Bool} : store c i (.c j) ⟨e, m, b⟩ = if i < e.length then some ⟨e.set i (some (.c j)), m, b⟩ else none := id rfl
@[simp] theorem store_ft : store true i (.f xs) ⟨e, m, b⟩ = if i < e.length then some ⟨e.set i (some (.c m.length)), m ++ [some (.l xs)], b⟩ else none := id rfl
@[simp] theorem store_ff : store false i (.f xs) ⟨e, m, b⟩ = if i < e.length then some ⟨e.set i (some (.d (.list xs))), m, b⟩ else none := id rfl
@[simp] theorem sSet_mk {c : Bool} : sSet c i fa ⟨e, m, b⟩ = (fa ⟨e, m, b⟩).bind fun p => match store c i p.1 p.2 with
  | some s' => .ok (.nx, s')
  | none => .bad := id rfl
@[simp] theorem fnOf_mk {N : List Str} {ws : List W} : fnOf N g mem ws = fin mem (g ⟨ws.map some ++ List.replicate (N.length - ws.length) none, mem, mem.length⟩) := id rfl
@[simp] theorem fin_bind {α : Type} {r : Res α} {k : α → Res (Out × S)} : fin mem (r.bind k) = r.bind fun a => fin mem (k a) := by unfold fin; cases r <;> rfl
@[simp] theorem fin_nx : fin mem (.ok (.nx, ⟨e, m, b⟩)) = .ok (.d .none, m.take mem.length) := id rfl
@[simp] theorem fin_d : fin mem (.ok (.rt (.d x), ⟨e, m, b⟩)) = .ok (.d x, m.take mem.length) := id rfl
@[simp] theorem fin_f : fin mem (.ok (.rt (.f xs), ⟨e, m, b⟩)) = .ok (.f xs, m.take mem.length) := id rfl
@[simp] theorem fin_c : fin mem (.ok (.rt (.c i), ⟨e, m, b⟩)) = if i < mem.length then .ok (.c i, m.take mem.length) else (match m[i]? with
  | some (some (.l xs)) => .ok (.f xs, m.take mem.length)
  | _ => .bad) := id rfl
@[simp] theorem fin_exc {c : Str} : fin mem (.exc c) = .exc c := id rfl
@[simp] theorem fin_bad : fin mem .bad = .bad := id rfl
@[simp] theorem dsOf_nil : dsOf [] = some [] := id rfl
@[simp] theorem dsOf_cons {ws : List W} : dsOf (.d x :: ws) = (dsOf ws).map (x :: ·) := id rfl
@[simp] theorem eTup_mk : eTup ga ⟨e, m, b⟩ = (ga ⟨e, m, b⟩).bind fun p => match dsOf p.1 with
  | some ds => if ds.length ≤ SL.1 then .ok (.d (.tuple ds), p.2) else .bad
  | none => .bad := by rw [SL.2]; rfl
@[simp] theorem eLst_mk : eLst ga ⟨e, m, b⟩ = (ga ⟨e, m, b⟩).bind fun p => match dsOf p.1 with
  | some ds => if ds.length ≤ SL.1 then .ok (.f ds, p.2) else .bad
  | none => .bad := by rw [SL.2]; rfl
@[simp] theorem eB1_mk {gg : W → EM} : eB1 gg fa ⟨e, m, b⟩ = (fa ⟨e, m, b⟩).bind fun p => gg p.1 p.2 := id rfl
@[simp] theorem gLen_mk : gLen w ⟨e, m, b⟩ = match dat ⟨e, m, b⟩ w with
  | some (.list xs) => .ok (.d (.int xs.length), ⟨e, m, b⟩)
  | some (.tuple xs) => .ok (.d (.int xs.length), ⟨e, m, b⟩)
  | some (.str z) => if z.length ≤ SL.1 then .ok (.d (.int z.length), ⟨e, m, b⟩) else .bad
  | _ => .bad := by rw [SL.2]; rfl
@[simp] theorem gAll_mk {k : Bool} : gAll k w ⟨e, m, b⟩ = match dat ⟨e, m, b⟩ w with
  | some (.list xs) => (match boolsOf xs with
    | some bs => .ok (.d (.bool (if k then bs.any id else bs.all id)), ⟨e, m, b⟩)
    | none => .bad)
  | _ => .bad := id rfl
@[simp] theorem eIsi_mk {k : D → Bool} : eIsi k fa ⟨e, m, b⟩ = (fa ⟨e, m, b⟩).bind fun p => gIsi k p.1 p.2 := id rfl
@[simp] theorem gIsi_mk {k : D → Bool} : gIsi k w ⟨e, m, b⟩ = match dat ⟨e, m, b⟩ w with
  | some x => .ok (.d (.bool (k x)), ⟨e, m, b⟩)
  | none => .bad := id rfl
@[simp] theorem gIx_mk : gIx w1 w2 ⟨e, m, b⟩ = match dat ⟨e, m, b⟩ w1, w2 with
  | some (.list xs), .d (.int i) => (match atI xs i with
    | some x => .ok (.d x, ⟨e, m, b⟩)
    | none => .bad)
  | some (.tuple xs), .d (.int i) => (match atI xs i with
    | some x => .ok (.d x, ⟨e, m, b⟩)
    | none => .bad)
  | some (.str z), .d (.int i) => (match atI z.cps.toList i with
    | some c => if z.length ≤ SL.1 then .ok (.d (.str ⟨#[c]⟩), ⟨e, m, b⟩) else .bad
    | none => .bad)
  | _, _ => .bad := by rw [SL.2]; rfl
@[simp] theorem iOf_mk : iOf fa ⟨e, m, b⟩ = (fa ⟨e, m, b⟩).bind fun p => match toD p.1 p.2 with
  | some (.list xs, s') => .ok (xs, s')
  | some (.tuple xs, s') => .ok (xs, s')
  | some (.str z, s') => .ok (z.cps.toList.map fun (c : Nat) => PyData.str ⟨#[c]⟩, s')
  | _ => .bad := id rfl
@[simp] theorem iRange1_mk : iRange1 fa ⟨e, m, b⟩ = (fa ⟨e, m, b⟩).bind fun p => match p.1 with
  | .d (.int j) => if inB j then .ok ((List.range j.toNat).map fun (i : Nat) => PyData.int (0 + i), p.2) else .bad
  | _ => .bad := id rfl
@[simp] theorem iRange2_mk : iRange2 fa fb ⟨e, m, b⟩ = (fa ⟨e, m, b⟩).bind fun p => (fb p.2).bind fun q => match p.1, q.1 with
  | .d (.int i), .d (.int j) => if inB i && inB j then .ok ((List.range (j - i).toNat).map fun (k : Nat) => PyData.int (i + k), q.2) else .bad
  | _, _ => .bad := id rfl
@[simp] theorem iRange3_mk : iRange3 fa fb fc ⟨e, m, b⟩ = (fa ⟨e, m, b⟩).bind fun p => (fb p.2).bind fun q => (fc q.2).bind fun t => match p.1, q.1, t.1 with
  | .d (.int i), .d (.int j), .d (.int c) => if inB i && inB j && decide (c = -1) then .ok ((List.range (i - j).toNat).map fun (k : Nat) => PyData.int (i + (k : Int) * (-1)), t.2) else .bad
  | _, _, _ => .bad := id rfl
@[simp] theorem iEnumL_mk : iEnumL fa ⟨e, m, b⟩ = (lstOnly fa ⟨e, m, b⟩).bind fun p => .ok (enumFrom 0 p.1, p.2) := id rfl
@[simp] theorem lstOnly_mk : lstOnly fa ⟨e, m, b⟩ = (fa ⟨e, m, b⟩).bind fun p => match toD p.1 p.2 with
  | some (.list xs, s') => .ok (xs, s')
  | _ => .bad := id rfl
@[simp] theorem iZip2_mk : iZip2 fa fb ⟨e, m, b⟩ = (fa ⟨e, m, b⟩).bind fun p => match toD p.1 p.2 with
  | some (x, s1) => (fb s1).bind fun q => (match toD q.1 q.2 with
    | some (y, s2) => (match x, y with
      | .list xs, .list ys => .ok (zip2 xs ys, s2)
      | .tuple xs, .tuple ys => .ok (zip2 xs ys, s2)
      | _, _ => .bad)
    | none => .bad)
  | none => .bad := id rfl
@[simp] theorem iZip3_mk : iZip3 fa fb fc ⟨e, m, b⟩ = (fa ⟨e, m, b⟩).bind fun p => match p.1 with
  | .d (.tuple xs) => (fb p.2).bind fun q => (match q.1 with
    | .d (.tuple ys) => (fc q.2).bind fun r => (match r.1 with
      | .d (.tuple zs) => .ok (zip3 xs ys zs, r.2)
      | _ => .bad)
    | _ => .bad)
  | _ => .bad := id rfl
@[simp] theorem gT1_mk : gT1 i x ⟨e, m, b⟩ = if i < e.length then some ⟨e.set i (some (.d x)), m, b⟩ else none := id rfl
@[simp] theorem putAll_nil : putAll [] [] s = some s := id rfl
@[simp] theorem putAll_cons {is : List Nat} : putAll (i :: is) (x :: xs) ⟨e, m, b⟩ = if i < e.length then putAll is xs ⟨e.set i (some (.d x)), m, b⟩ else none := id rfl
@[simp] theorem gTupT_mk {is : List Nat} : gTupT is (.tuple xs) s = putAll is xs s := id rfl
@[simp] theorem gTupT_mkl {is : List Nat} : gTupT is (.list xs) s = putAll is xs s := id rfl
@[simp] theorem sTup_mk {is : List Nat} : sTup is fa ⟨e, m, b⟩ = (fa ⟨e, m, b⟩).bind fun p => match p.1 with
  | .d x => (match gTupT is x p.2 with
    | some s' => .ok (.nx, s')
    | none => .bad)
  | _ => .bad := id rfl
@[simp] theorem sFor_mk {it : IM} {tgt : GM} {body : SM} : sFor it tgt body ⟨e, m, b⟩ = (it ⟨e, m, b⟩).bind fun p => forGo tgt body p.1 p.2 := id rfl
@[simp] theorem wipeE_nil : wipeE e [] = e := id rfl
@[simp] theorem wipeE_cons {vs : List Nat} : wipeE e (i :: vs) = (wipeE e vs).set i none := id rfl
@[simp] theorem eLc_mk {own : List Nat} {it : IM} {tgt : GM} : eLc own it tgt t fe ⟨e, m, b⟩ = (it ⟨e, m, b⟩).bind fun p => (lcGo own tgt t fe p.2.env p.1 p.2 []).bind fun q => .ok (.f q.1, q.2) := id rfl
@[simp] theorem gAdd_mk : gAdd w1 w2 ⟨e, m, b⟩ = match dat ⟨e, m, b⟩ w1, dat ⟨e, m, b⟩ w2 with
  | some (.int i), some (.int j) => .ok (.d (.int (i + j)), ⟨e, m, b⟩)
  | some (.str x), some (.str y) => if x.length + y.length ≤ SL.1 then .ok (.d (.str (x ++ y)), ⟨e, m, b⟩) else .bad
  | some (.list xs), some (.list ys) => if xs.length + ys.length ≤ SL.1 then .ok (.f (xs ++ ys), ⟨e, m, b⟩) else .bad
  | some (.tuple xs), some (.tuple ys) => if xs.length + ys.length ≤ SL.1 then .ok (.d (.tuple (xs ++ ys)), ⟨e, m, b⟩) else .bad
  | _, _ => .bad := by rw [SL.2]; rfl
@[simp] theorem gMul_mk : gMul w1 w2 ⟨e, m, b⟩ = match w1, w2 with
  | .d (.int i), .d (.int j) => if cMul i j = true then .ok (.d (.int (i * j)), ⟨e, m, b⟩) else .bad
  | .f xs, .d (.int k) => if cRep xs.length k = true then .ok (.f (List.replicate k.toNat xs).flatten, ⟨e, m, b⟩) else .bad
  | .d (.tuple xs), .d (.int k) => if cRepT xs.length k = true then .ok (.d (.tuple (List.replicate k.toNat xs).flatten), ⟨e, m, b⟩) else .bad
  | _, _ => .bad := id rfl
@[simp] theorem eNeg_mk : eNeg fa ⟨e, m, b⟩ = (fa ⟨e, m, b⟩).bind fun p => match p.1 with
  | .d (.int i) => .ok (.d (.int (-i)), p.2)
  | _ => .bad := id rfl
@[simp] theorem gOrd_i {fi' : Int → Int → Bool} {fs : Str → Str → Bool} {i j : Int} : gOrd fi' fs (.d (.int i)) (.d (.int j)) s = .ok (.d (.bool (fi' i j)), s) := id rfl
@[simp] theorem gOrd_s {fi' : Int → Int → Bool} {fs : Str → Str → Bool} {i j : Str} : gOrd fi' fs (.d (.str i)) (.d (.str j)) s = .ok (.d (.bool (fs i j)), s) := id rfl
@[simp] theorem eChain_mk {g1 g2 : W → W → EM} : eChain g1 g2 fa fb fc ⟨e, m, b⟩ = (fa ⟨e, m, b⟩).bind fun p => (fb p.2).bind fun q => (g1 p.1 q.1 q.2).bind fun t => onB t.1 ((fc t.2).bind fun u => g2 q.1 u.1 u.2) (.ok (.d (.bool false), t.2)) := id rfl
@[simp] theorem gIn_mk {k : Bool} : gIn k w1 w2 ⟨e, m, b⟩ = match dat ⟨e, m, b⟩ w1, dat ⟨e, m, b⟩ w2 with
  | some x, some (.list xs) => if flatD x && xs.all flatD then .ok (.d (.bool (if k then !inD x xs else inD x xs)), ⟨e, m, b⟩) else .bad
  | some x, some (.tuple xs) => if flatD x && xs.all flatD then .ok (.d (.bool (if k then !inD x xs else inD x xs)), ⟨e, m, b⟩) else .bad
  | some (.str x), some (.str y) => (match x.cps.toList with
    | [c] => .ok (.d (.bool (if k then !decide (c ∈ y.cps.toList) else decide (c ∈ y.cps.toList))), ⟨e, m, b⟩)
    | _ => .bad)
  | _, _ => .bad := id rfl
@[simp] theorem oNone_mk : oNone s = .ok (none, s) := id rfl
@[simp] theorem oSome_mk : oSome fa ⟨e, m, b⟩ = (fa ⟨e, m, b⟩).bind fun p => match p.1 with
  | .d (.int i) => .ok (some i, p.2)
  | _ => .bad := id rfl
@[simp] theorem eSl_mk {fl fh : OM} : eSl fe fl fh ⟨e, m, b⟩ = (fe ⟨e, m, b⟩).bind fun p => (fl p.2).bind fun l => (fh l.2).bind fun h => gSl l.1 h.1 p.1 h.2 := id rfl
@[simp] theorem gSl_mk {lo hi : Option Int} : gSl lo hi w ⟨e, m, b⟩ = match dat ⟨e, m, b⟩ w with
  | some (.list xs) => .ok (.f (cutD xs lo hi), ⟨e, m, b⟩)
  | some (.tuple xs) => .ok (.d (.tuple (cutD xs lo hi)), ⟨e, m, b⟩)
  | some (.str z) => if z.length ≤ SL.1 then .ok (.d (.str (cutS z lo hi)), ⟨e, m, b⟩) else .bad
  | _ => .bad := by rw [SL.2]; rfl
@[simp] theorem gList_mk : gList w ⟨e, m, b⟩ = match dat ⟨e, m, b⟩ w with
  | some (.list xs) => .ok (.f xs, ⟨e, m, b⟩)
  | some (.tuple xs) => .ok (.f xs, ⟨e, m, b⟩)
  | _ => .bad := id rfl
@[simp] theorem gTuple_mk : gTuple w ⟨e, m, b⟩ = match dat ⟨e, m, b⟩ w with
  | some (.list xs) => .ok (.d (.tuple xs), ⟨e, m, b⟩)
  | some (.tuple xs) => .ok (.d (.tuple xs), ⟨e, m, b⟩)
  | _ => .bad := id rfl
@[simp] theorem gInt_i : gInt (.d (.int n)) s = .ok (.d (.int n), s) := id rfl
@[simp] theorem gAbs_i : gAbs (.d (.int n)) s = .ok (.d (.int (if n < 0 then -n else n)), s) := id rfl
@[simp] theorem gOrdC_s {z : Str} : gOrdC (.d (.str z)) s = if z.length = 1 then .ok (.d (.int (z.cps.getD 0 0 : Nat)), s) else .bad := id rfl
@[simp] theorem gSorted_mk : gSorted w ⟨e, m, b⟩ = match dat ⟨e, m, b⟩ w with
  | some (.list xs) => (match intsOf xs with
    | some ns => .ok (.f ((sortI ns).map PyData.int), ⟨e, m, b⟩)
    | none => .bad)
  | _ => .bad := id rfl
@[simp] theorem eJoin_mk : eJoin fa fb ⟨e, m, b⟩ = (fa ⟨e, m, b⟩).bind fun p => match p.1 with
  | .d (.str z) => (fb p.2).bind fun q => (match dat q.2 q.1 with
    | some (.list xs) => (match strsOf xs with
      | some ys => if (ys.map (·.length)).sum + ys.length * z.length ≤ 16777216 then .ok (.d (.str (Txt.join z ys)), q.2) else .bad
      | none => .bad)
    | _ => .bad)
  | _ => .bad := id rfl
@[simp] theorem eMeth_mk {gg : MM} : eMeth gg fo ga ⟨e, m, b⟩ = (fo ⟨e, m, b⟩).bind fun p => match p.1 with
  | .c n => (match p.2.mem[n]? with
    | some (some (.l _)) => (ga p.2).bind fun q => (match q.2.mem[n]? with
      | some (some (.l xs)) => (match gg xs q.1 with
        | some (x, ys) => .ok (.d x, ⟨q.2.env, q.2.mem.set n (some (.l ys)), q.2.base⟩)
        | none => .bad)
      | _ => .bad)
    | _ => .bad)
  | _ => .bad := id rfl
@[simp] theorem mAppend_mk : mAppend xs [.d x] = if xs.length < SL.1 then some (.none, xs ++ [x]) else none := by rw [SL.2]; rfl
@[simp] theorem mExtend_mk : mExtend xs [.d (.list zs)] = if xs.length + zs.length ≤ SL.1 then some (.none, xs ++ zs) else none := by rw [SL.2]; rfl
@[simp] theorem sItem_mk : sItem fe fo fi ⟨e, m, b⟩ = (fe ⟨e, m, b⟩).bind fun p => match toD p.1 p.2 with
  | some (x, s1) => (fo s1).bind fun q => (match q.1 with
    | .c n => (fi q.2).bind fun t => (match t.1, t.2.mem[n]? with
      | .d (.int i), some (some (.l xs)) => (match ixN xs.length i with
        | some j => .ok (.nx, ⟨t.2.env, t.2.mem.set n (some (.l (xs.set j x))), t.2.base⟩)
        | none => .bad)
      | _, _ => .bad)
    | _ => .bad)
  | none => .bad := id rfl
@[simp] theorem sAug_mk {k : Int → Int → Int} : sAug k i fe ⟨e, m, b⟩ = match e[i]? with
  | some (some (.d (.int x))) => (fe ⟨e, m, b⟩).bind fun p => (match p.1 with
    | .d (.int y) => if i < p.2.env.length then .ok (.nx, ⟨p.2.env.set i (some (.d (.int (k x y)))), p.2.mem, p.2.base⟩) else .bad
    | _ => .bad)
  | _ => .bad := id rfl
@[simp] theorem sPar_mk {c1 c2 : Bool} : sPar c1 c2 i j fa fb ⟨e, m, b⟩ = (fa ⟨e, m, b⟩).bind fun p => (fb p.2).bind fun q => match store c1 i p.1 q.2 with
  | some s1 => (match store c2 j q.1 s1 with
    | some s2 => .ok (.nx, s2)
    | none => .bad)
  | none => .bad := id rfl
@[simp] theorem gRev_mk : gRev w ⟨e, m, b⟩ = match dat ⟨e, m, b⟩ w with
  | some (.list xs) => .ok (.f xs.reverse, ⟨e, m, b⟩)
  | some (.tuple xs) => .ok (.d (.tuple xs.reverse), ⟨e, m, b⟩)
  | _ => .bad := id rfl
@[simp] theorem eDic_mk : eDic s = .ok (.d dicS, s) := id rfl
@[simp] theorem sNewD_mk : sNewD i ⟨e, m, b⟩ = if i < e.length then .ok (.nx, ⟨e.set i (some (.c m.length)), m ++ [some (.m [])], b⟩) else .bad := id rfl
@[simp] theorem sPut_mk : sPut fe fo fi ⟨e, m, b⟩ = (fe ⟨e, m, b⟩).bind fun p => match toD p.1 p.2 with
  | some (x, s1) => (fo s1).bind fun q => (match q.1 with
    | .c n => (fi q.2).bind fun t => (match keyOf t.1, t.2.mem[n]? with
      | some k, some (some (.m kvs)) => if kvs.length < SL.1 then .ok (.nx, ⟨t.2.env, t.2.mem.set n (some (.m (putD kvs k x))), t.2.base⟩) else .bad
      | _, _ => .bad)
    | _ => .bad)
  | none => .bad := by rw [SL.2]; rfl
@[simp] theorem keyOf_i : keyOf (.d (.int n)) = some (.inl n) := id rfl
@[simp] theorem gListM_mk : gListM (.c i) ⟨e, m, b⟩ = match m[i]? with
  | some (some (.m kvs)) => .ok (.f (kvs.map fun kv => kD kv.1), ⟨e, m, b⟩)
  | _ => .bad := id rfl
@[simp] theorem eTupRg_mk : eTupRg fa ⟨e, m, b⟩ = (fa ⟨e, m, b⟩).bind fun p => match p.1 with
  | .d (.int n) => if 0 ≤ n ∧ n ≤ 16777216 then .ok (.d (.tuple (rgD n)), p.2) else .bad
  | _ => .bad := id rfl
@[simp] theorem eLenKeys_mk : eLenKeys i fa ⟨e, m, b⟩ = (fa ⟨e, m, b⟩).bind fun p => match p.1 with
  | .d (.tuple xs) => (match intsOf xs with
    | some ns => if ns.length < SL.1 ∧ i < p.2.env.length then .ok (.d (.int (keysV ns).length), p.2) else .bad
    | none => .bad)
  | _ => .bad := by rw [SL.2]; rfl
@[simp] theorem take_set_self {α : Type} {l : List α} {k : Nat} {x : α} : (l.set k x).take l.length = l.set k x := List.take_of_length_le (by simp)
@[simp] theorem take_set_app {α : Type} {l r : List α} {k : Nat} {x : α} : (l.set k x ++ r).take l.length = l.set k x := by
  have h : l.length = (l.set k x).length := by simp
  rw [h, List.take_left']
  rfl
theorem atI_nat {α : Type} {l : List α} {k : Nat} : atI l (k : Int) = l[k]? := by
  unfold atI ixN
  rw [if_pos (by omega)]
  by_cases h : k < l.length
  · rw [if_pos (by omega)]
    simp
  · rw [if_neg (by omega), List.getElem?_eq_none (by omega)]
    rfl
@[simp] theorem atI_k {α : Type} {l : List α} {k : Nat} : atI l (k : Int) = l[k]? := atI_nat
@[simp] theorem atI_k1 {α : Type} {l : List α} {k : Nat} : atI l ((k : Int) + 1) = l[k + 1]? := atI_nat (k := k + 1)
@[simp] theorem atI_0 {α : Type} {l : List α} : atI l 0 = l[0]? := atI_nat (k := 0)
@[simp] theorem atI_1 {α : Type} {l : List α} : atI l 1 = l[1]? := atI_nat (k := 1)
@[simp] theorem atI_2 {α : Type} {l : List α} : atI l 2 = l[2]? := atI_nat (k := 2)
@[simp] theorem atI_3 {α : Type} {l : List α} : atI l 3 = l[3]? := atI_nat (k := 3)
@[simp] theorem atI_4 {α : Type} {l : List α} : atI l 4 = l[4]? := atI_nat (k := 4)
@[simp] theorem atI_5 {α : Type} {l : List α} : atI l 5 = l[5]? := atI_nat (k := 5)
@[simp] theorem atI_6 {α : Type} {l : List α} : atI l 6 = l[6]? := atI_nat (k := 6)
@[simp] theorem atI_7 {α : Type} {l : List α} : atI l 7 = l[7]? := atI_nat (k := 7)
@[simp] theorem atI_8 {α : Type} {l : List α} : atI l 8 = l[8]? := atI_nat (k := 8)
@[simp] theorem atI_9 {α : Type} {l : List α} : atI l 9 = l[9]? := atI_nat (k := 9)
@[simp] theorem atI_last {α : Type} {l : List α} : atI l (-1) = l.getLast? := by
  unfold atI ixN
  rw [if_neg (by decide)]
  cases l with
  | nil => rfl
  | cons x r =>
    rw [if_pos (by simp; omega)]
    rw [List.getLast?_eq_getElem?]
    have : (-1 + ((x :: r).length : Int)).toNat = (x :: r).length - 1 := by simp; omega
    rw [Option.bind_some, this]
@[simp] theorem ixN_0 {k : Nat} : ixN (k + 1) 0 = some 0 := by unfold ixN; rw [if_pos (by decide), if_pos (by omega)]; rfl
@[simp] theorem ixN_1 {k : Nat} : ixN (k + 1 + 1) 1 = some 1 := by unfold ixN; rw [if_pos (by decide), if_pos (by omega)]; rfl
theorem ixN_nat {n k : Nat} (h : k < n) : ixN n (k : Int) = some k := by unfold ixN; rw [if_pos (by omega), if_pos (by omega)]; rfl
end
/-! ### loops -/
section
variable {tgt : GM} {body : SM} {t : TM} {fe : EM} {X : Str → Prop}
/-- what a turn's end asks -/
def turnQ (nxt : S → Prop) (Q : Out × S → Prop) : Out × S → Prop := fun p => match p.1 with
  | .nx => nxt p.2
  | .ct => nxt p.2
  | .bk => Q (.nx, p.2)
  | .rt w => Q (.rt w, p.2)
@[simp] theorem turnQ_nx {nxt : S → Prop} {Q : Out × S → Prop} {s : S} : turnQ nxt Q (.nx, s) = nxt s := id rfl
@[simp] theorem turnQ_ct {nxt : S → Prop} {Q : Out × S → Prop} {s : S} : turnQ nxt Q (.ct, s) = nxt s := id rfl
@[simp] theorem turnQ_bk {nxt : S → Prop} {Q : Out × S → Prop} {s : S} : turnQ nxt Q (.bk, s) = Q (.nx, s) := id rfl
@[simp] theorem turnQ_rt {nxt : S → Prop} {Q : Out × S → Prop} {s : S} {w : W} : turnQ nxt Q (.rt w, s) = Q (.rt w, s) := id rfl
theorem forGo_wp {Q : Out × S → Prop} (I : List D → S → Prop) (step : ∀ d r s, I (d :: r) s → ∃ s1, tgt d s = some s1 ∧ (body s1).wp (turnQ (I r) Q) X) (done : ∀ s, I [] s → Q (.nx, s)) : ∀ (xs : List D) (s : S), I xs s → (forGo tgt body xs s).wp Q X
  | [], s, h => done s h
  | d :: r, s, h => by
    obtain ⟨s1, e, h1⟩ := step d r s h
    unfold forGo
    rw [e]
    dsimp only
    rw [Res.wp_bind]
    refine Res.wp_mono h1 (fun p hp => ?_) fun c hc => hc
    obtain ⟨o, s2⟩ := p
    cases o with
    | nx => exact forGo_wp I step done r s2 hp
    | ct => exact forGo_wp I step done r s2 hp
    | bk => exact hp
    | rt w => exact hp
theorem whGo_wp {Q : Out × S → Prop} (I : S → Prop) (μ : S → Nat) (step : ∀ s, I s → (t s).wp (fun b => if b.1 then (body b.2).wp (turnQ (fun s' => I s' ∧ μ s' < μ s) Q) X else Q (.nx, b.2)) X) : ∀ (n : Nat) (s : S), I s → μ s < n → (whGo t body n s).wp Q X
  | 0, s, _, h => by omega
  | n + 1, s, hI, h => by
    unfold whGo
    rw [Res.wp_bind]
    refine Res.wp_mono (step s hI) (fun b hb => ?_) fun c hc => hc
    obtain ⟨b, s1⟩ := b
    cases b with
    | false => exact hb
    | true =>
      dsimp only at hb ⊢
      rw [if_pos rfl] at hb ⊢
      rw [Res.wp_bind]
      refine Res.wp_mono hb (fun p hp => ?_) fun c hc => hc
      obtain ⟨o, s2⟩ := p
      cases o with
      | nx => exact whGo_wp I μ step n s2 hp.1 (by have := hp.2; dsimp only at this; omega)
      | ct => exact whGo_wp I μ step n s2 hp.1 (by have := hp.2; dsimp only at this; omega)
      | bk => exact hp
      | rt w => exact hp
/-- a comprehension: the rest, the state (its env is env0 between the turns), what is made -/
theorem lcGo_wp {own : List Nat} {env0 : List (Option W)} {Q : List D × S → Prop} (I : List D → List (Option Cell) → Nat → List D → Prop)
    (step : ∀ d r m b acc, I (d :: r) m b acc → ∃ s1, tgt d ⟨wipeE env0 own, m, b⟩ = some s1 ∧ (nox (t s1)).wp (fun c => if c.1 then (nox (fe c.2)).wp (fun p => ∃ x s3, toD p.1 p.2 = some (x, s3) ∧ acc.length < sizeLine ∧ I r s3.mem s3.base (acc ++ [x])) X else I r c.2.mem c.2.base acc) X)
    (done : ∀ m b acc, I [] m b acc → Q (acc, ⟨env0, m, b⟩)) : ∀ (xs : List D) (s : S) (acc : List D), s.env = env0 → I xs s.mem s.base acc → (lcGo own tgt t fe env0 xs s acc).wp Q X
  | [], s, acc, he, h => by
    obtain ⟨e, m, b⟩ := s
    dsimp only at he
    subst he
    exact done m b acc h
  | d :: r, s, acc, he, h => by
    obtain ⟨e, m, b⟩ := s
    obtain ⟨s1, e1, h1⟩ := step d r m b acc h
    unfold lcGo
    dsimp only
    rw [e1]
    dsimp only
    rw [Res.wp_bind]
    refine Res.wp_mono h1 (fun c hc => ?_) fun c hc => hc
    obtain ⟨c, s2⟩ := c
    cases c with
    | false => exact lcGo_wp I step done r ⟨env0, s2.mem, s2.base⟩ acc rfl hc
    | true =>
      dsimp only at hc ⊢
      rw [if_pos rfl] at hc ⊢
      rw [Res.wp_bind]
      refine Res.wp_mono hc (fun p hp => ?_) fun c hc => hc
      obtain ⟨x, s3, e3, hl, hI⟩ := hp
      rw [e3]
      dsimp only
      rw [if_pos hl]
      exact lcGo_wp I step done r ⟨env0, s3.mem, s3.base⟩ (acc ++ [x]) rfl hI
/-- .. that only looks: each item kept or not, and made -/
theorem lcGo_pure {own : List Nat} {env0 : List (Option W)} {m : List (Option Cell)} {b : Nat} (k : D → Option D) : ∀ (xs acc : List D)
    (_ : ∀ d ∈ xs, ∃ s1, tgt d ⟨wipeE env0 own, m, b⟩ = some s1 ∧ ((k d = none ∧ ∃ e2, t s1 = .ok (false, ⟨e2, m, b⟩)) ∨ ∃ x e2 w e3 e4, k d = some x ∧ t s1 = .ok (true, ⟨e2, m, b⟩) ∧ fe ⟨e2, m, b⟩ = .ok (w, ⟨e3, m, b⟩) ∧ toD w ⟨e3, m, b⟩ = some (x, ⟨e4, m, b⟩))) (_ : acc.length + xs.length ≤ sizeLine),
    lcGo own tgt t fe env0 xs ⟨env0, m, b⟩ acc = .ok (acc ++ xs.filterMap k, ⟨env0, m, b⟩)
  | [], acc, _, _ => by simp [lcGo]
  | d :: r, acc, h, hl => by
    obtain ⟨s1, e1, h1⟩ := h d (List.mem_cons_self ..)
    unfold lcGo
    dsimp only
    rw [e1]
    dsimp only
    rw [List.length_cons] at hl
    rcases h1 with ⟨kd, e2, ht⟩ | ⟨x, e2, w, e3, e4, kd, ht, hf, hd⟩
    · rw [ht, nox_ok, Res.bind_ok]
      dsimp only
      rw [if_neg Bool.false_ne_true, lcGo_pure k r acc (fun d hd => h d (List.mem_cons_of_mem _ hd)) (by omega), List.filterMap_cons, kd]
    · rw [ht, nox_ok, Res.bind_ok]
      dsimp only
      rw [if_pos rfl, hf, nox_ok, Res.bind_ok]
      dsimp only
      rw [hd]
      dsimp only
      rw [if_pos (by omega), lcGo_pure k r (acc ++ [x]) (fun d hd => h d (List.mem_cons_of_mem _ hd)) (by simp; omega), List.filterMap_cons, kd]
      simp
/-- .. without a test -/
theorem lcGo_map {own : List Nat} {env0 : List (Option W)} {m : List (Option Cell)} {b : Nat} (k : D → D) (xs : List D)
    (h : ∀ d ∈ xs, ∃ s1, tgt d ⟨wipeE env0 own, m, b⟩ = some s1 ∧ t s1 = .ok (true, s1) ∧ ∃ e3, s1 = ⟨s1.env, m, b⟩ ∧ fe s1 = .ok (.d (k d), ⟨e3, m, b⟩)) (hl : xs.length ≤ sizeLine) :
    lcGo own tgt t fe env0 xs ⟨env0, m, b⟩ [] = .ok (xs.map k, ⟨env0, m, b⟩) := by
  rw [lcGo_pure (fun d => some (k d)) xs [] (fun d hd => ?_) (by simpa using hl)]
  · simp
  · obtain ⟨s1, e1, ht, e3, es, hf⟩ := h d hd
    refine ⟨s1, e1, .inr ⟨k d, s1.env, .d (k d), e3, e3, rfl, ?_, ?_, rfl⟩⟩
    · rw [ht, ← es]
    · rw [← es]; exact hf
end
theorem sizeLine_big : 16777216 ≤ sizeLine := by rw [sizeLine_eq]; decide
theorem SL_big : 16777216 ≤ SL.1 := by rw [SL.2]; exact sizeLine_big
theorem cRep_ok {n : Nat} {k : Int} (h : -16777216 ≤ k) (h1 : k ≤ 16777216) (h2 : n * k.toNat ≤ 16777216) : cRep n k = true := by
  rw [cRep_eq]
  exact decide_eq_true ⟨by omega, by omega, Nat.le_trans h2 sizeLine_big⟩
theorem cRepT_ok {n : Nat} {k : Int} (h : n ≠ 0) (h1 : 2 ≤ k) (h2 : k ≤ 1000) (h3 : n ≤ 1000) : cRepT n k = true := by
  rw [cRepT_eq]
  exact decide_eq_true ⟨h, h1, h2, h3⟩
theorem SL_le {n : Nat} (h : n ≤ 16777216) : n ≤ SL.1 := Nat.le_trans h SL_big
theorem SL_lt {n : Nat} (h : n < 16777216) : n < SL.1 := Nat.lt_of_lt_of_le h SL_big
end
end PD

set_option Elab.async false
set_option linter.all false
set_option maxRecDepth 100000
set_option maxHeartbeats 4000000
/-! PDX: a call with a list that was just made, as a cell of its own -/
namespace PD
noncomputable section
open PySem PySem.Spec PyProof.Rows L2
section
variable {K : KW} {F : Addr → Prop} {G H : Hp} {as : List Addr} {s : S} {σ : L2.St}
/-- an object that nobody knows may be anything -/
theorem Rep.touch {p : Addr} {o : HO} (R : Rep K F G H as σ s) (g : G p = none) (na : p ∉ as) (nf : ¬ F p) : Rep K F G (upd H p o) as σ s :=
  ⟨fun b u e => by
    have : b ≠ p := fun z => by rw [z, g] at e; cases e
    rw [upd_ne this]; exact R.same b u e, R.len, R.alen, R.nd, fun a h => by
    have : a ≠ p := fun z => na (z ▸ h)
    rw [upd_ne this]; exact R.dom a h, fun a h => by
    obtain ⟨k1, k2, k3⟩ := R.fo a h
    have : a ≠ p := fun z => nf (z ▸ h)
    exact ⟨k1, k2, by rw [upd_ne this]; exact k3⟩, fun n c e => by
    obtain ⟨a, k1, k2, k3⟩ := R.cell n c e
    have : a ≠ p := fun z => na (z ▸ List.mem_of_getElem? k1)
    exact ⟨a, k1, k2, k3.mono (Same.refl _) fun o z => by rw [upd_ne this]; exact z⟩, fun i w e => by
    obtain ⟨v, k1, k2, k3⟩ := R.env i w e
    refine ⟨v, k1, ?_, k3⟩
    cases w with
    | d x => exact k2
    | c n => exact k2
    | f ys => exact absurd rfl (k3 ys)⟩
/-- nothing is known of the cells any more -/
def forget (m : List (Option Cell)) : List (Option Cell) := m.map fun _ => none
theorem forget_no {m : List (Option Cell)} {n : Nat} {c : Cell} (h : (forget m)[n]? = some (some c)) : False := by
  unfold forget at h
  rw [List.getElem?_map] at h
  cases e : m[n]? with
  | none => rw [e] at h; cases h
  | some o => rw [e] at h; cases h
theorem Rep.forget (R : Rep K F G H as σ s) : Rep K F G H as σ { s with mem := PD.forget s.mem } :=
  ⟨R.same, R.len, by rw [R.alen]; unfold PD.forget; simp, R.nd, R.dom, R.fo, fun n c e => (forget_no e).elim, R.env⟩
theorem not_live_forget {m : List (Option Cell)} {env : List (Option W)} {b : Nat} {a : Addr} : ¬ live as ⟨env, PD.forget m, b⟩ a := fun ⟨n, c, e, _⟩ => forget_no e
end
def eCallF (Fm : FM) (f : EM) : EM := fun s => (f s).bind fun p => match p.1 with
  | .f xs => (Fm [some (.l xs)] [.c 0]).bind fun q => (match q.1 with
    | .d x => .ok (.d x, p.2)
    | _ => .bad)
  | _ => .bad
section
variable {X : Cx} {E : XK} {e : Expr} {fe : EM} {k j : Nat} {x : Str} {ps : List Str} {Fm : FM} {p pos : Pos}
theorem pd_callF (c : Df X.prog X.w X.K X.mg X.base k x ps Fm) (hr : Room j X.A) (ha : PDE X E e fe) (hx : Passes (L2.CX X.prog X.w) X E) (hn : ps.length = 1 := by rfl) (hkj : k ≤ j := by decide) (hg : Gl X x := by rfl) (hdb : (x == ("__debug__" : Str)) = false := by decide)
    (he : starEach [e] X.env = (false, eval e X.env) :: starEach [] X.env := by rfl) (hpl : (backTo pos (starEach [] X.env)).any (·.1) = false := by rfl) : PDE X E (.Call (.Name x p) [e] [] pos) (eCallF Fm fe) := by
  obtain ⟨fa, fd, Fn, hm, kp, b⟩ := c.ex
  refine ⟨PE.imp (pe_call Fn (hr.mono hkj) hg hm kp b .nil hx (pa_cons ha.pe pa_nil he) hdb he hpl) fun σ H Q h => ?_⟩
  obtain ⟨F, G, as, s, R, h⟩ := h
  refine ⟨F, G, as, s, R, ?_⟩
  unfold eCallF at h
  cases q : fe s with
  | exc c => rw [q] at h; exact h
  | bad => rw [q] at h; exact h
  | ok t =>
    obtain ⟨w, s1⟩ := t
    rw [q, Res.bind_ok] at h
    dsimp only at h
    intro v G1 H1 R1 X1 r1 n1
    cases w with
    | d y => exact h.elim
    | c n => exact h.elim
    | f xs =>
      dsimp only at h
      obtain ⟨a, vs, rfl, ha1, ga, nas, nF, ra⟩ := r1
      have Ha : H a = none := n1 xs a rfl rfl
      show spF X.kw X.mg ps.length Fm ([V.ref a] ++ []) H1 Q E
      have R2 : Rep X.kw (fun b => F b ∨ live as s1 b) G1 H1 [a] [] ⟨[], [some (.l xs)], 0⟩ :=
        ⟨R1.same, rfl, rfl, by simp, fun b hb => by rw [List.mem_singleton.mp hb]; exact ⟨_, ha1⟩, fun b hb => by
          rcases hb with hb | ⟨n, c, hb1, hb2⟩
          · obtain ⟨k1, k2, k3⟩ := R1.fo b hb
            exact ⟨k1, fun z => nF (List.mem_singleton.mp z ▸ hb), k3⟩
          · obtain ⟨k1, k2⟩ := R1.cellAt hb1 hb2
            exact ⟨k1, fun z => nas (List.mem_singleton.mp z ▸ List.mem_of_getElem? hb2), R1.dom b (List.mem_of_getElem? hb2)⟩, fun n c e => by
          (cases n with
          | zero =>
            have e : some (some (Cell.l xs)) = some (some c) := e
            cases e
            exact ⟨a, rfl, ga, vs, ha1, ra⟩
          | succ n => cases e), fun i w e => by simp at e⟩
      refine ⟨_, G1, [a], [some (.l xs)], [.c 0], by simp [hn], R2, .c rfl .nil, ?_⟩
      have liveA : ∀ b, live [a] ⟨[], [some (.l xs)], 0⟩ b → b = a := fun b ⟨n, c, _, z⟩ => by
        have := List.mem_of_getElem? z
        exact List.mem_singleton.mp this
      cases q2 : Fm [some (.l xs)] [.c 0] with
      | exc c =>
        rw [q2] at h
        exact fun C H' hc kk => h C H' hc fun b o hb nl => kk b o (X1.keep b o hb nl) fun z => by
          rw [liveA b z, Ha] at hb
          cases hb
      | bad => rw [q2] at h; exact h
      | ok t2 =>
        obtain ⟨w2, mem'⟩ := t2
        rw [q2, Res.bind_ok] at h
        dsimp only at h
        intro v2 G2 H2 R3 X3 r3 n3
        cases w2 with
        | c n => exact h.elim
        | f ys => exact h.elim
        | d y =>
          have kp2 : ∀ b o, H1 b = some o → b ≠ a → H2 b = some o := fun b o hb nb => X3.keep b o hb fun z => nb (liveA b z)
          refine h v2 G2 H2 ⟨R3.same, R1.len, R1.alen, R1.nd, fun b hb => ?_, fun b hb => ?_, fun n c e => ?_, fun i w e => ?_⟩ ⟨X1.same.trans X3.same, fun b o hb nl => kp2 b o (X1.keep b o hb nl) fun z => ?_, fun b hb => X1.new b hb⟩ r3 fun _ _ z _ => nomatch z
          · obtain ⟨o, e⟩ := R1.dom b hb
            exact ⟨o, kp2 b o e fun z => nas (z ▸ hb)⟩
          · obtain ⟨k1, k2, o, k3⟩ := R1.fo b hb
            exact ⟨(R3.fo b (.inl hb)).1, k2, o, kp2 b o k3 fun z => nF (z ▸ hb)⟩
          · obtain ⟨b, k1, k2, k3⟩ := R1.cell n c e
            have nb : b ≠ a := fun z => nas (z ▸ List.mem_of_getElem? k1)
            exact ⟨b, k1, (R3.fo b (.inr ⟨n, c, e, k1⟩)).1, k3.mono X3.same fun o z => kp2 b o z nb⟩
          · obtain ⟨u, k1, k2, k3⟩ := R1.env i w e
            refine ⟨u, k1, ?_, k3⟩
            cases w with
            | d x => exact Rp.mono X3.same k2
            | c n => exact k2
            | f ys => exact absurd rfl (k3 ys)
          · rw [z, Ha] at hb
            cases hb
end
end
end PD

set_option Elab.async false
set_option linter.all false
set_option maxRecDepth 100000
set_option maxHeartbeats 4000000
namespace PySem
namespace SeqAt
open Sem (wp)
theorem str_eq_declines_dict (b : Str) (u : Tok) (l : Addr) (c : Value) (es : Array DictEntry) (n : Nat) (dd : Option Addr) (sl : Array (Option Value)) :
    Meets (Builtin.«str.__eq__» ⟨[.str b u, .ref l], []⟩) (fun _ R s => s.heap.get? l = some { cls := c, dict := dd, data := .dict es n, slots := sl } ∧ R (.ok (.ret .notImplemented)) s) :=
  .of_wp fun prog w A R s h => by obtain ⟨hp, g, d, tk, os⟩ := s; obtain ⟨hl, h⟩ := h; wp_walk using wpAny_loadPart' hl, wpAny_load hl; exact ⟨_, rfl, h⟩
theorem dict_eq_declines_str (prog : Program) (w : World) (b : Str) (u : Tok) (l : Addr) :
    MeetsIn prog w (Builtin.«dict.__eq__» ⟨[.ref l, .str b u], []⟩) (fun _ R s => s.TypeIs (.ref l) "dict" ∧ R (.ok (.ret .notImplemented)) s) :=
  .of_wp fun A R s h => by
    obtain ⟨hT, h⟩ := h
    show wpAny _ _ (Builtin.Dict.dictSlotArgs "__eq__" ⟨[.ref l, .str b u], []⟩ >>= _) _ _ s
    refine wpAny_bind ?_
    unfold Builtin.Dict.dictSlotArgs
    refine wpAny_bind (wpAny_notOrdered_dict hT ?_)
    refine wpAny_bind (wpAny_pure ?_)
    refine wpAny_pure ?_
    show wpAny _ _ (isInstance (.str b u) (.type "dict") >>= _) _ _ s
    refine wpAny_bind (wpAny_isInstance (T := "str") (b := false) (typeIs_str s b u) F.sub_str_dict ?_)
    rw [if_pos (show (!false) = true from rfl)]
    exact wpAny_bind (wpAny_rule (wpAny_pure ⟨_, rfl, h⟩))
variable {A : Around} {s : Shared} {prog : Program} {w : World}
theorem str_dict {l : Addr} {o : Obj} {es : Array DictEntry} {ep : Nat} (b : Str) (u : Tok) (ho : s.heap.get? l = some o) (hc : o.ExactDict) (hd : o.data = .dict es ep) (hu : A.units < cLine) : EqAt A s (.str b u) (.ref l) false := fun prog w E Q h => by
  obtain ⟨cls, dd, data, sl⟩ := o
  simp only at hd
  subst hd
  have hc' : cls = .type "dict" := hc.1
  subst hc'
  unfold eqBool
  refine wpAny_holding ?_
  refine wpAny_ite_split (fun hab => absurd (eq_of_beq hab) nofun) (fun _ => ?_)
  refine wpAny_bind ?_
  exact rc_eq_decline_or (k := false) (typeIs_str s b u) ⟨_, ho, rfl⟩ (by decide) F.sub_dict_str F.slot_str_eq F.slot_dict_eq_refl
    (fun _ hq => call_meets F.slot_str_eq (typeIs_str s b u) F.entry_str_eq (F.args_str_eq_2 _ _) (str_eq_declines_dict b u l (.type "dict") es ep dd sl) ⟨ho, hq⟩)
    (fun _ hq => call_meetsIn F.slot_dict_eq_refl ⟨_, ho, rfl⟩ F.entry_dict_eq (F.args_dict_eq_2 _ _) (dict_eq_declines_str prog w b u l) ⟨⟨_, ho, rfl⟩, hq⟩)
    (fun _ hq => wpAny_of_eq (rfl : isSame (.str b u) (.ref l) = pure false) hq) (.inr hu) (wpAny_truthy_bool h)
end SeqAt
end PySem

namespace PD
noncomputable section
open PySem PySem.Spec PyProof.Rows L2
/-! ### a thing of any kind among texts -/
def strsD : List D → Option (List Str)
  | [] => some []
  | .str x :: r => (strsD r).map (x :: ·)
  | _ :: _ => none
theorem strsD_ok {K : KW} {G : Hp} : ∀ {vs : List V} {ds : List D} {bs : List Str}, RpA K G vs ds → strsD ds = some bs → vs = bs.map V.str
  | _, _, _, .nil, e => by cases e; rfl
  | _, _, bs, .cons (ds := ds) (.str b) r, e => by
    have e : (strsD ds).map (b :: ·) = some bs := e
    cases q : strsD ds with
    | none => rw [q] at e; cases e
    | some es => rw [q] at e; cases e; rw [strsD_ok r q]; rfl
  | _, _, _, .cons .non _, e => nomatch e
  | _, _, _, .cons (.int _) _, e => nomatch e
  | _, _, _, .cons (.bl _) _, e => nomatch e
  | _, _, _, .cons (.lst _ _) _, e => nomatch e
  | _, _, _, .cons (.tup _ _) _, e => nomatch e
  | _, _, _, .cons (.dic _ _) _, e => nomatch e
  | _, _, _, .cons (.dicN _ _) _, e => nomatch e
/-- what a value is, for == with a text -/
inductive KindY (K : KW) (H : Hp) : V → Prop
  | flat {v : V} : flatV v = true → KindY K H v
  | lst {a : Addr} {xs : List V} : SqL K H a xs → KindY K H (.ref a)
  | tup {a : Addr} {xs : List V} : SqT K H a xs → KindY K H (.ref a)
  | dK {a : Addr} {kvs : List (Key × V)} : H a = some (.dK kvs) → KindY K H (.ref a)
  | dN {a : Addr} {o : Obj} {es : List (NestedKey × Addr × V)} : H a = some (.frz o (dN K a es)) → KindY K H (.ref a)
theorem KindY.of {K : KW} {H : Hp} {v : V} {x : D} (r : Rp K H v x) : KindY K H v := by
  cases r with
  | non => exact .flat rfl
  | bl => exact .flat rfl
  | int => exact .flat rfl
  | str => exact .flat rfl
  | lst h _ => exact .lst h
  | tup h _ => exact .tup h
  | dic h _ => exact .dK h
  | dicN h _ => exact .dN h
def inStr (x : V) (ys : List Str) : Bool := match x with
  | .str z => ys.any fun y => decide (y = z)
  | _ => false
def eqStrU (x : V) (u : Value) : Bool := match x, u with
  | .str z, .str y _ => decide (y = z)
  | _, _ => false
theorem kindEq {X : Cx} {pins : List (Addr × Obj)} {σ : L2.St} {H : Hp} {s : Shared} {x : V} {v : Value} {A : Around} (I : Inv X pins σ H s) (k : KindY X.kw H x) (rx : RelV x v) (hu : A.units < cLine) (y : Str) (t : Tok) : SeqAt.EqAt A s (.str y t) v (eqStrU x (.str y t)) := by
  cases k with
  | flat f =>
    cases x with
    | non => cases rx; exact SeqAt.EqAt.str_none y t
    | bl b => cases rx; exact SeqAt.EqAt.str_bool y t b
    | int i => obtain ⟨u, rfl⟩ := rx; exact SeqAt.EqAt.str_int y t i u
    | str z => obtain ⟨u, rfl⟩ := rx; exact SeqAt.EqAt.str_str y t z u
    | _ => cases f
  | lst h =>
    cases rx
    obtain ⟨its, r, pl, hz⟩ := I.list h
    exact SeqAt.EqAt.str_list y t pl.isList hu
  | tup h =>
    cases rx
    obtain ⟨its, r, pl, hz⟩ := I.tuple h
    exact SeqAt.EqAt.str_tuple y t pl hu
  | dK h =>
    cases rx
    obtain ⟨_, _, vs, _, o, es, ep, h1, h2, h3, _⟩ := (show ObjOk X.prog X.w H s.heap _ (.dK _) from I.hok _ _ h)
    exact SeqAt.str_dict y t h1 h2 h3 hu
  | dN h =>
    cases rx
    obtain ⟨_, ⟨_, _, _, _, o, _, _, ho, hx, hd, _⟩, _⟩ := (show ObjOk X.prog X.w H s.heap _ (.frz _ (dN X.kw _ _)) from I.hok _ _ h)
    exact SeqAt.str_dict y t ho hx hd hu
theorem any_eqStr {x : V} : ∀ {ys : List Str} {us : List Value}, Vals (ys.map V.str) us → us.any (eqStrU x) = inStr x ys
  | [], _, .nil => by cases x <;> rfl
  | y :: ys, _, .cons r t => by
    obtain ⟨u, rfl⟩ := r
    rw [List.any_cons, any_eqStr t]
    cases x <;> first | rfl | simp [eqStrU, inStr]
theorem mem_strs : ∀ {ys : List Str} {us : List Value}, Vals (ys.map V.str) us → ∀ u ∈ us, ∃ y t, u = Value.str y t
  | [], _, .nil, _, h => nomatch h
  | y :: ys, _, .cons r t, u, h => by
    rcases List.mem_cons.mp h with rfl | h
    · obtain ⟨t, rfl⟩ := r; exact ⟨_, _, rfl⟩
    · exact mem_strs t u h
def rInS (K : KW) (neg : Bool) : R2 := fun x y H Q => ∃ p ys, y = .ref p ∧ SqT K H p (ys.map V.str) ∧ KindY K H x ∧ Q (.bl (if neg then !inStr x ys else inStr x ys)) H
section
variable {X : Cx} {E : XK} {a b c e : Expr} {fa fb fc fe : EM} {pos : Pos} {k : Nat}
theorem op_notInS (hr : Room k X.A) : OpR X (compareOp .NotIn) (rInS X.kw true) := by
  intro pins s σ H x y v u Q I rx ry h
  obtain ⟨p, ys, rfl, hq, kx, q⟩ := h
  cases ry
  obtain ⟨its, r, pl, hz⟩ := I.tuple hq
  refine SeqAt.notIn_tupleAt (eqStrU x) pl (fun w hw => ?_) ⟨.bl _, H, I, rfl, ?_⟩
  · obtain ⟨z, t, rfl⟩ := mem_strs r w (by simpa using hw)
    exact kindEq I kx rx (by have := hr.units; show X.A.units + 1 < cLine; omega) z t
  · rw [show its.toArray.any (eqStrU x) = its.any (eqStrU x) by simp, any_eqStr r]
    exact q
theorem op_inS (hr : Room k X.A) : OpR X (compareOp .In) (rInS X.kw false) := by
  intro pins s σ H x y v u Q I rx ry h
  obtain ⟨p, ys, rfl, hq, kx, q⟩ := h
  cases ry
  obtain ⟨its, r, pl, hz⟩ := I.tuple hq
  refine SeqAt.in_tupleAt (eqStrU x) pl (fun w hw => ?_) ⟨.bl _, H, I, rfl, ?_⟩
  · obtain ⟨z, t, rfl⟩ := mem_strs r w (by simpa using hw)
    exact kindEq I kx rx (by have := hr.units; show X.A.units + 1 < cLine; omega) z t
  · rw [show its.toArray.any (eqStrU x) = its.any (eqStrU x) by simp, any_eqStr r]
    exact q
def inStrD (x : D) (ys : List Str) : Bool := match x with
  | .str z => ys.any fun y => decide (y = z)
  | _ => false
theorem inStrD_of {K : KW} {H : Hp} {v : V} {x : D} (r : Rp K H v x) (ys : List Str) : inStr v ys = inStrD x ys := by
  cases r <;> rfl
def gInS (neg : Bool) : W → W → EM := fun wa wb s => match dat s wa, wb with
  | some x, .d (.tuple xs) => (match strsD xs with
    | some ys => .ok (.d (.bool (if neg then !inStrD x ys else inStrD x ys)), s)
    | none => .bad)
  | _, _ => .bad
theorem od_inS {neg : Bool} : OpD X E (rInS X.kw neg) (gInS neg) := fun F G H as s σ x y wa wb Q R ra rb h => by
  unfold gInS at h
  split at h
  · rename_i x xs e1
    split at h
    · rename_i ys e2
      cases rb with
      | tup h1 h2 =>
        have rx := dat_rp R ra e1
        refine ⟨_, ys, rfl, seqT R.same (by rw [← strsD_ok h2 e2]; exact h1), .of rx, ?_⟩
        rw [inStrD_of rx]
        exact eK.val R h (.bl _)
    · exact h.elim
  · exact h.elim
theorem pd_inS (hr : Room k X.A) (ha : PDE X E a fa) (hb : PDE X E b fb) (hm : behindInMarks .In b = false := by rfl) : PDE X E (.Compare a [.In] [b] pos) (eBin (gInS false) fa fb) := pd_cmp (op_inS hr) od_inS ha hb hm
theorem pd_notInS (hr : Room k X.A) (ha : PDE X E a fa) (hb : PDE X E b fb) (hm : behindInMarks .NotIn b = false := by rfl) : PDE X E (.Compare a [.NotIn] [b] pos) (eBin (gInS true) fa fb) := pd_cmp (op_notInS hr) od_inS ha hb hm
theorem pdt_inS (hr : Room k X.A) (ha : PDE X E a fa) (hb : PDE X E b fb) (hm : behindInMarks .In b = false := by rfl) : PDT X E (.Compare a [.In] [b] pos) (tOf (eBin (gInS false) fa fb)) := pdt_cmp (op_inS hr) od_inS ha hb hm
theorem pdt_notInS (hr : Room k X.A) (ha : PDE X E a fa) (hb : PDE X E b fb) (hm : behindInMarks .NotIn b = false := by rfl) : PDT X E (.Compare a [.NotIn] [b] pos) (tOf (eBin (gInS true) fa fb)) := pdt_cmp (op_notInS hr) od_inS ha hb hm
end
end
end PD

set_option Elab.async false
set_option linter.all false
set_option maxRecDepth 100000
set_option maxHeartbeats 4000000
namespace PD
noncomputable section
open PySem PySem.Spec PyProof.Rows L2
/-! ### list comprehensions over a cell that stays one -/
def lcGoC (n : Nat) (own : List Nat) (tgt : GM) (tt : TM) (fe : EM) (env0 : List (Option W)) : Nat → Nat → S → List D → Res (List D × S)
  | fuel, i, s, acc => match s.mem[n]? with
    | some (some (.l ys)) => (match ys[i]? with
      | none => .ok (acc, s)
      | some d => (match fuel with
        | 0 => .bad
        | fuel + 1 => (match tgt d { s with env := wipeE env0 own } with
          | none => .bad
          | some s1 => (nox (tt s1)).bind fun b => if b.1 then (nox (fe b.2)).bind fun p => (match toD p.1 p.2 with
              | some (x, s3) => if acc.length < sizeLine then lcGoC n own tgt tt fe env0 fuel (i + 1) { s3 with env := env0 } (acc ++ [x]) else .bad
              | none => .bad)
            else lcGoC n own tgt tt fe env0 fuel (i + 1) { b.2 with env := env0 } acc)))
    | _ => .bad
def eLcC (own : List Nat) (fi : EM) (tgt : GM) (tt : TM) (fe : EM) : EM := fun s => (fi s).bind fun p => match p.1 with
  | .c n => (match p.2.mem[n]? with
    | some (some (.l xs)) => (lcGoC n own tgt tt fe p.2.env xs.length 0 p.2 []).bind fun q => .ok (.f q.1, q.2)
    | _ => .bad)
  | _ => .bad
theorem wipe_wipe' (σ : L2.St) (vs : List Nat) : wipe (wipe σ vs) vs = wipe σ vs := by
  apply List.ext_getElem?
  intro j
  by_cases hj : j ∈ vs
  · have w : ∀ τ : L2.St, ∀ x, (wipe τ vs)[j]? ≠ some (some x) := fun τ x h => (wipe_some h).2 hj
    have l : ∀ τ : L2.St, (wipe τ vs).length = τ.length := fun τ => wipe_length τ vs
    by_cases hl : j < σ.length
    · obtain ⟨y1, h1⟩ : ∃ y, (wipe (wipe σ vs) vs)[j]? = some y := ⟨_, List.getElem?_eq_getElem (by rw [l, l]; exact hl)⟩
      obtain ⟨y2, h2⟩ : ∃ y, (wipe σ vs)[j]? = some y := ⟨_, List.getElem?_eq_getElem (by rw [l]; exact hl)⟩
      cases y1 with
      | some x => exact absurd h1 (w _ x)
      | none =>
        cases y2 with
        | some x => exact absurd h2 (w _ x)
        | none => rw [h1, h2]
    · rw [List.getElem?_eq_none (by rw [l, l]; omega), List.getElem?_eq_none (by rw [l]; omega)]
  · rw [wipe_out hj]

section
variable {X : Cx} {E : XK} {elt tg iter : Expr} {ifs : List Expr} {scope : Scope} {own : List (Str × Nat)} {pos : Pos} {fi : EM} {is : List Nat} {tgt : GM} {tt : TM} {fe : EM}
theorem lcC_ok (hgm : ∀ d s s', tgt d s = some s' → s'.mem = s.mem ∧ s'.base = s.base) (his : is = own.map (·.2)) {σ : L2.St} {H : Hp} {Q : VK} (h : eT X.kw X.mg E (eLcC (own.map (·.2)) fi tgt tt fe) σ H Q) : tLc (iList X.K (eT X.kw X.mg E fi)) (gT X.kw is tgt) (tT X.kw X.mg E0 tt) (eT X.kw X.mg E0 fe) (own.map (·.2)) σ H Q := by
  subst his
  generalize own.map (·.2) = vs at *
  obtain ⟨F, G, as, s, R, h⟩ := h
  refine ⟨F, G, as, s, R, ?_⟩
  unfold eLcC at h
  cases e : fi s with
  | exc c => rw [e] at h; exact h
  | bad => rw [e] at h; exact h
  | ok p =>
    obtain ⟨w0, s1⟩ := p
    rw [e, Res.bind_ok] at h
    dsimp only at h
    intro v1 G1 H1 R1 X1 r1 nw_
    split at h
    case h_2 => exact h.elim
    rename_i n
    split at h
    case h_2 => exact h.elim
    rename_i xs0 em0
    obtain ⟨a0, ha0, rfl⟩ := r1
    obtain ⟨_, vs0, hva, _⟩ := R1.cellAt em0 ha0
    refine ⟨a0, rfl, ⟨_, SqL.of hva⟩, ?_⟩
    intro Dl hD
    have h := eK.ext h R R1 X1
    obtain ⟨gD, nasD, nFD⟩ := R1.fresh hD
    refine ⟨fun i m H' => ∃ (G' : Hp) (s' : S) (vacc : List V) (acc : List D), s'.env = s1.env ∧ Rep X.kw (fun a => F a ∨ a = Dl) G' H' as σ s' ∧ Ext G1 H1 (live as s1) G' H' (live as s') ∧ H' Dl = some (.lst vacc) ∧ RpA X.kw G' vacc acc ∧
        eK X.kw X.mg E F G1 H1 as s1 σ ((lcGoC n vs tgt tt fe s1.env m i s' acc).bind fun q => .ok (.f q.1, q.2)) Q,
      ⟨xs0.length, G1, s1, [], [], rfl, ?_, Ext.alloc hD, upd_same, .nil, h⟩, fun i m H' hW => ?_⟩
    · have R2 := R1.new hD (.lst [])
      refine ⟨R2.same, R2.len, R2.alen, R2.nd, R2.dom, fun a ha => ?_, R2.cell, fun i w hw => ?_⟩
      · rcases ha with ha | rfl
        · exact R2.fo a ha
        · exact ⟨gD, nasD, _, upd_same⟩
      · obtain ⟨v, k1, k2, k3⟩ := R2.env i w hw
        exact ⟨v, k1, k2.noF k3, k3⟩
    obtain ⟨G2, s2, vacc, acc, he2, R2, X2, hDl, hacc, h2⟩ := hW
    unfold lcGoC at h2
    split at h2
    case h_2 => exact h2.elim
    rename_i ys em2
    obtain ⟨_, us, hua, hur⟩ := R2.cellAt em2 ha0
    split at h2
    · rename_i hy
      refine .inl ⟨⟨us, SqL.of hua, by rw [hur.length]; exact List.getElem?_eq_none_iff.mp hy⟩, ?_⟩
      refine h2 (.ref Dl) G2 H' (R2.weak fun _ z => .inl z) X2 ⟨Dl, vacc, rfl, hDl, (R2.fo Dl (.inr rfl)).1, nasD, nFD, hacc⟩ fun ys b _ hb => ?_
      cases hb
      exact hD
    · rename_i d hy
      obtain ⟨vx, hvx, rvx⟩ := hur.get hy
      split at h2
      · exact h2.elim
      · rename_i fuel m
        dsimp only at h2
        cases e2 : tgt d { s2 with env := wipeE s1.env vs } with
        | none => rw [e2] at h2; exact h2.elim
        | some s3 =>
        rw [e2] at h2
        dsimp only at h2
        refine .inr ⟨⟨us, vx, SqL.of hua, hvx⟩, fun H3 => ∃ (G' : Hp) (s' : S) (vacc : List V) (acc : List D), s'.env = s1.env ∧ Rep X.kw (fun a => F a ∨ a = Dl) G' H3 as σ s' ∧ Ext G1 H1 (live as s1) G' H3 (live as s') ∧ H3 Dl = some (.lst vacc) ∧ RpA X.kw G' vacc acc ∧
            eK X.kw X.mg E F G1 H1 as s1 σ ((lcGoC n vs tgt tt fe s1.env m (i + 1) s' acc).bind fun q => .ok (.f q.1, q.2)) Q,
          fun H3 hN => ⟨m, Nat.lt_succ_self _, by
            obtain ⟨G', s', vacc, acc, a0, a1, a2, a3, a4, a5⟩ := hN
            exact ⟨G', s', vacc, acc, a0, a1, a2, a3, a4, a5⟩⟩, fun x H3 hyy => ?_⟩
        have main : ∀ (G3 : Hp), Rep X.kw (fun a => F a ∨ a = Dl) G3 H3 as σ s2 → Ext G2 H' (live as s2) G3 H3 (live as s2) → Rp X.kw G3 x d → H3 Dl = some (.lst vacc) → gT X.kw vs tgt x (wipe σ vs) H3 fun σ2 H2 => wipe σ2 vs = wipe σ vs ∧ tT X.kw X.mg E0 tt σ2 H2 fun b H3 =>
            if b = true then eT X.kw X.mg E0 fe σ2 H3 fun y H4 => ∃ acc, H4 Dl = some (.lst acc) ∧ acc.length < sizeLine ∧ (∃ (G' : Hp) (s' : S) (vacc : List V) (acc' : List D), s'.env = s1.env ∧ Rep X.kw (fun a => F a ∨ a = Dl) G' (upd H4 Dl (.lst (acc ++ [y]))) as σ s' ∧ Ext G1 H1 (live as s1) G' (upd H4 Dl (.lst (acc ++ [y]))) (live as s') ∧ (upd H4 Dl (.lst (acc ++ [y]))) Dl = some (.lst vacc) ∧ RpA X.kw G' vacc acc' ∧
              eK X.kw X.mg E F G1 H1 as s1 σ ((lcGoC n vs tgt tt fe s1.env m (i + 1) s' acc').bind fun q => .ok (.f q.1, q.2)) Q) else (∃ (G' : Hp) (s' : S) (vacc : List V) (acc : List D), s'.env = s1.env ∧ Rep X.kw (fun a => F a ∨ a = Dl) G' H3 as σ s' ∧ Ext G1 H1 (live as s1) G' H3 (live as s') ∧ H3 Dl = some (.lst vacc) ∧ RpA X.kw G' vacc acc ∧
              eK X.kw X.mg E F G1 H1 as s1 σ ((lcGoC n vs tgt tt fe s1.env m (i + 1) s' acc).bind fun q => .ok (.f q.1, q.2)) Q) := by
          intro G3 R3 X3 r3 hD3
          have R3w := R3.wiped vs
          rw [he2] at R3w
          refine ⟨_, G3, as, _, s3, d, R3w, r3, e2, fun σ4 R4 hw => ⟨hw.trans (wipe_wipe' σ vs), _, G3, as, s3, R4, ?_⟩⟩
          have em : s3.mem = s2.mem := (hgm _ _ _ e2).1
          have el : live as s3 = live as s2 := live_eq em
          have X4 : Ext G1 H1 (live as s1) G3 H3 (live as s3) := by rw [el]; exact X2.trans X3
          cases e5 : tt s3 with
          | exc c => rw [e5] at h2; exact h2.elim
          | bad => rw [e5] at h2; exact h2.elim
          | ok q =>
            obtain ⟨b, s5⟩ := q
            rw [e5, nox_ok, Res.bind_ok] at h2
            dsimp only at h2
            intro G5 H5 R5 X5
            have hD5 : H5 Dl = some (.lst vacc) := X5.keep _ _ hD3 (not_live nasD)
            have X45 := X4.trans X5
            cases b with
            | false =>
              rw [if_neg Bool.false_ne_true] at h2 ⊢
              have RR := R3.swapEnv R5 X5.same
              rw [he2] at RR
              exact ⟨G5, { s5 with env := s1.env }, vacc, acc, rfl, RR, ⟨X45.same, X45.keep, fun a z => X45.new a z⟩, hD5, hacc.mono (X3.same.trans X5.same), h2⟩
            | true =>
              rw [if_pos rfl] at h2 ⊢
              refine ⟨_, G5, as, s5, R5, ?_⟩
              cases e6 : fe s5 with
              | exc c => rw [e6] at h2; exact h2.elim
              | bad => rw [e6] at h2; exact h2.elim
              | ok q =>
                obtain ⟨w6, s6⟩ := q
                rw [e6, nox_ok, Res.bind_ok] at h2
                dsimp only at h2
                intro v6 G6 H6 R6 X6 r6 _
                cases e7 : toD w6 s6 with
                | none => rw [e7] at h2; exact h2.elim
                | some q7 =>
                  obtain ⟨x7, s7⟩ := q7
                  rw [e7] at h2
                  dsimp only at h2
                  obtain ⟨G7, R7, X7, r7⟩ := toD_ok R6 r6 e7
                  have hD6 : H6 Dl = some (.lst vacc) := X6.keep _ _ hD5 (not_live nasD)
                  have sg : Same G3 G7 := (X5.same.trans X6.same).trans X7.same
                  by_cases hz : acc.length < sizeLine
                  · rw [if_pos hz] at h2
                    have ha7 : RpA X.kw G7 vacc acc := hacc.mono (X3.same.trans sg)
                    refine ⟨vacc, hD6, by rw [ha7.length]; exact hz, G7, { s7 with env := s1.env }, vacc ++ [v6], acc ++ [x7], rfl, ?_, ?_, upd_same, ha7.append (.cons r7 .nil), h2⟩
                    · have RR := R3.swapEnv R7 sg
                      rw [he2] at RR
                      have gD7 : G7 Dl = none := (R7.fo Dl (.inr rfl)).1
                      refine ⟨fun a o z => ?_, RR.len, RR.alen, RR.nd, fun a z => ?_, fun a z => ?_, fun n c z => ?_, fun j w z => ?_⟩
                      · have : a ≠ Dl := fun q => by rw [q, gD7] at z; cases z
                        rw [upd_ne this]; exact RR.same a o z
                      · have : a ≠ Dl := fun q => nasD (by rw [← q]; exact z)
                        rw [upd_ne this]; exact RR.dom a z
                      · obtain ⟨k1, k2, k3⟩ := RR.fo a z
                        refine ⟨k1, k2, ?_⟩
                        by_cases q : a = Dl
                        · exact ⟨_, by rw [q]; exact upd_same⟩
                        · rw [upd_ne q]; exact k3
                      · obtain ⟨a, k1, k2, k3⟩ := RR.cell n c z
                        have : a ≠ Dl := fun q => nasD (by rw [← q]; exact List.mem_of_getElem? k1)
                        exact ⟨a, k1, k2, k3.mono (Same.refl _) fun o z => by rw [upd_ne this]; exact z⟩
                      · obtain ⟨v, k1, k2, k3⟩ := RR.env j w z
                        refine ⟨v, k1, ?_, k3⟩
                        cases w with
                        | d x => exact k2
                        | c n => exact k2
                        | f ys => exact absurd rfl (k3 ys)
                    · have X8 := (X45.trans X6).trans X7
                      exact ⟨X8.same, fun a o z nl => by
                        have : a ≠ Dl := fun q => by rw [q, hD] at z; cases z
                        rw [upd_ne this]; exact X8.keep a o z nl, fun a z => X8.new a z⟩
                  · rw [if_neg hz] at h2; exact h2.elim
        obtain ⟨rfl, hx⟩ := hyy
        have hx2 := hx us (SqL.of hua)
        rw [hvx] at hx2
        cases hx2
        exact main G2 R2 (Ext.refl _ _ _) rvx hDl

theorem pd_lcC (hcalm : X.calm = true) (hN : X.N.Nodup) (hi : PDE X E iter fi) (own : List (Str × Nat)) (ok : BlkOk X.N X.env.scope scope own)
    (hg : ∀ (s : Shared) (H : Hp) (C : Addr) (cl : List (Str × Addr)) (fp : List Addr), PDG (X.blk s H scope (compEnvC scope cl C X.env) fp) tg is tgt)
    (hgm : ∀ d s s', tgt d s = some s' → s'.mem = s.mem ∧ s'.base = s.base)
    (ht : ∀ (s : Shared) (H : Hp) (C : Addr) (cl : List (Str × Addr)) (fp : List Addr), PDTs (X.blk s H scope (compEnvC scope cl C X.env) fp) ifs tt)
    (he : ∀ (s : Shared) (H : Hp) (C : Addr) (cl : List (Str × Addr)) (fp : List Addr), PDE (X.blk s H scope (compEnvC scope cl C X.env) fp) E0 elt fe)
    (his : is = own.map (·.2) := by rfl) (hs : ∀ x, foldedSetIterable iter X.env x = pure x := by intro _; rfl) : PDE X E (.ListComp elt [⟨tg, iter, ifs, 0⟩] scope pos) (eLcC (own.map (·.2)) fi tgt tt fe) :=
  ⟨PE.imp (pe_lc hcalm hN (pi_list hi.pe) ok (fun s H C cl fp => (hg s H C cl fp).pg) (fun s H C cl fp => (ht s H C cl fp).pt) (fun s H C cl fp => (he s H C cl fp).pe) hs) fun σ H Q h => lcC_ok hgm his h⟩
theorem pds_setLcC (cell : Bool) (i : Nat) {y : Str} {py spos : Pos} (hcalm : X.calm = true) (hN : X.N.Nodup) (hi : PDE X E iter fi) (own : List (Str × Nat)) (ok : BlkOk X.N X.env.scope scope own)
    (hg : ∀ (s : Shared) (H : Hp) (C : Addr) (cl : List (Str × Addr)) (fp : List Addr), PDG (X.blk s H scope (compEnvC scope cl C X.env) fp) tg is tgt)
    (hgm : ∀ d s s', tgt d s = some s' → s'.mem = s.mem ∧ s'.base = s.base)
    (ht : ∀ (s : Shared) (H : Hp) (C : Addr) (cl : List (Str × Addr)) (fp : List Addr), PDTs (X.blk s H scope (compEnvC scope cl C X.env) fp) ifs tt)
    (he : ∀ (s : Shared) (H : Hp) (C : Addr) (cl : List (Str × Addr)) (fp : List Addr), PDE (X.blk s H scope (compEnvC scope cl C X.env) fp) E0 elt fe)
    (hsw : swapsWith (.ListComp elt [⟨tg, iter, ifs, 0⟩] scope pos) (some (.Name y py)) spos.line X.env = pure true)
    (hy : X.N[i]? = some y := by rfl) (hyl : X.env.scope.names.lookup y = some .local := by rfl)
    (his : is = own.map (·.2) := by rfl) (hs : ∀ x, foldedSetIterable iter X.env x = pure x := by intro _; rfl) : PDS X E (.Assign [.Name y py] (.ListComp elt [⟨tg, iter, ifs, 0⟩] scope pos) spos) (sSet cell i (eLcC (own.map (·.2)) fi tgt tt fe)) :=
  set_of (PS.imp (ps_setLc hcalm hN hy hyl hsw (pi_list hi.pe) ok (fun s H C cl fp => (hg s H C cl fp).pg) (fun s H C cl fp => (ht s H C cl fp).pt) (fun s H C cl fp => (he s H C cl fp).pe) hs) fun D σ H h => lcC_ok hgm his h)
end
end
end PD

set_option Elab.async false
set_option linter.all false
set_option maxRecDepth 100000
set_option maxHeartbeats 4000000
namespace PySem
open Sem (wp)
theorem meets_enumerate_newT (l : Addr) (items : Array Value) :
    Meets (Builtin.«enumerate.__new__» ⟨[.type "enumerate", .ref l], []⟩) (fun _ R s => s.heap.IsTuple l items ∧
      R (.ok (.ret (.ref (s.heap.push { cls := .type "tuple_iterator", data := .fields #[.ref l, .int 0 0] }).objs.size)))
        { s with heap := (s.heap.push { cls := .type "tuple_iterator", data := .fields #[.ref l, .int 0 0] }).push { cls := .type "enumerate", data := .fields #[.none, .bool false, .ref s.heap.objs.size, rawInt 0, .none, .none] } }) :=
  .of_wp fun prog w A R s h => by
    obtain ⟨hp, g, d, tk, os⟩ := s; obtain ⟨hl, h⟩ := h
    have hsub := sub_enumerate
    have q1 : ∀ {A' : Around} {E : Value → Shared → Prop} {Q : Value → Shared → Prop}, Q (.ref hp.objs.size) ⟨hp.push { cls := .type "tuple_iterator", data := .fields #[.ref l, .int 0 0] }, g, d, tk, os⟩ → wpAny (model prog w) A' (pyIter (.ref l)) Q E ⟨hp, g, d, tk, os⟩ :=
      fun q => wpAny_pyIter_tuple (s := ⟨hp, g, d, tk, os⟩) hl q
    wp_walk using q1
    refine wpAny_stack_any fun st => wpAny_pure ?_
    split
    · rename_i c _ _ _ _ _
      cases (c == Value.type "enumerate")
      · wp_walk using q1
        exact ⟨_, rfl, h⟩
      · wp_walk using q1
        exact ⟨_, rfl, h⟩
    · wp_walk using q1
      exact ⟨_, rfl, h⟩
section
variable {prog : Program} {w : World} {A : Around} {E : Value → Shared → Prop} {s : Shared}
theorem call_enumerate_tuple {l : Addr} {items : Array Value} {Q : Value → Shared → Prop} (hL : s.heap.IsTuple l items)
    (h : ∀ h', IsEnum h' (s.heap.objs.size + 1) s.heap.objs.size 0 .none → h'.IsTupleIter s.heap.objs.size l 0 → h'.objs.size = s.heap.objs.size + 2 →
      (∀ b o, s.heap.get? b = some o → h'.get? b = some o) → Q (.ref (s.heap.objs.size + 1)) { s with heap := h' }) :
    wpAny (model prog w) A (call (.type "enumerate") [.ref l]) Q E s := by
  refine callType_new F.called_enumerate (by decide) (F.typeCall_enumerate_1 _) (F.newCall_enumerate_1 _) (fun obj => F.args_object_init_2 obj _) F.entry_enumerate_new
    (meets_enumerate_newT l items) ⟨hL, ?_⟩
  have hz : (s.heap.push { cls := .type "tuple_iterator", data := .fields #[.ref l, .int 0 0] }).objs.size = s.heap.objs.size + 1 := Heap.size_push ..
  show _ ∧ _
  rw [hz]
  have he : IsEnum ((s.heap.push { cls := .type "tuple_iterator", data := .fields #[.ref l, .int 0 0] }).push
      { cls := .type "enumerate", data := .fields #[.none, .bool false, .ref s.heap.objs.size, rawInt 0, .none, .none] }) (s.heap.objs.size + 1) s.heap.objs.size 0 .none := by
    have := Heap.get?_push_size (s.heap.push { cls := .type "tuple_iterator", data := .fields #[.ref l, .int 0 0] })
      (o := { cls := .type "enumerate", data := .fields #[.none, .bool false, .ref s.heap.objs.size, rawInt 0, .none, .none] }) rfl
    rw [hz] at this; exact this
  refine ⟨⟨_, he, rfl⟩, h _ he ⟨_, Heap.get?_push_of_some _ (Heap.get?_push_size _ rfl), rfl, rfl⟩ (by rw [Heap.size_push, hz]) fun b o x => Heap.get?_push_of_some _ (Heap.get?_push_of_some _ x)⟩
end
end PySem
namespace PD
noncomputable section
open PySem PySem.Spec PyProof.Rows L2
/-! ### enumerate of a tuple -/
def IteT (K : PySem.W.Frag) (a : Addr) : It :=
  ⟨fun i H => ∃ (xs : List V) (x : V), SqT K H a xs ∧ xs[i]? = some x, fun i H v H' => ∃ T x, v = .ref T ∧ H T = none ∧ H' = upd H T (.tup [.int (i : Nat), x]) ∧ ∀ xs, SqT K H a xs → xs[i]? = some x, fun i H => ∃ xs : List V, SqT K H a xs ∧ xs.length ≤ i⟩
theorem turn_enumT {P : Program} {w : World} {K : PySem.W.Frag} {elts : List Expr} {kk : Nat} {tpos : Pos} (a e it : Addr) (hat : a ≠ it) (hea : e ≠ a) :
    Turn P w K (.Tuple elts kk tpos) (IteT K a) [e, it] e (fun i h => (∃ old, IsEnum h e it ((i : Nat) : Int) old) ∧ h.IsTupleIter it a i ∧ e ≠ it) where
  mem := by simp
  obj := fun i h st b hb => by
    obtain ⟨⟨old, he⟩, ⟨o, ho, hc, hd⟩, _⟩ := st
    have e' : b = e ∨ b = it := by simpa using hb
    rcases e' with z | z
    · rw [z]; exact ⟨_, he, fun v q => nomatch q⟩
    · rw [z]; exact ⟨o, ho, fun v q => by rw [hd] at q; cases q⟩
  keep := fun i h h' st k => let ⟨⟨old, he⟩, hi, hne⟩ := st; ⟨⟨old, k e (by simp) _ he⟩, hi.at fun o q => k it (by simp) o q, hne⟩
  item := by
    intro X hP hw hK hc i pins s σ H E I hf st hg
    subst hP hw hK
    obtain ⟨⟨old, he⟩, hit, hne⟩ := st
    obtain ⟨xs, x, hq, hx⟩ := hg
    obtain ⟨its, rv, p, hz⟩ := I.tuple hq
    obtain ⟨u, hu, ru⟩ := rv.get hx
    have hel : e < s.heap.objs.size := Heap.lt_size he
    have hil : it < s.heap.objs.size := by obtain ⟨_, q, _⟩ := hit; exact Heap.lt_size q
    have hh : X.A.in1.handled = none := I.ok.hd hc
    refine wpAny_pyNext_enum_itemD (Draws.tuple hh it a hat its.toArray) he ⟨hit, p⟩ (by simpa using (List.getElem?_eq_some_iff.mp hu).1) hne (by simp [hne, hea]) fun x1 h' tk q1 ho st' hT hsz hk => ?_
    rw [List.getElem?_toArray, hu] at q1
    cases q1
    refine ⟨_, rfl, wpAny_letOwnedTupleGo_enum (s := { s with heap := h', toks := tk + 1 }) ho fun h'' he' sb => ?_⟩
    have hT2 : h''.get? s.heap.objs.size = some { cls := .type "tuple", data := .seq #[.int i tk, u] } := (sb.2 _ (Nat.ne_of_gt hel)).trans hT
    have new : ObjOk X.prog X.w (upd H s.heap.objs.size (.tup [.int (i : Nat), x])) h'' s.heap.objs.size (.tup [.int (i : Nat), x]) :=
      ⟨by show 2 ≤ sizeLine; decide, [.int i tk, u], .cons ⟨_, rfl⟩ (.cons ru .nil), ⟨_, hT2, rfl, _, rfl⟩⟩
    have I1 : Inv X pins σ (upd H s.heap.objs.size (.tup [.int (i : Nat), x])) { s with heap := h'', toks := tk + 1 } :=
      I.turnedNew (ch := [e, it]) (fun b ob hb q => (sb.2 b (fun z => hb (by simp [z]))).trans (hk b ob (fun z => hb (by simp [z])) (fun z => hb (by simp [z])) q)) hf (Nat.le_refl _) new
    refine ⟨.ref s.heap.objs.size, _, I1, rfl, ⟨_, x, rfl, I.hok.fresh (Nat.le_refl _), rfl, fun ys hy => by rw [I.tuple_inj hy hq]; exact hx⟩, ⟨⟨u, ?_⟩, st'.1.at fun o q => (sb.2 it (Ne.symm hne)).trans q, hne⟩, fun b hb => ?_⟩
    · have e1 : ((i + 1 : Nat) : Int) = (i : Int) + 1 := by omega
      rw [e1]; exact he'
    · have hb' : b < s.heap.objs.size := by
        have e' : b = e ∨ b = it := by simpa using hb
        rcases e' with z | z
        · rw [z]; exact hel
        · rw [z]; exact hil
      rw [upd_ne (Nat.ne_of_lt hb')]
      exact (hf b hb).1
  done := by
    intro X hP hw hK hc i pins s σ H E I hf st hg
    subst hP hw hK
    obtain ⟨⟨old, he⟩, hit, hne⟩ := st
    obtain ⟨xs, hq, hx⟩ := hg
    obtain ⟨its, rv, p, hz⟩ := I.tuple hq
    obtain ⟨f0, f1, f2, f3, f4, f5⟩ := hf it (by simp)
    have hl := rv.length
    have hh : X.A.in1.handled = none := I.ok.hd hc
    obtain ⟨n, Pr, St, D, hst, _, hn⟩ := drawsAt (prog := X.prog) (w := X.w) hh hat its.toArray hit p
    have e0 : i = n := hn (by simp; omega)
    subst e0
    exact wpAny_pyNext_enum_endD D he hst fun h' eb => ⟨rfl, I.turned (t' := s.toks) (fun b o hb q => eb b o hb q) f0 f1 f3 f4 f5⟩
  self := fun A i s Q E st h => let ⟨⟨_, he⟩, _⟩ := st; wpAny_pyIter_enum he h
def iEnumT_ (K : PySem.W.Frag) (ta : TA) : TI := fun σ H R => ta σ H fun vs H1 => ∃ a xs, vs = [.ref a] ∧ SqT K H1 a xs ∧ R (IteT K a) H1
theorem pi_enumT {X : Cx} {e : Expr} {ta : TA} {p pos tpos : Pos} {elts : List Expr} {kk : Nat} (hg : Gl X "enumerate") (hm : X.mg "enumerate" = none) (ha : PA X [e] ta) (hs : starEach [e] X.env = [(false, eval e X.env)] := by rfl) :
    PI X (.Tuple elts kk tpos) (.Call (.Name "enumerate" p) [e] [] pos) (iEnumT_ X.K ta) := by
  refine ⟨fun pins s σ H R I h => ?_⟩
  refine Call_ (ld_blt I hg hm boot_enumerate (PyProof.Rows.callWith_type1 (thn (ha.run pos pins s σ H _ I h) fun us s1 ⟨vs, H1, I1, r1, q1⟩ => ?_) hs rfl))
  obtain ⟨a, xs, ex, hq, q⟩ := q1
  subst ex
  cases r1 with
  | cons r rr =>
    cases rr
    cases r
    obtain ⟨its, rv, p', hz⟩ := I1.tuple hq
    have hal : a < s1.heap.objs.size := by obtain ⟨_, q, _⟩ := p'; exact Heap.lt_size q
    refine call_enumerate_tuple p' fun h' he hit hsz hk => wpAny_pyIter_enum he ?_
    have I2 : Inv X pins σ H1 { s1 with heap := h' } := I1.kept (t' := s1.toks) hk
    refine ⟨s1.heap.objs.size + 1, [s1.heap.objs.size + 1, s1.heap.objs.size], _, _, H1, rfl, I2, turn_enumT a (s1.heap.objs.size + 1) s1.heap.objs.size (Nat.ne_of_lt hal) (Nat.ne_of_gt (Nat.lt_succ_of_lt hal)), ⟨⟨.none, he⟩, hit, Nat.succ_ne_self _⟩, fun b hb => ?_, q⟩
    have e' : b = s1.heap.objs.size + 1 ∨ b = s1.heap.objs.size := by simpa using hb
    have hle : s1.heap.objs.size ≤ b := by
      rcases e' with z | z
      · rw [z]; exact Nat.le_add_right _ _
      · rw [z]; exact Nat.le_refl _
    exact I1.fpOk hle (I1.hok.fresh hle)
theorem walk_enumT {K : KW} {G : Hp} {a : Addr} {vs : List V} {xs : List D} (h : SqT K G a vs) (r : RpA K G vs xs) : WalkI K G (IteT K a) (enumFrom 0 xs) := fun i G1 H s1 s2 => by
  have hH : SqT K H a vs := seqT (s1.trans s2) h
  refine ⟨fun hi => ⟨vs, hH, by rw [r.length]; rw [enumFrom_len] at hi; exact hi⟩, fun d hd => ?_⟩
  rw [enumFrom_get] at hd
  cases q : xs[i]? with
  | none => rw [q] at hd; cases hd
  | some d0 =>
    rw [q] at hd
    cases hd
    obtain ⟨v, h1, h2⟩ := r.get q
    refine ⟨⟨vs, v, hH, h1⟩, fun x H' y => .inr ?_⟩
    obtain ⟨T, x0, rfl, hT, rfl, hx⟩ := y
    have := hx vs hH
    rw [h1] at this; cases this
    refine ⟨T, _, hT, rfl, .tup (SqT.of upd_same) ?_⟩
    rw [show ((0 + i : Nat) : Int) = ((i : Nat) : Int) by simp]
    exact .cons (.int _) (.cons (Rp.mono (s1.trans (same_upd (s2.free hT))) h2) .nil)
section
variable {X : Cx} {E : XK} {e : Expr} {fe : EM}
def iEnumT (f : EM) : IM := fun s => (tupOnly f s).bind fun p => .ok (enumFrom 0 p.1, p.2)
theorem pdi_enumT {p pos tpos : Pos} {elts : List Expr} {kk : Nat} (hm : X.mg "enumerate" = none) (h : PDE X E e fe) (hg : Gl X "enumerate" := by rfl) (hs : starEach [e] X.env = [(false, eval e X.env)] := by rfl) (hs' : starEach [e] X.env = (false, eval e X.env) :: starEach [] X.env := by rfl) :
    PDI X E (.Tuple elts kk tpos) (.Call (.Name "enumerate" p) [e] [] pos) (iEnumT fe) :=
  ⟨PI.imp (pi_enumT hg hm (pa_cons h.pe pa_nil hs') hs) fun σ H Q h => by
  obtain ⟨F, G, as, s, R, h⟩ := h
  refine ⟨F, G, as, s, R, ?_⟩
  unfold iEnumT tupOnly at h
  cases q : fe s with
  | exc c => rw [q] at h; exact h
  | bad => rw [q] at h; exact h
  | ok p =>
    obtain ⟨w, s1⟩ := p
    rw [q, Res.bind_ok] at h
    dsimp only at h
    intro v G1 H1 R1 X1 r1 n1
    cases e2 : toD w s1 with
    | none => rw [e2] at h; exact h.elim
    | some p2 =>
      obtain ⟨x, s2⟩ := p2
      rw [e2] at h
      cases x with
      | tuple xs =>
        have h := iK.ext h X1
        obtain ⟨G2, R2, X2, r2⟩ := toD_ok R1 r1 e2
        cases r2 with
        | tup k1 k2 => exact ⟨_, _, rfl, seqT R2.same k1, h _ G2 H1 R2 X2 (walk_enumT k1 k2)⟩
      | _ => exact h.elim⟩
end
end
end PD

set_option Elab.async false
set_option linter.all false
set_option maxRecDepth 100000
set_option maxHeartbeats 4000000
namespace PD
noncomputable section
open PySem PySem.Spec PyProof.Rows L2
/-! ### min, max of a list of pairs of ints -/
def isIP : D → Bool
  | .tuple [.int _, .int _] => true
  | _ => false
theorem isIP_ex {x : D} (h : isIP x = true) : ∃ a b, x = .tuple [.int a, .int b] := by
  unfold isIP at h
  split at h
  · exact ⟨_, _, rfl⟩
  · cases h
theorem ip_alike {x y : D} (hx : isIP x = true) (hy : isIP y = true) : PySem.W.alike x y = true := by
  obtain ⟨a, b, rfl⟩ := isIP_ex hx
  obtain ⟨c, d, rfl⟩ := isIP_ex hy
  simp [PySem.W.alike, PySem.W.alikeAll]
theorem ip_lay {x : D} (hx : isIP x = true) : x.canLay0 = true := by
  obtain ⟨a, b, rfl⟩ := isIP_ex hx
  simp [PyData.canLay0, PyData.canLayAll0]
theorem ip_layAll : ∀ {xs : List D}, xs.all isIP = true → PyData.canLayAll0 xs = true
  | [], _ => by simp [PyData.canLayAll0]
  | x :: xs, h => by
    rw [List.all_cons, Bool.and_eq_true] at h
    simp [PyData.canLayAll0, ip_lay h.1, ip_layAll h.2]
theorem ip_depth : ∀ {xs : List D}, xs.all isIP = true → PyData.depthAll xs ≤ 1
  | [], _ => by simp [PyData.depthAll]
  | x :: xs, h => by
    rw [List.all_cons, Bool.and_eq_true] at h
    obtain ⟨a, b, rfl⟩ := isIP_ex h.1
    have := ip_depth h.2
    simp only [PyData.depthAll, PyData.depth]
    omega
theorem ip_alikeAll {xs : List D} (h : xs.all isIP = true) : PySem.W.AlikeAll xs := by
  rw [List.all_eq_true] at h
  refine ⟨fun x hx y hy => ip_alike (h x hx) (h y hy), fun x hx e => ?_⟩
  have := h x hx
  rw [e] at this
  cases this
def bestD (mx : Bool) (x : D) (xs : List D) : D := if mx then PySem.W.maxD x xs else PySem.W.minD x xs
def rBestD (K : PySem.W.Frag) (mx : Bool) : List V → Hp → VK → Prop := fun vs H Q => ∃ (a : Addr) (xs : List V) (x : D) (ds : List D), vs = [.ref a] ∧ SqL K H a xs ∧ DpAll K H xs (x :: ds) ∧ (x :: ds).all isIP = true ∧
  ∀ (i : Nat) (v : V), xs[i]? = some v → (x :: ds)[i]? = some (bestD mx x ds) → Q v H
theorem val_back : ∀ {xs : List V} {us : List Value} {i : Nat} {u : Value}, Vals xs us → us[i]? = some u → ∃ x, xs[i]? = some x ∧ RelV x u
  | _, _, _, _, .nil, e => by simp at e
  | _, _, 0, u, .cons r _, e => by simp at e; subst e; exact ⟨_, rfl, r⟩
  | _, _, i + 1, u, .cons _ t, e => by
    obtain ⟨x, h1, h2⟩ := val_back (i := i) (u := u) t (by simpa using e)
    exact ⟨x, by simpa using h1, h2⟩
theorem reads_nth {h : Heap} : ∀ {vs : List Value} {xs : List D} {as : List Addr} {i : Nat} {v : Value}, ReadsAll h vs xs as → vs[i]? = some v → ∃ d bs, xs[i]? = some d ∧ Reads h v d bs
  | _, _, _, _, _, .nil, e => by simp at e
  | _, _, _, 0, _, .cons r _, e => by simp at e; subst e; exact ⟨_, _, rfl, r⟩
  | _, _, _, i + 1, v, .cons _ t, e => by
    obtain ⟨d, bs, h1, h2⟩ := reads_nth (i := i) (v := v) t (by simpa using e)
    exact ⟨d, bs, by simpa using h1, h2⟩
section
variable {X : Cx} {E : XK} {e : Expr} {fe : EM} {pos : Pos} {k : Nat}
theorem cr_bestMin (hc : X.calm = true) (hr : Room k X.A) : CallR X (.builtin "min") (rBestD X.K false) := by
  intro pins s σ H vs us Q I r h
  obtain ⟨a, xs, x, ds, rfl, hs, hd, ip, q⟩ := h
  obtain ⟨its, rv, hl, _⟩ := I.list hs
  rw [Vals.ref1 r]
  obtain ⟨as, ra⟩ := Dp.readsAll I (x :: ds) xs its hd rv
  refine PySem.W.min_list_data (vs := its.toArray) (I.ok.hd hc) hl.isList (by simpa using ra) (ip_alikeAll ip) (by have := ip_depth ip; have := hr.units; omega) fun i v h' tk bs hi hrd hk => ?_
  have hi : its[i]? = some v := by simpa using hi
  obtain ⟨vx, h1, h2⟩ := val_back rv hi
  obtain ⟨d, bs', h3, h4⟩ := reads_nth ra hi
  have e := SeqAt.Reads.unique d _ v _ _ (ip_lay (List.all_eq_true.mp ip _ (List.mem_of_getElem? h3))) (PySem.W.reads_keeps hk h4) hrd
  refine ⟨vx, H, I.kept hk, h2, q i vx h1 ?_⟩
  rw [h3, e]
  rfl
theorem cr_bestMax (hc : X.calm = true) (hr : Room k X.A) : CallR X (.builtin "max") (rBestD X.K true) := by
  intro pins s σ H vs us Q I r h
  obtain ⟨a, xs, x, ds, rfl, hs, hd, ip, q⟩ := h
  obtain ⟨its, rv, hl, _⟩ := I.list hs
  rw [Vals.ref1 r]
  obtain ⟨as, ra⟩ := Dp.readsAll I (x :: ds) xs its hd rv
  refine PySem.W.max_list_data (vs := its.toArray) (I.ok.hd hc) hl.isList (by simpa using ra) (ip_alikeAll ip) (by have := ip_depth ip; have := hr.units; omega) fun i v h' tk bs hi hrd hk => ?_
  have hi : its[i]? = some v := by simpa using hi
  obtain ⟨vx, h1, h2⟩ := val_back rv hi
  obtain ⟨d, bs', h3, h4⟩ := reads_nth ra hi
  have e := SeqAt.Reads.unique d _ v _ _ (ip_lay (List.all_eq_true.mp ip _ (List.mem_of_getElem? h3))) (PySem.W.reads_keeps hk h4) hrd
  refine ⟨vx, H, I.kept hk, h2, q i vx h1 ?_⟩
  rw [h3, e]
  rfl
def gBest (mx : Bool) : W → EM := fun w s => match dat s w with
  | some (.list (x :: xs)) => if (x :: xs).all isIP then .ok (.d (bestD mx x xs), s) else .bad
  | _ => .bad
theorem ud_best {mx : Bool} : UnD X E (rBestD X.K mx) (gBest mx) := fun F G H as s σ v w Q R r h => by
  unfold gBest at h
  split at h
  · rename_i x xs e
    split at h
    · rename_i ip
      obtain ⟨a, vs, rfl, h1, h2⟩ := dat_lst R r e
      refine ⟨a, vs, x, xs, rfl, h1, dpA_of (h2.mono R.same) (ip_layAll ip), ip, fun i v hi hb => ?_⟩
      obtain ⟨d, h3, h4⟩ := h2.getV hi
      rw [hb] at h3
      cases h3
      exact eK.val R h h4
    · exact h.elim
  · exact h.elim
theorem pd_min1 {p : Pos} (hm : X.mg "min" = none) (hcalm : X.calm = true) (hr : Room k X.A) (ha : PDE X E e fe) (hg : Gl X "min" := by rfl) (he : starEach [e] X.env = (false, eval e X.env) :: starEach [] X.env := by rfl) : PDE X E (.Call (.Name "min" p) [e] [] pos) (eB1 (gBest false) fe) :=
  pd_b1 (cr_bestMin hcalm hr) ud_best hm (by decide +kernel) ha hg (by decide) (by decide) he
theorem pd_max1 {p : Pos} (hm : X.mg "max" = none) (hcalm : X.calm = true) (hr : Room k X.A) (ha : PDE X E e fe) (hg : Gl X "max" := by rfl) (he : starEach [e] X.env = (false, eval e X.env) :: starEach [] X.env := by rfl) : PDE X E (.Call (.Name "max" p) [e] [] pos) (eB1 (gBest true) fe) :=
  pd_b1 (cr_bestMax hcalm hr) ud_best hm (by decide +kernel) ha hg (by decide) (by decide) he
end
end
end PD

set_option Elab.async false
set_option linter.all false
set_option maxRecDepth 100000
set_option maxHeartbeats 4000000
namespace PD
noncomputable section
open PySem PySem.Spec PyProof.Rows L2
/-! ### dicts with nested keys -/
abbrev NE := NestedKey × Addr × V
def RelN : NE → NestedKey × Addr × Value → Prop := fun p q => p.1 = q.1 ∧ p.2.1 = q.2.1 ∧ RelV p.2.2 q.2.2
theorem pgetN {α β : Type} {F : α → β → Prop} : ∀ {es : List α} {xs : List β} {i : Nat} {x : β}, Paired F es xs → xs[i]? = some x → ∃ e, es[i]? = some e ∧ F e x
  | _, _, _, _, .nil, e => by simp at e
  | _, _, 0, x, .cons r _, e => by simp at e; subst e; exact ⟨_, rfl, r⟩
  | _, _, i + 1, x, .cons _ t, e => by
    obtain ⟨x, h1, h2⟩ := pgetN (i := i) (x := x) t (by simpa using e)
    exact ⟨x, by simpa using h1, h2⟩
/-- the tuple at b is the key k -/
def NkAt (K : KW) (H : Hp) (b : Addr) (k : NestedKey) : Prop := ∃ d, Rp K H (.ref b) d ∧ nkD d = some k ∧ k.depth ≤ 8
theorem NkAt.mono {K : KW} {H H' : Hp} {b : Addr} {k : NestedKey} (s : Same H H') (h : NkAt K H b k) : NkAt K H' b k := let ⟨d, h1, h2⟩ := h; ⟨d, Rp.mono s h1, h2⟩
section
variable {X : Cx} {pins : List (Addr × Obj)} {σ : L2.St} {H : Hp} {s : Shared}
mutual
theorem nk_is (I : Inv X pins σ H s) : ∀ (d : D) (v : V) (u : Value) (k : NestedKey), Rp X.kw H v d → nkD d = some k → RelV v u → NestedIs s.heap k u
  | .none, _, _, _, h, e, r => by cases h; cases e; cases r; exact .none
  | .bool b, _, _, _, h, e, r => by cases h; cases e; cases r; exact .bool rfl
  | .int i, _, _, _, h, e, r => by cases h; cases e; obtain ⟨t, rfl⟩ := r; exact .int _ _
  | .str x, _, _, _, h, e, r => by cases h; cases e; obtain ⟨t, rfl⟩ := r; exact .text _ _
  | .tuple xs, _, _, _, h, e, r => by
    cases h with
    | tup h1 h2 =>
      cases r
      rw [nkD] at e
      obtain ⟨ks, e1, rfl⟩ := Option.map_eq_some_iff.mp e
      obtain ⟨its, rv, ⟨o, ho, hc, n, hd⟩, _⟩ := I.tuple h1
      exact .tup ho hc hd (by simpa using nk_all I xs _ its ks h2 e1 rv)
  | .list xs, _, _, _, _, e, _ => by rw [nkD] at e <;> first | cases e | (intros; simp_all)
  | .dict xs, _, _, _, _, e, _ => by rw [nkD] at e <;> first | cases e | (intros; simp_all)
theorem nk_all (I : Inv X pins σ H s) : ∀ (ds : List D) (vs : List V) (us : List Value) (ks : List NestedKey), RpA X.kw H vs ds → nkDs ds = some ks → Vals vs us → NestedAll s.heap ks us
  | [], _, _, _, h, e, r => by cases h; cases e; cases r; exact .nil
  | d :: ds, _, _, _, h, e, r => by
    cases h with
    | cons h1 h2 =>
      cases r with
      | cons r1 r2 =>
        rw [nkDs] at e
        obtain ⟨k, e1, e2⟩ := Option.bind_eq_some_iff.mp e
        obtain ⟨ks, e3, rfl⟩ := Option.map_eq_some_iff.mp e2
        exact .cons (nk_is I d _ _ k h1 e1 r1) (nk_all I ds _ _ ks h2 e3 r2)
end
theorem NkAt.is {b : Addr} {k : NestedKey} (I : Inv X pins σ H s) (h : NkAt X.kw H b k) : (nestedKind X.prog X.w).is s.heap k b :=
  let ⟨d, h1, h2, h3⟩ := h; ⟨nk_is I d _ _ k h1 h2 rfl, h3⟩
/-- what the dict at D is -/
theorem dn_of {D : Addr} {es : List NE} (I : Inv X pins σ H s) (h : H D = some (dN X.kw D es)) (hk : ∀ e ∈ es, NkAt X.kw H e.2.1 e.1) :
    es.length ≤ sizeLine ∧ (D == sysModules) = false ∧ ∃ xs, Paired RelN es xs ∧ s.heap.DictOfH (nestedKind X.prog X.w) D xs := by
  obtain ⟨⟨z, hd, xs, rel, o, en, ep, ho, hx, hdat, he, hn⟩, _⟩ := (show ObjOk X.prog X.w H s.heap D (dN X.kw D es) from I.hok D _ h)
  refine ⟨z, hd, xs, rel, o, en, ep, ho, hx, hdat, he, fun x hx' => ?_, hn⟩
  obtain ⟨i, hi⟩ := List.mem_iff_getElem?.mp hx'
  obtain ⟨e, h1, h2, h3, _⟩ := pgetN rel hi
  rw [← h2, ← h3]
  exact (hk e (List.mem_of_getElem? h1)).is I
end
theorem dN_ok {P : Program} {w : World} {K : PySem.W.Frag} {H : Hp} {h : Heap} {D : Addr} {es : List NE} {xs : List (NestedKey × Addr × Value)} (z : es.length ≤ sizeLine) (hd : (D == sysModules) = false) (rel : Paired RelN es xs) (dd : h.DictOfH (nestedKind P w) D xs) : ObjOk P w H h D (dN ⟨K, P, w⟩ D es) := by
  obtain ⟨o, en, ep, ho, hx, hdat, he, _, hn⟩ := dd
  exact ⟨⟨z, hd, xs, rel, o, en, ep, ho, hx, hdat, he, hn⟩, ⟨o, ho⟩, fun h1 h2 ⟨z, hd, xs, rel, o, en, ep, ho, hx, hdat, he, hn⟩ k => ⟨z, hd, xs, rel, o, en, ep, k o ho, hx, hdat, he, hn⟩⟩
theorem dN_empty {P : Program} {w : World} {K : PySem.W.Frag} {H : Hp} (h : Heap) (hb : sysModules < h.objs.size) : ObjOk P w H (h.push { cls := .type "dict", data := .dict #[] }) h.objs.size (dN ⟨K, P, w⟩ h.objs.size []) :=
  dN_ok (Nat.zero_le _) (beq_eq_false_iff_ne.mpr (Ne.symm (Nat.ne_of_lt hb))) .nil (Heap.DictOfH.new h)
/-! what stands at a key -/
def atN (es : List NE) (k : NestedKey) : Option V := (es.find? fun e => decide (e.1 = k)).map (·.2.2)
def putN (es : List NE) (k : NestedKey) (b : Addr) (v : V) : List NE := if (atN es k).isSome then es.map fun e => if e.1 = k then (e.1, e.2.1, v) else e else es ++ [(k, b, v)]
theorem atN_rel {k : NestedKey} : ∀ {es : List NE} {xs : List (NestedKey × Addr × Value)}, Paired RelN es xs → (match atN es k, atKey xs k with
    | some v, some p => RelV v p.2
    | none, none => True
    | _, _ => False)
  | _, _, .nil => by simp [atN, atKey]
  | e :: es, x :: xs, .cons r t => by
    have ih := atN_rel (k := k) t
    obtain ⟨r1, r2, r3⟩ := r
    by_cases h : e.1 = k
    · have h' : x.1 = k := by rw [← r1]; exact h
      simp [atN, atKey, h, h', r3]
    · have h' : ¬ x.1 = k := by rw [← r1]; exact h
      unfold atN atKey at ih ⊢
      rw [List.find?_cons_of_neg (by simpa using h), List.find?_cons_of_neg (by simpa using h')]
      exact ih
theorem atN_none {es : List NE} {xs : List (NestedKey × Addr × Value)} {k : NestedKey} (r : Paired RelN es xs) : atKey xs k = none ↔ atN es k = none := by
  have := atN_rel (k := k) r
  split at this <;> simp_all
theorem put_map {k : NestedKey} {v : V} {u : Value} (rv : RelV v u) : ∀ {es : List NE} {xs : List (NestedKey × Addr × Value)}, Paired RelN es xs → Paired RelN (es.map fun e => if e.1 = k then (e.1, e.2.1, v) else e) (xs.map (putAt k u))
  | _, _, .nil => .nil
  | e :: es, x :: xs, .cons r t => by
    refine .cons ?_ (put_map rv t)
    obtain ⟨r1, r2, r3⟩ := r
    show RelN (if e.1 = k then (e.1, e.2.1, v) else e) (if x.1 = k then (x.1, x.2.1, u) else x)
    by_cases h : e.1 = k
    · rw [if_pos h, if_pos (by rw [← r1]; exact h)]
      exact ⟨r1, r2, rv⟩
    · rw [if_neg h, if_neg (by rw [← r1]; exact h)]
      exact ⟨r1, r2, r3⟩
theorem pair_app {α β : Type} {F : α → β → Prop} : ∀ {a c : List α} {b d : List β}, Paired F a b → Paired F c d → Paired F (a ++ c) (b ++ d)
  | _, _, _, _, .nil, s => s
  | _, _, _, _, .cons r t, s => .cons r (pair_app t s)
theorem put_rel {k : NestedKey} {b : Addr} {v : V} {u : Value} (rv : RelV v u) {es : List NE} {xs : List (NestedKey × Addr × Value)} (r : Paired RelN es xs) : Paired RelN (putN es k b v) (storedH xs k b u) := by
  have e : (atKey xs k).isSome = (atN es k).isSome := by
    have := atN_none (k := k) r
    cases h1 : atKey xs k <;> cases h2 : atN es k <;> simp_all
  unfold putN storedH
  rw [e]
  split
  · exact put_map rv r
  · exact pair_app r (.cons ⟨rfl, rfl, rv⟩ .nil)
theorem putN_len (es : List NE) (k : NestedKey) (b : Addr) (v : V) : (putN es k b v).length ≤ es.length + 1 := by
  unfold putN
  split <;> simp
theorem putN_keys {K : KW} {H : Hp} {es : List NE} {k : NestedKey} {b : Addr} {v : V} (hk : ∀ e ∈ es, NkAt K H e.2.1 e.1) (hb : NkAt K H b k) : ∀ e ∈ putN es k b v, NkAt K H e.2.1 e.1 := by
  intro e he
  unfold putN at he
  split at he
  · obtain ⟨e0, h0, rfl⟩ := List.mem_map.mp he
    split
    · exact hk e0 h0
    · exact hk e0 h0
  · rcases List.mem_append.mp he with h | h
    · exact hk e h
    · rw [List.mem_singleton.mp h]; exact hb
/-- d[k] = v by a comprehension -/
theorem dn_dictSet {X : Cx} {pins : List (Addr × Obj)} {σ : L2.St} {H : Hp} {s : Shared} {E : Value → Shared → Prop} {D : Addr} {es : List NE} {k : NestedKey} {b : Addr} {v : V} {r : Value} {Q : Unit → Shared → Prop} (hu : X.A.units + 8 < cLine) (I : Inv X pins σ H s) (hD : H D = some (dN X.kw D es)) (hz : es.length < sizeLine)
    (hk : ∀ e ∈ es, NkAt X.kw H e.2.1 e.1) (hb : NkAt X.kw H b k) (rv : RelV v r) (h : ∀ s', Inv X pins σ (upd H D (dN X.kw D (putN es k b v))) s' → Q () s') : wpAny (model X.prog X.w) X.A (dictSet D (.ref b) r) Q E s := by
  obtain ⟨z, hd, xs, rel, dd⟩ := dn_of I hD hk
  have hl : xs.length = es.length := (Paired.length rel).symm
  refine wpAny_dictSet_heap (knd := nestedKind X.prog X.w) (hsz := by rw [hl]; exact z) hu (hb.is I) dd fun h' dd' hs => h _ ?_
  have he : ∃ q, h'.get? D = some q := let ⟨q, _, _, hq, _⟩ := dd'; ⟨q, hq⟩
  exact d_write I (by rw [hD]; exact True.intro) hs he (dN_ok (by have := putN_len es k b v; omega) hd (put_rel rv rel) dd')
end
end PD

set_option Elab.async false
set_option linter.all false
set_option maxRecDepth 100000
set_option maxHeartbeats 4000000
set_option pp.maxSteps 200
namespace PD
noncomputable section
open PySem PySem.Spec PyProof.Rows L2
section
variable {X : Cx}
/-- {k: v for target in iter if ..}, nested keys: D the new dict -/
def tDcN (K : KW) (wi : TI) (g : TG) (tt : TT) (tk tv : TE) (vs : List Nat) : TE := fun σ H Q => wi σ H fun J H1 => ∀ D, H1 D = none → ∃ W : Nat → Nat → Hp → Prop, (∃ m, W 0 m (upd H1 D (dN K D []))) ∧ ∀ i m H, W i m H →
  (J.stop i H ∧ Q (.ref D) H) ∨ (J.go i H ∧ ∃ Nx : Hp → Prop, (∀ H', Nx H' → ∃ m', m' < m ∧ W (i + 1) m' H') ∧ ∀ x H', J.yld i H x H' → g x (wipe σ vs) H' fun σ2 H2 => wipe σ2 vs = wipe σ vs ∧ tt σ2 H2 fun b H3 =>
    if b = true then tk σ2 H3 fun y H4 => tv σ2 H4 fun z H5 => ∃ es k b, y = .ref b ∧ NkAt K H5 b k ∧ (∀ e ∈ es, NkAt K H5 e.2.1 e.1) ∧ H5 D = some (dN K D es) ∧ es.length < sizeLine ∧ Nx (upd H5 D (dN K D (putN es k b z))) else Nx H3)
theorem dcN_core {pins : List (Addr × Obj)} {s : Shared} {σ : L2.St} {H : Hp} {Q : VK} {kx vx tg iter : Expr} {ifs : List Expr} {scope : Scope} {own : List (Str × Nat)} {pos pos' : Pos} {wi : TI} {g : TG} {tt : TT} {tk tv : TE} {use : Option (Value → Sem Unit)} {k0 : Nat} {Qf : Value → Shared → Prop}
    (hr : Room k0 X.A) (hc : X.calm = true) (hN : X.N.Nodup) (I : Inv X pins σ H s) (hi : PI X tg iter wi) (ok : BlkOk X.N X.env.scope scope own)
    (hg : ∀ (s : Shared) (H : Hp) (C : Addr) (cl : List (Str × Addr)) (fp : List Addr), PG (X.blk s H scope (compEnvC scope cl C X.env) fp) tg g) (ht : ∀ (s : Shared) (H : Hp) (C : Addr) (cl : List (Str × Addr)) (fp : List Addr), PTs (X.blk s H scope (compEnvC scope cl C X.env) fp) ifs tt)
    (hk : ∀ (s : Shared) (H : Hp) (C : Addr) (cl : List (Str × Addr)) (fp : List Addr), PE (X.blk s H scope (compEnvC scope cl C X.env) fp) kx tk)
    (he : ∀ (s : Shared) (H : Hp) (C : Addr) (cl : List (Str × Addr)) (fp : List Addr), PE (X.blk s H scope (compEnvC scope cl C X.env) fp) vx tv) (hs : ∀ x, foldedSetIterable iter X.env x = pure x)
    (h : tDcN X.kw wi g tt tk tv (own.map (·.2)) σ H Q)
    (hRR : ∀ D C s' m H', Inv X pins σ H' s' → Q (.ref D) H' → s'.heap.Ns C m → FpOk X pins H' C → compPost (model X.prog X.w) X.A X.xe use Qf (.ref D) C (.ok .next) s') :
    wpAny (model X.prog X.w) X.A (comprehension (.DictComp kx vx [⟨tg, iter, ifs, 0⟩] scope pos) scope X.env pos' newDict false (eval iter X.env) use) Qf X.xe s := by
  have hfree : ∀ y ∈ scope.names, y.2 = .free → ∃ c, X.env.cells.lookup y.1 = some c := fun y hy e => by
    rcases ok.free y hy e with k | k
    · exact I.ok.has _ (.inl k)
    · exact I.ok.has _ (.inr k)
  refine wpAny_comprehension_free (use := use) rfl hs (closure_ok hfree) ok.kind (fun y hy e => by rw [ok.uniq y hy, e])
    (thn (hi.run pins s σ H _ I h) fun xv s1 hx => thn hx fun itv s2 h2 => ?_)
  obtain ⟨it, fp, tn, J, H2, e, I2, T, st2, f2, q⟩ := h2
  subst e
  refine wpAny_newObj_type (newEnv_comp ?_)
  generalize hD : s2.heap.objs.size = D
  have hDn : H2 D = none := I2.hok.fresh (Nat.le_of_eq hD)
  obtain ⟨W, ⟨m0, w0⟩, turn⟩ := q D hDn
  -- the new list
  generalize hs3 : ({ s2 with heap := s2.heap.push { cls := .type "dict", data := .dict #[] } } : Shared) = s3
  have I3 : Inv X pins σ (upd H2 D (dN X.kw D [])) s3 := by
    rw [← hs3]
    refine I2.laid (t' := s2.toks) (fun b o e => Heap.get?_push_of_some _ e) (Nat.le_of_eq hD) ?_
    rw [← hD]
    exact dN_empty s2.heap I2.big
  have h3 : s3.heap = s2.heap.push { cls := .type "dict", data := .dict #[] } := by rw [← hs3]
  have sz : ∀ b ∈ fp, b < s2.heap.objs.size := fun b hb => by
    obtain ⟨o, e, _⟩ := T.obj _ _ st2 b hb
    exact Heap.lt_size e
  have f3 : ∀ b ∈ fp, FpOk X pins (upd H2 D (dN X.kw D [])) b ∧ b < s3.heap.objs.size := fun b hb => by
    have hlt := sz b hb
    refine ⟨⟨?_, (f2 b hb).2⟩, by rw [h3, Heap.size_push]; exact Nat.lt_succ_of_lt hlt⟩
    rw [upd_ne (by rw [← hD]; exact Nat.ne_of_lt hlt)]
    exact (f2 b hb).1
  have st3 : tn 0 s3.heap := T.keep _ _ _ st2 fun b _ o e => by rw [h3]; exact Heap.get?_push_of_some _ e
  have I4 := block_start I3 ok hN f3
  have pg := hg s3 (upd H2 D (dN X.kw D [])) s3.heap.objs.size (cellsFrom (s3.heap.objs.size + 1) scope.names (cloFrom X.env.cells scope.names [])) fp
  have pt := ht s3 (upd H2 D (dN X.kw D [])) s3.heap.objs.size (cellsFrom (s3.heap.objs.size + 1) scope.names (cloFrom X.env.cells scope.names [])) fp
  have pk := hk s3 (upd H2 D (dN X.kw D [])) s3.heap.objs.size (cellsFrom (s3.heap.objs.size + 1) scope.names (cloFrom X.env.cells scope.names [])) fp
  have pe := he s3 (upd H2 D (dN X.kw D [])) s3.heap.objs.size (cellsFrom (s3.heap.objs.size + 1) scope.names (cloFrom X.env.cells scope.names [])) fp
  show codeAny _ _ (.compStart (.DictComp kx vx [⟨tg, iter, ifs, 0⟩] scope pos) 0 (.ref it) (.ref D) (compEnvC scope (cellsFrom (s3.heap.objs.size + 1) scope.names (cloFrom X.env.cells scope.names [])) s3.heap.objs.size X.env)) (compPost (model X.prog X.w) X.A X.xe use Qf (.ref D) s3.heap.objs.size) { s3 with heap := pushCells (s3.heap.push { cls := .type "dict", data := .dict #[] }) scope.names }
  have nfp : ∀ b ∈ fp, (upd H2 D (dN X.kw D [])) b = none := fun b hb => (f3 b hb).1.1
  generalize hce : compEnvC scope (cellsFrom (s3.heap.objs.size + 1) scope.names (cloFrom X.env.cells scope.names [])) s3.heap.objs.size X.env = ce at I4 pg pt pk pe ⊢
  have cL : ce.locals = s3.heap.objs.size := by subst hce; rfl
  generalize hH3 : upd H2 D (dN X.kw D []) = H3 at I3 I4 pg pt pk pe w0 nfp f3
  generalize hs4 : ({ s3 with heap := pushCells (s3.heap.push { cls := .type "dict", data := .dict #[] }) scope.names } : Shared) = s4 at I4 ⊢
  have st4 : tn 0 s4.heap := T.keep _ _ _ st3 fun b _ o e => by rw [← hs4]; exact pushCells_keeps _ _ _ _ (Heap.get?_push_of_some _ e)
  have stat : ∀ {σ' : L2.St} {H' : Hp} {s' : Shared}, Inv (X.blk s3 H3 scope ce fp) [] σ' H' s' → (∀ b ∈ fp, H' b = none) → ∀ b ∈ fp, FpOk (X.blk s3 H3 scope ce fp) [] H' b := fun {σ' H' s'} I' hn b hb =>
    ⟨hn b hb, (I'.ok.exf b hb).1, I'.ok.exfs b hb, .inl hb, fun x c e => (I'.ok.exf b hb).2 x c e, fun p hp => absurd (show p ∈ ([] : List (Addr × Obj)) ++ [] from hp) (by simp)⟩
  have loop : codeAny (model X.prog X.w) X.A (.compLoop (.DictComp kx vx [⟨tg, iter, ifs, 0⟩] scope pos) 0 (.ref it) (.ref D) ce) (compPost (model X.prog X.w) X.A X.xe use Qf (.ref D) s3.heap.objs.size) s4 := by
    refine compLoop_anyD (fun n s' => ∃ i H', Inv (X.blk s3 H3 scope ce fp) [] (wipe σ (own.map (·.2))) H' s' ∧ tn i s'.heap ∧ (∀ b ∈ fp, H' b = none) ∧ W i n H') ?_ m0 ⟨0, H3, I4, st4, nfp, w0⟩
    rintro n s5 ⟨i, H5, I5, st5, n5, w5⟩
    rcases turn i n H5 w5 with ⟨stop, qq⟩ | ⟨go, Nx, hNx, step⟩
    · have td := T.done (X.blk s3 H3 scope ce fp) rfl rfl rfl hc i [] s5 _ H5 (fun _ _ => False) I5 (stat I5 n5) st5 stop
      refine thnF td fun r s6 ⟨hr, I6⟩ => ?_
      subst hr
      -- back in the def's context
      have I7 : Inv X pins σ H5 s6 := I3.call' (ch := fp) I6.os I6.base I6.hok I6.bare fun b hb => ⟨(f3 b hb).1.2.2.2.1, (f3 b hb).1.2.1, (f3 b hb).1.2.2.2.2.1, (f3 b hb).1.2.2.2.2.2⟩
      have nC : H5 s3.heap.objs.size = none := by
        have z : H5 ce.locals = none := I6.free
        rw [cL] at z
        exact z
      obtain ⟨m, hn, _⟩ := I6.loc
      have hn : s6.heap.Ns ce.locals m := hn
      rw [cL] at hn
      exact hRR D s3.heap.objs.size s6 m H5 I7 qq hn (I3.fpOk (Nat.le_refl _) nC)
    · have ti := T.item (X.blk s3 H3 scope ce fp) rfl rfl rfl hc i [] s5 _ H5 (fun _ _ => False) I5 (stat I5 n5) st5 go
      refine thnF ti fun r s6 ⟨u, hr, h6⟩ => ?_
      subst hr
      refine thnF h6 fun _ s7 ⟨x, H7, I7, r7, y7, st7, n7⟩ => ?_
      have I7' := I7.pinned (stat I7 n7) (T.obj _ _ st7)
      refine thnF (pg.run _ s7 _ H7 x u _ I7' r7 (step x H7 y7)) fun _ s8 ⟨σ8, H8, I8, hw8, q8⟩ => ?_
      refine thnF (pt.run _ s8 σ8 H8 _ I8 q8) fun b s9 ⟨H9, I9, q9⟩ => ?_
      -- the turn's end
      have fin : ∀ {s' : Shared} {H' : Hp}, Inv (X.blk s3 H3 scope ce fp) ([] ++ pinsAt fp s7.heap) σ8 H' s' → Nx H' → ∃ m, m < n ∧ ∃ i H', Inv (X.blk s3 H3 scope ce fp) [] (wipe σ (own.map (·.2))) H' s' ∧ tn i s'.heap ∧ (∀ b ∈ fp, H' b = none) ∧ W i m H' := fun {s' H'} I' nx => by
        obtain ⟨m', hm, w'⟩ := hNx H' nx
        have pin' : ∀ b ∈ fp, ∀ o, s7.heap.get? b = some o → s'.heap.get? b = some o ∧ H' b = none := fun b hb o e =>
          let z := I'.pin (b, o) (List.mem_append_right _ (List.mem_append_right _ (mem_pinsAt hb e)))
          ⟨z.1, z.2.1⟩
        have hl : (wipe σ (own.map (·.2))).length = σ8.length := by rw [← hw8, wipe_length]
        refine ⟨m', hm, i + 1, H', (I'.unpinned (pins := [])).weak hl (fun j v e => ?_), T.keep _ _ _ st7 fun b hb o e => (pin' b hb o e).1, fun b hb => ?_, w'⟩
        · rw [← hw8] at e
          exact (wipe_some e).1
        · obtain ⟨o, e, _⟩ := T.obj _ _ st7 b hb
          exact (pin' b hb o e).2
      cases b with
      | false =>
        simp only [Bool.false_eq_true, if_false] at q9 ⊢
        exact fin I9 q9
      | true =>
        simp only [if_true] at q9 ⊢
        refine thnF (pk.run _ s9 σ8 H9 _ I9 q9) fun z s10 ⟨yk, H10, I10, r10, q10⟩ => ?_
        refine thnF (pe.run _ s10 σ8 H10 _ I10 q10) fun z2 s11 ⟨yv, H11, I11, r11, es, k, b, ek, hb11, hk11, hD11, hz11, nx⟩ => ?_
        subst ek
        cases r10
        exact dn_dictSet (X := X.blk s3 H3 scope ce fp) (by have := hr.units; show X.A.units + 8 < cLine; omega) I11 hD11 hz11 hk11 hb11 r11 fun s12 I12 => fin I12 nx
  exact codeAny_compStart_dict loop (T.self X.A 0 _ _ _ st4 loop)

theorem pe_dcN {kx vx tg iter : Expr} {ifs : List Expr} {scope : Scope} {own : List (Str × Nat)} {pos : Pos} {wi : TI} {g : TG} {tt : TT} {tk tv : TE} {k0 : Nat} (hr : Room k0 X.A) (hc : X.calm = true) (hN : X.N.Nodup) (hi : PI X tg iter wi) (ok : BlkOk X.N X.env.scope scope own)
    (hg : ∀ (s : Shared) (H : Hp) (C : Addr) (cl : List (Str × Addr)) (fp : List Addr), PG (X.blk s H scope (compEnvC scope cl C X.env) fp) tg g) (ht : ∀ (s : Shared) (H : Hp) (C : Addr) (cl : List (Str × Addr)) (fp : List Addr), PTs (X.blk s H scope (compEnvC scope cl C X.env) fp) ifs tt)
    (hk : ∀ (s : Shared) (H : Hp) (C : Addr) (cl : List (Str × Addr)) (fp : List Addr), PE (X.blk s H scope (compEnvC scope cl C X.env) fp) kx tk)
    (he : ∀ (s : Shared) (H : Hp) (C : Addr) (cl : List (Str × Addr)) (fp : List Addr), PE (X.blk s H scope (compEnvC scope cl C X.env) fp) vx tv) (hs : ∀ x, foldedSetIterable iter X.env x = pure x := by intro _; rfl) :
    PE X (.DictComp kx vx [⟨tg, iter, ifs, 0⟩] scope pos) (tDcN X.kw wi g tt tk tv (own.map (·.2))) := by
  refine ⟨fun pins s σ H Q I h => ?_⟩
  rw [arm_eval_DictComp]
  refine dcN_core hr hc hN I hi ok hg ht hk he hs h fun D C s' m H' I' q hn f => ⟨m, hn, fun h'' sb => ?_⟩
  obtain ⟨f0, f1, f2, f3, f4, f5⟩ := f
  exact ⟨.ref D, H', I'.turned (t' := s'.toks) (fun b o hb e => (sb.2 b hb).trans e) f0 f1 f3 f4 f5, rfl, q⟩
end
end
end PD

set_option Elab.async false
set_option linter.all false
set_option maxRecDepth 100000
set_option maxHeartbeats 4000000
namespace PD
noncomputable section
open PySem PySem.Spec PyProof.Rows L2
section
variable {X : Cx}
def rLenN (K : KW) : List V → Hp → VK → Prop := fun xs H Q => ∃ (p : Addr) (es : List NE), xs = [.ref p] ∧ H p = some (dN K p es) ∧ (∀ e ∈ es, NkAt K H e.2.1 e.1) ∧ Q (.int ((es.length : Nat) : Int)) H
theorem call_lenN : CallR X (.builtin "len") (rLenN X.kw) := by
  intro pins s σ H xs us Q I r h
  obtain ⟨p, es, rfl, hp, hk, q⟩ := h
  obtain ⟨u, rfl, rx⟩ := vals1 r
  obtain rfl : u = Value.ref p := rx
  obtain ⟨z, hd, ys, rel, dd⟩ := dn_of I hp hk
  have hl : es.length = ys.length := Paired.length rel
  refine call_len_dictH hd dd (by rw [← hl]; rw [sizeLine_eq] at z; omega) ?_
  rw [← hl]
  exact ⟨.int ((es.length : Nat) : Int), H, I.tok _, ⟨_, rfl⟩, q⟩
end
/-- the different ones -/
def addK (acc : List NestedKey) (k : NestedKey) : List NestedKey := if k ∈ acc then acc else acc ++ [k]
def diffK (ks : List NestedKey) : List NestedKey := ks.foldl addK []
theorem atN_mem {es : List NE} {k : NestedKey} : (atN es k).isSome = decide (k ∈ es.map (·.1)) := by
  unfold atN
  rw [Option.isSome_map, Bool.eq_iff_iff, List.find?_isSome]
  simp
theorem putN_fst {es : List NE} {k : NestedKey} {b : Addr} {v : V} : (putN es k b v).map (·.1) = addK (es.map (·.1)) k := by
  unfold putN addK
  rw [atN_mem]
  by_cases h : k ∈ es.map (·.1)
  · rw [if_pos (by simpa using h), if_pos h, List.map_map]
    refine List.map_congr_left fun e _ => ?_
    simp only [Function.comp]
    split <;> rfl
  · rw [if_neg (by simpa using h), if_neg h]
    simp
theorem addK_len {acc : List NestedKey} {k : NestedKey} : (addK acc k).length ≤ acc.length + 1 := by
  unfold addK; split <;> simp
theorem foldK_len : ∀ (ks acc : List NestedKey), (ks.foldl addK acc).length ≤ acc.length + ks.length
  | [], acc => Nat.le_refl _
  | k :: ks, acc => by
    refine Nat.le_trans (foldK_len ks _) ?_
    have := addK_len (acc := acc) (k := k)
    rw [List.length_cons]
    omega
/-- items that may be keys -/
def keyD (x : D) : Option NestedKey := match x with
  | .tuple xs => (match nkD (.tuple xs) with
    | some k => if k.depth ≤ 8 then some k else none
    | none => none)
  | _ => none
def keysD : List D → Option (List NestedKey)
  | [] => some []
  | x :: xs => (keyD x).bind fun k => (keysD xs).map fun ks => k :: ks
theorem keyD_at {K : KW} {G : Hp} {v : V} {x : D} {k : NestedKey} (r : Rp K G v x) (h : keyD x = some k) : ∃ b, v = .ref b ∧ NkAt K G b k := by
  unfold keyD at h
  split at h
  · split at h
    · rename_i e
      split at h
      · rename_i hz
        cases h
        cases r with
        | tup h1 h2 => exact ⟨_, rfl, _, .tup h1 h2, e, hz⟩
      · cases h
    · cases h
  · cases h
theorem keysD_at {K : KW} {G : Hp} : ∀ {vs : List V} {xs : List D} {ks : List NestedKey} {i : Nat} {v : V}, RpA K G vs xs → keysD xs = some ks → vs[i]? = some v → ∃ b k, v = .ref b ∧ ks[i]? = some k ∧ NkAt K G b k
  | _, _, _, _, _, .nil, _, h => by simp at h
  | _, _, _, 0, _, .cons r _, e, h => by
    simp at h; subst h
    obtain ⟨k, e1, e2⟩ := Option.bind_eq_some_iff.mp e
    obtain ⟨ks, e3, rfl⟩ := Option.map_eq_some_iff.mp e2
    obtain ⟨b, h1, h2⟩ := keyD_at r e1
    exact ⟨b, k, h1, rfl, h2⟩
  | _, _, _, i + 1, v, .cons _ t, e, h => by
    obtain ⟨k, e1, e2⟩ := Option.bind_eq_some_iff.mp e
    obtain ⟨ks, e3, rfl⟩ := Option.map_eq_some_iff.mp e2
    obtain ⟨b, k', h1, h2, h3⟩ := keysD_at t e3 (i := i) (v := v) (by simpa using h)
    exact ⟨b, k', h1, by simpa using h2, h3⟩
theorem keysD_len : ∀ {xs : List D} {ks : List NestedKey}, keysD xs = some ks → ks.length = xs.length
  | [], _, e => by cases e; rfl
  | x :: xs, _, e => by
    obtain ⟨k, e1, e2⟩ := Option.bind_eq_some_iff.mp e
    obtain ⟨ks, e3, rfl⟩ := Option.map_eq_some_iff.mp e2
    simp [keysD_len e3]
/-- over a list that stays -/
theorem dcN_list {K : KW} {a : Addr} {xs : List V} {g : TG} {tt : TT} {tk tv : TE} {vs : List Nat} {σ : L2.St} {H1 : Hp} {D : Addr} {Qd : Hp → Prop} (Pv : Nat → Hp → Prop) (h0 : Pv 0 (upd H1 D (dN K D []))) (hl : ∀ i H, i ≤ xs.length → Pv i H → SqL K H a xs)
    (hs : ∀ i x H, xs[i]? = some x → Pv i H → g x (wipe σ vs) H fun σ2 H2 => wipe σ2 vs = wipe σ vs ∧ tt σ2 H2 fun b H3 =>
      if b = true then tk σ2 H3 fun y H4 => tv σ2 H4 fun z H5 => ∃ es k b, y = .ref b ∧ NkAt K H5 b k ∧ (∀ e ∈ es, NkAt K H5 e.2.1 e.1) ∧ H5 D = some (dN K D es) ∧ es.length < sizeLine ∧ Pv (i + 1) (upd H5 D (dN K D (putN es k b z))) else Pv (i + 1) H3) (hd : ∀ H, Pv xs.length H → Qd H) :
    ∃ W : Nat → Nat → Hp → Prop, (∃ m, W 0 m (upd H1 D (dN K D []))) ∧ ∀ i m H, W i m H →
      ((Itl K a).stop i H ∧ Qd H) ∨ ((Itl K a).go i H ∧ ∃ Nx : Hp → Prop, (∀ H', Nx H' → ∃ m', m' < m ∧ W (i + 1) m' H') ∧ ∀ x H', (Itl K a).yld i H x H' → g x (wipe σ vs) H' fun σ2 H2 => wipe σ2 vs = wipe σ vs ∧ tt σ2 H2 fun b H3 =>
        if b = true then tk σ2 H3 fun y H4 => tv σ2 H4 fun z H5 => ∃ es k b, y = .ref b ∧ NkAt K H5 b k ∧ (∀ e ∈ es, NkAt K H5 e.2.1 e.1) ∧ H5 D = some (dN K D es) ∧ es.length < sizeLine ∧ Nx (upd H5 D (dN K D (putN es k b z))) else Nx H3) := by
  refine ⟨fun i m H => m = xs.length - i ∧ i ≤ xs.length ∧ Pv i H, ⟨xs.length, by simp, Nat.zero_le _, h0⟩, ?_⟩
  rintro i m H ⟨rfl, hi, p⟩
  have q := hl i H hi p
  by_cases hlt : i < xs.length
  · refine .inr ⟨⟨xs, xs[i], q, by simp [hlt]⟩, Pv (i + 1), fun H' p' => ⟨xs.length - (i + 1), by omega, rfl, hlt, p'⟩, fun x H' y => ?_⟩
    obtain ⟨e, y⟩ := y
    subst e
    exact hs i x _ (y xs q) p
  · have e : i = xs.length := by omega
    subst e
    exact .inl ⟨⟨xs, q, Nat.le_refl _⟩, hd H p⟩
section
variable {X : Cx} {E : XK} {e : Expr} {fe : EM} {pos : Pos} {k : Nat}
def eLenNK (i : Nat) (f : EM) : EM := fun s => (f s).bind fun p => match toD p.1 p.2 with
  | some (.list xs, s2) => (match keysD xs with
    | some ks => if ks.length < sizeLine ∧ i < s2.env.length then .ok (.d (.int (diffK ks).length), s2) else .bad
    | none => .bad)
  | _ => .bad
theorem pd_lenNK (i : Nat) {x : Str} {p p2 p3 p4 p5 : Pos} {j : Nat} {scope : Scope} (hm : X.mg "len" = none) (hr : Room k X.A) (hcalm : X.calm = true) (hN : X.N.Nodup) (ha : PDE X E e fe) (ok : BlkOk X.N X.env.scope scope [(x, i)])
    (hg1 : ∀ (s : Shared) (H : Hp) (C : Addr) (cl : List (Str × Addr)) (fp : List Addr), PG (X.blk s H scope (compEnvC scope cl C X.env) fp) (.Name x p4) (gName i))
    (hk1 : ∀ (s : Shared) (H : Hp) (C : Addr) (cl : List (Str × Addr)) (fp : List Addr), PE (X.blk s H scope (compEnvC scope cl C X.env) fp) (.Name x p2) (tVar i))
    (hg : Gl X "len" := by rfl) (hs : ∀ y, foldedSetIterable e X.env y = pure y := by intro _; rfl)
    (he : starEach [.DictComp (.Name x p2) (.Constant (.bool true) j p3) [⟨.Name x p4, e, [], 0⟩] scope p5] X.env = (false, eval (.DictComp (.Name x p2) (.Constant (.bool true) j p3) [⟨.Name x p4, e, [], 0⟩] scope p5) X.env) :: starEach [] X.env := by rfl) :
    PDE X E (.Call (.Name "len" p) [.DictComp (.Name x p2) (.Constant (.bool true) j p3) [⟨.Name x p4, e, [], 0⟩] scope p5] [] pos) (eLenNK i fe) := by
  have hb : PE X (.DictComp (.Name x p2) (.Constant (.bool true) j p3) [⟨.Name x p4, e, [], 0⟩] scope p5) _ :=
    pe_dcN hr hcalm hN (pi_list ha.pe) ok (g := gName i) (tt := tYes) (tk := tVar i) (tv := tC (.bl true)) hg1 (fun s H C cl fp => pts_nil) hk1 (fun s H C cl fp => pe_bl) hs
  refine ⟨PE.imp (pe_callB call_lenN hg hm PySem.boot_len (pa_cons hb pa_nil he) (by decide) (by decide) he) fun σ H Q h => ?_⟩
  obtain ⟨F, G, as, s, R, h⟩ := h
  refine eT.seq R h fun G0 H1 w s1 v R0 X0 r0 n0 h0 => ?_
  dsimp only at h0
  split at h0
  case h_2 => exact h0.elim
  rename_i xs s2 e2
  obtain ⟨G1, R1, X1, r1⟩ := toD_ok R0 r0 e2
  have h1 := eK.ext h0 R0 R1 X1
  split at h1
  case h_2 => exact h1.elim
  rename_i ks ek
  split at h1
  case isFalse => exact h1.elim
  rename_i hz
  cases r1 with
  | @lst a vs _ k1 k2 =>
  have hq : SqL X.K H1 a vs := R1.same.seq k1
  refine ⟨a, rfl, ⟨vs, hq⟩, fun D hD => ?_⟩
  have ln : vs.length = ks.length := by rw [k2.length, keysD_len ek]
  have kl := keysD_len ek
  refine dcN_list (K := X.kw) (xs := vs) (Pv := fun i Hh => ∃ es : List NE, Hh = upd H1 D (dN X.kw D es) ∧ es.map (·.1) = diffK (ks.take i) ∧ ∀ e ∈ es, NkAt X.kw G1 e.2.1 e.1) ⟨[], rfl, rfl, fun _ z => nomatch z⟩ (fun j Hh _ e => ?_) (fun j y Hh hy e => ?_) fun Hh e => ?_
  · obtain ⟨es, rfl, _⟩ := e
    exact (same_upd hD).seq hq
  · obtain ⟨es, rfl, em, hk⟩ := e
    obtain ⟨b, kk, rfl, h3, h4⟩ := keysD_at k2 ek hy
    have sg : Same G1 (upd H1 D (dN X.kw D es)) := R1.same.trans (same_upd hD)
    refine ⟨?_, .ref b, ?_, es, kk, b, rfl, h4.mono sg, fun e he => (hk e he).mono sg, upd_same, ?_, putN es kk b (.bl true), upd_upd, ?_, putN_keys hk h4⟩
    · show ((σ.set i none).set i (some (V.ref b))).set i none = σ.set i none
      rw [List.set_set, List.set_set]
    · show ((σ.set i none).set i (some (V.ref b)))[i]? = some (some (V.ref b))
      rw [List.set_set, List.getElem?_set_self (by rw [R1.len]; exact hz.2)]
    · have := foldK_len (ks.take j) []
      have e1 : es.length = (diffK (ks.take j)).length := by rw [← em, List.length_map]
      rw [List.length_take] at this
      have : (diffK (ks.take j)).length ≤ ks.length := by unfold diffK; simp only [List.length_nil] at this; omega
      have := hz.1
      omega
    · rw [putN_fst, em]
      unfold diffK
      rw [List.take_add_one, h3, List.foldl_append]
      rfl
  · obtain ⟨es, rfl, em, hk⟩ := e
    rw [ln, List.take_length] at em
    have sg : Same G1 (upd H1 D (dN X.kw D es)) := R1.same.trans (same_upd hD)
    refine ⟨D, es, rfl, upd_same, fun e he => (hk e he).mono sg, ?_⟩
    have e1 : es.length = (diffK ks).length := by rw [← em, List.length_map]
    rw [e1]
    exact h1 _ _ _ (R1.new hD _) (Ext.alloc hD) (.int _) fun _ _ z _ => nomatch z
end
end
end PD

set_option Elab.async false
set_option linter.all false
set_option maxRecDepth 100000
set_option maxHeartbeats 4000000
namespace PD
noncomputable section
open PySem PySem.Spec PyProof.Rows L2 LamX
/-! ### a lambda handed to a def: what is new -/
/-- the table stays, or grows by one new code object at c -/
def Made (H : Hp) (P : Addr) (q : Str) (ps : Array Value) (c : Addr) (H1 : Hp) : Prop := H1 = H ∨ ∃ more : Array Value, H c = none ∧ H1 = upd (upd H P (.tbl (ps ++ more))) c (CodeO c q) ∧ TriplesOk (ps ++ more).toList ∧
  ∀ (pos : Pos) (cv : Value), codeAmong pos (ps ++ more).toList = some cv → codeAmong pos ps.toList = some cv ∨ cv = .ref c
def TabAt (H : Hp) (P : Addr) (q : Str) (ps : Array Value) : Prop := H P = some (.tbl ps) ∧ TriplesOk ps.toList ∧ ∀ (pos : Pos) (cv : Value), codeAmong pos ps.toList = some cv → ∃ c, cv = .ref c ∧ H c = some (CodeO c q)
section
variable {X : Cx} {pins : List (Addr × Obj)} {σ : L2.St} {H : Hp} {s : Shared}
theorem lam_make3 {c P : Addr} {ps : Array Value} {params : Arguments} {body : Expr} {scope : Scope} {pos : Pos} {E : Value → Shared → Prop} {Q : Value → Shared → Prop} (I : Inv X pins σ H s) (TB : TabB X.base X.mg c P) (hcode : X.env.code = .ref c)
    (hT : TabAt H P (X.env.qual ++ "<lambda>") ps) (hdef : defaultsOf params X.env = ([], [])) (hfree : ∀ y ∈ scope.names, y.2 = .free → ∃ c, X.env.cells.lookup y.1 = some c)
    (h : ∀ (f c' : Addr) (pm ctv : Value) (H1 : Hp) (s' : Shared), Inv X pins σ H1 s' → Made H P (X.env.qual ++ "<lambda>") ps c' H1 →
      s'.heap.get? f = some (PySem.W.kla_obj "<lambda>" (X.env.qual ++ "<lambda>") params body scope (cloFrom X.env.cells scope.names []) pm c' ctv) → H1 f = none → f ∉ frs X.stack → H1 c' = some (CodeO c' (X.env.qual ++ "<lambda>")) → Q (.ref f) s') :
    wpAny (model X.prog X.w) X.A (eval (.Lambda params body scope pos) X.env) Q E s := by
  obtain ⟨hP, ht, ha⟩ := hT
  refine PySem.W.kla_eval hdef ?_
  have bP : s.heap.BuiltinsAt X.mg P := TB.bm.keeps I.bk
  have hP' : s.heap.get? P = some { cls := .none, data := .fields ps } := I.hok P _ hP
  have nofr : ∀ f, s.heap.objs.size ≤ f → f ∉ frs X.stack := fun f hf z => by
    rcases List.mem_cons.mp (I.stkSub _ z) with e | e
    · have h1 := I.lt
      rw [← e] at h1
      exact Nat.lt_irrefl _ (Nat.lt_of_lt_of_le h1 hf)
    · exact I.nofs hf e
  cases hc : codeAmong pos ps.toList with
  | none =>
    refine PySem.W.kla_makeFunction (mg := X.mg) (c := c) (P := P) (ps := ps) (closure_ok hfree) I.ok.glob (I.mod.glob.keeps I.bk) hcode (TB.code.keeps I.bk) hP' ht hc TB.gP bP fun c' ctv h' tk hx hge hlt hrec htb => ?_
    obtain ⟨c2, oc, vs, t, e2, hoc, hd, hv⟩ := hrec
    cases e2
    have hsz : s.heap.objs.size ≤ h'.objs.size := Nat.le_trans hge (Nat.le_of_lt hlt)
    have nC : H c' = none := I.hok.fresh hge
    have I1 := inv_table (t' := tk) (more := #[rawInt pos.line, rawInt pos.col, .ref c']) (h' := h'.push (PySem.W.kla_obj "<lambda>" (X.env.qual ++ "<lambda>") params body scope (cloFrom X.env.cells scope.names []) ((X.mg "__name__").getD .none) c' ctv)) I hP
      (fun b o hb e => Heap.get?_push_of_some _ (hx b o hb e)) (Heap.get?_push_of_some _ htb) hge ⟨oc, vs, t, Heap.get?_push_of_some _ hoc, hd, hv⟩
    have eL : (ps ++ #[rawInt pos.line, rawInt pos.col, .ref c']).toList = ps.toList ++ [rawInt pos.line, rawInt pos.col, .ref c'] := by simp
    refine h h'.objs.size c' ((X.mg "__name__").getD .none) ctv _ _ I1 (.inr ⟨_, nC, rfl, by rw [eL]; exact PySem.TriplesOk_snoc _ _ _ _ ht, fun p' cv hcv => ?_⟩) (Heap.get?_push_size _ rfl) ?_ (nofr _ hsz) upd_same
    · rw [eL] at hcv
      exact among_app _ ht hcv
    · have n1 : h'.objs.size ≠ c' := Nat.ne_of_gt hlt
      have n2 : h'.objs.size ≠ P := Nat.ne_of_gt (Nat.lt_of_lt_of_le (Heap.lt_size hP') hsz)
      rw [upd_ne n1, upd_ne n2]
      exact I.hok.fresh hsz
  | some cv =>
    obtain ⟨c', e, hco⟩ := ha pos cv hc
    subst e
    refine PySem.W.kla_makeFunctionHit (mg := X.mg) (c := c) (P := P) (ps := ps) (closure_ok hfree) I.ok.glob (I.mod.glob.keeps I.bk) hcode (TB.code.keeps I.bk) hP' ht hc bP fun ctv h' tk hx hsz => ?_
    have I1 : Inv X pins σ H { s with heap := h'.push (PySem.W.kla_obj "<lambda>" (X.env.qual ++ "<lambda>") params body scope (cloFrom X.env.cells scope.names []) ((X.mg "__name__").getD .none) c' ctv), toks := tk } := I.kept fun b o e => Heap.get?_push_of_some _ (hx b o e)
    exact h h'.objs.size c' ((X.mg "__name__").getD .none) ctv H _ I1 (.inl rfl) (Heap.get?_push_size _ rfl) (I.hok.fresh hsz) (nofr _ hsz) hco
end
def tLam3 (P : Addr) (q : Str) (TT : (XK → Hp → VK → Prop) → Hp → VK → Prop) (t : XK → TE) : TE := fun σ H Q => ∃ ps, TabAt H P q ps ∧ ∀ c' H1, Made H P q ps c' H1 → H1 c' = some (CodeO c' q) → TT (fun E H' Q' => t E σ H' Q') H1 Q
section
variable {X : Cx}
/-- x(lambda: body) -/
theorem pe_lamcall3 {TT : (XK → Hp → VK → Prop) → Hp → VK → Prop} {x a : Str} {g c P : Addr} {k : Nat} {pg : Arguments} {bg : List Stmt} {sg : Scope} {dV kV doc pm cdv ct oc : Value} {an od : Option Addr} {osl : Array (Option Value)} {Ng : List Str}
    {params : Arguments} {body : Expr} {scope : Scope} {t : XK → TE} {p lpos pos : Pos} (hg : Gl X x) (hm : X.mg x = some (.ref g)) (hk : PySem.W.keepIn X.K (.ref g) = true)
    (lk : X.K.lookup g = some ⟨oc, od, .func (PySem.W.fnOf x x pg bg sg dV kV doc pm an cdv ct), osl⟩) (hcg : PySem.W.codeIn X.K cdv x = true) (hb : L2.Binds X.K (PySem.W.fnOf x x pg bg sg dV kV doc pm an cdv ct) [a] []) (Sg : FnScope Ng [a] sg) (hNg : Ng[0]? = some a) (hva : Vis sg a)
    (hG : GivesTo X Ng x sg g cdv bg a (X.env.qual ++ "<lambda>") TT)
    (TB : TabB X.base X.mg c P) (hcode : X.env.code = .ref c) (hr : Room (k + 2) X.A) (L : LamS X.env.scope scope) (hdef : defaultsOf params X.env = ([], []))
    (hbind : ∀ (q : Str) (cl : List (Str × Addr)) (pm cv ctv : Value), bindArgs (PySem.W.kla_fn "<lambda>" q params body scope cl pm cv ctv) ⟨[], []⟩ = pure [])
    (hbody : ∀ (A : Around) (outer : List Env) (s : Shared) (H : Hp) (E : XK) (f c' : Addr), Room k (A.deeper (lamEnv X scope s.heap.objs.size f c')) → PE (lamCx X A outer s H E scope f c') body (t E))
    (hdb : (x == ("__debug__" : Str)) = false := by decide) (hd : (a == ("__debug__" : Str)) = false := by decide) (hcd : (a == ("__classdict__" : Str)) = false := by decide) :
    PE X (.Call (.Name x p) [.Lambda params body scope lpos] [] pos) (tLam3 P (X.env.qual ++ "<lambda>") TT t) := by
  refine ⟨fun pins s σ H Q I h => ?_⟩
  obtain ⟨ps, hT, h⟩ := h
  refine wpAny_Call_Name_kw (ld_glob I hg hm ?_ hdb)
  refine PySem.W.callWith_K (h₀ := X.base) I.ok.mod.kin hk ?_ (by rfl) (by rfl)
  show wpAny _ _ (spliced ((false, eval (.Lambda params body scope lpos) X.env) :: backTo pos (starEach [] X.env))) _ _ s
  refine Calls.spliced_cons (lam_make3 I TB hcode hT hdef (L.has I.ok) fun f c' pm' ctv H1 s' I1 md hf hfn hfr hco => ?_)
  refine Calls.spliced_nil ⟨I1.kIn, ?_⟩
  have rc : codeAny (model X.prog X.w) X.A (.call (.ref g) ⟨[.ref f], []⟩) (CR C8.CX0 X.stack X.prog X.w H1 s' Q C8.E0) s' := by
    refine run_ofS (N := Ng) (ps := [a]) (us := [.ref f]) (vs := [.ref f]) lk hcg Sg hr I1.env0 (hb s' [.ref f] I1.kIn rfl) (.cons rfl .nil) rfl fun hr' => ?_
    obtain ⟨t', ht', hq'⟩ := hG f c' s' H1 Q (fun E H' Q' => t E σ H' Q') (fun W pn xe E p1 p2 tk hW => pe_act (i := 0) I1 L hf hfn hfr (hbind _ _ _ _ _) tk hW hr' (fun A outer s H hr2 => hbody A outer s H E f c' hr2) hNg hva hd hcd) hco (h c' H1 md hco)
    exact ⟨t', ht'.nox, hq'⟩
  refine wpAny_call (codeAny_mono rc fun r s2 hq => ?_)
  cases r with
  | error e => exact (show False from hq).elim
  | ok fl =>
    cases fl with
    | ret u => exact I1.after hq
    | next => exact False.elim hq
    | brk => exact False.elim hq
    | cont => exact False.elim hq
end
end
end PD

set_option Elab.async false
set_option linter.all false
set_option maxRecDepth 100000
set_option maxHeartbeats 4000000
namespace PD
noncomputable section
open PySem PySem.Spec PyProof.Rows L2 LamX
section
variable {K : KW} {F : Addr → Prop} {G H H' : Hp} {as : List Addr} {s : S} {σ : L2.St}
/-- all that is tracked is kept -/
theorem Rep.keepAll (R : Rep K F G H as σ s) (k : Same H H') : Rep K F G H' as σ s :=
  ⟨R.same.trans k, R.len, R.alen, R.nd, fun a h => by
    obtain ⟨o, e⟩ := R.dom a h
    exact ⟨o, k a o e⟩, fun a h => by
    obtain ⟨k1, k2, o, e⟩ := R.fo a h
    exact ⟨k1, k2, o, k a o e⟩, fun n c e => by
    obtain ⟨a, k1, k2, k3⟩ := R.cell n c e
    exact ⟨a, k1, k2, k3.mono (Same.refl _) fun o z => k a o z⟩, fun i w e => by
    obtain ⟨v, k1, k2, k3⟩ := R.env i w e
    refine ⟨v, k1, ?_, k3⟩
    cases w with
    | d x => exact k2
    | c n => exact k2
    | f ys => exact absurd rfl (k3 ys)⟩
theorem upd_comm {H : Hp} {a b : Addr} {x y : HO} (h : a ≠ b) : upd (upd H a x) b y = upd (upd H b y) a x := by
  funext z
  by_cases h1 : z = a
  · subst h1; rw [upd_ne h, upd_same, upd_same]
  · by_cases h2 : z = b
    · subst h2; rw [upd_same, upd_ne h1, upd_same]
    · rw [upd_ne h2, upd_ne h1, upd_ne h1, upd_ne h2]
theorem set_self {α : Type} : ∀ {l : List α} {n : Nat} {x : α}, l[n]? = some x → l.set n x = l
  | [], _, _, h => by simp at h
  | a :: l, 0, x, h => by simp at h; subst h; rfl
  | a :: l, n + 1, x, h => by simp at h; rw [List.set_cons_succ, set_self h]
/-- the table grows -/
theorem Rep.made {P c : Addr} {q : Str} {ps : Array Value} {n : Nat} {H1 : Hp} (R : Rep K F G H as σ s) (e : s.mem[n]? = some (some (.t P q))) (ha : as[n]? = some P) (hT : H P = some (.tbl ps)) (hps : ∀ (pos : Pos) (cv : Value), codeAmong pos ps.toList = some cv → ∃ c, cv = .ref c ∧ G c = some (CodeO c q)) (md : Made H P q ps c H1) :
    ∃ G1, Rep K F G1 H1 as σ s ∧ Same G G1 ∧ ∀ a o, H a = some o → ¬ live as s a → H1 a = some o := by
  rcases md with rfl | ⟨more, hc, rfl, ht, hm⟩
  · exact ⟨G, R, Same.refl _, fun a o h _ => h⟩
  · have hne : P ≠ c := fun z => by rw [z, hc] at hT; cases hT
    have gc : G c = none := (R.fresh hc).1
    have R1 := R.newG hc (CodeO c q)
    have R2 := R1.mut (n := n) (a := P) (c := .t P q) (c' := .t P q) (o := .tbl (ps ++ more)) e ha ⟨rfl, _, upd_same, ht, fun pos cv hcv => by
      rcases hm pos cv hcv with z | z
      · obtain ⟨c0, e1, e2⟩ := hps pos cv z
        exact ⟨c0, e1, same_upd gc _ _ e2⟩
      · exact ⟨c, z, upd_same⟩⟩
    rw [set_self e, upd_comm (Ne.symm hne)] at R2
    refine ⟨_, R2, same_upd gc, fun a o h nl => ?_⟩
    have n1 : a ≠ c := fun z => by rw [z, hc] at h; cases h
    have n2 : a ≠ P := fun z => nl ⟨n, _, e, by rw [z]; exact ha⟩
    rw [upd_ne n1, upd_ne n2]
    exact h
end
/-- what comes of x(lambda: ..), the word by what the lambda's body gives -/
def eWord (ti : Nat) (P : Addr) (q : Str) (fb : EM) : EM := fun s => match s.mem[ti]? with
  | some (some (.t P' q')) => if P' = P ∧ q' = q then (match fb { s with mem := forget s.mem } with
    | .ok _ => .ok (.d (.str "let"), s)
    | .exc c => if c = "NoHistory" then .ok (.d (.str "history"), s) else .bad
    | .bad => .bad) else .bad
  | _ => .bad
/-- what the def that calls the lambda makes of it -/
def TWordG (K : PySem.W.Frag) (CS1 : Addr) : (XK → Hp → VK → Prop) → Hp → VK → Prop := fun tl H Q => ∀ (QN : VK) (Ex : XK), (∀ v H', Q (.str "let") H' → QN v H') →
  (∀ cls d H', (∃ b, PySem.W.exmOne K cls (.ref CS1) = some b ∧ (b = true → Q (.str "history") H') ∧ (b = false → False)) → Ex cls d H') → tl Ex H QN
section
variable {X : Cx} {E : XK} {CS1 P : Addr} {q : Str} {ti : Nat} {fb : EM}
theorem word_ok (hm : X.mg "NoHistory" = some (.ref CS1)) (hex : PySem.W.exmOne X.K (.ref CS1) (.ref CS1) = some true) {σ : L2.St} {H : Hp} {Q : VK} (h : eT X.kw X.mg E (eWord ti P q fb) σ H Q) :
    tLam3 P q (TWordG X.K CS1) (fun Ex => eT X.kw X.mg Ex fb) σ H Q := by
  obtain ⟨F, G, as, s, R, h⟩ := h
  unfold eWord at h
  split at h
  case h_2 => exact h.elim
  rename_i P' q' e
  split at h
  case isFalse => exact h.elim
  rename_i eq
  obtain ⟨rfl, rfl⟩ := eq
  obtain ⟨a, ha, _, rfl, ps, hT, ht, hps⟩ := R.cell ti _ e
  refine ⟨ps, ⟨hT, ht, fun pos cv hcv => ?_⟩, fun c' H1 md hc => ?_⟩
  · obtain ⟨c, e1, e2⟩ := hps pos cv hcv
    exact ⟨c, e1, R.same _ _ e2⟩
  · intro QN Ex hQ hE
    obtain ⟨G1, R1, sg, kp⟩ := R.made e ha hT hps md
    have fin : ∀ (z : Str) (H' : Hp), Same H1 H' → eK X.kw X.mg E F G H as s σ (.ok (.d (.str z), s)) Q → Q (.str z) H' := fun z H' k h =>
      h (.str z) G1 H' (R1.keepAll k) ⟨sg, fun a o ha nl => k a o (kp a o ha nl), fun a l => .inl l⟩ (.str z) fun _ _ z _ => nomatch z
    refine ⟨F, G1, as, { s with mem := forget s.mem }, R1.forget, ?_⟩
    cases e2 : fb { s with mem := forget s.mem } with
    | bad => rw [e2] at h; exact h.elim
    | ok p =>
      obtain ⟨w, s2⟩ := p
      rw [e2] at h
      intro v G' H' R' X' r n
      exact hQ v H' (fin _ H' (fun a o z => X'.keep a o z not_live_forget) h)
    | exc c =>
      rw [e2] at h
      dsimp only at h
      split at h
      · rename_i ec
        subst ec
        intro C H' hC k
        rw [hm] at hC
        cases hC
        exact hE _ _ _ ⟨true, hex, fun _ => fin _ H' (fun a o z => k a o z not_live_forget) h, fun z => nomatch z⟩
      · exact h.elim
end
end
end PD

set_option Elab.async false
set_option linter.all false
set_option maxRecDepth 100000
set_option maxHeartbeats 4000000
/-! sets with nested keys: the lines of the sets with tuples of ints, turned to nested keys -/
namespace PD
noncomputable section
open PySem PySem.Spec PyProof.Rows L2
abbrev NkI (P : Program) (w : World) (h : Heap) (k : NestedKey) (a : Addr) : Prop := (nestedKind P w).is h k a
abbrev nkh (P : Program) (w : World) (k : NestedKey) : Int := (nestedKind P w).hash k
section
variable {P : Program} {w : World} {A : Around} {E : Value → Shared → Prop} {s : Shared}
theorem ofAClass_plain {n : Nat} {v : Value} (h : v = .none ∨ (∃ b, v = .bool b) ∨ (∃ i t, v = .int i t) ∨ ∃ x t, v = .str x t) : ofAClassStatement n v = pure false := by
  rcases h with rfl | ⟨b, rfl⟩ | ⟨i, t, rfl⟩ | ⟨x, t, rfl⟩ <;> cases n <;> rfl
theorem hashBy_plain {n : Nat} {v : Value} (h : v = .none ∨ (∃ b, v = .bool b) ∨ (∃ i t, v = .int i t) ∨ ∃ x t, v = .str x t) : ∃ b, hashByValue n v = pure b := by
  rcases h with rfl | ⟨b, rfl⟩ | ⟨i, t, rfl⟩ | ⟨x, t, rfl⟩
  · exact ⟨true, by cases n <;> rfl⟩
  · exact ⟨true, by cases n <;> rfl⟩
  · exact ⟨true, by cases n <;> rfl⟩
  · exact ⟨false, by cases n <;> rfl⟩
mutual
theorem ofAClass_key : ∀ (k : NestedKey) (v : Value) (n : Nat), NestedIs s.heap k v → k.depth ≤ n → ∀ (A : Around) (Q : Bool → Shared → Prop), Q false s → wpAny (model P w) A (ofAClassStatement n v) Q E s
  | .none, _, n, x, _, A, Q, h => by cases x; rw [ofAClass_plain (.inl rfl)]; exact wpAny_pure h
  | .num i, _, n, x, _, A, Q, h => by
    cases x with
    | bool _ => rw [ofAClass_plain (.inr (.inl ⟨_, rfl⟩))]; exact wpAny_pure h
    | int _ t => rw [ofAClass_plain (.inr (.inr (.inl ⟨_, _, rfl⟩)))]; exact wpAny_pure h
  | .text y, _, n, x, _, A, Q, h => by cases x; rw [ofAClass_plain (.inr (.inr (.inr ⟨_, _, rfl⟩)))]; exact wpAny_pure h
  | .tup ks, _, n, x, hn, A, Q, h => by
    cases x with
    | @tup b o items m _ ho hc hd hi =>
      have hT : s.TypeIs (.ref b) "tuple" := ⟨o, ho, hc⟩
      simp only [NestedKey.depth] at hn
      cases n with
      | zero => omega
      | succ n =>
        unfold ofAClassStatement
        refine wpAny_bind (wpAny_typeOf hT ?_)
        dsimp only
        have e : (("tuple" : String) == "tuple") = true := by decide
        simp only [e, if_true, Bool.not_true, Bool.false_eq_true, if_false]
        try refine wpAny_bind (wpAny_pure ?_)
        try simp only [Bool.not_true, Bool.false_eq_true, if_false]
        show wpAny _ _ (seqItems? (.ref b) >>= _) _ _ s
        refine wpAny_bind (wpAny_seqItems ho hd ?_)
        dsimp only
        refine wpAny_bind ?_
        show wpAny _ _ (forIn items _ _) _ _ s
        rw [← Array.forIn_toList]
        have hall0 := ofAClass_keys ks items.toList n hi (by omega)
        refine wpAny_forIn_list _ (fun rest r s' => r.1 = none ∧ s' = s ∧ ∀ v ∈ rest, ∀ (A : Around) (Q : Bool → Shared → Prop), Q false s → wpAny (model P w) A (ofAClassStatement n v) Q E s) _ ?_ ?_ _ _ ⟨rfl, rfl, hall0⟩
        · rintro v rest r s' ⟨hr, rfl, hall⟩
          refine wpAny_bind (hall v List.mem_cons_self A _ ?_)
          simp only [Bool.false_eq_true, if_false]
          exact wpAny_pure ⟨rfl, rfl, fun u hu' => hall u (List.mem_cons_of_mem _ hu')⟩
        · rintro ⟨r1, r2⟩ s' ⟨hr, rfl, _⟩
          simp only at hr
          subst hr
          exact wpAny_pure h
theorem ofAClass_keys : ∀ (ks : List NestedKey) (vs : List Value) (n : Nat), NestedAll s.heap ks vs → NestedKey.depthAll ks ≤ n → ∀ v ∈ vs, ∀ (A : Around) (Q : Bool → Shared → Prop), Q false s → wpAny (model P w) A (ofAClassStatement n v) Q E s
  | [], _, n, x, _, v, hv => by cases x; cases hv
  | k :: ks, _, n, x, hn, v, hv => by
    cases x with
    | cons x1 x2 =>
      simp only [NestedKey.depthAll] at hn
      rcases List.mem_cons.mp hv with e | hv
      · rw [e]; exact ofAClass_key k _ n x1 (by omega)
      · exact ofAClass_keys ks _ n x2 (by omega) v hv
end
mutual
theorem hashBy_key : ∀ (k : NestedKey) (v : Value) (n : Nat), NestedIs s.heap k v → k.depth ≤ n → ∀ (A : Around) (Q : Bool → Shared → Prop), (∀ b, Q b s) → wpAny (model P w) A (hashByValue n v) Q E s
  | .none, _, n, x, _, A, Q, h => by cases x; obtain ⟨b, e⟩ := hashBy_plain (n := n) (.inl rfl); rw [e]; exact wpAny_pure (h b)
  | .num i, _, n, x, _, A, Q, h => by
    cases x with
    | bool _ => obtain ⟨b, e⟩ := hashBy_plain (n := n) (.inr (.inl ⟨_, rfl⟩)); rw [e]; exact wpAny_pure (h b)
    | int _ t => obtain ⟨b, e⟩ := hashBy_plain (n := n) (.inr (.inr (.inl ⟨_, _, rfl⟩))); rw [e]; exact wpAny_pure (h b)
  | .text y, _, n, x, _, A, Q, h => by cases x; obtain ⟨b, e⟩ := hashBy_plain (n := n) (.inr (.inr (.inr ⟨_, _, rfl⟩))); rw [e]; exact wpAny_pure (h b)
  | .tup ks, _, n, x, hn, A, Q, h => by
    cases x with
    | @tup b o items m _ ho hc hd hi =>
      have hT : s.TypeIs (.ref b) "tuple" := ⟨o, ho, hc⟩
      simp only [NestedKey.depth] at hn
      cases n with
      | zero => omega
      | succ n =>
        unfold hashByValue
        refine wpAny_bind (wpAny_specialOf hT F.slot_tuple_hash.lookup ?_)
        show wpAny _ _ (seqItems? (.ref b) >>= _) _ _ s
        refine wpAny_bind (wpAny_seqItems ho hd ?_)
        refine wpAny_bind ?_
        show wpAny _ _ (forIn items _ _) _ _ s
        rw [← Array.forIn_toList]
        have hall0 := hashBy_keys ks items.toList n hi (by omega)
        refine wpAny_forIn_list _ (fun rest r s' => r.1 = none ∧ s' = s ∧ ∀ v ∈ rest, ∀ (A : Around) (Q : Bool → Shared → Prop), (∀ b, Q b s) → wpAny (model P w) A (hashByValue n v) Q E s) _ ?_ ?_ _ _ ⟨rfl, rfl, hall0⟩
        · rintro v rest r s' ⟨hr, rfl, hall⟩
          refine wpAny_bind (hall v List.mem_cons_self A _ fun bv => ?_)
          cases bv with
          | true =>
            simp only [Bool.not_true, Bool.false_eq_true, if_false]
            exact wpAny_pure ⟨rfl, rfl, fun u hu' => hall u (List.mem_cons_of_mem _ hu')⟩
          | false =>
            simp only [Bool.not_false, if_true]
            exact wpAny_pure (wpAny_pure (h false))
        · rintro ⟨r1, r2⟩ s' ⟨hr, rfl, _⟩
          simp only at hr
          subst hr
          exact wpAny_pure (h true)
theorem hashBy_keys : ∀ (ks : List NestedKey) (vs : List Value) (n : Nat), NestedAll s.heap ks vs → NestedKey.depthAll ks ≤ n → ∀ v ∈ vs, ∀ (A : Around) (Q : Bool → Shared → Prop), (∀ b, Q b s) → wpAny (model P w) A (hashByValue n v) Q E s
  | [], _, n, x, _, v, hv => by cases x; cases hv
  | k :: ks, _, n, x, hn, v, hv => by
    cases x with
    | cons x1 x2 =>
      simp only [NestedKey.depthAll] at hn
      rcases List.mem_cons.mp hv with e | hv
      · rw [e]; exact hashBy_key k _ n x1 (by omega)
      · exact hashBy_keys ks _ n x2 (by omega) v hv
end
theorem hashBy_nk {k : NestedKey} {b : Addr} {Q : Bool → Shared → Prop} (hk : NkI P w s.heap k b) (h : ∀ b, Q b s) : wpAny (model P w) A (hashByValue 8 (.ref b)) Q E s := hashBy_key k _ 8 hk.1 hk.2 A Q h
/-- a search among keys shows nothing -/
theorem seen_nk {k : NestedKey} {b : Addr} {Q : Bool → Shared → Prop} (hk : NkI P w s.heap k b) {ys : List Value} (hy : ∀ y ∈ ys, ∃ k' c, y = Value.ref c ∧ NkI P w s.heap k' c) (h : Q false s) :
    wpAny (model P w) A (searchCouldBeSeen (.ref b) ys) Q E s := by
  unfold searchCouldBeSeen
  refine wpAny_bind ?_
  refine wpAny_forIn_list _ (fun rest r s' => r.1 = none ∧ s' = s ∧ ∀ y ∈ rest, ∃ k' c, y = Value.ref c ∧ NkI P w s.heap k' c) _ ?_ ?_ _ _ ⟨rfl, rfl, hy⟩
  · rintro v rest r s' ⟨hr, rfl, hall⟩
    obtain ⟨k', c, rfl, hc⟩ := hall v List.mem_cons_self
    have rest' : ∀ y ∈ rest, ∃ k' c, y = Value.ref c ∧ NkI P w s'.heap k' c := fun u hu' => hall u (List.mem_cons_of_mem _ hu')
    dsimp only
    by_cases hv : (b == c || (carriedByValue (.ref b) && carriedByValue (.ref c))) = true
    · refine wp_if_pos hv ?_
      exact wpAny_pure ⟨rfl, rfl, rest'⟩
    · refine wp_if_neg hv ?_
      refine wpAny_bind ((nestedKind P w).quiet hk ?_)
      simp only [Bool.not_true, Bool.false_eq_true, if_false]
      refine wpAny_bind ((nestedKind P w).quiet hc ?_)
      simp only [Bool.not_true, Bool.false_eq_true, if_false]
      refine wpAny_bind (ofAClass_key k _ 8 hk.1 hk.2 _ _ ?_)
      simp only [Bool.false_eq_true, if_false]
      refine wpAny_bind (ofAClass_key k' _ 8 hc.1 hc.2 _ _ ?_)
      simp only [Bool.false_eq_true, if_false]
      exact wpAny_pure ⟨rfl, rfl, rest'⟩
  · rintro ⟨r1, r2⟩ s' ⟨hr, rfl, _⟩
    simp only at hr
    subst hr
    exact wpAny_pure h
/-! ### the set of tuples -/
def rowsN (P : Program) (w : World) (L : List (Addr × NestedKey)) : List (Int × Value) := L.map fun p => (nkh P w p.2, Value.ref p.1)
structure SetNR (P : Program) (w : World) (h : Heap) (a : Addr) (L : List (Addr × NestedKey)) (es : Array (Int × Value)) (ep : Nat) (t : SetTable) : Prop where
  ob : ∃ o, h.get? a = some o ∧ o.ExactSet ∧ o.data = .set es ep t
  rows : es.toList = rowsN P w L
  tab : TabOk t (L.map fun p => nkh P w p.2)
  nd : (L.map (·.2)).Nodup
  tup : ∀ p ∈ L, NkI P w h p.2 p.1
  led : w.params.followText "set-order" = true ∨ t.led = true
  room : L.length * 5 < t.mask * 3
  few : L.length < 64
variable {a : Addr} {L : List (Addr × NestedKey)} {es : Array (Int × Value)} {ep : Nat} {t : SetTable}
theorem SetNR.size (R : SetNR P w s.heap a L es ep t) : es.size = L.length := by
  have h := congrArg List.length R.rows
  unfold rowsN at h
  rw [Array.length_toList, List.length_map] at h
  exact h
theorem SetNR.fits (R : SetNR P w s.heap a L es ep t) : t.fits es.size = true := by
  have h1 := R.tab.sz
  rw [List.length_map] at h1
  have h2 := R.size
  have h3 := R.room
  unfold SetTable.fits SetTable.fill
  rw [R.tab.dm, Bool.and_eq_true, beq_iff_eq, decide_eq_true_eq]
  show t.place.size = es.size ∧ t.place.size + 0 ≤ t.mask
  omega
theorem SetNR.entry (R : SetNR P w s.heap a L es ep t) {i : Nat} {p : Addr × NestedKey} (h : L[i]? = some p) : es[i]? = some (nkh P w p.2, Value.ref p.1) := by
  rw [← Array.getElem?_toList, R.rows]
  unfold rowsN
  rw [List.getElem?_map, h] <;> rfl
theorem SetNR.gw (R : SetNR P w s.heap a L es ep t) : ¬ t.gaveWay = true := by
  unfold SetTable.gaveWay
  rw [mask_odd R.tab.mok]
  decide

/-- THE SEARCH: from the c-th step of the way on -/
theorem searchN_from (R : SetNR P w s.heap a L es ep t) {x : Addr} {k : NestedKey} (hx : NkI P w s.heap k x) (hu : A.units + 8 < cLine) {K : Nat} (hKf : K < 10 * SetTable.turns t.mask)
    (hK : way t.mask (nkh P w k) K ∉ t.place.toList) (hKb : ∀ c, c < K → way t.mask (nkh P w k) c ∈ t.place.toList) {Q : SetFound → Shared → Prop}
    (hin : k ∈ L.map (·.2) → Q (.there none) s) (hout : k ∉ L.map (·.2) → Q (.free (way t.mask (nkh P w k) K) false) s) :
    ∀ (f c : Nat) (stand : Option SetTable.Probe), stand.getD (t.probeStart (nkh P w k)) = nth t.mask (runAt t.mask (SetTable.bits (nkh P w k) % (t.mask + 1)) (SetTable.bits (nkh P w k))) c → c ≤ K → K - c < f →
      (∀ (i : Nat) p, L[i]? = some p → p.2 = k → ∃ c', c ≤ c' ∧ c' < K ∧ t.place.toList[i]? = some (way t.mask (nkh P w k) c')) →
      wpAny (model P w) A (setSearchFrom a (.ref x) (nkh P w k) true f stand) Q E s
  | 0, c, stand, _, _, hf, _ => absurd hf (Nat.not_lt_zero _)
  | f + 1, c, stand, hst, hc, hf, hre => by
    obtain ⟨o, ho, hex, hd⟩ := R.ob
    rw [setSearchFrom_succ]
    refine wpAny_bind (wpAny_setState_of ho hd R.fits ?_)
    dsimp only
    refine wp_if_neg R.gw ?_
    try refine wpAny_bind (wpAny_pure ?_)
    have hnd : (nth t.mask (runAt t.mask (SetTable.bits (nkh P w k) % (t.mask + 1)) (SetTable.bits (nkh P w k))) c).dummy = none := by
      have key : ∀ (n : Nat) (p : SetTable.Probe), p.dummy = none → (nth t.mask p n).dummy = none := by
        intro n
        induction n with
        | zero => intro p h; exact h
        | succ n ih =>
          intro p h
          refine ih (adv t.mask p) ?_
          unfold adv
          split <;> exact h
      exact key c _ rfl
    have sh : ∀ q, nth t.mask (nth t.mask (runAt t.mask (SetTable.bits (nkh P w k) % (t.mask + 1)) (SetTable.bits (nkh P w k))) c) q = nth t.mask (runAt t.mask (SetTable.bits (nkh P w k) % (t.mask + 1)) (SetTable.bits (nkh P w k))) (c + q) := fun q => (nth_add t.mask c _ q).symm
    have e1 : ∀ q, (nth t.mask (nth t.mask (runAt t.mask (SetTable.bits (nkh P w k) % (t.mask + 1)) (SetTable.bits (nkh P w k))) c) q).j = way t.mask (nkh P w k) (c + q) := fun q => congrArg SetTable.Probe.j (sh q)
    have spec := go_spec t R.tab.ris R.tab.dm (fun i => (es[i]?.map (·.1)).getD 0) (nkh P w k) (10 * SetTable.turns t.mask) (K - c) _ hnd (by omega)
      (fun q hq => by rw [e1]; exact hKb (c + q) (by omega)) (by rw [e1, show c + (K - c) = K by omega]; exact hK)
    have hashAt : ∀ (i : Nat) p, L[i]? = some p → (fun i => (es[i]?.map (·.1)).getD 0) i = nkh P w p.2 := fun i p hp => by
      show (es[i]?.map (·.1)).getD 0 = _
      rw [R.entry hp] <;> rfl
    rcases spec with ⟨q, i, hq, hi, hh, hno, hpr⟩ | ⟨hno, hpr⟩
    · -- a candidate
      have hpr' : t.probe (fun i => (es[i]?.map (·.1)).getD 0) (nkh P w k) (stand.getD (t.probeStart (nkh P w k))) = some (.candidate (way t.mask (nkh P w k) (c + q)) i (nth t.mask (runAt t.mask (SetTable.bits (nkh P w k) % (t.mask + 1)) (SetTable.bits (nkh P w k))) (c + (q + 1)))) := by
        rw [hst, ← e1, ← sh]
        exact hpr
      rw [hpr']
      dsimp only
      rw [e1] at hi
      -- the entry
      have hil : i < L.length := by
        have h1 : i < t.place.toList.length := (List.getElem?_eq_some_iff.mp hi).1
        have h2 := R.tab.sz
        rw [List.length_map] at h2
        rw [Array.length_toList] at h1
        omega
      have hp : L[i]? = some L[i] := List.getElem?_eq_getElem hil
      generalize hpe : L[i] = p at hp
      have hmem : p ∈ L := List.mem_of_getElem? hp
      have hpt := R.tup p hmem
      have rest : wpAny (model P w) A (searchRest a (.ref x) (nkh P w k) true f es t (way t.mask (nkh P w k) (c + q)) i (nth t.mask (runAt t.mask (SetTable.bits (nkh P w k) % (t.mask + 1)) (SetTable.bits (nkh P w k))) (c + (q + 1)))) Q E s := by
        unfold searchRest
        rw [R.entry hp]
        dsimp only
        refine wpAny_bind (wpAny_holding ((nestedKind P w).eqBool (show A.units + 8 < cLine from hu) hpt hx ?_))
        refine wpAny_bind (wpAny_setState_of ho hd R.fits ?_)
        dsimp only
        by_cases hkk : p.2 = k
        · refine wp_if_pos (by simp [hkk]) ?_
          refine wpAny_pure (hin ?_)
          exact List.mem_map.mpr ⟨p, hmem, hkk⟩
        · refine wp_if_neg (by simp [hkk]) ?_
          try refine wpAny_bind (wpAny_pure ?_)
          rw [sameMem]
          dsimp only
          have hsl : t.slot (way t.mask (nkh P w k) (c + q)) = .live i := slot_live R.tab.ris hi
          simp only [if_true, hsl, R.entry hp]
          refine wpAny_bind (wpAny_isSame_ref_self (wpAny_bind (wpAny_pure ?_)))
          simp only [if_true]
          refine wp_if_neg (by simp [hkk]) ?_
          refine searchN_from R hx hu hKf hK hKb hin hout f (c + (q + 1)) _ rfl (by omega) (by omega) fun i0 p0 h0 hk0 => ?_
          obtain ⟨c', a1, a2, a3⟩ := hre i0 p0 h0 hk0
          refine ⟨c', ?_, a2, a3⟩
          -- it isn't passed
          rcases Nat.lt_or_ge c' (c + q) with z | z
          · exfalso
            refine hno (c' - c) i0 (by omega) (by rw [e1, show c + (c' - c) = c' by omega]; exact a3) ?_
            exact (hashAt i0 p0 h0).trans (congrArg (nkh P w) hk0)
          · rcases Nat.lt_or_ge (c + q) c' with y | y
            · omega
            · exfalso
              have ec : c' = c + q := Nat.le_antisymm y z
              rw [ec] at a3
              have s0 := slot_live R.tab.ris a3
              rw [hsl] at s0
              injection s0 with s0
              rw [← s0, hp] at h0
              exact hkk ((congrArg Prod.snd (Option.some.inj h0)).trans hk0)
      by_cases hl : t.led = true
      · refine wp_if_neg (by simp [hl]) ?_
        try refine wpAny_bind (wpAny_pure ?_)
        exact rest
      · refine wp_if_pos (by simp [hl]) ?_
        refine wpAny_bind (seen_nk hx (fun y hy => ?_) ?_)
        · obtain ⟨e, he, ee⟩ := List.mem_map.mp hy
          have he1 : e ∈ es ∧ e.1 = nkh P w k := by simpa using he
          have he2 : e ∈ es.toList := by simpa using he1.1
          rw [R.rows] at he2
          obtain ⟨p2, hp2, e2⟩ := List.mem_map.mp he2
          refine ⟨p2.2, p2.1, ?_, R.tup p2 hp2⟩
          rw [← ee, ← e2]
        · refine wp_if_neg (by decide) ?_
          try refine wpAny_bind (wpAny_pure ?_)
          exact rest
    · -- the empty slot
      have hpr' : t.probe (fun i => (es[i]?.map (·.1)).getD 0) (nkh P w k) (stand.getD (t.probeStart (nkh P w k))) = some (.empty (way t.mask (nkh P w k) K) none) := by
        have e2 : way t.mask (nkh P w k) K = (nth t.mask (nth t.mask (runAt t.mask (SetTable.bits (nkh P w k) % (t.mask + 1)) (SetTable.bits (nkh P w k))) c) (K - c)).j := by
          rw [e1, show c + (K - c) = K by omega]
        rw [hst, e2]
        exact hpr
      rw [hpr']
      dsimp only
      refine wpAny_pure (hout fun hm => ?_)
      obtain ⟨p0, h0, hk0⟩ := List.mem_map.mp hm
      obtain ⟨i0, hi0, e0⟩ := List.getElem_of_mem h0
      have h00 : L[i0]? = some p0 := by rw [List.getElem?_eq_getElem hi0, e0]
      obtain ⟨c', a1, a2, a3⟩ := hre i0 p0 h00 hk0
      refine hno (c' - c) i0 (by omega) (by rw [e1, show c + (c' - c) = c' by omega]; exact a3) ?_
      exact (hashAt i0 p0 h00).trans (congrArg (nkh P w) hk0)

/-- the search as adding asks for it -/
theorem searchN_at (R : SetNR P w s.heap a L es ep t) {x : Addr} {k : NestedKey} (hx : NkI P w s.heap k x) (hu : A.units + 8 < cLine) {Q : SetFound → Shared → Prop}
    (hin : k ∈ L.map (·.2) → Q (.there none) s)
    (hout : ∀ K, k ∉ L.map (·.2) → way t.mask (nkh P w k) K ∉ t.place.toList → (∀ c, c < K → way t.mask (nkh P w k) c ∈ t.place.toList) → Q (.free (way t.mask (nkh P w k) K) false) s) :
    wpAny (model P w) A (setSearch a (.ref x) (nkh P w k) true) Q E s := by
  have hroom := R.room
  obtain ⟨K, hKf, hK, hKb⟩ := R.tab.first (by rw [List.length_map]; omega) (nkh P w k)
  have hbig : K < 100000 := by
    have : 10 * SetTable.turns t.mask ≤ 1420 := by
      unfold SetTable.turns
      rcases R.tab.mok with e | e | e <;> omega
    omega
  unfold setSearch
  refine searchN_from R hx hu hKf hK hKb hin (fun hn => hout K hn hK hKb) 100000 0 none rfl (Nat.zero_le _) (by omega) fun i p hp hk => ?_
  have hi : (L.map fun p => nkh P w p.2)[i]? = some (nkh P w k) := by rw [List.getElem?_map, hp, ← hk] <;> rfl
  have hil : i < t.place.toList.length := by
    have h1 : i < L.length := (List.getElem?_eq_some_iff.mp hp).1
    have h2 := R.tab.sz
    rw [List.length_map] at h2
    rw [Array.length_toList]
    omega
  have hj := List.getElem?_eq_getElem hil
  obtain ⟨c, hc, e⟩ := R.tab.before hK hi hj
  exact ⟨c, Nat.zero_le _, hc, by rw [hj, e]⟩
end
section
variable {P : Program} {w : World} {A : Around} {E : Value → Shared → Prop} {s : Shared}
/-- a tuple isn't the set -/
theorem nkI_same {h h' : Heap} {k : NestedKey} {a b : Addr} {o : Obj} {es : Array (Int × Value)} {ep : Nat} {t : SetTable} (hb : NkI P w h k b) (ho : h.get? a = some o) (hd : o.data = .set es ep t) (hs : Heap.SameBut a h h') : NkI P w h' k b := by
  refine (nestedKind_stays (prog := P) (w := w)).stays (fun c oc vs m hc hdc => ?_) hb
  refine (hs.2 c fun z => ?_).trans hc
  subst z
  rw [ho] at hc
  cases hc
  rw [hd] at hdc
  cases hdc
theorem rowsN_put (L : List (Addr × NestedKey)) (p : Nat) (x : Addr) (k : NestedKey) : rowsN P w (L.take p ++ (x, k) :: L.drop p) = (rowsN P w L).take p ++ (nkh P w k, Value.ref x) :: (rowsN P w L).drop p := by
  unfold rowsN
  rw [List.map_append, List.map_cons, List.map_take, List.map_drop]
theorem putN_perm {α : Type} (L : List α) (p : Nat) (x : α) : (L.take p ++ x :: L.drop p).Perm (x :: L) := by
  have h : (L.take p ++ x :: L.drop p).Perm (x :: (L.take p ++ L.drop p)) := List.perm_middle
  rw [List.take_append_drop] at h
  exact h
theorem orderN_rows (L : List (Addr × NestedKey)) (es : Array (Int × Value)) (order : Array Nat) (hr : es.toList = rowsN P w L) (hp : order.toList.Perm (List.range L.length)) :
    ∃ L2, (order.filterMap (es[·]?)).toList = rowsN P w L2 ∧ L2.Perm L ∧ (L2.map fun p => nkh P w p.2) = order.toList.map fun i => (es.map (·.1)).getD i 0 := by
  have hsz : es.size = L.length := by
    have h := congrArg List.length hr
    unfold rowsN at h
    rw [Array.length_toList, List.length_map] at h
    exact h
  have ent : ∀ i (h : i < L.length), es[i]? = some (nkh P w (L[i]).2, Value.ref (L[i]).1) := fun i h => by
    rw [← Array.getElem?_toList, hr]
    unfold rowsN
    rw [List.getElem?_map, List.getElem?_eq_getElem h] <;> rfl
  have key : ∀ l : List Nat, (∀ i ∈ l, i < L.length) → ∃ L2 : List (Addr × NestedKey), l.filterMap (fun i => es[i]?) = rowsN P w L2 ∧ L2 = l.filterMap (fun i => L[i]?) ∧ (L2.map fun p => nkh P w p.2) = l.map fun i => (es.map (·.1)).getD i 0 := by
    intro l
    induction l with
    | nil => intro _; exact ⟨[], rfl, rfl, rfl⟩
    | cons i l ih =>
      intro hl
      have hi := hl i List.mem_cons_self
      obtain ⟨L2, e1, e2, e3⟩ := ih fun j hj => hl j (List.mem_cons_of_mem _ hj)
      refine ⟨L[i] :: L2, ?_, ?_, ?_⟩
      · rw [List.filterMap_cons_some (ent i hi), e1] <;> rfl
      · rw [List.filterMap_cons_some (List.getElem?_eq_getElem hi), e2]
      · rw [List.map_cons, List.map_cons, e3]
        have hi2 : i < (es.map (·.1)).size := by rw [Array.size_map, hsz]; exact hi
        have e4 : (es.map (·.1)).getD i 0 = nkh P w (L[i]).2 := by
          have e5 : (es.map (·.1))[i]? = some (nkh P w (L[i]).2) := by rw [Array.getElem?_map, ent i hi] <;> rfl
          simp [Array.getD_eq_getD_getElem?, e5]
        rw [e4]
  obtain ⟨L2, e1, e2, e3⟩ := key order.toList fun i hi => List.mem_range.mp (hp.mem_iff.mp hi)
  refine ⟨L2, by first | (rw [Array.toList_filterMap]; exact e1) | simpa using e1, ?_, e3⟩
  have h1 : L2.Perm ((List.range L.length).filterMap fun i => L[i]?) := by
    rw [e2]
    exact hp.filterMap _
  have h2 : (List.range L.length).filterMap (fun i => L[i]?) = L := by
    have key2 : ∀ n, n ≤ L.length → (List.range n).filterMap (fun i => L[i]?) = L.take n := by
      intro n
      induction n with
      | zero => intro _; rfl
      | succ n ih =>
        intro hn
        have hlt : n < L.length := hn
        rw [List.range_succ, List.filterMap_append, ih (Nat.le_of_lt hlt), List.take_succ, List.getElem?_eq_getElem hlt]
        rw [List.filterMap_cons_some (List.getElem?_eq_getElem hlt)] <;> rfl
    rw [key2 L.length (Nat.le_refl _), List.take_length]
  rw [h2] at h1
  exact h1

variable {a : Addr} {L : List (Addr × NestedKey)} {es : Array (Int × Value)} {ep : Nat} {t : SetTable}
/-- the table laid anew, larger -/
theorem relayN_at {o : Obj} (ho : s.heap.get? a = some o) (hex : o.ExactSet) (hd : o.data = .set es ep t) (hrows : es.toList = rowsN P w L) (hsz : t.place.size = es.size) (hdm : t.dummies = #[]) (hfl : es.size ≤ t.mask)
    (nd : (L.map (·.2)).Nodup) (tup : ∀ p ∈ L, NkI P w s.heap p.2 p.1) (ld : w.params.followText "set-order" = true ∨ t.led = true) (few : L.length < 64) {wanted M : Nat}
    (hw : SetTable.sizeAbove wanted - 1 = M) (hM : MaskOk M) (hw2 : SetTable.sizeAbove wanted ≤ 128) (hn : L.length * 5 < M * 3) {Q : Unit → Shared → Prop}
    (hQ : ∀ h' L' es' ep' t', Heap.SameBut a s.heap h' → SetNR P w h' a L' es' ep' t' → L'.Perm L → Q () { s with heap := h' }) : wpAny (model P w) A (setRelay a wanted) Q E s := by
  have hsl : es.size = L.length := by
    have h := congrArg List.length hrows
    unfold rowsN at h
    rw [Array.length_toList, List.length_map] at h
    exact h
  have hfits : t.fits es.size = true := by
    unfold SetTable.fits SetTable.fill
    rw [hdm, Bool.and_eq_true, beq_iff_eq, decide_eq_true_eq]
    show t.place.size = es.size ∧ t.place.size + 0 ≤ t.mask
    omega
  obtain ⟨t', order, e, hp, T, em, el, ep', ed⟩ := relaid_ok t (hs := es.map (·.1)) (wanted := wanted) hw hM (by rw [Array.size_map, hsl]; omega)
  rw [Array.size_map, hsl] at hp
  obtain ⟨L2, r1, r2, r3⟩ := orderN_rows L es order hrows hp
  rw [← r3] at T
  have hs2 : (order.filterMap (es[·]?)).size = es.size := by
    have h := congrArg List.length r1
    unfold rowsN at h
    rw [Array.length_toList, List.length_map, r2.length_eq] at h
    rw [h, hsl]
  rw [setRelay_eq]
  refine wpAny_bind (wpAny_setState_of ho hd hfits ?_)
  dsimp only
  refine wp_if_neg (by rw [sizeLine_eq]; omega) ?_
  try refine wpAny_bind (wpAny_pure ?_)
  rw [e]
  dsimp only
  refine wpAny_bind ?_
  refine wp_if_neg (by rw [hs2]; simp) ?_
  try refine wpAny_bind (wpAny_pure ?_)
  refine wpAny_pure ?_
  dsimp only
  refine wpAny_storeSet_of ho hd ?_ (by rw [hs2, hsl, sizeLine_eq]; omega)
  have sb : Heap.SameBut a s.heap (s.heap.update a (Obj.putSet (order.filterMap (es[·]?)) t')) := Heap.SameBut.update ..
  refine hQ _ L2 (order.filterMap (es[·]?)) (ep + 1) t' sb ?_ r2
  refine ⟨⟨_, store_at ho hd, ⟨hex.1, hex.2.1, hex.2.2⟩, rfl⟩, r1, T, ?_, fun p hpm => nkI_same (tup p (r2.mem_iff.mp hpm)) ho hd sb, by rw [el]; exact ld, ?_, by rw [r2.length_eq]; exact few⟩
  · exact (r2.map (·.2)).nodup_iff.mpr nd
  · rw [r2.length_eq, em]
    exact hn

/-- ADDING -/
theorem addN_at (R : SetNR P w s.heap a L es ep t) {x : Addr} {k : NestedKey} (hx : NkI P w s.heap k x) (hu : A.units + 8 < cLine) (hfew : L.length + 1 < 64) {Q : Bool → Shared → Prop}
    (hQ : ∀ b h' L' es' ep' t', Heap.SameBut a s.heap h' → SetNR P w h' a L' es' ep' t' → (k ∈ L.map (·.2) → L' = L) → (k ∉ L.map (·.2) → L'.Perm ((x, k) :: L)) → Q b { s with heap := h' }) :
    wpAny (model P w) A (setAddHashed a (.ref x) (nkh P w k)) Q E s := by
  obtain ⟨o, ho, hex, hd⟩ := R.ob
  have hsl := R.size
  have hroom := R.room
  unfold setAddHashed
  refine wpAny_holding ?_
  rw [show (100000 : Nat) = 99999 + 1 from rfl, setAddHashedIn_succ]
  refine wpAny_bind (wpAny_setState_of ho hd R.fits ?_)
  dsimp only
  refine wp_if_neg (by simp [byScan, Value.scannable]) ?_
  try refine wpAny_bind (wpAny_pure ?_)
  refine wpAny_bind (searchN_at R hx hu (fun hm => ?_) fun K hm hK hb => ?_)
  · dsimp only
    exact wpAny_pure (hQ false s.heap L es ep t (Heap.SameBut.refl a s.heap) R (fun _ => rfl) fun z => absurd hm z)
  · dsimp only
    refine wpAny_bind (wpAny_setState_of ho hd R.fits ?_)
    dsimp only
    obtain ⟨q1, q2, q3, q4, q5, q6, q7, q8, q9⟩ := R.tab.put hK hb
    generalize hpt : t.put (way t.mask (nkh P w k) K) = pt at q1 q3 q4 q5 q7 q8 q9 ⊢
    obtain ⟨t1, p⟩ := pt
    dsimp only at q1 q3 q4 q5 q7 q8 q9 ⊢
    subst q1
    suffices cont : ∀ bv : Bool, wpAny (model P w) A (do
        storeSet a (SetTable.insertAt es (SetTable.below t.place (way t.mask (nkh P w k) K)) (nkh P w k, Value.ref x)) (if bv = true then t1 else { t1 with plain := false })
        if (!false && (if bv = true then t1 else { t1 with plain := false }).tooFull) = true then do
          setRelay a (SetTable.grown (es.size + 1))
          pure true
        else pure true) Q E s by
      split
      · exact wpAny_bind (hashBy_nk hx fun b => cont b)
      · exact wpAny_bind (wpAny_pure (cont true))
    intro bv
    generalize ht2 : (if bv = true then t1 else { t1 with plain := false }) = t2
    have e2 : t2.mask = t1.mask ∧ t2.place = t1.place ∧ t2.dummies = t1.dummies ∧ t2.led = t1.led ∧ t2.fill = t1.fill := by
      rw [← ht2]
      cases bv <;> exact ⟨rfl, rfl, rfl, rfl, rfl⟩
    obtain ⟨m1, m2, m3, m4, m5⟩ := e2
    replace q3 : TabOk t2 _ := ⟨by rw [m2]; exact q3.ris, by rw [m3]; exact q3.dm, by rw [m2]; exact q3.sz, by rw [m1]; exact q3.mok, by rw [m1, m2]; exact q3.bd, by rw [m1, m2]; exact q3.reach⟩
    rw [← m1] at q4
    rw [← m4] at q5
    rw [← m5] at q9
    clear ht2 m1 m2 m3 m4 m5 q7 q8 hpt q6
    clear t1
    obtain ⟨t1, e21⟩ : ∃ t1, t1 = t2 := ⟨_, rfl⟩
    subst e21
    have hin : (SetTable.insertAt es (SetTable.below t.place (way t.mask (nkh P w k) K)) (nkh P w k, Value.ref x)).toList = rowsN P w (L.take (SetTable.below t.place (way t.mask (nkh P w k) K)) ++ (x, k) :: L.drop (SetTable.below t.place (way t.mask (nkh P w k) K))) := by
      rw [SetTable.toList_insertAt, rowsN_put, R.rows]
    generalize hpp : SetTable.below t.place (way t.mask (nkh P w k) K) = p at q2 q3 hin ⊢
    have pm := putN_perm L p (x, k)
    have hlen : (L.take p ++ (x, k) :: L.drop p).length = L.length + 1 := pm.length_eq
    have hhs : (L.take p ++ (x, k) :: L.drop p).map (fun p => nkh P w p.2) = (L.map fun p => nkh P w p.2).take p ++ nkh P w k :: (L.map fun p => nkh P w p.2).drop p := by
      rw [List.map_append, List.map_cons, List.map_take, List.map_drop]
    rw [← hhs] at q3
    have nd1 : ((L.take p ++ (x, k) :: L.drop p).map (·.2)).Nodup := by
      refine (pm.map (·.2)).nodup_iff.mpr ?_
      rw [List.map_cons]
      exact List.nodup_cons.mpr ⟨hm, R.nd⟩
    have hes : (SetTable.insertAt es p (nkh P w k, Value.ref x)).size = L.length + 1 := by
      have h := congrArg List.length hin
      unfold rowsN at h
      rw [Array.length_toList, List.length_map, hlen] at h
      exact h
    generalize SetTable.insertAt es p (nkh P w k, Value.ref x) = es1 at hin hes ⊢
    generalize L.take p ++ (x, k) :: L.drop p = L1 at pm hlen q3 nd1 hin
    refine wpAny_bind (wpAny_storeSet_of ho hd ?_ (by rw [hes, sizeLine_eq]; omega))
    have sb : Heap.SameBut a s.heap (s.heap.update a (Obj.putSet es1 t1)) := Heap.SameBut.update ..
    have ho1 := store_at (es' := es1) (t' := t1) ho hd
    generalize s.heap.update a (Obj.putSet es1 t1) = h1 at sb ho1 ⊢
    have tup1 : ∀ p ∈ L1, NkI P w h1 p.2 p.1 := fun p hp => by
      rcases List.mem_cons.mp (pm.mem_iff.mp hp) with e | hp
      · rw [e]; exact nkI_same hx ho hd sb
      · exact nkI_same (R.tup p hp) ho hd sb
    have ld1 : w.params.followText "set-order" = true ∨ t1.led = true := by rw [q5]; exact R.led
    by_cases hf : t1.tooFull = true
    · first
        | (refine wpAny_bind ?_; refine wp_if_pos (by simp [hf]) ?_)
        | (refine wp_if_pos (by simp [hf]) ?_; refine wpAny_bind ?_)
      have hfull : (L.length + 1) * 5 ≥ t1.mask * 3 := by
        have h := hf
        unfold SetTable.tooFull at h
        rw [decide_eq_true_eq, q9, List.length_map] at h
        exact h
      rw [hsl]
      have hsz1 : t1.place.size = es1.size := by
        have h := q3.sz
        rw [List.length_map, hlen] at h
        rw [h, hes]
      have cases2 : (t.mask = 7 ∧ L.length = 4) ∨ (t.mask = 31 ∧ L.length = 18) := by
        rcases R.tab.mok with e | e | e
        · left; rw [q4, e] at hfull; rw [e] at hroom; exact ⟨e, by omega⟩
        · right; rw [q4, e] at hfull; rw [e] at hroom; exact ⟨e, by omega⟩
        · exfalso; rw [q4, e] at hfull; omega
      have go : ∀ M, SetTable.sizeAbove (SetTable.grown (L.length + 1)) - 1 = M → MaskOk M → SetTable.sizeAbove (SetTable.grown (L.length + 1)) ≤ 128 → (L.length + 1) * 5 < M * 3 →
          wpAny (model P w) A (setRelay a (SetTable.grown (L.length + 1))) (fun _ s' => wpAny (model P w) A (pure true) Q E s') E { s with heap := h1 } := fun M h1' h2' h3' h4' => by
        refine relayN_at (s := { s with heap := h1 }) ho1 ⟨hex.1, hex.2.1, hex.2.2⟩ rfl hin hsz1 q3.dm (by rw [hes, q4]; rcases cases2 with ⟨e, e2⟩ | ⟨e, e2⟩ <;> omega) nd1 tup1 ld1 (by rw [hlen]; exact hfew) h1' h2' h3' (by rw [hlen]; exact h4') ?_
        intro h2 L2 es2 ep2 t2 sb2 R2 pm2
        refine wpAny_pure (hQ true h2 L2 es2 ep2 t2 (sb.trans sb2) R2 (fun z => absurd z hm) fun _ => pm2.trans pm)
      rcases cases2 with ⟨_, e2⟩ | ⟨_, e2⟩
      · refine go 31 (by rw [e2, size_20]) (.inr (.inl rfl)) (by rw [e2, size_20]; decide) (by omega)
      · refine go 127 (by rw [e2, size_76]) (.inr (.inr rfl)) (by rw [e2, size_76]; decide) (by omega)
    · first
        | refine wp_if_neg (by simp [hf]) ?_
        | (refine wpAny_bind ?_; refine wp_if_neg (by simp [hf]) ?_; refine wpAny_pure ?_)
      refine wpAny_pure (hQ true h1 L1 es1 (ep + 1) t1 sb ⟨⟨_, ho1, ⟨hex.1, hex.2.1, hex.2.2⟩, rfl⟩, hin, q3, nd1, tup1, ld1, ?_, by rw [hlen]; exact hfew⟩ (fun z => absurd z hm) fun _ => pm)
      have h := hf
      unfold SetTable.tooFull at h
      rw [decide_eq_true_eq, q9, List.length_map] at h
      rw [hlen]
      omega
end
/-- what the set has got from the first i items -/
structure GotN (ks : List (Addr × NestedKey)) (i : Nat) (L : List (Addr × NestedKey)) : Prop where
  sub : ∀ p ∈ L, p ∈ ks.take i
  all : ∀ p ∈ ks.take i, p.2 ∈ L.map (·.2)
  len : L.length ≤ i
theorem GotN.zero (ks : List (Addr × NestedKey)) : GotN ks 0 [] := ⟨fun p h => (by cases h), fun p h => (by simp at h), Nat.le_refl _⟩
theorem takeN_next {α : Type} {l : List α} {i : Nat} {x : α} (h : l[i]? = some x) : l.take (i + 1) = l.take i ++ [x] := by
  rw [List.take_succ, h] <;> rfl
theorem GotN.same {ks L : List (Addr × NestedKey)} {i : Nat} {x : Addr × NestedKey} (g : GotN ks i L) (h : ks[i]? = some x) (hm : x.2 ∈ L.map (·.2)) : GotN ks (i + 1) L := by
  refine ⟨fun p hp => ?_, fun p hp => ?_, Nat.le_succ_of_le g.len⟩
  · rw [takeN_next h]
    exact List.mem_append_left _ (g.sub p hp)
  · rw [takeN_next h] at hp
    rcases List.mem_append.mp hp with z | z
    · exact g.all p z
    · rw [List.mem_singleton.mp z]; exact hm
theorem GotN.more {ks L L' : List (Addr × NestedKey)} {i : Nat} {x : Addr × NestedKey} (g : GotN ks i L) (h : ks[i]? = some x) (pm : L'.Perm (x :: L)) : GotN ks (i + 1) L' := by
  refine ⟨fun p hp => ?_, fun p hp => ?_, ?_⟩
  · rw [takeN_next h]
    rcases List.mem_cons.mp (pm.mem_iff.mp hp) with e | z
    · rw [e]; exact List.mem_append_right _ (List.mem_singleton.mpr rfl)
    · exact List.mem_append_left _ (g.sub p z)
  · rw [(pm.map (·.2)).mem_iff, List.map_cons]
    rw [takeN_next h] at hp
    rcases List.mem_append.mp hp with z | z
    · exact List.mem_cons_of_mem _ (g.all p z)
    · rw [List.mem_singleton.mp z]; exact List.mem_cons_self
  · rw [pm.length_eq, List.length_cons]
    exact Nat.succ_le_succ g.len

section
variable {P : Program} {w : World} {A : Around} {E : Value → Shared → Prop} {s : Shared}
theorem nkI_keep {h h' : Heap} {k : NestedKey} {b : Addr} (x : NkI P w h k b) (hk : ∀ c o, h.get? c = some o → h'.get? c = some o) : NkI P w h' k b := by
  exact (nestedKind_stays (prog := P) (w := w)).stays (fun c oc vs m hc _ => hk c oc hc) x
theorem SetNR.keep {h h' : Heap} {a : Addr} {L : List (Addr × NestedKey)} {es : Array (Int × Value)} {ep : Nat} {t : SetTable} (R : SetNR P w h a L es ep t) (ha : ∀ o, h.get? a = some o → h'.get? a = some o) (ht : ∀ p ∈ L, NkI P w h' p.2 p.1) : SetNR P w h' a L es ep t := by
  obtain ⟨o, ho, r⟩ := R.ob
  exact ⟨⟨o, ha o ho, r⟩, R.rows, R.tab, R.nd, ht, R.led, R.room, R.few⟩
/-- a new set -/
theorem setNR_fresh {h : Heap} {a : Addr} (ho : h.get? a = some { cls := .type "set", dict := none, data := .set #[] 0 (.fresh 0 0 (!w.params.followText "set-order")) }) : SetNR P w h a [] #[] 0 (.fresh 0 0 (!w.params.followText "set-order")) where
  ob := ⟨_, ho, ⟨rfl, rfl, rfl⟩, rfl⟩
  rows := rfl
  tab := ⟨List.Pairwise.nil, rfl, rfl, .inl rfl, fun x hx => (by cases hx), fun i h j hi => (by simp at hi)⟩
  nd := List.nodup_nil
  tup := fun p hp => (by cases hp)
  led := by
    show _ ∨ (!w.params.followText "set-order") = true
    cases w.params.followText "set-order"
    · exact .inr rfl
    · exact .inl rfl
  room := by
    show 0 * 5 < 7 * 3
    decide
  few := by
    show 0 < 64
    decide

/-- set.update's loop -/
theorem set_update_nks {I : Addr} {fp wr : List Addr} {G : Array GenState → Array GenState → Prop} {n : Nat} {Pv : Nat → Value → Prop} {St : Nat → Shared → Prop} {R : Result → Shared → Prop}
    (W : WalksS P w A.in1 I fp wr G n Pv St) (S : Addr) (hSf : S ∉ fp) (ks : List (Addr × NestedKey)) (hn : n = ks.length) (hfew : ks.length < 64) (hval : ∀ i v, Pv i v → ∃ p, ks[i]? = some p ∧ v = .ref p.1)
    (h0 : Heap) (hk : ∀ p ∈ ks, NkI P w h0 p.2 p.1) (hS0 : h0.get? S = none) (hw0 : ∀ b ∈ wr, h0.get? b = none) (hu : A.in1.units + 8 < cLine) :
    ∀ (k i : Nat) (s : Shared), n - i = k → i ≤ n → St i s → (∀ b o, h0.get? b = some o → s.heap.get? b = some o) → (∃ L es ep t, SetNR P w s.heap S L es ep t ∧ GotN ks i L) →
      (∀ s' L es ep t, Moved (S :: wr) G s s' → SetNR P w s'.heap S L es ep t → GotN ks n L → (∀ b o, h0.get? b = some o → s'.heap.get? b = some o) → R (.ok (.ret .none)) s') →
      codeAny (model P w) A (.builtin "set.update.loop" ⟨[.ref S, .ref I], []⟩) R s := by
  have hSw : S ∉ wr := fun h => hSf (W.sub _ h)
  have hsub : ∀ b ∈ wr, b ∈ S :: wr := fun b hb => List.mem_cons_of_mem _ hb
  have keepM : ∀ {s s' : Shared}, Moved wr G s s' → (∀ b o, h0.get? b = some o → s.heap.get? b = some o) → ∀ b o, h0.get? b = some o → s'.heap.get? b = some o := fun hm hkp b o e =>
    hm.heap b o (fun hb => by rw [hw0 b hb] at e; cases e) (hkp b o e)
  intro k
  induction k with
  | zero =>
    intro i s hk' hi hst hkp ⟨L, es, ep, t, hS, g⟩ hR
    have hin : i = n := by omega
    subst hin
    refine codeAny_builtin F.entry_set_update_loop ?_
    rw [Around.under_plainId F.plain_set_update_loop _]
    show wpAny _ A.in1 (pyNext (.ref I) >>= _) _ _ s
    refine wpAny_bind (W.done s _ _ hst fun s' hm => ?_)
    show wpAny _ A.in1 (ret Value.none) _ _ s'
    have hkp' := keepM hm hkp
    have sub : ∀ p ∈ L, p ∈ ks := fun p hp => List.mem_of_mem_take (g.sub p hp)
    exact wpAny_pure (hR s' L es ep t (hm.mono hsub) (hS.keep (fun o e => hm.heap S o hSw e) fun p hp => nkI_keep (hk p (sub p hp)) hkp') g hkp')
  | succ k ih =>
    intro i s hk' hi hst hkp ⟨L, es, ep, t, hS, g⟩ hR
    have hlt : i < n := by omega
    refine codeAny_builtin F.entry_set_update_loop ?_
    rw [Around.under_plainId F.plain_set_update_loop _]
    show wpAny _ A.in1 (pyNext (.ref I) >>= _) _ _ s
    refine wpAny_bind (W.item i s _ _ hlt hst fun v s' hP hst' hm => ?_)
    obtain ⟨p, hp, rfl⟩ := hval i v hP
    have hkp' := keepM hm hkp
    have sub : ∀ p ∈ L, p ∈ ks := fun p hp => List.mem_of_mem_take (g.sub p hp)
    have hS' : SetNR P w s'.heap S L es ep t := hS.keep (fun o e => hm.heap S o hSw e) fun q hq => nkI_keep (hk q (sub q hq)) hkp'
    have hx : NkI P w s'.heap p.2 p.1 := nkI_keep (hk p (List.mem_of_getElem? hp)) hkp'
    show wpAny _ A.in1 (holding [Value.ref p.1] (setAdd S (.ref p.1)) >>= _) _ _ s'
    refine wpAny_bind (wpAny_holding ?_)
    unfold setAdd
    refine wpAny_holding ?_
    refine wpAny_bind ((nestedKind P w).pyHash (show A.in1.units + 8 < cLine from hu) hx ?_)
    refine addN_at (s := { s' with toks := s'.toks + p.2.draws }) hS' hx hu (by have := g.len; omega) fun b h' L' es' ep' t' hsb hS2 c1 c2 => ?_
    have g' : GotN ks (i + 1) L' := by
      rcases Classical.em (p.2 ∈ L.map (·.2)) with c | c
      · rw [c1 c]; exact g.same hp c
      · exact g.more hp (c2 c)
    have hkp2 : ∀ b o, h0.get? b = some o → h'.get? b = some o := fun b o e => (hsb.2 b (fun z => by rw [z, hS0] at e; cases e)).trans (hkp' b o e)
    refine wpAny_pure ⟨plainId_quiet F.plain_set_update_loop _, ih (i + 1) _ (by omega) hlt (W.frame _ s' _ _ hst' (Nat.le_add_right _ _) fun b hb o e => ?_) hkp2 ⟨L', es', ep', t', hS2, g'⟩ fun s'' L2 es2 ep2 t2 hm'' hS'' g'' hkp'' => ?_⟩
    · rw [hsb.2 b (fun h : b = S => hSf (by rw [← h]; exact hb))]; exact e
    · refine hR s'' L2 es2 ep2 t2 (Moved.trans W.gtrans ((hm.mono hsub).then_heap (Nat.le_add_right _ _) fun b o hb e => ?_) hm'') hS'' g'' hkp''
      rw [hsb.2 b (fun h : b = S => hb (by rw [h]; exact List.mem_cons_self))]; exact e

set_option maxRecDepth 100000 in
set_option maxHeartbeats 3200000 in
/-- set(xs) -/
theorem call_set_nks {l : Addr} {items : Array Value} (ks : List (Addr × NestedKey)) {Q : Value → Shared → Prop} (hh : A.handled = none) (hl : s.heap.IsList l items) (hit : items.toList = ks.map fun p => Value.ref p.1)
    (hk : ∀ p ∈ ks, NkI P w s.heap p.2 p.1) (hfew : ks.length < 64) (hu : A.units + 11 < cLine)
    (h : ∀ (h' : Heap) (tk : Nat) L es ep t, SetNR P w h' s.heap.objs.size L es ep t → GotN ks ks.length L → (∀ b o, s.heap.get? b = some o → h'.get? b = some o) → Q (.ref s.heap.objs.size) { s with heap := h', toks := tk }) :
    wpAny (model P w) A (call (.type "set") [.ref l]) Q E s := by
  have hisz : items.size = ks.length := by
    have q := congrArg List.length hit
    rw [Array.length_toList, List.length_map] at q
    exact q
  obtain ⟨c, tl, hmro⟩ := F.called_set.mro
  have hmade := F.called_set.made
  have hsub := F.called_set.sub
  refine wpAny_call (codeAny_of_tree ?_)
  show wpAny _ _ (callAny (.type "set") _) _ _ _
  refine wpAny_pure ⟨Code.quiet_builtin _ (by decide +kernel), codeAny_builtin F.entry_type_call ?_⟩
  rw [Around.under_plain (weight_type_call_type "set" [.ref l] []) rfl]
  have h1 := F.called_set.notType
  have h2 := F.called_set.canCreate
  have hct := F.typeCall_set_1 (.ref l)
  repeat (any_goals (first | assumption | wp_step))

  refine codeAny_mono (code_set_led1 (.ref l) (E := E) (Q₁ := fun obj s₁ => obj = .ref s.heap.objs.size ∧ s₁ = { s with heap := s.heap.push { cls := .type "set", dict := none, data := .set #[] 0 (.fresh 0 0 (!w.params.followText "set-order")) } }) ⟨rfl, rfl⟩) fun r s₁ hr => ?_
  cases r with
  | error e => exact hr
  | ok fl =>
    cases fl with
    | ret obj =>
      obtain ⟨rfl, rfl⟩ := hr
      have hS : (s.heap.push { cls := .type "set", dict := none, data := .set #[] 0 (.fresh 0 0 (!w.params.followText "set-order")) }).get? s.heap.objs.size = some { cls := .type "set", dict := none, data := .set #[] 0 (.fresh 0 0 (!w.params.followText "set-order")) } := Heap.get?_push_size _ rfl
      have hT : Shared.TypeIs { s with heap := s.heap.push { cls := .type "set", dict := none, data := .set #[] 0 (.fresh 0 0 (!w.params.followText "set-order")) } } (.ref s.heap.objs.size) "set" := ⟨_, hS, rfl⟩
      have hli := F.called_set.init.lookup
      have hbi := F.called_set.init.bind (.ref s.heap.objs.size)
      repeat (any_goals (first | assumption | wp_step))

      refine codeAny_mono (codeAny_call_builtin (R := wants (fun r s₂ => r = .none ∧ ∃ h' tk L es ep t, s₂ = { s with heap := h', toks := tk } ∧ SetNR P w h' s.heap.objs.size L es ep t ∧ GotN ks ks.length L ∧
          (∀ b o, s.heap.get? b = some o → h'.get? b = some o)) E) F.called_set.init.plain F.entry_set_init (check_set_init_1 hT ?_)) fun r₂ s₂ hr₂ => ?_
      · obtain ⟨ol, hol, hcl, nl, hdl⟩ := hl
        obtain ⟨ocls, odict, odata, oslots⟩ := ol
        simp only at hcl hdl
        subst hcl; subst hdl
        have hol' : (s.heap.push { cls := .type "set", dict := none, data := .set #[] 0 (.fresh 0 0 (!w.params.followText "set-order")) }).get? l = some { cls := .type "list", dict := odict, data := .seq items nl, slots := oslots } := Heap.get?_push_of_some _ hol
        have hsls := F.sub_list_set
        have hslf := F.sub_list_frozenset
        have hne : (Value.type "list" == Value.type "dict") = false := by decide
        have hl1 : (s.heap.push { cls := .type "set", dict := none, data := .set #[] 0 (.fresh 0 0 (!w.params.followText "set-order")) }).IsList l items := ⟨_, hol', rfl, nl, rfl⟩
        unfold Builtin.«set.__init__» noKeywords Builtin.Frozenset.updateFrom
        generalize hPI : pyIter = PI
        wp_walk
        subst hPI

        refine wpAny_pyIter_list hl1 ?_
        refine wpAny_bind (wpAny_runValue ?_)
        have hlS : l < s.heap.objs.size := Heap.lt_size hol
        have hh3 : A.in1.in1.in1.handled = none := by simp [hh]
        have hz1 : (s.heap.push { cls := .type "set", dict := none, data := .set #[] 0 (.fresh 0 0 (!w.params.followText "set-order")) }).objs.size = s.heap.objs.size + 1 := Heap.size_push ..
        have hneI : l ≠ (s.heap.push { cls := .type "set", dict := none, data := .set #[] 0 (.fresh 0 0 (!w.params.followText "set-order")) }).objs.size := by
          rw [Heap.size_push]; exact Nat.ne_of_lt (Nat.lt_succ_of_lt hlS)
        have hSf : s.heap.objs.size ∉ [(s.heap.push { cls := .type "set", dict := none, data := .set #[] 0 (.fresh 0 0 (!w.params.followText "set-order")) }).objs.size, l] := by
          rw [Heap.size_push]; simp only [List.mem_cons, List.mem_singleton, List.not_mem_nil, or_false, not_or]
          exact ⟨Nat.ne_of_lt (Nat.lt_succ_self _), Nat.ne_of_gt hlS⟩
        have hval : ∀ (i : Nat) (v : Value), items[i]? = some v → ∃ p, ks[i]? = some p ∧ v = .ref p.1 := fun i v hv => by
          have q : items.toList[i]? = some v := by rw [Array.getElem?_toList]; exact hv
          rw [hit, List.getElem?_map] at q
          cases hq : ks[i]? with
          | none => rw [hq] at q; cases q
          | some p =>
            rw [hq] at q
            exact ⟨p, rfl, (Option.some.inj q).symm⟩
        have none_of : ∀ b, s.heap.objs.size ≤ b → s.heap.get? b = none := fun b hb => by
          cases q : s.heap.get? b with
          | none => rfl
          | some o => exact absurd (Nat.lt_of_lt_of_le (Heap.lt_size q) hb) (Nat.lt_irrefl _)
        refine set_update_nks ((Walks.list hh3 _ l hneI items).toS) s.heap.objs.size
          hSf ks hisz hfew hval s.heap hk (none_of _ (Nat.le_refl _)) (fun b hb => none_of b (by
            rw [List.mem_singleton.mp hb, Heap.size_push]
            exact Nat.le_succ _)) hu (items.size - 0) 0 _ (by omega) (Nat.zero_le _)
          ⟨⟨_, Heap.get?_push_size _ rfl, rfl, rfl⟩, (hl1.push _)⟩ (fun b o e => Heap.get?_push_of_some _ (Heap.get?_push_of_some _ e)) ?hS0 ?hR
        case hS0 =>
          have hget : ((s.heap.push { cls := .type "set", dict := none, data := .set #[] 0 (.fresh 0 0 (!w.params.followText "set-order")) }).push { cls := .type "list_iterator", data := .fields #[.ref l, .int 0 0] }).get? s.heap.objs.size
              = some { cls := .type "set", dict := none, data := .set #[] 0 (.fresh 0 0 (!w.params.followText "set-order")) } := Heap.get?_push_of_some _ hS
          exact ⟨[], #[], 0, _, setNR_fresh hget, GotN.zero ks⟩
        case hR =>
          intro s' L es ep t hm hS' g' hkp
          obtain ⟨h', g2, d', tk', os'⟩ := s'
          have eg : g2 = s.gens := hm.gens
          have ed : d' = s.drawn := hm.drawn
          have eo : os' = s.os := hm.os
          subst eg; subst ed; subst eo
          show wpAny _ _ _ _ _ _
          refine wpAny_pure ?_
          show wpAny _ _ (ret Value.none) _ _ _
          rw [hisz] at g'
          exact wpAny_pure ⟨rfl, h', tk', L, es, ep, t, rfl, hS', g', hkp⟩

      · cases r₂ with
        | error e => exact hr₂
        | ok fl₂ =>
          cases fl₂ with
          | ret r =>
            obtain ⟨rfl, h', tk, L, es, ep, t, rfl, hS', g', hk'⟩ := hr₂
            repeat (any_goals (first | assumption | wp_step))
            exact h _ _ _ _ _ _ hS' g' hk'
          | _ => exact hr₂.elim
    | _ => exact hr.elim

/-! ### sorted -/
end
end
end PD

set_option Elab.async false
set_option linter.all false
set_option maxRecDepth 100000
set_option maxHeartbeats 4000000
namespace PD
noncomputable section
open PySem PySem.Spec PyProof.Rows L2
theorem addK_mem {acc : List NestedKey} {k x : NestedKey} : x ∈ addK acc k ↔ x ∈ acc ∨ x = k := by
  unfold addK
  split
  · rename_i h
    constructor
    · exact .inl
    · rintro (h' | rfl)
      · exact h'
      · exact h
  · simp
theorem addK_nodup {acc : List NestedKey} {k : NestedKey} (h : acc.Nodup) : (addK acc k).Nodup := by
  unfold addK
  split
  · exact h
  · rename_i hk
    rw [List.nodup_append]
    refine ⟨h, by simp, ?_⟩
    intro a ha b hb
    rw [List.mem_singleton.mp hb]
    rintro rfl
    exact hk ha
theorem foldK_mem : ∀ (ks acc : List NestedKey) (x : NestedKey), x ∈ ks.foldl addK acc ↔ x ∈ acc ∨ x ∈ ks
  | [], acc, x => by simp
  | k :: ks, acc, x => by
    rw [List.foldl_cons, foldK_mem ks, addK_mem, List.mem_cons, or_assoc]
theorem foldK_nodup : ∀ (ks acc : List NestedKey), acc.Nodup → (ks.foldl addK acc).Nodup
  | [], _, h => h
  | k :: ks, acc, h => foldK_nodup ks _ (addK_nodup h)
theorem diffK_mem {ks : List NestedKey} {x : NestedKey} : x ∈ diffK ks ↔ x ∈ ks := by
  unfold diffK
  rw [foldK_mem]
  simp
theorem diffK_nodup {ks : List NestedKey} : (diffK ks).Nodup := foldK_nodup ks [] List.nodup_nil
theorem nodup_len_le : ∀ {l m : List NestedKey}, l.Nodup → (∀ x ∈ l, x ∈ m) → l.length ≤ m.length
  | [], _, _, _ => Nat.zero_le _
  | x :: l, m, h, hs => by
    have hx := hs x List.mem_cons_self
    rw [List.nodup_cons] at h
    have : l.length ≤ (m.erase x).length := nodup_len_le h.2 fun y hy => by
      refine (List.mem_erase_of_ne ?_).mpr (hs y (List.mem_cons_of_mem _ hy))
      rintro rfl
      exact h.1 hy
    rw [List.length_erase_of_mem hx] at this
    have := List.length_pos_of_mem hx
    rw [List.length_cons]
    omega
theorem nodup_len_eq {l m : List NestedKey} (h : l.Nodup) (h' : m.Nodup) (e : ∀ x, x ∈ l ↔ x ∈ m) : l.length = m.length :=
  Nat.le_antisymm (nodup_len_le h fun x hx => (e x).mp hx) (nodup_len_le h' fun x hx => (e x).mpr hx)
theorem zip_vals : ∀ {vs : List V} {bs : List Addr}, vs = bs.map V.ref → ∀ {us : List Value}, Vals vs us → us = bs.map Value.ref
  | _, [], rfl, _, .nil => rfl
  | _, b :: bs, rfl, _, .cons r t => by
    cases r
    rw [zip_vals rfl t]
    rfl
def tLenSetN (K : KW) (ta : TE) : TE := fun σ H Q => ta σ H fun x H1 => ∃ (l : Addr) (ks : List (Addr × NestedKey)), x = .ref l ∧ SqL K H1 l (ks.map fun p => V.ref p.1) ∧ (∀ p ∈ ks, NkAt K H1 p.1 p.2) ∧ ks.length < 64 ∧ Q (.int ((diffK (ks.map (·.2))).length : Nat)) H1
section
variable {X : Cx} {E : XK} {e : Expr} {fe : EM} {k : Nat}
theorem pe_lenSetN {a : Expr} {ta : TE} {p p2 q pos : Pos} (hr : Room k X.A) (hg : Gl X "len") (hm : X.mg "len" = none) (hg2 : Gl X "set") (hm2 : X.mg "set" = none) (ha : PE X a ta) (hc : X.calm = true)
    (na : starEach [a] X.env = (false, eval a X.env) :: starEach [] X.env := by rfl) : PE X (.Call (.Name "len" p) [.Call (.Name "set" p2) [a] [] q] [] pos) (tLenSetN X.kw ta) := by
  refine ⟨fun pins s σ H Q I h => ?_⟩
  refine Call_ (ld_blt I hg hm PySem.boot_len ?_)
  refine PyProof.Rows.callWith_builtin1 (PyProof.Rows.args_cons ?_ rfl) rfl rfl
  refine Call_ (ld_blt I hg2 hm2 PyProof.Rows.boot_set ?_)
  refine PyProof.Rows.callWith_type1 (PyProof.Rows.args_cons (thn (ha.run pins s σ H _ I h) fun v s1 ⟨x, H1, I1, r1, q1⟩ => PyProof.Rows.args_nil ?_) na) na rfl
  obtain ⟨l, ks, rfl, hq, hk, hl, q1⟩ := q1
  cases r1
  obtain ⟨its, r, pl, hz⟩ := I1.list hq
  have eu : its = (ks.map (·.1)).map Value.ref := zip_vals (by rw [List.map_map]; rfl) r
  refine call_set_nks (P := X.prog) (w := X.w) ks (I1.ok.hd hc) pl.isList (by rw [eu, List.map_map]; rfl) (fun p hp => (hk p hp).is I1) hl (by have := hr.units; omega) fun h' tk L es ep t R g kk => ?_
  refine PyProof.Rows.args_nil ?_
  have I2 : Inv X pins σ H1 { s1 with heap := h', toks := tk } := I1.kept kk
  obtain ⟨o, ho, hex, hd⟩ := R.ob
  have few := R.few
  have hs := SetNR.size (s := { s1 with heap := h', toks := tk }) R
  have el : L.length = (diffK (ks.map (·.2))).length := by
    rw [← List.length_map (f := (·.2)) (as := L)]
    refine nodup_len_eq R.nd diffK_nodup fun x => ?_
    rw [diffK_mem]
    constructor
    · intro hx
      obtain ⟨p, hp, rfl⟩ := List.mem_map.mp hx
      exact List.mem_map.mpr ⟨p, List.mem_of_mem_take (g.sub p hp), rfl⟩
    · intro hx
      obtain ⟨p, hp, rfl⟩ := List.mem_map.mp hx
      exact g.all p (by rw [List.take_length]; exact hp)
  exact call_len_set ho hex hd (SetNR.fits (s := { s1 with heap := h', toks := tk }) R) (by rw [hs]; omega) ⟨.int ((diffK (ks.map (·.2))).length : Nat), H1, I2.tok _, ⟨_, by rw [hs, el]⟩, q1⟩
def eLenSet (f : EM) : EM := fun s => (f s).bind fun p => match toD p.1 p.2 with
  | some (.list xs, s2) => (match keysD xs with
    | some ks => if ks.length < 64 then .ok (.d (.int (diffK ks).length), s2) else .bad
    | none => .bad)
  | _ => .bad
theorem keys_pair {K : KW} {G : Hp} : ∀ {vs : List V} {xs : List D} {ks : List NestedKey}, RpA K G vs xs → keysD xs = some ks → ∃ ps : List (Addr × NestedKey), vs = ps.map (fun p => V.ref p.1) ∧ ps.map (·.2) = ks ∧ ∀ p ∈ ps, NkAt K G p.1 p.2
  | _, _, _, .nil, e => by cases e; exact ⟨[], rfl, rfl, fun _ h => nomatch h⟩
  | _, _, _, .cons r t, e => by
    obtain ⟨k, e1, e2⟩ := Option.bind_eq_some_iff.mp e
    obtain ⟨ks, e3, rfl⟩ := Option.map_eq_some_iff.mp e2
    obtain ⟨b, rfl, h2⟩ := keyD_at r e1
    obtain ⟨ps, rfl, rfl, h3⟩ := keys_pair t e3
    refine ⟨(b, k) :: ps, rfl, rfl, fun p hp => ?_⟩
    rcases List.mem_cons.mp hp with rfl | hp
    · exact h2
    · exact h3 p hp
theorem pd_lenSet {p p2 q pos : Pos} (hm : X.mg "len" = none) (hm2 : X.mg "set" = none) (hr : Room k X.A) (hc : X.calm = true) (ha : PDE X E e fe) (hg : Gl X "len" := by rfl) (hg2 : Gl X "set" := by rfl)
    (na : starEach [e] X.env = (false, eval e X.env) :: starEach [] X.env := by rfl) : PDE X E (.Call (.Name "len" p) [.Call (.Name "set" p2) [e] [] q] [] pos) (eLenSet fe) :=
  ⟨PE.imp (pe_lenSetN hr hg hm hg2 hm2 ha.pe hc na) fun σ H Q h => by
  obtain ⟨F, G, as, s, R, h⟩ := h
  refine eT.seq R h fun G0 H1 w s1 v R0 X0 r0 n0 h0 => ?_
  dsimp only at h0
  split at h0
  case h_2 => exact h0.elim
  rename_i xs s2 e2
  obtain ⟨G1, R1, X1, r1⟩ := toD_ok R0 r0 e2
  have h1 := eK.ext h0 R0 R1 X1
  split at h1
  case h_2 => exact h1.elim
  rename_i ks ek
  split at h1
  case isFalse => exact h1.elim
  rename_i hz
  cases r1 with
  | @lst a vs _ k1 k2 =>
  obtain ⟨ps, rfl, rfl, hk⟩ := keys_pair k2 ek
  refine ⟨a, ps, rfl, R1.same.seq k1, fun p hp => (hk p hp).mono R1.same, by simpa using hz, ?_⟩
  exact eK.val R1 h1 (.int _)⟩
end
end
end PD

set_option Elab.async false
set_option linter.all false
set_option maxRecDepth 100000
set_option maxHeartbeats 4000000
namespace PD
noncomputable section
open PySem PySem.Spec PyProof.Rows L2
/-! ### sorted of pairs of ints, of texts -/
def srtOk (xs : List D) : Bool := xs.all isIP || xs.all fun x => isStr x
theorem isStr_ex {x : D} (h : isStr x = true) : ∃ z, x = .str z := by
  cases x <;> first | exact ⟨_, rfl⟩ | cases h
theorem srt_alike {xs : List D} (h : srtOk xs = true) : PySem.W.AllAlike xs := by
  intro d hd d' hd'
  unfold srtOk at h
  rw [Bool.or_eq_true, List.all_eq_true, List.all_eq_true] at h
  rcases h with h | h
  · exact ip_alike (h d hd) (h d' hd')
  · obtain ⟨a, rfl⟩ := isStr_ex (h d hd)
    obtain ⟨b, rfl⟩ := isStr_ex (h d' hd')
    simp [PySem.W.alike]
theorem srt_able {xs : List D} (h : srtOk xs = true) : PySem.W.Sortable xs := by
  unfold srtOk at h
  rw [Bool.or_eq_true, List.all_eq_true, List.all_eq_true] at h
  rcases h with h | h
  · refine .inl fun d hd => ?_
    obtain ⟨a, b, rfl⟩ := isIP_ex (h d hd)
    exact ⟨_, _, rfl⟩
  · refine .inr fun d hd => ?_
    obtain ⟨a, rfl⟩ := isStr_ex (h d hd)
    exact ⟨nofun, fun _ => nofun⟩
theorem srt_depth {xs : List D} (h : srtOk xs = true) : ∀ d ∈ xs, d.depth ≤ 1 := by
  intro d hd
  unfold srtOk at h
  rw [Bool.or_eq_true, List.all_eq_true, List.all_eq_true] at h
  rcases h with h | h
  · obtain ⟨a, b, rfl⟩ := isIP_ex (h d hd)
    simp [PyData.depth, PyData.depthAll]
  · obtain ⟨a, rfl⟩ := isStr_ex (h d hd)
    simp [PyData.depth]
def leD (a b : D) : Bool := PySem.W.dataLe false id a b
def sortD (xs : List D) : List D := xs.mergeSort leD
theorem sort_map (l : List (V × D)) : (l.mergeSort (PySem.W.dataLe false Prod.snd)).map (·.2) = (l.map (·.2)).mergeSort leD :=
  List.map_mergeSort (r := PySem.W.dataLe false Prod.snd) (s := leD) fun a _ b _ => rfl
def rSortD (K : KW) : List V → Hp → VK → Prop := fun vs H Q => ∃ (a : Addr) (xs : List V) (ds : List D), vs = [.ref a] ∧ SqL K H a xs ∧ RpA K H xs ds ∧ srtOk ds = true ∧ ∀ (p : Addr) (ys : List V) (es : List (V × D)), H p = none → ys = es.map (·.1) → es.map (·.2) = sortD ds → (∀ e ∈ es, e ∈ xs.zip ds) → Q (.ref p) (upd H p (.lst ys))
theorem zip_map1 : ∀ {xs : List V} {ds : List D}, xs.length = ds.length → (xs.zip ds).map (·.1) = xs ∧ (xs.zip ds).map (·.2) = ds
  | [], [], _ => ⟨rfl, rfl⟩
  | x :: xs, d :: ds, h => by
    obtain ⟨h1, h2⟩ := zip_map1 (xs := xs) (ds := ds) (by simpa using h)
    exact ⟨by rw [List.zip_cons_cons, List.map_cons, h1], by rw [List.zip_cons_cons, List.map_cons, h2]⟩
  | [], _ :: _, h => by simp at h
  | _ :: _, [], h => by simp at h
section
variable {X : Cx} {pins : List (Addr × Obj)} {σ : L2.St} {H : Hp} {s : Shared}
theorem each_zip (I : Inv X pins σ H s) (ok : ∀ d, d.canLay0 = true ∨ ∃ z, d = PyData.str z → True) : ∀ {vs : List V} {ds : List D} {us : List Value}, RpA X.kw H vs ds → Vals vs us → srtOk ds = true → PySem.W.EachIs (fun u b => RelV b.1 u) us (vs.zip ds) ∧ PySem.W.EachIs (fun u b => ∃ as, Reads s.heap u b.2 as) us (vs.zip ds)
  | _, _, _, .nil, .nil, _ => ⟨.nil, .nil⟩
  | v :: vs, d :: ds, u :: us, .cons r rr, .cons h t, ho => by
    have ho' : srtOk ds = true := by
      unfold srtOk at ho ⊢
      rw [Bool.or_eq_true] at ho ⊢
      rw [List.all_cons, List.all_cons, Bool.and_eq_true, Bool.and_eq_true] at ho
      exact ho.imp (·.2) (·.2)
    obtain ⟨h1, h2⟩ := each_zip I ok rr t ho'
    refine ⟨.cons h h1, .cons ?_ h2⟩
    unfold srtOk at ho
    rw [Bool.or_eq_true, List.all_cons, List.all_cons, Bool.and_eq_true, Bool.and_eq_true] at ho
    rcases ho with ho | ho
    · exact Dp.reads I d v u (dp_of r (ip_lay ho.1)) h
    · obtain ⟨z, rfl⟩ := isStr_ex ho.1
      cases r
      obtain ⟨t, rfl⟩ := h
      exact ⟨_, .str _ _⟩
theorem vals_each : ∀ {us : List Value} {es : List (V × D)}, PySem.W.EachIs (fun u b => RelV b.1 u) us es → Vals (es.map (·.1)) us
  | _, _, .nil => .nil
  | _, _, .cons h t => .cons h (vals_each t)
end
section
variable {X : Cx} {E : XK} {e : Expr} {fe : EM} {pos : Pos} {k : Nat}
theorem cr_sortD (hr : Room k X.A) : CallR X (.builtin "sorted") (rSortD X.kw) := by
  intro pins s σ H vs us Q I r h
  obtain ⟨a, xs, ds, rfl, hs, hd, ok, q⟩ := h
  obtain ⟨its, rv, hl, hz⟩ := I.list hs
  rw [Vals.ref1 r]
  have hlen := hd.length
  obtain ⟨e1, e2⟩ := each_zip I (fun _ => .inr ⟨⟨#[]⟩, fun _ => trivial⟩) hd rv ok
  obtain ⟨z1, z2⟩ := zip_map1 hlen
  refine PySem.W.sorted_data (enc := Prod.snd) hl.isList e1 e2 (by rw [z2]; exact srt_alike ok) (by rw [z2]; exact srt_able ok) (by rw [List.length_zip]; omega) (fun b hb => ?_) fun out ho hE => ?_
  · have := srt_depth ok b.2 (by rw [← z2]; exact List.mem_map.mpr ⟨b, hb, rfl⟩)
    have := hr.units
    omega
  · obtain ⟨ep, he'⟩ := PyProof.Rows.sortedAll_at s.heap its out.toArray
    have hv := vals_each hE
    have hn : H (s.heap.objs.size + 1) = none := I.hok.fresh (Nat.le_succ _)
    refine ⟨.ref _, upd H (s.heap.objs.size + 1) (.lst (((xs.zip ds).mergeSort (PySem.W.dataLe false Prod.snd)).map (·.1))), I.laid (t' := s.toks) (fun _ _ => PyProof.Rows.sortedAll_old) (Nat.le_succ _) ⟨?_, out, ep, hv, by simpa using he'⟩, rfl, q _ _ _ hn rfl ?_ fun e he => ?_⟩
    · rw [List.length_map, (List.mergeSort_perm _ _).length_eq, List.length_zip]
      omega
    · show _ = ds.mergeSort leD
      rw [sort_map, z2]
    · exact (List.mergeSort_perm _ _).mem_iff.mp he
def gSort : W → EM := fun w s => match dat s w with
  | some (.list xs) => if srtOk xs then .ok (.f (sortD xs), s) else .bad
  | _ => .bad
theorem zip_rp {K : KW} {G : Hp} : ∀ {vs : List V} {ds : List D}, RpA K G vs ds → ∀ e ∈ vs.zip ds, Rp K G e.1 e.2
  | _, _, .nil => fun e h => by cases h
  | v :: vs, d :: ds, .cons r t => fun e h => by
    have h : e = (v, d) ∨ e ∈ vs.zip ds := by simpa using h
    rcases h with z | z
    · rw [z]; exact r
    · exact zip_rp t e z
theorem rps_of {K : KW} {G : Hp} : ∀ {es : List (V × D)}, (∀ e ∈ es, Rp K G e.1 e.2) → RpA K G (es.map (·.1)) (es.map (·.2))
  | [], _ => .nil
  | e :: es, h => .cons (h e List.mem_cons_self) (rps_of fun e' he => h e' (List.mem_cons_of_mem _ he))
theorem ud_sort : UnD X E (rSortD X.kw) gSort := fun F G H as s σ v w Q R r h => by
  unfold gSort at h
  split at h
  · rename_i xs e
    split at h
    · rename_i ok
      obtain ⟨a, vs, rfl, h1, h2⟩ := dat_lst R r e
      refine ⟨a, vs, xs, rfl, h1, h2.mono R.same, ok, fun p ys es hp ey ed hz => ?_⟩
      subst ey
      rw [← ed] at h
      exact eK.newL R h (rps_of fun e he => zip_rp h2 e (hz e he)) hp
    · exact h.elim
  · exact h.elim
theorem pd_sort {p : Pos} (hm : X.mg "sorted" = none) (hr : Room k X.A) (ha : PDE X E e fe) (hg : Gl X "sorted" := by rfl) (he : starEach [e] X.env = (false, eval e X.env) :: starEach [] X.env := by rfl) : PDE X E (.Call (.Name "sorted" p) [e] [] pos) (eB1 gSort fe) :=
  pd_b1 (cr_sortD hr) ud_sort hm (by decide +kernel) ha hg (by decide) (by decide) he
end
/-! ### list.remove -/
def rRemD (K : KW) : V → List V → Hp → VK → Prop := fun x us H Q => ∃ (l : Addr) (xs : List V) (ds : List D) (y : V) (d : D) (j : Nat), x = .ref l ∧ us = [y] ∧ H l = some (.lst xs) ∧ DpAll K H xs ds ∧ Dp K H y d ∧ PyData.plainAll ds = true ∧ d.plain = true ∧ d.depth ≤ 60 ∧ SeqAt.dataPlace ds d = some j ∧ Q .non (upd H l (.lst (xs.eraseIdx j)))
section
variable {X : Cx} {E : XK} {e o : Expr} {fe fo : EM} {pos : Pos} {k : Nat}
theorem mt_removeD (hr : Room k X.A) : MtR X "list.remove" (rRemD X.kw) := by
  intro pins s σ H x xs v us Q I rx rxs h
  obtain ⟨l, vs, ds, y, d, j, rfl, rfl, hH, hds, hd, p1, p2, p3, hj, q⟩ := h
  cases rx
  obtain ⟨u, rfl, ru⟩ := vals1 rxs
  obtain ⟨z, its, n, r, hl, e⟩ := I.lstM hH
  obtain ⟨as, ra⟩ := Dp.readsAll I ds vs its hds r
  obtain ⟨bs, rb⟩ := Dp.reads I d y u hd ru
  refine SeqAt.remove_list_data (vs := its.toArray) (IsL.isList e) (by simpa using ra) rb p1 p2 (by have := hr.units; have := Nat.min_le_right (PyData.depthAll ds) d.depth; omega) hj (by rw [List.size_toArray]; omega) ?_
  refine ⟨.non, _, I.lset (its' := its.eraseIdx j) (t' := s.toks) hH e ?_ (r.eraseIdx j) ?_, rfl, q⟩
  · show its.toArray.eraseIdxIfInBounds j = (its.eraseIdx j).toArray
    rw [List.eraseIdxIfInBounds_toArray]
  · exact Nat.le_trans (List.length_eraseIdx_le _ _) z
def mRemove : MM := fun xs ws => match ws with
  | [.d x] => if PyData.canLayAll0 xs = true ∧ x.canLay0 = true ∧ x.depth ≤ 60 then (match SeqAt.dataPlace xs x with
    | some j => some (.none, xs.eraseIdx j)
    | none => none) else none
  | _ => none
theorem md_remove : MtD X (rRemD X.kw) mRemove := fun G H as a vs us xs ws x ys Q sg g0 h1 h2 h3 h4 h5 => by
  unfold mRemove at h4
  split at h4
  · split at h4
    · rename_i hz
      split at h4
      · rename_i j ej
        cases h4
        cases h3 with
        | d k1 k2 =>
          cases k2
          exact ⟨a, vs, xs, _, _, j, rfl, rfl, h1, dpA_of (h2.mono sg) hz.1, dp_of (Rp.mono sg k1) hz.2.1, PyData.plainAll_of_canLay0 _ hz.1, PyData.plain_of_canLay0 _ hz.2.1, hz.2.2, ej, h5 _ _ (h2.eraseIdx j) .non⟩
      · cases h4
    · cases h4
  · cases h4
theorem pd_remove {apos : Pos} (hr : Room k X.A) (ho : PDE X E o fo) (ha : PDE X E e fe) (hbase : attributeBase o "remove" X.env (eval o X.env) = eval o X.env := by rfl)
    (hfew : ((backTo pos (starEach [e] X.env)).all (fun x => !x.1) && (backToKw pos (keywordEach [] X.env)).all (fun x => x.1.isSome)
      && decide (([e] : List Expr).length + ([] : List Keyword).length + (if ([] : List Keyword).isEmpty then 0 else 1) < 30)) = true := by rfl)
    (hline : (apos.endLine == pos.line) = true := by rfl) (hs : starEach [e] X.env = (false, eval e X.env) :: starEach [] X.env := by rfl) (hplain : (backTo pos (starEach [] X.env)).any (·.1) = false := by rfl) : PDE X E (.Call (.Attribute o "remove" apos) [e] [] pos) (eMeth mRemove fo (aCons false fe aNil)) :=
  pd_meth PySem.F.slot_list_remove PySem.F.type_list_remove (mt_removeD hr) md_remove ho (pda_cons false ha pda_nil hs) hbase hfew hline hs hplain
end
end
end PD

set_option Elab.async false
set_option linter.all false
set_option maxRecDepth 100000
set_option maxHeartbeats 4000000
namespace PD
noncomputable section
open PySem PySem.Spec PyProof.Rows L2
section
variable {X : Cx} {E : XK}
/-! ### {0: x} -/
def eDisp1 (i : Nat) : EM := fun s => match s.env[i]? with
  | some (some _) => .ok (.d dicS, s)
  | _ => .bad
theorem pd_disp1 (i : Nat) {n : Int} {j : Nat} {p pos : Pos} {x : Str} {pos' : Pos} (hN : X.N[i]? = some x := by rfl) (hv : Vis X.env.scope x := by first | exact Or.inl rfl | exact Or.inr (Or.inl rfl) | exact Or.inr (Or.inr rfl)) (hd : (x == ("__debug__" : Str)) = false := by decide)
    (hcd : (x == ("__classdict__" : Str)) = false := by decide) : PDE X E (.Dict [some (.Constant (.int n) j p)] [.Name x pos'] pos) (eDisp1 i) :=
  ⟨PE.imp (pe_disp (trs := [(tC (.int n), tVar i)]) (pps_cons pe_int (pe_var hN hv hd hcd) pps_nil) rfl rfl (by simp) (by simp)) fun σ H Q h => by
  obtain ⟨F, G, as, s, R, h⟩ := h
  unfold eDisp1 at h
  split at h
  case h_2 => exact h.elim
  rename_i w e
  obtain ⟨v, e1, _, _⟩ := R.env i w e
  intro p hp
  show tVar i σ (upd H p (.dK [])) _
  refine ⟨v, e1, ?_⟩
  refine ⟨upd_same, [(.inl n, v)], rfl, by simp, ?_⟩
  rw [upd_upd]
  obtain ⟨gp, _, _⟩ := R.fresh hp
  exact h _ _ _ (R.newG hp _) (Ext.allocG gp hp) (.dic upd_same rfl) fun _ _ z _ => nomatch z⟩
variable {a b : Expr} {fa fb : EM}
/-- x, y = a, b by way of a tuple (where one of the names is a cell) -/
theorem pds_parC (c1 c2 : Bool) (i j : Nat) {x y : Str} {px py pt pos : Pos} {kt k2 : Nat} {pt2 : Pos} (hc : X.calm = true) (hN : X.N.Nodup) (ha : PDE X E a fa) (hb : PDE X E b fb) (hi : X.N[i]? = some x := by rfl) (hj : X.N[j]? = some y := by rfl)
    (hx : Loc X.env.scope x := by first | exact Or.inl rfl | exact Or.inr rfl) (hy : Loc X.env.scope y := by first | exact Or.inl rfl | exact Or.inr rfl)
    (hfx : X.fn x = true ∨ X.env.scope.names.lookup x = some .local := by first | exact .inl rfl | exact .inr rfl) (hfy : X.fn y = true ∨ X.env.scope.names.lookup y = some .local := by first | exact .inl rfl | exact .inr rfl)
    (hw : swappedStores [.Tuple [.Name x px, .Name y py] kt pt] (.Tuple [a, b] k2 pt2) X.env = pure none := by rfl)
    (hs : swapsWithSole [.Tuple [.Name x px, .Name y py] kt pt] (.Tuple [a, b] k2 pt2) pos.line X.env = pure false := by rfl)
    (h1 : (assignEach [.Tuple [.Name x px, .Name y py] kt pt] X.env).map (·.2) = [assign (.Tuple [.Name x px, .Name y py] kt pt) X.env] := by rfl)
    (hn : (assignEach [.Name x px, .Name y py] X.env).length = 2 := by rfl) (hst : (assignEach [.Name x px, .Name y py] X.env).findIdx? (·.1) = none := by rfl)
    (hq1 : (assignEach (.Name x px :: [.Name y py]) X.env).map (·.2) = assign (.Name x px) X.env :: (assignEach [.Name y py] X.env).map (·.2) := by rfl)
    (hq2 : (assignEach (.Name y py :: []) X.env).map (·.2) = assign (.Name y py) X.env :: (assignEach [] X.env).map (·.2) := by rfl)
    (he : starEach [a, b] X.env = (false, eval a X.env) :: starEach [b] X.env := by rfl) (he2 : starEach [b] X.env = (false, eval b X.env) :: starEach [] X.env := by rfl) :
    PDS X E (.Assign [.Tuple [.Name x px, .Name y py] kt pt] (.Tuple [a, b] k2 pt2) pos) (sPar c1 c2 i j fa fb) :=
  ⟨PS.imp (ps_asg (pe_tup (pa_cons ha.pe (pa_cons hb.pe pa_nil he2) he)) (pg_tup (n := 2) hc (pgs_cons (pg_name hN hi hx hfx) (pgs_cons (pg_name hN hj hy hfy) pgs_nil hq2) hq1) hn hst) hs hw h1) fun D σ H h => by
  obtain ⟨F, G, as, s, R, h⟩ := h
  refine eT.seqS R h fun G1 H1 w s1 v R1 X1 r1 n1 h1 => ?_
  refine ⟨pn F v w, G1, as, s1, R1.pend r1, ?_⟩
  dsimp only at h1
  cases q : fb s1 with
  | exc c => rw [q] at h1; exact fun C H' hc k => h1 C H' hc (keepX X1 k)
  | bad => rw [q] at h1; exact h1
  | ok p =>
    obtain ⟨w2, s2⟩ := p
    rw [q, Res.bind_ok] at h1
    dsimp only at h1
    intro u G2 H2 R2 X2 r2 n2
    refine ⟨by rw [sizeLine_eq]; show 2 ≤ 16777216; omega, fun pz hpz => ?_⟩
    refine ⟨pz, [v, u], rfl, SqT.of upd_same, rfl, v, [u], rfl, u, [], rfl, rfl, ?_⟩
    have X12 := X1.trans X2
    have r1' : RpW X.kw F G2 H2 as v w := r1.mono R2 X2
    have ra := r1'.apart r2
    have R2' : Rep X.kw (pn F u w2) G2 H2 as σ s2 := R2.unpend.pend (r2.weak fun _ z => .inl z)
    have r2w : RpW X.kw F G2 H2 as u w2 := r2.weak fun _ z => .inl z
    -- the pair's tuple
    have Rn := R2'.new hpz (.tup [v, u])
    have Xn : Ext G2 H2 (live as s2) G2 (upd H2 pz (.tup [v, u])) (live as s2) := Ext.alloc hpz
    have ra' : RpW X.kw (pn F u w2) G2 (upd H2 pz (.tup [v, u])) as v w := ra.mono ((R2'.pend ra).new hpz _) Xn
    have r2n : RpW X.kw F G2 (upd H2 pz (.tup [v, u])) as u w2 := r2w.mono Rn Xn
    have X12n := X12.trans Xn
    split at h1
    · rename_i s3 e3
      split at h1
      · rename_i s4 e4
        obtain ⟨G3, as3, R3, sg3, p3, l3⟩ := store_ok Rn ra' e3
        have r2' : RpW X.kw F G3 (upd H2 pz (.tup [v, u])) as3 u w2 := r2n.grow R3 sg3 p3
        obtain ⟨G4, as4, R4, sg4, p4, l4⟩ := store_ok R3.unpend r2' e4
        refine h1 _ G4 _ as4 R4 ⟨X12n.same.trans (sg3.trans sg4), X12n.keep, fun b z => ?_⟩ (p3.trans p4)
        rcases l4 b z with z | ⟨⟨ys, z1⟩, z2⟩
        · rcases l3 b z with z | ⟨⟨ys, z1⟩, z2⟩
          · exact X12n.new b z
          · exact .inr (n1 ys b z1 z2)
        · exact .inr (newX R R1 X1 (n2 ys b z1 z2))
      · exact h1.elim
    · exact h1.elim⟩
end
end
end PD

set_option Elab.async false
set_option linter.all false
set_option maxRecDepth 100000
set_option maxHeartbeats 4000000
namespace PD
noncomputable section
open PySem PySem.Spec PyProof.Rows L2
/-! ### reads of a dict with nested keys that no one changes -/
theorem pgetL {α β : Type} {F : α → β → Prop} : ∀ {es : List α} {xs : List β} {i : Nat} {e : α}, Paired F es xs → es[i]? = some e → ∃ x, xs[i]? = some x ∧ F e x
  | _, _, _, _, .nil, e => by simp at e
  | _, _, 0, x, .cons r _, e => by simp at e; subst e; exact ⟨_, rfl, r⟩
  | _, _, i + 1, x, .cons _ t, e => by
    obtain ⟨x, h1, h2⟩ := pgetL (i := i) (e := x) t (by simpa using e)
    exact ⟨x, by simpa using h1, h2⟩
section
variable {X : Cx} {pins : List (Addr × Obj)} {σ : L2.St} {H : Hp} {s : Shared} {d : Addr} {o : Obj} {es : List NE}
theorem frzN (I : Inv X pins σ H s) (h : H d = some (.frz o (dN X.kw d es))) :
    (d == sysModules) = false ∧ s.heap.get? d = some o ∧ o.ExactDict ∧ ∃ (en : Array DictEntry) (ep : Nat), o.data = .dict en ep ∧ en.size = es.length ∧
      ∀ (i : Nat) (e : NE), es[i]? = some e → ∃ (t : DictEntry) (u : Value), en[i]? = some t ∧ t.key = .ref e.2.1 ∧ t.val = u ∧ RelV e.2.2 u := by
  obtain ⟨hd, ⟨z, hs, xs, rel, o', en, ep, ho, hx, hdt, he, _⟩, _⟩ := (show ObjOk X.prog X.w H s.heap d (.frz o (dN X.kw d es)) from I.hok d _ h)
  rw [hd] at ho
  cases ho
  refine ⟨hs, hd, hx, en, ep, hdt, ?_, fun i e hi => ?_⟩
  · have l1 := size_of_entries he
    have l2 := Paired.length rel
    omega
  · obtain ⟨x, hx', r1, r2, r3⟩ := pgetL rel hi
    have q := entry_at he i
    rw [hx'] at q
    exact ⟨_, _, q, by show Value.ref x.2.1 = _; rw [r2], rfl, r3⟩
/-- .. with its keys -/
theorem frzN_dict (I : Inv X pins σ H s) (h : H d = some (.frz o (dN X.kw d es))) (hk : ∀ e ∈ es, NkAt X.kw H e.2.1 e.1) :
    (d == sysModules) = false ∧ ∃ xs, Paired RelN es xs ∧ s.heap.DictOfH (nestedKind X.prog X.w) d xs := by
  obtain ⟨hd, ⟨z, hs, xs, rel, o', en, ep, ho, hx, hdt, he, hn⟩, _⟩ := (show ObjOk X.prog X.w H s.heap d (.frz o (dN X.kw d es)) from I.hok d _ h)
  refine ⟨hs, xs, rel, o', en, ep, ho, hx, hdt, he, fun x hx' => ?_, hn⟩
  obtain ⟨i, hi⟩ := List.mem_iff_getElem?.mp hx'
  obtain ⟨e, h1, h2, h3, _⟩ := pgetN rel hi
  rw [← h2, ← h3]
  exact (hk e (List.mem_of_getElem? h1)).is I
end
def ItkN (K : KW) (d : Addr) (o : Obj) (es : List NE) : It :=
  ⟨fun i H => H d = some (.frz o (dN K d es)) ∧ i < es.length, fun i H x H' => H' = H ∧ ∃ e, es[i]? = some e ∧ x = .ref e.2.1, fun i H => H d = some (.frz o (dN K d es)) ∧ es.length ≤ i⟩
def ItiN (K : KW) (d : Addr) (o : Obj) (es : List NE) : It :=
  ⟨fun i H => H d = some (.frz o (dN K d es)) ∧ i < es.length, fun i H x H' => ∃ T e, es[i]? = some e ∧ x = .ref T ∧ H T = none ∧ H' = upd H T (.tup [.ref e.2.1, e.2.2]), fun i H => H d = some (.frz o (dN K d es)) ∧ es.length ≤ i⟩
section
variable {P : Program} {w : World} {K : PySem.W.Frag} {tg : Expr} {d : Addr} {o : Obj} {en : Array DictEntry} {ep : Nat}
theorem turn_keysN {es : List NE} (it : Addr) (hod : o.data = .dict en ep) : Turn P w K tg (ItkN ⟨K, P, w⟩ d o es) [it] it (fun i h => h.IsKeyIter it d i es.length ep) where
  mem := by simp
  obj := fun i h st b hb => by
    have e : b = it := by simpa using hb
    subst e
    obtain ⟨oi, e, c, dd⟩ := st
    exact ⟨oi, e, fun v z => by rw [dd] at z; cases z⟩
  keep := fun i h h' st k => st.at fun oi e => k it (by simp) oi e
  item := by
    intro X hP hw hK hc i pins s σ H E I hf st hg
    subst hP hw hK
    obtain ⟨hd, hi⟩ := hg
    obtain ⟨f0, f1, f2, f3, f4, f5⟩ := hf it (by simp)
    obtain ⟨hs, hgd, hx, en', ep', hdt, hsz, ent⟩ := frzN I hd
    obtain ⟨rfl, rfl⟩ := dict_ep hod hdt
    obtain ⟨e0, he0⟩ : ∃ p, es[i]? = some p := ⟨es[i], List.getElem?_eq_getElem hi⟩
    obtain ⟨t, u, hen, hkey, _, _⟩ := ent i e0 he0
    refine next_key_item st hgd hdt hsz hen fun h' st' sb => ?_
    have I1 : Inv X pins σ H { s with heap := h' } := I.turned (t' := s.toks) (fun b ob hb e => (sb.2 b hb).trans e) f0 f1 f3 f4 f5
    obtain ⟨oi, e, c, dd⟩ := id st'
    exact ⟨t.key, rfl, go_of (s := { s with heap := h' }) e c dd (by decide) ⟨.ref e0.2.1, H, I1, hkey, ⟨rfl, e0, he0, rfl⟩, st', fun b hb => (hf b hb).1⟩⟩
  done := by
    intro X hP hw hK hc i pins s σ H E I hf st hg
    subst hP hw hK
    obtain ⟨hd, hi⟩ := hg
    obtain ⟨f0, f1, f2, f3, f4, f5⟩ := hf it (by simp)
    obtain ⟨hs, hgd, hx, en', ep', hdt, hsz, ent⟩ := frzN I hd
    obtain ⟨rfl, rfl⟩ := dict_ep hod hdt
    exact next_key_end (I.ok.hd hc) st hgd hdt hsz hi fun h' eb => ⟨rfl, I.turned (t' := s.toks) (fun b ob hb e => eb b ob hb e) f0 f1 f3 f4 f5⟩
  self := fun A i s Q E st h => by
    refine wpAny_pyIter_slot st.typeIs F.slot_dict_keyiterator_iter (wpAny_call_entry F.slot_dict_keyiterator_iter st.typeIs F.entry_dict_keyiterator_iter ?_ (F.args_dict_keyiterator_iter_1 _))
    show wpAny _ _ (ret (.ref it)) _ _ s
    exact wpAny_pure ⟨_, rfl, "dict_keyiterator", _, st.typeIs, F.slot_dict_keyiterator_next.lookup, h⟩
theorem turn_itemsN {es : List NE} {elts : List Expr} {kk : Nat} {tpos : Pos} (it : Addr) (hod : o.data = .dict en ep) :
    Turn P w K (.Tuple elts kk tpos) (ItiN ⟨K, P, w⟩ d o es) [it] it (fun i h => ∃ ok ov, IsItemIter h it d i es.length ep ok ov) where
  mem := by simp
  obj := fun i h st b hb => by
    have e : b = it := by simpa using hb
    subst e
    obtain ⟨ok, ov, e⟩ := st
    exact ⟨_, e, fun v z => nomatch z⟩
  keep := fun i h h' st k => let ⟨ok, ov, e⟩ := st; ⟨ok, ov, k it (by simp) _ e⟩
  item := by
    intro X hP hw hK hc i pins s σ H E I hf st hg
    subst hP hw hK
    obtain ⟨hd, hi⟩ := hg
    obtain ⟨hs, hgd, hx, en', ep', hdt, hsz, ent⟩ := frzN I hd
    obtain ⟨rfl, rfl⟩ := dict_ep hod hdt
    obtain ⟨e0, he0⟩ : ∃ p, es[i]? = some p := ⟨es[i], List.getElem?_eq_getElem hi⟩
    obtain ⟨t, u, hen, hkey, hval, ru⟩ := ent i e0 he0
    obtain ⟨ok, ov, he⟩ := st
    rw [← hsz] at he
    have hlt : it < s.heap.objs.size := Heap.lt_size he
    have hie : i < en'.size := by omega
    have e5 : en'[i] = t := by
      have := Array.getElem?_eq_getElem hie
      rw [hen] at this
      exact (Option.some.inj this).symm
    refine DT.nextI he ⟨o, hgd, hx, hdt⟩ hie fun h' ho hT hz hk => ?_
    refine ⟨_, rfl, wpAny_letOwnedTupleGo_items (s := { s with heap := h' }) ho fun h'' he' sb => ?_⟩
    rw [e5, hkey, hval] at hT
    have hT2 : h''.get? s.heap.objs.size = some { cls := .type "tuple", data := .seq #[.ref e0.2.1, u] } := (sb.2 _ (Nat.ne_of_gt hlt)).trans hT
    have new : ObjOk X.prog X.w (upd H s.heap.objs.size (.tup [.ref e0.2.1, e0.2.2])) h'' s.heap.objs.size (.tup [.ref e0.2.1, e0.2.2]) :=
      ⟨by show 2 ≤ sizeLine; decide, [.ref e0.2.1, u], .cons rfl (.cons ru .nil), ⟨_, hT2, rfl, _, rfl⟩⟩
    have I1 : Inv X pins σ (upd H s.heap.objs.size (.tup [.ref e0.2.1, e0.2.2])) { s with heap := h'' } :=
      I.turnedNew (t' := s.toks) (ch := [it]) (fun b ob hb e => (sb.2 b (by simpa using hb)).trans (hk b ob (by simpa using hb) e)) hf (Nat.le_refl _) new
    refine ⟨.ref s.heap.objs.size, _, I1, rfl, ⟨_, e0, he0, rfl, I.hok.fresh (Nat.le_refl _), rfl⟩, ⟨en'[i].key, en'[i].val, ?_⟩, fun b hb => ?_⟩
    · rw [← hsz]; exact he'
    · have e : b = it := by simpa using hb
      rw [e, upd_ne (Nat.ne_of_lt hlt)]
      exact (hf it (by simp)).1
  done := by
    intro X hP hw hK hc i pins s σ H E I hf st hg
    subst hP hw hK
    obtain ⟨hd, hi⟩ := hg
    obtain ⟨f0, f1, f2, f3, f4, f5⟩ := hf it (by simp)
    obtain ⟨hs, hgd, hx, en', ep', hdt, hsz, ent⟩ := frzN I hd
    obtain ⟨rfl, rfl⟩ := dict_ep hod hdt
    obtain ⟨ok, ov, he⟩ := st
    rw [← hsz] at he
    exact DT.endI (I.ok.hd hc) he ⟨o, hgd, hx, hdt⟩ (by omega) fun h' eb => ⟨rfl, I.turned (t' := s.toks) (fun b ob hb e => eb b ob hb e) f0 f1 f3 f4 f5⟩
  self := fun A i s Q E st h => let ⟨_, _, e⟩ := st; PySem.W.kcp_self e h
end
def iKeysN (K : KW) (td : TE) : TI := fun σ H R => td σ H fun x H1 => ∃ d o es, x = .ref d ∧ H1 d = some (.frz o (dN K d es)) ∧ R (ItkN K d o es) H1
def iItemsN (K : KW) (td : TE) : TI := fun σ H R => td σ H fun x H1 => ∃ d o es, x = .ref d ∧ H1 d = some (.frz o (dN K d es)) ∧ R (ItiN K d o es) H1
section
variable {X : Cx} {tg e : Expr} {td : TE} {apos cpos : Pos}
theorem pi_keysN (he : PE X e td) : PI X tg e (iKeysN X.kw td) := by
  refine ⟨fun pins s σ H R I h => ?_⟩
  refine thn (he.run pins s σ H _ I h) fun u s1 ⟨x, H1, I1, rx, d, o, es, ex, hd, q⟩ => ?_
  subst ex
  obtain rfl : u = Value.ref d := rx
  obtain ⟨hs, hgd, hx, en, ep, hdt, hsz, ent⟩ := frzN I1 hd
  refine iter_keys hs hgd hx hdt (pi_one (tk := s1.toks) I1 _ (turn_keysN _ hdt) ⟨_, Heap.get?_push_size _ rfl, rfl, ?_⟩ q)
  rw [hsz] <;> rfl
theorem pi_itemsN {elts : List Expr} {kk : Nat} {tpos : Pos} (he : PE X e td) (hbase : attributeBase e "items" X.env (eval e X.env) = eval e X.env := by rfl) (hline : (apos.endLine == cpos.line) = true := by rfl) :
    PI X (.Tuple elts kk tpos) (.Call (.Attribute e "items" apos) [] [] cpos) (iItemsN X.kw td) := by
  refine ⟨fun pins s σ H R I h => ?_⟩
  refine wpAny_Call_method (T := "dict") (id := "dict.items") hbase rfl hline F.plainAttrs_dict F.slot_dict_items F.type_dict_items (thn (he.run pins s σ H _ I h) fun u s1 ⟨x, H1, I1, rx, d, o, es, ex, hd, q⟩ => ?_)
  subst ex
  obtain rfl : u = Value.ref d := rx
  obtain ⟨hs, hgd, hx, en, ep, hdt, hsz, ent⟩ := frzN I1 hd
  have hT : s1.TypeIs (.ref d) "dict" := ⟨o, hgd, hx.1⟩
  refine ⟨hT, fun a ea => by cases ea; exact ⟨o, hgd, hx.2.1⟩, ?_⟩
  have I2 : Inv X pins σ H1 { s1 with heap := s1.heap.push { cls := .type "dict_items", data := .fields #[.ref d] } } := I1.kept (t' := s1.toks) fun b ob q => Heap.get?_push_of_some _ q
  have fin : wpAny (model X.prog X.w) X.A (pyIter (.ref s1.heap.objs.size)) (PIE X pins σ (.Tuple elts kk tpos) R) X.xe { s1 with heap := s1.heap.push { cls := .type "dict_items", data := .fields #[.ref d] } } := by
    refine DT.iterI (d := d) (es := en) (ep := ep) ⟨_, Heap.get?_push_size _ rfl, rfl, rfl⟩ (DT.Raw.push ⟨o, hgd, hx, hdt⟩ _) (pi_one (tk := s1.toks) I2 _ (turn_itemsN _ hdt) ⟨.none, .none, ?_⟩ q)
    rw [← hsz]
    exact Heap.get?_push_size _ rfl
  show wpAny _ _ (callWith cpos (.builtin "dict.items") [.ref d] [] []) _ X.xe s1
  exact method_meetsIn F.slot_dict_items F.entry_dict_items rfl (PySem.evalArgs_none ⟨rfl, hT, F.args_dict_items_1 _, _, DT.meetsItems (es := en) (ep := ep) hs, ⟨⟨o, hgd, hx, hdt⟩, fin⟩⟩)
end
theorem rpd_get {K : KW} {G : Hp} : ∀ {es : List NE} {kd : List (D × D)} {i : Nat} {p : D × D}, RpD K G es kd → kd[i]? = some p → ∃ e, es[i]? = some e ∧ Rp K G (.ref e.2.1) p.1 ∧ Rp K G e.2.2 p.2 ∧ nkD p.1 = some e.1
  | _, _, _, _, .nil, e => by simp at e
  | _, _, 0, p, .cons h1 h2 h3 h4 _, e => by simp at e; subst e; exact ⟨_, rfl, h1, h4, h2⟩
  | _, _, i + 1, p, .cons _ _ _ _ t, e => by
    obtain ⟨x, h1, h2⟩ := rpd_get (i := i) (p := p) t (by simpa using e)
    exact ⟨x, by simpa using h1, h2⟩
theorem rpd_len {K : KW} {G : Hp} : ∀ {es : List NE} {kd : List (D × D)}, RpD K G es kd → es.length = kd.length
  | _, _, .nil => rfl
  | _, _, .cons _ _ _ _ t => by simp [rpd_len t]
theorem rpd_keys {K : KW} {G : Hp} : ∀ {es : List NE} {kd : List (D × D)}, RpD K G es kd → ∀ e ∈ es, NkAt K G e.2.1 e.1
  | _, _, .nil => fun e h => nomatch h
  | _, _, .cons h1 h2 h3 _ t => fun e h => by
    rcases List.mem_cons.mp h with rfl | h
    · exact ⟨_, h1, h2, h3⟩
    · exact rpd_keys t e h
theorem walk_keysN {K : KW} {G : Hp} {a : Addr} {o : Obj} {es : List NE} {kd : List (D × D)} (h : G a = some (.frz o (dN K a es))) (r : RpD K G es kd) : WalkI K G (ItkN K a o es) (kd.map (·.1)) := fun i G1 H s1 s2 => by
  have hH := s2 _ _ (s1 _ _ h)
  have hl := rpd_len r
  refine ⟨fun hi => ⟨hH, by simpa [hl] using hi⟩, fun d hd => ?_⟩
  rw [List.getElem?_map] at hd
  obtain ⟨p, hp, rfl⟩ := Option.map_eq_some_iff.mp hd
  obtain ⟨e, h1, h2, h3, _⟩ := rpd_get r hp
  refine ⟨⟨hH, (List.getElem?_eq_some_iff.mp h1).1⟩, fun x H' y => .inl ⟨y.1, ?_⟩⟩
  obtain ⟨e', h4, rfl⟩ := y.2
  rw [h1] at h4
  cases h4
  exact Rp.mono s1 h2
theorem walk_itemsN {K : KW} {G : Hp} {a : Addr} {o : Obj} {es : List NE} {kd : List (D × D)} (h : G a = some (.frz o (dN K a es))) (r : RpD K G es kd) : WalkI K G (ItiN K a o es) (kd.map fun p => .tuple [p.1, p.2]) := fun i G1 H s1 s2 => by
  have hH := s2 _ _ (s1 _ _ h)
  have hl := rpd_len r
  refine ⟨fun hi => ⟨hH, by simpa [hl] using hi⟩, fun d hd => ?_⟩
  rw [List.getElem?_map] at hd
  obtain ⟨p, hp, rfl⟩ := Option.map_eq_some_iff.mp hd
  obtain ⟨e, h1, h2, h3, _⟩ := rpd_get r hp
  refine ⟨⟨hH, (List.getElem?_eq_some_iff.mp h1).1⟩, fun x H' y => .inr ?_⟩
  obtain ⟨T, e', h4, rfl, hT, rfl⟩ := y
  rw [h1] at h4
  cases h4
  have sm := s1.trans (same_upd (o := .tup [.ref e.2.1, e.2.2]) (s2.free hT))
  exact ⟨T, _, hT, rfl, .tup (SqT.of upd_same) (.cons (Rp.mono sm h2) (.cons (Rp.mono sm h3) .nil))⟩
def ndOk (kd : List (D × D)) : Bool := kd.all fun p => isTup p.1
section
variable {X : Cx} {E : XK} {tg e : Expr} {fe : EM} {apos cpos : Pos}
def dicOnly (g : List (D × D) → List D) (f : EM) : IM := fun s => (f s).bind fun p => match p.1 with
  | .d (.dict kd) => if ndOk kd then .ok (g kd, p.2) else .bad
  | _ => .bad
theorem nd_rp {K : KW} {G : Hp} {v : V} {kd : List (D × D)} (r : Rp K G v (.dict kd)) (h : ndOk kd = true) : ∃ a o es, v = .ref a ∧ G a = some (.frz o (dN K a es)) ∧ RpD K G es kd := by
  cases r with
  | dic h1 e => subst e; simp [ndOk] at h
  | dicN h1 h2 => exact ⟨_, _, _, rfl, h1, h2⟩
theorem pdi_keysN (h : PDE X E e fe) : PDI X E tg e (dicOnly (fun kd => kd.map (·.1)) fe) := ⟨PI.imp (pi_keysN h.pe) fun σ H Q h => by
  obtain ⟨F, G, as, s, R, h⟩ := h
  refine eT.seqI R h fun G1 H1 w s1 v R1 r1 h1 => ?_
  dsimp only at h1
  split at h1
  · rename_i kd
    split at h1
    · rename_i ok
      obtain ⟨a, o, es, rfl, h2, h3⟩ := nd_rp r1 ok
      exact ⟨a, o, es, rfl, R1.same _ _ h2, h1 _ G1 H1 R1 (Ext.refl _ _ _) (walk_keysN h2 h3)⟩
    · exact h1.elim
  · exact h1.elim⟩
theorem pdi_itemsN {elts : List Expr} {kk : Nat} {tpos : Pos} (h : PDE X E e fe) (hbase : attributeBase e "items" X.env (eval e X.env) = eval e X.env := by rfl) (hline : (apos.endLine == cpos.line) = true := by rfl) :
    PDI X E (.Tuple elts kk tpos) (.Call (.Attribute e "items" apos) [] [] cpos) (dicOnly (fun kd => kd.map fun p => .tuple [p.1, p.2]) fe) := ⟨PI.imp (pi_itemsN h.pe hbase hline) fun σ H Q h => by
  obtain ⟨F, G, as, s, R, h⟩ := h
  refine eT.seqI R h fun G1 H1 w s1 v R1 r1 h1 => ?_
  dsimp only at h1
  split at h1
  · rename_i kd
    split at h1
    · rename_i ok
      obtain ⟨a, o, es, rfl, h2, h3⟩ := nd_rp r1 ok
      exact ⟨a, o, es, rfl, R1.same _ _ h2, h1 _ G1 H1 R1 (Ext.refl _ _ _) (walk_itemsN h2 h3)⟩
    · exact h1.elim
  · exact h1.elim⟩
end
end
end PD

set_option Elab.async false
set_option linter.all false
set_option maxRecDepth 100000
set_option maxHeartbeats 4000000
namespace PD
noncomputable section
open PySem PySem.Spec PyProof.Rows L2
section
variable {X : Cx} {o i e f : Expr} {td ty tx : TE} {pos apos cpos : Pos} {k0 : Nat}
def tDGetN (K : KW) (td ty : TE) : TE := fun σ H Q => td σ H fun x H1 => ty σ H1 fun y H2 => ∃ (d : Addr) (ob : Obj) (es : List NE) (b : Addr) (k : NestedKey) (v : V), x = .ref d ∧ y = .ref b ∧ H2 d = some (.frz ob (dN K d es)) ∧ (∀ e ∈ es, NkAt K H2 e.2.1 e.1) ∧ NkAt K H2 b k ∧ atN es k = some v ∧ Q v H2
theorem atN_some {es : List NE} {xs : List (NestedKey × Addr × Value)} {k : NestedKey} {v : V} (r : Paired RelN es xs) (h : atN es k = some v) : ∃ p, atKey xs k = some p ∧ RelV v p.2 := by
  have := atN_rel (k := k) r
  rw [h] at this
  cases e : atKey xs k with
  | none => rw [e] at this; exact this.elim
  | some p => rw [e] at this; exact ⟨p, rfl, this⟩
theorem pe_dgetN (hr : Room k0 X.A) (ho : PE X o td) (hi : PE X i ty) (hs : NoSl i) : PE X (.Subscript o i pos) (tDGetN X.kw td ty) := by
  refine ⟨fun pins s σ H Q I h => ?_⟩
  refine subD_of PySem.F.slot_dict_getitem.lookup hs (thn (ho.run pins s σ H _ I h) fun u s1 ⟨x, H1, I1, rx, q1⟩ => thn (hi.run pins s1 σ H1 _ I1 q1) fun iv s2 ⟨y, H2, I2, ry, a, ob, es, b, k, v, ex, ey, hd, hk, hb, hv, q2⟩ => ?_)
  subst ex ey
  obtain rfl : u = Value.ref a := rx
  cases ry
  obtain ⟨hs', xs, rel, dd⟩ := frzN_dict I2 hd hk
  obtain ⟨p, hp, rp⟩ := atN_some rel hv
  exact ⟨dd.typeIs, wpAny_getItem_heap (knd := nestedKind X.prog X.w) (show X.A.units + 1 + 8 < cLine by have := hr.units; omega) (hb.is I2) dd hp ⟨v, H2, I2.tok _, rp, q2⟩⟩
def tDGet2N (K : KW) (td ty tx : TE) : TE := fun σ H Q => td σ H fun x H1 => (∃ (d : Addr) (ob : Obj) (es : List NE), x = .ref d ∧ H1 d = some (.frz ob (dN K d es))) ∧ ty σ H1 fun y H2 => tx σ H2 fun z H3 => ∃ (d : Addr) (ob : Obj) (es : List NE) (b : Addr) (k : NestedKey), x = .ref d ∧ y = .ref b ∧ H3 d = some (.frz ob (dN K d es)) ∧ (∀ e ∈ es, NkAt K H3 e.2.1 e.1) ∧ NkAt K H3 b k ∧ Q ((atN es k).getD z) H3
theorem pe_dget2N (hr : Room k0 X.A) (ho : PE X o td) (he : PE X e ty) (hf : PE X f tx) (m : M2 X o "get" apos e f cpos) : PE X (.Call (.Attribute o "get" apos) [e, f] [] cpos) (tDGet2N X.kw td ty tx) := by
  refine ⟨fun pins s σ H Q I h => ?_⟩
  refine wpAny_Call_method m.base m.few m.line PySem.F.plainAttrs_dict PySem.F.slot_dict_get PySem.F.type_dict_get (thn (ho.run pins s σ H _ I h) fun u s1 ⟨x, H1, I1, rx, ⟨d, ob, es, ex, hd⟩, q1⟩ => ?_)
  subst ex
  obtain rfl : u = Value.ref d := rx
  obtain ⟨hs', hgd, hx, _⟩ := frzN I1 hd
  refine ⟨⟨ob, hgd, hx.1⟩, fun a ea => by cases ea; exact ⟨ob, hgd, hx.2.1⟩, ?_⟩
  rw [m.trees]
  refine Calls.callWith_builtin rfl (Calls.evalArgs_plain (Calls.spliced_cons (thn (he.run pins s1 σ H1 _ I1 q1) fun iv s2 ⟨y, H2, I2, ry, q2⟩ =>
    Calls.spliced_cons (thn (hf.run pins s2 σ H2 _ I2 q2) fun fv s3 ⟨z, H3, I3, rz, d', ob', es', b, k, ex, ey, hd', hk, hb, q3⟩ => Calls.spliced_nil ?_))))
  cases ex
  subst ey
  cases ry
  obtain ⟨hs2, xs, rel, dd⟩ := frzN_dict I3 hd' hk
  refine getOr_keyed (knd := nestedKind X.prog X.w) (kvs := pairsH xs) (show X.A.units + 1 + 8 < cLine by have := hr.units; omega) (hb.is I3) hs2 ⟨xs, dd, rfl⟩ ?_
  rw [valueAt_pairsH]
  refine ⟨(atN es' k).getD z, H3, I3.tok _, ?_, q3⟩
  have := atN_rel (k := k) rel
  split at this
  · rename_i v p e1 e2
    rw [e1, e2]
    exact this
  · rename_i e1 e2
    rw [e1, e2]
    exact rz
  · exact this.elim
end
def lookD (kd : List (D × D)) (k : NestedKey) : Option D := (kd.find? fun p => decide (nkD p.1 = some k)).map (·.2)
theorem look_at {K : KW} {G : Hp} {k : NestedKey} : ∀ {es : List NE} {kd : List (D × D)}, RpD K G es kd → (match lookD kd k, atN es k with
    | some d, some v => Rp K G v d
    | none, none => True
    | _, _ => False)
  | _, _, .nil => by simp [lookD, atN]
  | (k', b, v) :: es, (d, dv) :: kd, .cons h1 h2 h3 h4 t => by
    have ih := look_at (k := k) t
    by_cases h : k' = k
    · subst h
      simp [lookD, atN, h2, h4]
    · unfold lookD atN at ih ⊢
      rw [List.find?_cons_of_neg (by simp [h2, h]), List.find?_cons_of_neg (by simpa using h)]
      exact ih
theorem look_some {K : KW} {G : Hp} {k : NestedKey} {es : List NE} {kd : List (D × D)} {d : D} (r : RpD K G es kd) (h : lookD kd k = some d) : ∃ v, atN es k = some v ∧ Rp K G v d := by
  have := look_at (k := k) r
  rw [h] at this
  cases e : atN es k with
  | none => rw [e] at this; exact this.elim
  | some v => rw [e] at this; exact ⟨v, rfl, this⟩
theorem look_none {K : KW} {G : Hp} {k : NestedKey} {es : List NE} {kd : List (D × D)} (r : RpD K G es kd) (h : lookD kd k = none) : atN es k = none := by
  have := look_at (k := k) r
  rw [h] at this
  cases e : atN es k with
  | none => rfl
  | some v => rw [e] at this; exact this.elim
section
variable {X : Cx} {E : XK} {a b c : Expr} {fa fb fc : EM} {pos apos : Pos} {k : Nat}
/-- d[k] -/
def gDGet : W → W → EM := fun wa wb s => match wa, wb with
  | .d (.dict kd), .d x => if ndOk kd then (match keyD x with
    | some k => (match lookD kd k with
      | some d => .ok (.d d, s)
      | none => .bad)
    | none => .bad) else .bad
  | _, _ => .bad
theorem pd_dgetN (hr : Room k X.A) (ha : PDE X E a fa) (hb : PDE X E b fb) (hs : NoSl b) : PDE X E (.Subscript a b pos) (eBin gDGet fa fb) := ⟨PE.imp (pe_dgetN hr ha.pe hb.pe hs) fun σ H Q h => by
  obtain ⟨F, G, as, s, R, h⟩ := h
  refine eT.seq R h fun G1 H1 w s1 v R1 X1 r1 _ h1 => ?_
  refine eT.seqP R1 r1 h1 fun G2 H2 w2 s2 v2 R2 X2 r1 r2 _ h2 => ?_
  dsimp only [gDGet] at h2
  split at h2
  case h_2 => exact h2.elim
  rename_i kd x
  split at h2
  case isFalse => exact h2.elim
  rename_i ok
  split at h2
  case h_2 => exact h2.elim
  rename_i kk ek
  split at h2
  case h_2 => exact h2.elim
  rename_i d ed
  obtain ⟨ad, o, es, rfl, h3, h4⟩ := nd_rp r1 ok
  obtain ⟨bb, rfl, h5⟩ := keyD_at r2 ek
  obtain ⟨vv, h6, h7⟩ := look_some h4 ed
  exact ⟨ad, o, es, bb, kk, vv, rfl, rfl, R2.same _ _ h3, fun e he => (rpd_keys h4 e he).mono R2.same, h5.mono R2.same, h6, eK.val R2 h2 h7⟩⟩
/-- d.get(k, x) -/
def eDGet2 (f g h : EM) : EM := fun s => (f s).bind fun p => match p.1 with
  | .d (.dict kd) => if ndOk kd then (g p.2).bind fun q => (match q.1 with
    | .d x => (match keyD x with
      | some k => (h q.2).bind fun t => (match lookD kd k with
        | some d => .ok (.d d, t.2)
        | none => .ok t)
      | none => .bad)
    | _ => .bad) else .bad
  | _ => .bad
theorem pd_dget2N (hr : Room k X.A) (ha : PDE X E a fa) (hb : PDE X E b fb) (hc : PDE X E c fc) (m : M2 X a "get" apos b c pos) : PDE X E (.Call (.Attribute a "get" apos) [b, c] [] pos) (eDGet2 fa fb fc) := ⟨PE.imp (pe_dget2N hr ha.pe hb.pe hc.pe m) fun σ H Q h => by
  obtain ⟨F, G, as, s, R, h⟩ := h
  refine eT.seq R h fun G1 H1 w s1 v R1 X1 r1 _ h1 => ?_
  dsimp only at h1
  split at h1
  case h_2 => exact h1.elim
  rename_i kd
  split at h1
  case isFalse => exact h1.elim
  rename_i ok
  obtain ⟨ad, o, es, rfl, h3, h4⟩ := nd_rp r1 ok
  refine ⟨⟨ad, o, es, rfl, R1.same _ _ h3⟩, ?_⟩
  refine eT.seqP R1 r1 h1 fun G2 H2 w2 s2 v2 R2 X2 r1 r2 _ h2 => ?_
  dsimp only at h2
  split at h2
  case h_2 => exact h2.elim
  rename_i x
  split at h2
  case h_2 => exact h2.elim
  rename_i kk ek
  refine ⟨F, G2, as, s2, R2, ?_⟩
  cases q : fc s2 with
  | exc c => rw [q] at h2; exact h2
  | bad => rw [q] at h2; exact h2
  | ok p =>
    obtain ⟨w3, s3⟩ := p
    rw [q, Res.bind_ok] at h2
    intro v3 G3 H3 R3 X3 r3 n3
    have sg : Same G1 G3 := X2.same.trans X3.same
    obtain ⟨bb, rfl, h5⟩ := keyD_at r2 ek
    have h6 := R3.same _ _ (sg _ _ h3)
    refine ⟨ad, o, es, bb, kk, rfl, rfl, h6, fun e he => (rpd_keys h4 e he).mono (sg.trans R3.same), h5.mono (X3.same.trans R3.same), ?_⟩
    split at h2
    · rename_i d ed
      obtain ⟨vv, h7, h8⟩ := look_some h4 ed
      rw [h7]
      exact eK.val R3 (eK.ext h2 R2 R3 X3) (Rp.mono sg h8)
    · rename_i ed
      rw [look_none h4 ed]
      exact h2 v3 G3 H3 R3 X3 r3 n3⟩
end
end
end PD

set_option Elab.async false
set_option linter.all false
set_option maxRecDepth 100000
set_option maxHeartbeats 4000000
namespace PD
noncomputable section
open PySem PySem.Spec PyProof.Rows L2
/-! ### sorted of a dict whose keys are texts -/
def rSortDK : List V → Hp → VK → Prop := fun vs H Q => ∃ (a : Addr) (kvs : List (Key × V)) (zs : List Str), vs = [.ref a] ∧ H a = some (.dK kvs) ∧ kvs.map (·.1) = zs.map Sum.inr ∧ ∀ (p : Addr) (ys : List Str), H p = none → ys.map PyData.str = sortD (zs.map PyData.str) → Q (.ref p) (upd H p (.lst (ys.map V.str)))
theorem strs_each {h : Heap} {a : Addr} : ∀ {zs : List Str} {us : List Value}, Vals (zs.map V.str) us → PySem.W.EachIs (fun u b => RelV (.str b) u) us zs ∧ PySem.W.EachIs (fun u b => ∃ as, Reads h u (PyData.str b) as ∧ a ∉ as) us zs
  | [], _, .nil => ⟨.nil, .nil⟩
  | z :: zs, _, .cons r t => by
    obtain ⟨h1, h2⟩ := strs_each (h := h) (a := a) t
    refine ⟨.cons r h1, .cons ?_ h2⟩
    obtain ⟨u, rfl⟩ := r
    exact ⟨_, .str _ _, by simp⟩
theorem each_strs : ∀ {zs : List Str} {us : List Value}, PySem.W.EachIs (fun u b => RelV (.str b) u) us zs → Vals (zs.map V.str) us
  | _, _, .nil => .nil
  | _, _, .cons h t => .cons h (each_strs t)
section
variable {X : Cx} {k : Nat}
theorem cr_sortDK (hc : X.calm = true) (hr : Room k X.A) : CallR X (.builtin "sorted") rSortDK := by
  intro pins s σ H vs us Q I r h
  obtain ⟨a, kvs, zs, rfl, ha, hz, q⟩ := h
  rw [Vals.ref1 r]
  obtain ⟨z, lo, ws, rel, dd⟩ := dk_of I.hok ha
  obtain ⟨ep, hat⟩ := dd.dictAt
  have ek : ws.map (fun p => kV p.1) = zs.map V.str := by
    have e := congrArg (List.map kV) rel.keys
    rw [hz, List.map_map, List.map_map] at e
    exact e.symm
  have lw : ws.length = zs.length := by
    have := congrArg List.length ek
    simpa using this
  have lz : zs.length ≤ sizeLine := by rw [← lw, ← rel.length]; exact z
  refine Calls.call_function_entry kind_sorted plain_sorted entry_sorted (args_sorted1 _) ?_
  unfold Builtin.«sorted»
  refine wpAny_bind (m := checkCount "sorted" 1 1 _) (wpAny_pure ?_)
  refine wpAny_bind (PySem.W.kdu_collect (A := X.A.in1) (PySem.W.kdl_dict (knd := mixKind X.prog X.w) (kvs := ws) (ep := ep) lo) (I.ok.hd hc) hat (by rw [lw]; exact lz) fun h' tk acc hk hacc => ?_)
  have hl : acc.toList.length = zs.length := by rw [Array.length_toList, hacc.1, lw]
  have hv : Vals (zs.map V.str) acc.toList := by
    rw [← ek]
    exact keys_at (by rw [Array.length_toList]; exact hacc.1) fun j v e => hacc.2 j v (by rw [← Array.getElem?_toList]; exact e)
  refine wpAny_bind (wpAny_newList ?_ (by rw [hl]; exact lz))
  generalize hh2 : h'.push { cls := .type "list", data := .seq acc.toList.toArray } = h2
  have hob : h2.get? h'.objs.size = some (seqObj "list" acc.toList.toArray 0) := by rw [← hh2]; exact Heap.get?_push_size _ rfl
  have kb : ∀ b o, h'.get? b = some o → h2.get? b = some o := fun b o e => by rw [← hh2]; exact Heap.get?_push_of_some _ e
  have I' : Inv X pins σ H { s with heap := h', toks := tk } := I.kept (t' := tk) hk
  obtain ⟨e1, e2⟩ := strs_each (h := h2) (a := h'.objs.size) hv
  refine wpAny_bind (wpAny_holding (PySem.W.list_sort_data (s := { s with heap := h2, toks := tk }) (vs := acc.toList) (enc := PyData.str) hob e1 e2 (PySem.W.AllAlike.of fun b b' => by simp [PySem.W.alike]) (PySem.W.Sortable.others fun b => ⟨nofun, fun _ => nofun⟩) lz (fun b _ => by
    have := hr.units
    show X.A.in1.units + 1 + (PyData.str b).depth < cLine
    simp only [PyData.depth, Around.in1_units]
    omega) fun out ho hE => ?_))
  have hE2 := each_strs hE
  obtain ⟨ef, hef⟩ := PyProof.Rows.sortedHeap_at (vs := acc.toList) (out := out.toArray) hob
  have hn : H h'.objs.size = none := I'.hok.fresh (Nat.le_refl _)
  refine wpAny_pure ⟨_, rfl, .ref h'.objs.size, upd H h'.objs.size (.lst ((zs.mergeSort (PySem.W.dataLe false PyData.str)).map V.str)), I'.laid (t' := tk) (fun b o e => ?_) (Nat.le_refl _) ⟨?_, out, ef, hE2, by simpa using hef⟩, rfl, q _ _ hn ?_⟩
  · exact (PyProof.Rows.sortedHeap_old (Nat.ne_of_lt (Heap.lt_size e)) (Heap.lt_size (kb b o e))).trans (kb b o e)
  · rw [List.length_map, (List.mergeSort_perm _ _).length_eq]
    exact lz
  · exact List.map_mergeSort (r := PySem.W.dataLe false PyData.str) (s := leD) fun a _ b _ => rfl
end

def distS (zs : List Str) : List Str := zs.foldl (fun acc z => if z ∈ acc then acc else acc ++ [z]) []
def keysS (zs : List Str) : List (Key × V) := zs.foldl (fun acc z => putK acc (.inr z) (.bl true)) []
theorem putS_fst {acc : List (Key × V)} {ds : List Str} {z : Str} (h : acc.map (·.1) = ds.map Sum.inr) : (putK acc (.inr z) (.bl true)).map (·.1) = (if z ∈ ds then ds else ds ++ [z]).map Sum.inr := by
  have e : (acc.any fun kv => decide (kv.1 = Sum.inr z)) = decide (z ∈ ds) := by
    rw [Bool.eq_iff_iff, List.any_eq_true, decide_eq_true_iff]
    constructor
    · rintro ⟨p, hp, e⟩
      have : p.1 ∈ acc.map (·.1) := List.mem_map.mpr ⟨p, hp, rfl⟩
      rw [h, of_decide_eq_true e] at this
      obtain ⟨y, hy, e2⟩ := List.mem_map.mp this
      cases e2
      exact hy
    · intro hz
      have : (Sum.inr z : Key) ∈ acc.map (·.1) := by rw [h]; exact List.mem_map.mpr ⟨z, hz, rfl⟩
      obtain ⟨p, hp, e2⟩ := List.mem_map.mp this
      exact ⟨p, hp, by simpa using e2⟩
  unfold putK
  rw [e]
  by_cases hz : z ∈ ds
  · rw [if_pos (by simpa using hz), if_pos hz, List.map_map, ← h]
    refine List.map_congr_left fun p _ => ?_
    simp only [Function.comp]
    split
    · rename_i q; first | exact q.symm | rfl
    · rfl
  · rw [if_neg (by simpa using hz), if_neg hz, List.map_append, h, List.map_append]
    rfl
theorem keysS_fst : ∀ (zs : List Str) (acc : List (Key × V)) (ds : List Str), acc.map (·.1) = ds.map Sum.inr → (zs.foldl (fun acc z => putK acc (.inr z) (.bl true)) acc).map (·.1) = (zs.foldl (fun acc z => if z ∈ acc then acc else acc ++ [z]) ds).map Sum.inr
  | [], _, _, h => h
  | z :: zs, _, _, h => keysS_fst zs _ _ (putS_fst h)
theorem keysS_len : ∀ (zs : List Str) (acc : List (Key × V)), (zs.foldl (fun acc z => putK acc (.inr z) (.bl true)) acc).length ≤ acc.length + zs.length
  | [], acc => Nat.le_refl _
  | z :: r, acc => by
    refine Nat.le_trans (keysS_len r _) ?_
    have := length_putK acc (.inr z) (.bl true)
    rw [List.length_cons]
    dsimp only
    omega
/-- the first items of the keys -/
def namesD : List (D × D) → Option (List Str)
  | [] => some []
  | p :: r => (match p.1 with
    | .tuple (.str z :: _) => (namesD r).map (z :: ·)
    | _ => none)
theorem names_at {K : KW} {G : Hp} : ∀ {es : List NE} {kd : List (D × D)} {zs : List Str} {i : Nat} {e : NE}, RpD K G es kd → namesD kd = some zs → es[i]? = some e → ∃ z vs, zs[i]? = some z ∧ SqT K G e.2.1 (.str z :: vs)
  | _, _, _, _, _, .nil, _, h => by simp at h
  | _, _, zs, i, e, .cons (d := d) h1 h2 h3 h4 t, hn, h => by
    unfold namesD at hn
    split at hn
    · rename_i z rest ed
      obtain ⟨zs', e1, rfl⟩ := Option.map_eq_some_iff.mp hn
      cases i with
      | zero =>
        simp at h
        subst h
        have ed : d = .tuple (.str z :: rest) := ed
        subst ed
        cases h1 with
        | tup k1 k2 =>
          cases k2 with
          | cons k3 k4 =>
            cases k3
            exact ⟨z, _, rfl, k1⟩
      | succ i =>
        obtain ⟨z', vs, e2, e3⟩ := names_at t e1 (i := i) (by simpa using h)
        exact ⟨z', vs, by simpa using e2, e3⟩
    · cases hn
theorem names_len : ∀ {kd : List (D × D)} {zs : List Str}, namesD kd = some zs → zs.length = kd.length
  | [], _, e => by cases e; rfl
  | p :: r, _, e => by
    unfold namesD at e
    split at e
    · obtain ⟨zs', e1, rfl⟩ := Option.map_eq_some_iff.mp e
      simp [names_len e1]
    · cases e
section
variable {X : Cx} {E : XK} {e : Expr} {fe : EM} {pos : Pos} {k : Nat}
def eSortNames (i : Nat) (f : EM) : EM := fun s => (f s).bind fun p => match p.1 with
  | .d (.dict kd) => if ndOk kd ∧ i < p.2.env.length then (match namesD kd with
    | some zs => if zs.length < sizeLine then .ok (.f (sortD ((distS zs).map PyData.str)), p.2) else .bad
    | none => .bad) else .bad
  | _ => .bad
theorem rpa_strs {K : KW} {G : Hp} : ∀ ys : List Str, RpA K G (ys.map V.str) (ys.map PyData.str)
  | [] => .nil
  | y :: ys => .cons (.str y) (rpa_strs ys)
theorem pd_sortNames (i : Nat) {x : Str} {p p2 p3 p4 p5 p6 p7 : Pos} {j j2 : Nat} {scope : Scope} (hm : X.mg "sorted" = none) (hr : Room k X.A) (hcalm : X.calm = true) (hN : X.N.Nodup) (ha : PDE X E e fe) (ok : BlkOk X.N X.env.scope scope [(x, i)])
    (hg1 : ∀ (s : Shared) (H : Hp) (C : Addr) (cl : List (Str × Addr)) (fp : List Addr), PG (X.blk s H scope (compEnvC scope cl C X.env) fp) (.Name x p4) (gName i))
    (hk1 : ∀ (s : Shared) (H : Hp) (C : Addr) (cl : List (Str × Addr)) (fp : List Addr), PE (X.blk s H scope (compEnvC scope cl C X.env) fp) (.Name x p2) (tVar i))
    (hg : Gl X "sorted" := by rfl) (hs : ∀ y, foldedSetIterable e X.env y = pure y := by intro _; rfl)
    (he : starEach [.DictComp (.Subscript (.Name x p2) (.Constant (.int 0) j2 p6) p7) (.Constant (.bool true) j p3) [⟨.Name x p4, e, [], 0⟩] scope p5] X.env = (false, eval (.DictComp (.Subscript (.Name x p2) (.Constant (.int 0) j2 p6) p7) (.Constant (.bool true) j p3) [⟨.Name x p4, e, [], 0⟩] scope p5) X.env) :: starEach [] X.env := by rfl) :
    PDE X E (.Call (.Name "sorted" p) [.DictComp (.Subscript (.Name x p2) (.Constant (.int 0) j2 p6) p7) (.Constant (.bool true) j p3) [⟨.Name x p4, e, [], 0⟩] scope p5] [] pos) (eSortNames i fe) := by
  have hb : PE X (.DictComp (.Subscript (.Name x p2) (.Constant (.int 0) j2 p6) p7) (.Constant (.bool true) j p3) [⟨.Name x p4, e, [], 0⟩] scope p5) _ :=
    pe_dc hcalm hN (pi_keysN ha.pe) ok (g := gName i) (tt := tYes) (tk := tOp (rIx X.K) (tVar i) (tC (.int 0))) (tv := tC (.bl true)) hg1 (fun s H C cl fp => pts_nil) (fun s H C cl fp => pe_ix ix_seq (hk1 s H C cl fp) pe_int (fun _ _ => rfl)) (fun s H C cl fp => pe_bl) hs
  refine ⟨PE.imp (pe_callB (cr_sortDK hcalm hr) hg hm (by decide +kernel) (pa_cons hb pa_nil he) (by decide) (by decide) he) fun σ H Q h => ?_⟩
  obtain ⟨F, G, as, s, R, h⟩ := h
  refine eT.seq R h fun G1 H1 w s1 v R1 X1 r1 n1 h1 => ?_
  dsimp only at h1
  split at h1
  case h_2 => exact h1.elim
  rename_i kd
  split at h1
  case isFalse => exact h1.elim
  rename_i okk
  split at h1
  case h_2 => exact h1.elim
  rename_i zs ez
  split at h1
  case isFalse => exact h1.elim
  rename_i hz
  obtain ⟨a, o, es, rfl, h3, h4⟩ := nd_rp r1 okk.1
  refine ⟨a, o, es, rfl, R1.same _ _ h3, fun D hD => ?_⟩
  have nl := names_len ez
  have dl := rpd_len h4
  refine ⟨fun i' m Hh => m = es.length - i' ∧ i' ≤ es.length ∧ Hh = upd H1 D (.dK (keysS (zs.take i'))), ⟨es.length, by simp, Nat.zero_le _, rfl⟩, ?_⟩
  rintro i' m Hh ⟨rfl, hi, rfl⟩
  have hd : (upd H1 D (.dK (keysS (zs.take i')))) a = some (.frz o (dN X.kw a es)) := by
    have := R1.same _ _ h3
    rw [upd_ne (ne_of_none this hD)]
    exact this
  by_cases hlt : i' < es.length
  · refine .inr ⟨⟨hd, hlt⟩, fun Hh => Hh = upd H1 D (.dK (keysS (zs.take (i' + 1)))), fun H' e => ⟨es.length - (i' + 1), by omega, rfl, hlt, e⟩, fun xv H' hy => ?_⟩
    obtain ⟨rfl, e0, he0, rfl⟩ := hy
    obtain ⟨z, vs, h5, h6⟩ := names_at h4 ez he0
    have hj : i' < zs.length := by omega
    refine ⟨?_, .ref e0.2.1, ?_, .inr (.inl ⟨e0.2.1, .str z :: vs, 0, .str z, rfl, rfl, ?_, by simp [atI, ixN], ?_⟩)⟩
    · show ((σ.set i none).set i (some (V.ref e0.2.1))).set i none = σ.set i none
      rw [List.set_set, List.set_set]
    · show ((σ.set i none).set i (some (V.ref e0.2.1)))[i]? = some (some (V.ref e0.2.1))
      rw [List.set_set, List.getElem?_set_self (by rw [R1.len]; exact okk.2)]
    · exact seqT (K := X.kw) (R1.same.trans (same_upd hD)) h6
    · refine ⟨keysS (zs.take i'), .inr z, rfl, upd_same, ?_, ?_⟩
      · have := keysS_len (zs.take i') []
        rw [List.length_take] at this
        show (keysS (zs.take i')).length < sizeLine
        unfold keysS
        simp only [List.length_nil] at this
        omega
      · show upd (upd H1 D _) D _ = _
        rw [PD.upd_upd]
        congr 2
        unfold keysS
        rw [List.take_add_one, h5, List.foldl_append]
        rfl
  · have : i' = es.length := by omega
    subst this
    refine .inl ⟨⟨hd, Nat.le_refl _⟩, ?_⟩
    rw [show zs.take es.length = zs by rw [dl, ← nl]; exact List.take_length]
    refine ⟨D, keysS zs, distS zs, rfl, upd_same, keysS_fst zs [] [] rfl, fun p ys hp ey => ?_⟩
    rw [← ey] at h1
    exact eK.newL (R1.new hD _) (eK.ext h1 R1 (R1.new hD _) (Ext.alloc hD)) (rpa_strs ys) hp
end
end
end PD

set_option Elab.async false
set_option linter.all false
set_option maxRecDepth 100000
set_option maxHeartbeats 4000000
namespace PD
noncomputable section
open PySem PySem.Spec PyProof.Rows L2
/-! ### a dict with nested keys that grows: found.setdefault(k, []).append(i) -/
section
variable {X : Cx} {o e f : Expr} {td ty tx : TE} {pos apos cpos : Pos} {k0 : Nat}
theorem pe_dnewN : PE X (.Dict [] [] pos) (fun _ H Q => ∀ p, H p = none → Q (.ref p) (upd H p (dN X.kw p []))) := ⟨fun pins s σ H Q I h =>
  wpAny_Dict_empty ⟨.ref s.heap.objs.size, _, I.laid (a := s.heap.objs.size) (o := dN X.kw s.heap.objs.size []) (t' := s.toks) (fun _ _ q => Heap.get?_push_of_some _ q) (Nat.le_refl _) (dN_empty s.heap I.big), rfl, h _ (I.hok.fresh (Nat.le_refl _))⟩⟩
def tSetD (K : KW) (td ty tx : TE) : TE := fun σ H Q => td σ H fun x H1 => (∃ (d : Addr) (es : List NE), x = .ref d ∧ H1 d = some (dN K d es)) ∧ ty σ H1 fun y H2 => tx σ H2 fun z H3 => ∃ (d : Addr) (es : List NE) (b : Addr) (k : NestedKey), x = .ref d ∧ y = .ref b ∧ H3 d = some (dN K d es) ∧ es.length < sizeLine ∧ (∀ e ∈ es, NkAt K H3 e.2.1 e.1) ∧ NkAt K H3 b k ∧
  (∀ v, atN es k = some v → Q v H3) ∧ (atN es k = none → Q z (upd H3 d (dN K d (putN es k b z))))
theorem pe_setD (hr : Room k0 X.A) (ho : PE X o td) (he : PE X e ty) (hf : PE X f tx) (m : M2 X o "setdefault" apos e f cpos) : PE X (.Call (.Attribute o "setdefault" apos) [e, f] [] cpos) (tSetD X.kw td ty tx) := by
  refine ⟨fun pins s σ H Q I h => ?_⟩
  refine wpAny_Call_method m.base m.few m.line PySem.F.plainAttrs_dict PySem.F.slot_dict_setdefault PySem.F.type_dict_setdefault (thn (ho.run pins s σ H _ I h) fun u s1 ⟨x, H1, I1, rx, ⟨d, es, ex, hd⟩, q1⟩ => ?_)
  subst ex
  obtain rfl : u = Value.ref d := rx
  obtain ⟨⟨_, _, _, _, ob, _, _, hgd, hx, _⟩, _⟩ := (show ObjOk X.prog X.w H1 s1.heap d (dN X.kw d es) from I1.hok d _ hd)
  refine ⟨⟨ob, hgd, hx.1⟩, fun a ea => by cases ea; exact ⟨ob, hgd, hx.2.1⟩, ?_⟩
  rw [m.trees]
  refine Calls.callWith_builtin rfl (Calls.evalArgs_plain (Calls.spliced_cons (thn (he.run pins s1 σ H1 _ I1 q1) fun iv s2 ⟨y, H2, I2, ry, q2⟩ =>
    Calls.spliced_cons (thn (hf.run pins s2 σ H2 _ I2 q2) fun fv s3 ⟨z, H3, I3, rz, d', es', b, k, ex, ey, hd', hz, hk, hb, q3, q4⟩ => Calls.spliced_nil ?_))))
  cases ex
  subst ey
  cases ry
  obtain ⟨zz, hs2, xs, rel, dd⟩ := dn_of I3 hd' hk
  have hl : xs.length = es'.length := (Paired.length rel).symm
  refine call_setdefault_heap (knd := nestedKind X.prog X.w) (hsz := by rw [hl]; exact zz) (show X.A.units + 1 + 8 < cLine by have := hr.units; omega) (hb.is I3) hs2 dd (fun p hp => ?_) fun hn h' dd' hs => ?_
  · have := atN_rel (k := k) rel
    rw [hp] at this
    cases ev : atN es' k with
    | none => rw [ev] at this; exact this.elim
    | some v => rw [ev] at this; exact ⟨v, H3, I3.tok _, this, q3 v ev⟩
  · have ev : atN es' k = none := (atN_none rel).mp hn
    have he' : ∃ q, h'.get? d = some q := let ⟨q, _, _, hq, _⟩ := dd'; ⟨q, hq⟩
    refine ⟨z, _, d_write I3 (by rw [hd']; exact True.intro) hs he' (dN_ok (by have := putN_len es' k b z; omega) hs2 (put_rel rz rel) dd'), rz, q4 ev⟩
/-- what comes is written no more -/
theorem pe_freeze {t : TE} (h : PE X e t) : PE X e (fun σ H Q => t σ H fun v H1 => ∃ d u, v = .ref d ∧ H1 d = some u ∧ Mut (some u) ∧ ∀ od, Q v (upd H1 d (.frz od u))) := by
  refine ⟨fun pins s σ H Q I hw => ?_⟩
  refine thn (h.run pins s σ _ _ I hw) fun v s1 ⟨x, H1, I1, r, d, u, ex, hd, mu, q⟩ => ?_
  obtain ⟨od, I2⟩ := I1.lock hd mu
  exact ⟨x, _, I2, r, q od⟩
end
section
variable {K : KW} {F : Addr → Prop} {G H : Hp} {as : List Addr} {s : S} {σ : L2.St}
/-- what others own is written -/
theorem Rep.hold {p : Addr} {o : HO} (R : Rep K F G H as σ s) (fp : F p) : Rep K F G (upd H p o) as σ s := by
  obtain ⟨g, na, _⟩ := R.fo p fp
  refine ⟨fun b u e => ?_, R.len, R.alen, R.nd, fun a h => ?_, fun a h => ?_, fun n c e => ?_, fun i w e => ?_⟩
  · have : b ≠ p := fun z => by rw [z, g] at e; cases e
    rw [upd_ne this]; exact R.same b u e
  · have : a ≠ p := fun z => na (z ▸ h)
    rw [upd_ne this]; exact R.dom a h
  · obtain ⟨k1, k2, k3⟩ := R.fo a h
    refine ⟨k1, k2, ?_⟩
    by_cases q : a = p
    · exact ⟨o, by rw [q, upd_same]⟩
    · rw [upd_ne q]; exact k3
  · obtain ⟨a, k1, k2, k3⟩ := R.cell n c e
    have : a ≠ p := fun z => na (z ▸ List.mem_of_getElem? k1)
    exact ⟨a, k1, k2, k3.mono (Same.refl _) fun o z => by rw [upd_ne this]; exact z⟩
  · obtain ⟨v, k1, k2, k3⟩ := R.env i w e
    refine ⟨v, k1, ?_, k3⟩
    cases w with
    | d x => exact k2
    | c n => exact k2
    | f ys => exact absurd rfl (k3 ys)
/-- one more that others own -/
theorem Rep.own {p : Addr} {o : HO} (R : Rep K F G H as σ s) (hp : H p = none) : Rep K (fun a => F a ∨ a = p) G (upd H p o) as σ s := by
  obtain ⟨g, na, nf⟩ := R.fresh hp
  have R2 := R.new hp o
  refine ⟨R2.same, R2.len, R2.alen, R2.nd, R2.dom, fun a ha => ?_, R2.cell, fun i w hw => ?_⟩
  · rcases ha with ha | rfl
    · exact R2.fo a ha
    · exact ⟨g, na, _, upd_same⟩
  · obtain ⟨v, k1, k2, k3⟩ := R2.env i w hw
    exact ⟨v, k1, k2.noF k3, k3⟩
end
/-- the groups: each key with its list -/
abbrev GD := List (D × List D)
def addG (kd : GD) (k : NestedKey) (x i : D) : GD := if kd.any (fun p => decide (nkD p.1 = some k)) then kd.map fun p => if nkD p.1 = some k then (p.1, p.2 ++ [i]) else p else kd ++ [(x, [i])]
/-- how they stand: the lists' addresses -/
inductive GAt (K : KW) (G H : Hp) : List NE → GD → List Addr → Prop
  | nil : GAt K G H [] [] []
  | cons {k : NestedKey} {b l : Addr} {vs : List V} {es : List NE} {x : D} {xs : List D} {kd : GD} {ls : List Addr} : Rp K G (.ref b) x → nkD x = some k → k.depth ≤ 8 → H l = some (.lst vs) → RpA K G vs xs → GAt K G H es kd ls → GAt K G H ((k, b, .ref l) :: es) ((x, xs) :: kd) (l :: ls)
theorem GAt.mono {K : KW} {G G' H H' : Hp} {es : List NE} {kd : GD} {ls : List Addr} (h : GAt K G H es kd ls) (sg : Same G G') (k : ∀ l ∈ ls, ∀ o, H l = some o → H' l = some o) : GAt K G' H' es kd ls := by
  induction h with
  | nil => exact .nil
  | cons h1 h2 h3 h4 h5 _ ih => exact .cons (Rp.mono sg h1) h2 h3 (k _ List.mem_cons_self _ h4) (h5.mono sg) (ih fun l hl => k l (List.mem_cons_of_mem _ hl))
theorem GAt.keys {K : KW} {G H : Hp} {es : List NE} {kd : GD} {ls : List Addr} (h : GAt K G H es kd ls) : ∀ e ∈ es, NkAt K G e.2.1 e.1 := by
  induction h with
  | nil => exact fun e h => nomatch h
  | cons h1 h2 h3 _ _ _ ih =>
    intro e he
    rcases List.mem_cons.mp he with rfl | he
    · exact ⟨_, h1, h2, h3⟩
    · exact ih e he
theorem GAt.len {K : KW} {G H : Hp} {es : List NE} {kd : GD} {ls : List Addr} (h : GAt K G H es kd ls) : es.length = kd.length := by
  induction h with
  | nil => rfl
  | cons _ _ _ _ _ _ ih => simp [ih]
theorem GAt.any {K : KW} {G H : Hp} {es : List NE} {kd : GD} {ls : List Addr} {k : NestedKey} (h : GAt K G H es kd ls) : (kd.any fun p => decide (nkD p.1 = some k)) = (atN es k).isSome := by
  induction h with
  | nil => rfl
  | @cons k' b l vs es x xs kd ls h1 h2 h3 h4 h5 _ ih =>
    by_cases e : k' = k
    · subst e
      simp [atN, h2]
    · rw [List.any_cons, ih]
      unfold atN
      rw [List.find?_cons_of_neg (by simpa using e)]
      simp [h2, e]
end
end PD

set_option Elab.async false
set_option linter.all false
set_option maxRecDepth 100000
set_option maxHeartbeats 4000000
namespace PD
noncomputable section
open PySem PySem.Spec PyProof.Rows L2
theorem atN_mem' {es : List NE} {k : NestedKey} {v : V} (h : atN es k = some v) : ∃ e ∈ es, e.1 = k ∧ e.2.2 = v := by
  unfold atN at h
  obtain ⟨e, he, rfl⟩ := Option.map_eq_some_iff.mp h
  exact ⟨e, List.mem_of_find?_eq_some he, by simpa using List.find?_some he, rfl⟩
theorem GAt.lsOf {K : KW} {G H : Hp} {es : List NE} {kd : GD} {ls : List Addr} (h : GAt K G H es kd ls) : ∀ l ∈ ls, ∃ vs, H l = some (.lst vs) := by
  induction h with
  | nil => intro l hl; cases hl
  | cons h1 h2 h3 h4 h5 _ ih =>
    intro l hl
    rcases List.mem_cons.mp hl with rfl | hl
    · exact ⟨_, h4⟩
    · exact ih l hl
theorem GAt.none {K : KW} {G H : Hp} {es : List NE} {kd : GD} {ls : List Addr} (h : GAt K G H es kd ls) {k : NestedKey} (hk : k ∉ es.map (·.1)) (i : D) : (kd.map fun p => if nkD p.1 = some k then (p.1, p.2 ++ [i]) else p) = kd := by
  induction h with
  | nil => rfl
  | cons h1 h2 h3 h4 h5 _ ih =>
    rw [List.map_cons, List.mem_cons, not_or] at hk
    rw [List.map_cons, ih hk.2, h2, if_neg fun e => hk.1 (Option.some.inj e).symm]
/-- the key is there: its list grows -/
theorem GAt.app {K : KW} {G H : Hp} {es : List NE} {kd : GD} {ls : List Addr} (h : GAt K G H es kd ls) {k : NestedKey} {v iv : V} {i : D} (hv : atN es k = some v) (nk : (es.map (·.1)).Nodup) (nl : ls.Nodup) (ri : Rp K G iv i) :
    ∃ l vs, v = .ref l ∧ l ∈ ls ∧ H l = some (.lst vs) ∧ (∃ p ∈ kd, p.2.length = vs.length) ∧ GAt K G (upd H l (.lst (vs ++ [iv]))) es (kd.map fun p => if nkD p.1 = some k then (p.1, p.2 ++ [i]) else p) ls := by
  induction h with
  | nil => simp [atN] at hv
  | @cons k' b l vs es x xs kd ls h1 h2 h3 h4 h5 t ih =>
    rw [List.map_cons, List.nodup_cons] at nk
    rw [List.nodup_cons] at nl
    by_cases e : k' = k
    · subst e
      simp [atN] at hv
      subst hv
      refine ⟨l, vs, rfl, List.mem_cons_self, h4, ⟨_, List.mem_cons_self, h5.length.symm⟩, ?_⟩
      rw [List.map_cons, h2, if_pos rfl, t.none nk.1]
      refine .cons h1 h2 h3 upd_same (h5.append (.cons ri .nil)) (t.mono (Same.refl _) fun l' hl o z => ?_)
      rw [upd_ne (fun (q : l' = l) => nl.1 (q ▸ hl))]
      exact z
    · have hv' : atN es k = some v := by
        unfold atN at hv ⊢
        rw [List.find?_cons_of_neg (by simpa using e)] at hv
        exact hv
      obtain ⟨l', vs', rfl, m, hl', ⟨q, hq, hql⟩, g⟩ := ih hv' nk.2 nl.2
      refine ⟨l', vs', rfl, List.mem_cons_of_mem _ m, hl', ⟨q, List.mem_cons_of_mem _ hq, hql⟩, ?_⟩
      rw [List.map_cons, h2, if_neg fun z => e (Option.some.inj z)]
      refine .cons h1 h2 h3 ?_ h5 g
      rw [upd_ne (fun (q : l = l') => nl.1 (q ▸ m))]
      exact h4
/-- a new key -/
theorem GAt.snoc {K : KW} {G H : Hp} {es : List NE} {kd : GD} {ls : List Addr} (h : GAt K G H es kd ls) {k : NestedKey} {b p : Addr} {vs : List V} {x : D} {xs : List D} (h1 : Rp K G (.ref b) x) (h2 : nkD x = some k) (h3 : k.depth ≤ 8) (h4 : H p = some (.lst vs)) (h5 : RpA K G vs xs) :
    GAt K G H (es ++ [(k, b, .ref p)]) (kd ++ [(x, xs)]) (ls ++ [p]) := by
  induction h with
  | nil => exact .cons h1 h2 h3 h4 h5 .nil
  | cons k1 k2 k3 k4 k5 _ ih => exact .cons k1 k2 k3 k4 k5 ih
/-- what is owned while the groups are made -/
def ownG (F : Addr → Prop) (D : Addr) (ls : List Addr) : Addr → Prop := fun a => F a ∨ a = D ∨ a ∈ ls
/-- the state amid the making -/
structure GInv (K : KW) (F : Addr → Prop) (G H : Hp) (as : List Addr) (σ : L2.St) (s : S) (fi : Nat) (D : Addr) (es : List NE) (kd : GD) (ls : List Addr) : Prop where
  R : Rep K (ownG F D ls) G H as σ s
  eD : H D = some (dN K D es)
  ga : GAt K G H es kd ls
  nl : ls.Nodup
  nk : (es.map (·.1)).Nodup
  ef : σ[fi]? = some (some (.ref D))
  nfD : ¬ F D
  nfl : ∀ l ∈ ls, ¬ F l
theorem keyD_nk {x : D} {k : NestedKey} (h : keyD x = some k) : nkD x = some k ∧ k.depth ≤ 8 := by
  unfold keyD at h
  split at h
  · split at h
    · rename_i e
      split at h
      · rename_i hz
        cases h
        exact ⟨e, hz⟩
      · cases h
    · cases h
  · cases h
def gFits (kd : GD) : Bool := decide (kd.length < sizeLine) && kd.all fun p => decide (p.2.length < sizeLine)
section
variable {K : KW} {F : Addr → Prop} {G H : Hp} {as : List Addr} {σ : L2.St} {s : S} {fi yi : Nat} {D : Addr} {es : List NE} {kd : GD} {ls : List Addr}
theorem ls_ne (I : GInv K F G H as σ s fi D es kd ls) : D ∉ ls := fun h => by
  obtain ⟨vs, e⟩ := I.ga.lsOf D h
  rw [I.eD] at e
  cases e
/-- found.setdefault(key, []).append(index), the key made at b -/
theorem gstep (I : GInv K F G H as σ s fi D es kd ls) {b : Addr} {x : PyData} {k : NestedKey} {i : Int} {Q : VK} (rx : Rp K G (.ref b) x) (hx : keyD x = some k) (hz : gFits kd = true) (ey : σ[yi]? = some (some (.int i)))
    (h : ∀ H' es' ls', GInv K F G H' as σ s fi D es' (addG kd k x (.int i)) ls' → (∀ l, l ∈ ls' → l ∈ ls ∨ H l = none) → (∀ a o, H a = some o → a ≠ D → a ∉ ls → H' a = some o) → Q .non H') :
    ∀ p, H p = none → ∃ (d : Addr) (es0 : List NE) (b0 : Addr) (k0 : NestedKey), V.ref D = .ref d ∧ V.ref b = .ref b0 ∧ (upd H p (.lst [])) d = some (dN K d es0) ∧ es0.length < sizeLine ∧ (∀ e ∈ es0, NkAt K (upd H p (.lst [])) e.2.1 e.1) ∧ NkAt K (upd H p (.lst [])) b0 k0 ∧
      (∀ v, atN es0 k0 = some v → tyV K.K "list" v (upd H p (.lst [])) ∧ tCons (tVar yi) tNil σ (upd H p (.lst [])) fun xs H2 => rAppend v xs H2 Q) ∧
      (atN es0 k0 = none → tyV K.K "list" (.ref p) (upd (upd H p (.lst [])) d (dN K d (putN es0 k0 b0 (.ref p)))) ∧ tCons (tVar yi) tNil σ (upd (upd H p (.lst [])) d (dN K d (putN es0 k0 b0 (.ref p)))) fun xs H2 => rAppend (.ref p) xs H2 Q) := fun p hp => by
  obtain ⟨n1, n2⟩ := keyD_nk hx
  obtain ⟨z1, z2⟩ := Bool.and_eq_true_iff.mp hz
  have z1 := of_decide_eq_true z1
  have dp : D ≠ p := ne_of_none I.eD hp
  have eD' : (upd H p (.lst [])) D = some (dN K D es) := by rw [upd_ne dp]; exact I.eD
  have sp : Same H (upd H p (.lst [])) := same_upd hp
  have sg : Same G (upd H p (.lst [])) := I.R.same.trans sp
  have R3 := I.R.own (o := .lst []) hp
  have lp : ∀ l ∈ ls, l ≠ p := fun l hl e => by
    obtain ⟨vs, z⟩ := I.ga.lsOf l hl
    rw [e, hp] at z; cases z
  have ga3 : GAt K G (upd H p (.lst [])) es kd ls := I.ga.mono (Same.refl _) fun l hl o z => by rw [upd_ne (lp l hl)]; exact z
  refine ⟨D, es, b, k, rfl, rfl, eD', by rw [I.ga.len]; exact z1, fun e he => (I.ga.keys e he).mono sg, ⟨x, Rp.mono sg rx, n1, n2⟩, fun v hv => ?_, fun hn => ?_⟩
  · obtain ⟨l, vs, rfl, hl, hH, ⟨q, hq, hql⟩, g⟩ := ga3.app hv I.nk I.nl (.int i)
    have hlen : vs.length < sizeLine := by
      rw [← hql]
      exact of_decide_eq_true (List.all_eq_true.mp z2 q hq)
    refine ⟨.inl ⟨rfl, vs, SqL.of hH⟩, .int i, ey, l, vs, .int i, rfl, rfl, hH, hlen, ?_⟩
    have ld : D ≠ l := fun e => ls_ne I (e ▸ hl)
    have ea : addG kd k x (.int i) = kd.map fun p => if nkD p.1 = some k then (p.1, p.2 ++ [.int i]) else p := by
      unfold addG
      rw [I.ga.any, hv]
      rfl
    refine h _ es ls ⟨((R3.hold (p := l) (o := .lst (vs ++ [.int i])) (.inl (.inr (.inr hl)))).weak fun a ha => .inl ha), by rw [upd_ne ld]; exact eD', by rw [ea]; exact g, I.nl, I.nk, I.ef, I.nfD, I.nfl⟩ (fun l' hl' => .inl hl') fun a o ha nd na => ?_
    rw [upd_ne (fun (q : a = l) => na (q ▸ hl)), upd_ne (ne_of_none ha hp)]
    exact ha
  · have ep : putN es k b (.ref p) = es ++ [(k, b, .ref p)] := by
      unfold putN
      rw [hn]
      rfl
    rw [ep]
    have hpl : (upd (upd H p (.lst [])) D (dN K D (es ++ [(k, b, .ref p)]))) p = some (.lst []) := by rw [upd_ne (Ne.symm dp), upd_same]
    refine ⟨.inl ⟨rfl, [], SqL.of hpl⟩, .int i, ey, p, [], .int i, rfl, rfl, hpl, by rw [sizeLine_eq]; decide, ?_⟩
    have ea : addG kd k x (.int i) = kd ++ [(x, [.int i])] := by
      unfold addG
      rw [I.ga.any, hn]
      rfl
    have R5 := (R3.hold (p := D) (o := dN K D (es ++ [(k, b, .ref p)])) (.inl (.inr (.inl rfl)))).hold (p := p) (o := .lst ([] ++ [.int i])) (.inr rfl)
    have pls : p ∉ ls := fun z => lp p z rfl
    refine h _ (es ++ [(k, b, .ref p)]) (ls ++ [p]) ⟨R5.weak fun a ha => ?_, by rw [upd_ne dp, upd_same], ?_, ?_, ?_, I.ef, I.nfD, fun l' hl' => ?_⟩ (fun l' hl' => ?_) fun a o ha nd na => ?_
    · rcases ha with ha | ha | ha
      · exact .inl (.inl ha)
      · exact .inl (.inr (.inl ha))
      · rcases List.mem_append.mp ha with ha | ha
        · exact .inl (.inr (.inr ha))
        · exact .inr (List.mem_singleton.mp ha)
    · rw [ea]
      refine GAt.snoc (I.ga.mono (Same.refl _) fun l hl o z => ?_) rx n1 n2 upd_same (.cons (.int i) .nil)
      rw [upd_ne (lp l hl), upd_ne (fun (q : l = D) => ls_ne I (q ▸ hl)), upd_ne (lp l hl)]
      exact z
    · rw [List.nodup_append]
      exact ⟨I.nl, by simp, fun a ha b hb => by rw [List.mem_singleton.mp hb]; exact lp a ha⟩
    · rw [List.map_append, List.nodup_append]
      refine ⟨I.nk, by simp, fun a ha b hb e => ?_⟩
      have : (atN es k).isSome = true := by
        rw [atN_mem]
        have hb : b = k := by simpa using hb
        rw [← hb, ← e]
        exact decide_eq_true ha
      rw [hn] at this
      cases this
    · rcases List.mem_append.mp hl' with z | z
      · exact I.nfl l' z
      · rw [List.mem_singleton.mp z]
        exact fun hf => (I.R.fresh hp).2.2 (.inl hf)
    · rcases List.mem_append.mp hl' with z | z
      · exact .inl z
      · exact .inr (by rw [List.mem_singleton.mp z]; exact hp)
    · rw [upd_ne (ne_of_none ha hp), upd_ne nd, upd_ne (ne_of_none ha hp)]
      exact ha
end
end
end PD

set_option Elab.async false
set_option linter.all false
set_option maxRecDepth 100000
set_option maxHeartbeats 4000000
namespace PD
noncomputable section
open PySem PySem.Spec PyProof.Rows L2
def grpGo (tgt : GM) (ft : TM) (fk : EM) (yi : Nat) : List D → S → GD → Res (GD × S)
  | [], s, kd => .ok (kd, s)
  | d :: r, s, kd => match tgt d s with
    | none => .bad
    | some s1 => (ft s1).bind fun b => if b.1 then (fk b.2).bind fun p => (match p.1, p.2.env[yi]? with
        | .d x, some (some (.d (.int i))) => (match keyD x with
          | some k => if gFits kd then grpGo tgt ft fk yi r p.2 (addG kd k x (.int i)) else .bad
          | none => .bad)
        | _, _ => .bad)
      else grpGo tgt ft fk yi r b.2 kd
def dictG (kd : GD) : D := .dict (kd.map fun e => (e.1, .list e.2))
def sGroups (fi yi : Nat) (it : IM) (tgt : GM) (ft : TM) (fk : EM) : SM := fun s => match s.env[fi]? with
  | some none => (it s).bind fun p => (grpGo tgt ft fk yi p.1 p.2 []).bind fun q => .ok (.rt (.d (dictG q.1)), q.2)
  | _ => .bad
/-- all lists and the dict become plain -/
def layG (G : Hp) (D : Addr) (o : HO) (H : Hp) (ls : List Addr) : Hp := fun b => if b = D then some o else if b ∈ ls then H b else G b
theorem wipe_at {σ τ : L2.St} {is : List Nat} {j : Nat} (h : wipe σ is = wipe τ is) (hj : j ∉ is) : σ[j]? = τ[j]? := by
  rw [← wipe_out (σ := σ) hj, ← wipe_out (σ := τ) hj, h]
section
variable {K : KW} {F : Addr → Prop} {G H : Hp} {as : List Addr} {σ : L2.St} {s : S} {fi : Nat} {Da : Addr} {es : List NE} {kd : GD} {ls : List Addr}
theorem ga_rpd {G' : Hp} (h : GAt K G H es kd ls) (sg : Same G G') (hl : ∀ l ∈ ls, ∀ o, H l = some o → G' l = some o) : RpD K G' es (kd.map fun e => (e.1, .list e.2)) := by
  induction h with
  | nil => exact .nil
  | cons h1 h2 h3 h4 h5 _ ih =>
    exact .cons (Rp.mono sg h1) h2 h3 (.lst (SqL.of (hl _ List.mem_cons_self _ h4)) (h5.mono sg)) (ih fun l m o z => hl l (List.mem_cons_of_mem _ m) o z)
/-- the end -/
theorem gend (I : GInv K F G H as σ s fi Da es kd ls) (od : Obj) :
    ∃ G', Rep K F G' (upd H Da (.frz od (dN K Da es))) as σ s ∧ Same G G' ∧ Rp K G' (.ref Da) (dictG kd) := by
  have hne := ls_ne I
  have R1 := I.R.hold (p := Da) (o := .frz od (dN K Da es)) (.inr (.inl rfl))
  have sgG : Same G (layG G Da (.frz od (dN K Da es)) H ls) := fun b u e => by
    unfold layG
    have n1 : b ≠ Da := fun z => by have := (I.R.fo Da (.inr (.inl rfl))).1; rw [← z, e] at this; cases this
    have n2 : b ∉ ls := fun z => by have := (I.R.fo b (.inr (.inr z))).1; rw [e] at this; cases this
    rw [if_neg n1, if_neg n2]
    exact e
  refine ⟨layG G Da (.frz od (dN K Da es)) H ls, ⟨fun b u e => ?_, R1.len, R1.alen, R1.nd, R1.dom, fun a ha => ?_, fun n c e => ?_, fun i w e => ?_⟩, sgG, .dicN (es := es) (o := od) ?_ (ga_rpd I.ga sgG fun l hl o z => ?_)⟩
  · unfold layG at e
    by_cases h1 : b = Da
    · rw [if_pos h1] at e; cases e; rw [h1, upd_same]
    · rw [if_neg h1] at e
      rw [upd_ne h1]
      by_cases h2 : b ∈ ls
      · rw [if_pos h2] at e; exact e
      · rw [if_neg h2] at e; exact I.R.same b u e
  · obtain ⟨k1, k2, k3⟩ := R1.fo a (.inl ha)
    refine ⟨?_, k2, k3⟩
    unfold layG
    rw [if_neg (fun (q : a = Da) => I.nfD (q ▸ ha)), if_neg (fun z => I.nfl a z ha)]
    exact k1
  · obtain ⟨a, k1, k2, k3⟩ := R1.cell n c e
    have m := List.mem_of_getElem? k1
    have n1 : a ≠ Da := fun z => (I.R.fo Da (.inr (.inl rfl))).2.1 (z ▸ m)
    have n2 : a ∉ ls := fun z => (I.R.fo a (.inr (.inr z))).2.1 m
    refine ⟨a, k1, ?_, k3.mono sgG fun _ z => z⟩
    unfold layG
    rw [if_neg n1, if_neg n2]
    exact k2
  · obtain ⟨v, k1, k2, k3⟩ := R1.env i w e
    refine ⟨v, k1, ?_, k3⟩
    cases w with
    | d x => exact Rp.mono sgG k2
    | c m => exact k2
    | f ys => exact absurd rfl (k3 ys)
  · unfold layG
    rw [if_pos rfl]
  · unfold layG
    rw [if_neg (fun (q : l = Da) => hne (q ▸ hl)), if_pos hl]
    exact z
end

section
variable {K : KW} {F : Addr → Prop} {G H G' H' : Hp} {as : List Addr} {σ σ' : L2.St} {s s' : S} {fi : Nat} {Da : Addr} {es : List NE} {kd : GD} {ls : List Addr}
theorem GInv.ext (I : GInv K F G H as σ s fi Da es kd ls) (R' : Rep K (ownG F Da ls) G' H' as σ' s') (e : Ext G H (live as s) G' H' (live as s')) (ef : σ'[fi]? = some (some (.ref Da))) : GInv K F G' H' as σ' s' fi Da es kd ls :=
  ⟨R', e.keep _ _ I.eD (not_live (I.R.fo Da (.inr (.inl rfl))).2.1), I.ga.mono e.same fun l hl o z => e.keep _ _ z (not_live (I.R.fo l (.inr (.inr hl))).2.1), I.nl, I.nk, ef, I.nfD, I.nfl⟩
theorem Rep.setNone (R : Rep K F G H as σ s) {i : Nat} {v : Option V} (h : s.env[i]? = some none) : Rep K F G H as (σ.set i v) s :=
  ⟨R.same, by rw [List.length_set]; exact R.len, R.alen, R.nd, R.dom, R.fo, R.cell, fun j w e => by
    obtain ⟨u, k1, k2⟩ := R.env j w e
    have : i ≠ j := fun z => by rw [z, e] at h; cases h
    exact ⟨u, by rw [List.getElem?_set_ne this]; exact k1, k2⟩⟩
end
section
variable {X : Cx} {E : XK} {tg iter tst ke : Expr} {fi0 : IM} {is : List Nat} {tgt : GM} {ft : TM} {fk : EM} {k0 : Nat}
theorem pds_groups (fi yi : Nat) {x y : Str} {px p1 pos1 apos1 cpos1 apos2 cpos2 pos2 p2 p3 p4 p5 p6 p7 pos3 : Pos} (hr : Room k0 X.A) (hc : X.calm = true) (hN : X.N.Nodup) (hi : PDI X E tg iter fi0) (hg : PDG X tg is tgt) (ht : PDT X E tst ft) (hk : PDE X E ke fk)
    (hp : PassesOwn (model X.prog X.w) X.A X.env X.xe) (hfi : fi ∉ is := by decide)
    (hx : X.N[fi]? = some x := by rfl) (hy : X.N[yi]? = some y := by rfl) (hlx : Loc X.env.scope x := by first | exact Or.inl rfl | exact Or.inr rfl)
    (hvx : Vis X.env.scope x := by first | exact Or.inl rfl | exact Or.inr (Or.inl rfl) | exact Or.inr (Or.inr rfl)) (hvy : Vis X.env.scope y := by first | exact Or.inl rfl | exact Or.inr (Or.inl rfl) | exact Or.inr (Or.inr rfl))
    (hdx : (x == ("__debug__" : Str)) = false := by decide) (hcx : (x == ("__classdict__" : Str)) = false := by decide) (hdy : (y == ("__debug__" : Str)) = false := by decide) (hcy : (y == ("__classdict__" : Str)) = false := by decide)
    (hfx : X.fn x = true ∨ X.env.scope.names.lookup x = some .local := by first | exact .inl rfl | exact .inr rfl)
    (hs1 : swapsWith (.Dict [] [] p1) (some (.Name x px)) pos1.line X.env = pure false := by rfl)
    (hs2 : ∀ v, foldedSetIterable iter X.env v = pure v := by intro _; rfl)
    (m : M2 X (.Name x p2) "setdefault" apos1 ke (.List [] p3) cpos1)
    (hbase : attributeBase (.Call (.Attribute (.Name x p2) "setdefault" apos1) [ke, .List [] p3] [] cpos1) "append" X.env (eval (.Call (.Attribute (.Name x p2) "setdefault" apos1) [ke, .List [] p3] [] cpos1) X.env) = eval (.Call (.Attribute (.Name x p2) "setdefault" apos1) [ke, .List [] p3] [] cpos1) X.env := by rfl)
    (hfew : ((backTo cpos2 (starEach [Expr.Name y p4] X.env)).all (fun x => !x.1) && (backToKw cpos2 (keywordEach [] X.env)).all (fun x => x.1.isSome)
      && decide (([Expr.Name y p4] : List Expr).length + ([] : List Keyword).length + (if ([] : List Keyword).isEmpty then 0 else 1) < 30)) = true := by rfl)
    (hline : (apos2.endLine == cpos2.line) = true := by rfl) (hst : starEach [Expr.Name y p4] X.env = (false, eval (Expr.Name y p4) X.env) :: starEach [] X.env := by rfl) (hpl : (backTo cpos2 (starEach [] X.env)).any (·.1) = false := by rfl)
    (hs3 : swapsWith (.Call (.Attribute (.Call (.Attribute (.Name x p2) "setdefault" apos1) [ke, .List [] p3] [] cpos1) "append" apos2) [.Name y p4] [] cpos2) none p5.line X.env = pure false := by rfl) :
    PDSs X E [.Assign [.Name x px] (.Dict [] [] p1) pos1, .For tg iter [.If tst [.Expr (.Call (.Attribute (.Call (.Attribute (.Name x p2) "setdefault" apos1) [ke, .List [] p3] [] cpos1) "append" apos2) [.Name y p4] [] cpos2) p5] [] p6] [] pos2, .Return (some (.Name x p7)) pos3] (sGroups fi yi fi0 tgt ft fk) := by
  refine ⟨PSs.imp (pss_cons (ps_set (i := fi) hN hx hlx pe_dnewN hs1 hfx) (pss_cons (ps_for hp hc hi.pi hg.pg (pss_one (ps_if ht.pt (pss_one (ps_expr (pe_bm PySem.F.plainAttrs_list PySem.F.slot_list_append PySem.F.type_list_append mt_append (pe_setD hr (pe_var (i := fi) hx hvx hdx hcx) hk.pe (pe_lst pa_nil) m) (pa_cons (pe_var (i := yi) hy hvy hdy hcy) pa_nil hst) hbase hfew hline hst hpl) hs3)) pss_nil)) hs2) (pss_one (ps_ret (pe_freeze (pe_var (i := fi) hx hvx hdx hcx)))))) fun D σ H h => ?_⟩
  obtain ⟨F, G, as, s, R, h⟩ := h
  unfold sGroups at h
  split at h
  case h_2 => exact h.elim
  rename_i ef
  intro Da hDa
  obtain ⟨fg, fas, fF⟩ := R.fresh hDa
  have R0 : Rep X.kw (ownG F Da []) G (upd H Da (dN X.kw Da [])) as (σ.set fi (some (.ref Da))) s := ((R.own (o := dN X.kw Da []) hDa).setNone ef).weak fun a ha => by
    rcases ha with ha | ha | ha
    · exact .inl ha
    · exact .inr ha
    · cases ha
  have hfl : fi < σ.length := by rw [R.len]; exact (List.getElem?_eq_some_iff.mp ef).1
  have ef0 : (σ.set fi (some (V.ref Da)))[fi]? = some (some (.ref Da)) := List.getElem?_set_self hfl
  have I0 : GInv X.kw F G (upd H Da (dN X.kw Da [])) as (σ.set fi (some (.ref Da))) s fi Da [] [] [] := ⟨R0, upd_same, .nil, List.nodup_nil, List.nodup_nil, ef0, fF, fun l hl => by cases hl⟩
  have XD : Ext G H (live as s) G (upd H Da (dN X.kw Da [])) (live as s) := Ext.alloc hDa
  refine ⟨ownG F Da [], G, as, s, R0, ?_⟩
  cases e0 : fi0 s with
  | exc c => rw [e0] at h; exact fun C H' hc k => h C H' hc (keepX XD k)
  | bad => rw [e0] at h; exact h
  | ok p =>
  obtain ⟨xs, s1⟩ := p
  rw [e0, Res.bind_ok] at h
  dsimp only at h
  intro J G1 H1 R1 X1 wk
  have I1 := I0.ext R1 X1 ef0
  refine ⟨fun i m σ' H' => ∃ (G' : Hp) (s' : S) (es : List NE) (kd : GD) (ls : List Addr), m = xs.length - i ∧ i ≤ xs.length ∧ GInv X.kw F G' H' as σ' s' fi Da es kd ls ∧ Ext G H (live as s) G' H' (live as s') ∧ Same G1 G' ∧ (∀ l ∈ ls, H l = none) ∧
      sK X.kw X.mg E F G H as s ((grpGo tgt ft fk yi (xs.drop i) s' kd).bind fun q => .ok (.rt (.d (dictG q.1)), q.2)) D,
    ⟨xs.length, G1, s1, [], [], [], rfl, Nat.zero_le _, I1, XD.trans X1, Same.refl _, (fun l hl => by cases hl), h⟩, fun i m σ' H' hW => ?_⟩
  obtain ⟨G2, s2, es, kd, ls, rfl, hi', I2, X2, sg2, hls, h2⟩ := hW
  obtain ⟨w1, w2⟩ := wk i G2 H' sg2 I2.R.same
  by_cases hlt : i < xs.length
  · have hd : xs[i]? = some xs[i] := List.getElem?_eq_getElem hlt
    have dr : xs.drop i = xs[i] :: xs.drop (i + 1) := List.drop_eq_getElem_cons hlt
    obtain ⟨go, yl⟩ := w2 _ hd
    rw [dr] at h2
    unfold grpGo at h2
    cases e2 : tgt xs[i] s2 with
    | none => rw [e2] at h2; exact h2.elim
    | some s3 =>
    rw [e2] at h2
    dsimp only at h2
    refine .inr ⟨go, fun σ3 H3 => ∃ (G' : Hp) (s' : S) (es : List NE) (kd : GD) (ls : List Addr), GInv X.kw F G' H3 as σ3 s' fi Da es kd ls ∧ Ext G H (live as s) G' H3 (live as s') ∧ Same G1 G' ∧ (∀ l ∈ ls, H l = none) ∧
        sK X.kw X.mg E F G H as s ((grpGo tgt ft fk yi (xs.drop (i + 1)) s' kd).bind fun q => .ok (.rt (.d (dictG q.1)), q.2)) D,
      fun σ3 H3 hN => ⟨xs.length - (i + 1), by omega, by
        obtain ⟨G', s', es, kd, ls, a1, a2, a3, a4, a5⟩ := hN
        exact ⟨G', s', es, kd, ls, rfl, hlt, a1, a2, a3, a4, a5⟩⟩, fun xv H3 hyy => ?_⟩
    obtain ⟨G3, R3, X3, r3⟩ : ∃ G3, Rep X.kw (ownG F Da ls) G3 H3 as σ' s2 ∧ Ext G2 H' (live as s2) G3 H3 (live as s2) ∧ Rp X.kw G3 xv xs[i] := by
      rcases yl xv H3 hyy with ⟨rfl, r3⟩ | ⟨T, ob, hT, rfl, r3⟩
      · exact ⟨G2, I2.R, Ext.refl _ _ _, r3⟩
      · exact ⟨_, I2.R.newG hT ob, Ext.allocG (I2.R.same.free hT) hT, r3⟩
    refine ⟨ownG F Da ls, G3, as, s2, s3, xs[i], R3, r3, e2, fun σ4 R4 hw => ?_⟩
    have el : live as s3 = live as s2 := live_eq (hg.mem _ _ _ e2).1
    have X3' : Ext G2 H' (live as s2) G3 H3 (live as s3) := by rw [el]; exact X3
    have ef4 : σ4[fi]? = some (some (.ref Da)) := by rw [wipe_at hw hfi]; exact I2.ef
    have I4 := I2.ext R4 X3' ef4
    have X4 := X2.trans X3'
    refine ⟨ownG F Da ls, G3, as, s3, R4, ?_⟩
    cases e5 : ft s3 with
    | exc c => rw [e5] at h2; exact fun C H' hc k => h2 C H' hc (keepX X4 k)
    | bad => rw [e5] at h2; exact h2
    | ok q =>
    obtain ⟨b, s5⟩ := q
    rw [e5, Res.bind_ok] at h2
    dsimp only at h2
    intro G5 H5 R5 X5
    have I5 := I4.ext R5 X5 ef4
    have X45 := X4.trans X5
    have sg5 : Same G1 G5 := sg2.trans (X3.same.trans X5.same)
    cases b with
    | false =>
      rw [if_neg Bool.false_ne_true] at h2 ⊢
      exact ⟨G5, s5, es, kd, ls, I5, X45, sg5, hls, h2⟩
    | true =>
      rw [if_pos rfl] at h2 ⊢
      refine ⟨.ref Da, I5.ef, ⟨Da, es, rfl, I5.eD⟩, ownG F Da ls, G5, as, s5, R5, ?_⟩
      cases e6 : fk s5 with
      | exc c => rw [e6] at h2; exact fun C H' hc k => h2 C H' hc (keepX X45 k)
      | bad => rw [e6] at h2; exact h2
      | ok q =>
      obtain ⟨w6, s6⟩ := q
      rw [e6, Res.bind_ok] at h2
      dsimp only at h2
      intro v6 G6 H6 R6 X6 r6 nw6
      have I6 := I5.ext R6 X6 ef4
      have X46 := X45.trans X6
      split at h2
      case h_2 => exact h2.elim
      rename_i x6 i6 ey6
      split at h2
      case h_2 => exact h2.elim
      rename_i k6 ek6
      split at h2
      case isFalse => exact h2.elim
      rename_i hfit
      obtain ⟨b6, rfl, _⟩ := keyD_at r6 ek6
      obtain ⟨vi, hvi, rvi, _⟩ := R6.env yi _ ey6
      cases rvi
      refine ⟨Nat.zero_le _, fun p hp => ?_⟩
      refine gstep I6 r6 ek6 hfit hvi (fun H7 es7 ls7 I7 hn7 kp7 => ?_) p hp
      have x7 : Ext G H (live as s) G6 H7 (live as s6) := by
        refine ⟨X46.same, fun a o ha nl => ?_, X46.new⟩
        refine kp7 a o (X46.keep a o ha nl) (fun q => ?_) (fun q => ?_)
        · rw [q, hDa] at ha
          cases ha
        · rw [hls a q] at ha
          cases ha
      have l7 : ∀ l ∈ ls7, H l = none := by
        intro l hl
        rcases hn7 l hl with z | z
        · exact hls l z
        · cases q : H l with
          | none => rfl
          | some o =>
            by_cases lv : live as s l
            · obtain ⟨n, c, _, zz⟩ := lv
              obtain ⟨o', z'⟩ := R6.dom l (List.mem_of_getElem? zz)
              rw [z] at z'
              cases z'
            · rw [X46.keep l o q lv] at z
              cases z
      exact ⟨G6, s6, es7, _, ls7, I7, x7, sg5.trans X6.same, l7, h2⟩
  · have : i = xs.length := by omega
    subst this
    refine .inl ⟨w1 (Nat.le_refl _), ?_⟩
    rw [List.drop_length] at h2
    refine ⟨.ref Da, I2.ef, Da, _, rfl, I2.eD, True.intro, fun od => ?_⟩
    obtain ⟨G7, R7, sg7, rp7⟩ := gend I2 od
    refine h2 (.ref Da) _ G7 _ as R7 ⟨X2.same.trans sg7, fun a o ha nl => ?_, X2.new⟩ (List.prefix_refl _) rp7 fun _ _ z _ => nomatch z
    rw [upd_ne (fun (q : a = Da) => by rw [q, hDa] at ha; cases ha)]
    exact X2.keep a o ha nl
end
end
end PD

set_option Elab.async false
set_option linter.all false
set_option maxRecDepth 100000
set_option maxHeartbeats 4000000
namespace K49
open PySem PySem.Spec PyProof.Rows L2 PD

structure Txt (K : PySem.W.Frag) (mg : Str → Option Value) : Prop where
  b_ValueError : mg "ValueError" = none
  b_abs : mg "abs" = none
  b_all : mg "all" = none
  b_any : mg "any" = none
  b_bool : mg "bool" = none
  b_enumerate : mg "enumerate" = none
  b_int : mg "int" = none
  b_isinstance : mg "isinstance" = none
  b_len : mg "len" = none
  b_list : mg "list" = none
  b_max : mg "max" = none
  b_min : mg "min" = none
  b_range : mg "range" = none
  b_set : mg "set" = none
  b_sorted : mg "sorted" = none
  b_str : mg "str" = none
  b_tuple : mg "tuple" = none
  x_HomeError : ExcC K mg "HomeError"
  x_NoHistory : ExcC K mg "NoHistory"
  c_GREATEST : ∃ t, mg "GREATEST" = some (.int 999999999999999999999999999999 t)
  c_READ : ∃ t, mg "READ" = some (.str "read" t)
  c_WRITE : ∃ t, mg "WRITE" = some (.str "write" t)
  c_MOST_TOLD : ∃ t, mg "MOST_TOLD" = some (.int 5 t)
  f_is_integer : ∃ f fd, Fun K "is_integer" "is_integer" st_is_integer f fd ∧ mg "is_integer" = some (.ref f)
  f_is_between : ∃ f fd, Fun K "is_between" "is_between" st_is_between f fd ∧ mg "is_between" = some (.ref f)
  f_is_index : ∃ f fd, Fun K "is_index" "is_index" st_is_index f fd ∧ mg "is_index" = some (.ref f)
  f_is_tuple_of : ∃ f fd, Fun K "is_tuple_of" "is_tuple_of" st_is_tuple_of f fd ∧ mg "is_tuple_of" = some (.ref f)
  f_is_sign : ∃ f fd, Fun K "is_sign" "is_sign" st_is_sign f fd ∧ mg "is_sign" = some (.ref f)
  f_is_signs : ∃ f fd, Fun K "is_signs" "is_signs" st_is_signs f fd ∧ mg "is_signs" = some (.ref f)
  f_is_thing : ∃ f fd, Fun K "is_thing" "is_thing" st_is_thing f fd ∧ mg "is_thing" = some (.ref f)
  f_is_call : ∃ f fd, Fun K "is_call" "is_call" st_is_call f fd ∧ mg "is_call" = some (.ref f)
  f_moments_of : ∃ f fd, Fun K "moments_of" "moments_of" st_moments_of f fd ∧ mg "moments_of" = some (.ref f)
  f_is_history : ∃ f fd, Fun K "is_history" "is_history" st_is_history f fd ∧ mg "is_history" = some (.ref f)
  f_check_history : ∃ f fd, Fun K "check_history" "check_history" st_check_history f fd ∧ mg "check_history" = some (.ref f)
  f_writer_of : ∃ f fd, Fun K "writer_of" "writer_of" st_writer_of f fd ∧ mg "writer_of" = some (.ref f)
  f_counts : ∃ f fd, Fun K "counts" "counts" st_counts f fd ∧ mg "counts" = some (.ref f)
  f_groups_of : ∃ f fd, Fun K "groups_of" "groups_of" st_groups_of f fd ∧ mg "groups_of" = some (.ref f)
  f_first_end : ∃ f fd, Fun K "first_end" "first_end" st_first_end f fd ∧ mg "first_end" = some (.ref f)
  f_last_begin : ∃ f fd, Fun K "last_begin" "last_begin" st_last_begin f fd ∧ mg "last_begin" = some (.ref f)
  f_is_ahead : ∃ f fd, Fun K "is_ahead" "is_ahead" st_is_ahead f fd ∧ mg "is_ahead" = some (.ref f)
  f_single_bar : ∃ f fd, Fun K "single_bar" "single_bar" st_single_bar f fd ∧ mg "single_bar" = some (.ref f)
  f_late_bar : ∃ f fd, Fun K "late_bar" "late_bar" st_late_bar f fd ∧ mg "late_bar" = some (.ref f)
  f_crossed_bar : ∃ f fd, Fun K "crossed_bar" "crossed_bar" st_crossed_bar f fd ∧ mg "crossed_bar" = some (.ref f)
  f_crossed : ∃ f fd, Fun K "crossed" "crossed" st_crossed f fd ∧ mg "crossed" = some (.ref f)
  f_raw_bar : ∃ f fd, Fun K "raw_bar" "raw_bar" st_raw_bar f fd ∧ mg "raw_bar" = some (.ref f)
  f_bar : ∃ f fd, Fun K "bar" "bar" st_bar f fd ∧ mg "bar" = some (.ref f)
  f_tail : ∃ f fd, Fun K "tail" "tail" st_tail f fd ∧ mg "tail" = some (.ref f)
  f_name_order : ∃ f fd, Fun K "name_order" "name_order" st_name_order f fd ∧ mg "name_order" = some (.ref f)
  f_right_order : ∃ f fd, Fun K "right_order" "right_order" st_right_order f fd ∧ mg "right_order" = some (.ref f)
  f_is_right_order : ∃ f fd, Fun K "is_right_order" "is_right_order" st_is_right_order f fd ∧ mg "is_right_order" = some (.ref f)
  f_are_behind : ∃ f fd, Fun K "are_behind" "are_behind" st_are_behind f fd ∧ mg "are_behind" = some (.ref f)
  f_are_told : ∃ f fd, Fun K "are_told" "are_told" st_are_told f fd ∧ mg "are_told" = some (.ref f)
  f_is_bar : ∃ f fd, Fun K "is_bar" "is_bar" st_is_bar f fd ∧ mg "is_bar" = some (.ref f)
  f_is_single : ∃ f fd, Fun K "is_single" "is_single" st_is_single f fd ∧ mg "is_single" = some (.ref f)
  f_tells : ∃ f fd, Fun K "tells" "tells" st_tells f fd ∧ mg "tells" = some (.ref f)
  f_is_late : ∃ f fd, Fun K "is_late" "is_late" st_is_late f fd ∧ mg "is_late" = some (.ref f)
  f_is_crossed : ∃ f fd, Fun K "is_crossed" "is_crossed" st_is_crossed f fd ∧ mg "is_crossed" = some (.ref f)
  f_w_hand : ∃ f fd, Fun K "_law_hand" "_law_hand" st_w_hand f fd ∧ mg "_law_hand" = some (.ref f)
  f_w_draw : ∃ f fd, Fun K "_law_draw" "_law_draw" st_w_draw f fd ∧ mg "_law_draw" = some (.ref f)
  f_w_call : ∃ f fd, Fun K "_law_call" "_law_call" st_w_call f fd ∧ mg "_law_call" = some (.ref f)
  f_w_history : ∃ f fd, Fun K "_law_history" "_law_history" st_w_history f fd ∧ mg "_law_history" = some (.ref f)
  f_w_read : ∃ f fd, Fun K "_law_read" "_law_read" st_w_read f fd ∧ mg "_law_read" = some (.ref f)
  f_w_is_int : ∃ f fd, Fun K "_law_is_int" "_law_is_int" st_w_is_int f fd ∧ mg "_law_is_int" = some (.ref f)
  f_w_deep : ∃ f fd, Fun K "_law_deep" "_law_deep" st_w_deep f fd ∧ mg "_law_deep" = some (.ref f)
  f_w_is_thing : ∃ f fd, Fun K "_law_is_thing" "_law_is_thing" st_w_is_thing f fd ∧ mg "_law_is_thing" = some (.ref f)
  f_w_is_call : ∃ f fd, Fun K "_law_is_call" "_law_is_call" st_w_is_call f fd ∧ mg "_law_is_call" = some (.ref f)
  f_w_due : ∃ f fd, Fun K "_law_due" "_law_due" st_w_due f fd ∧ mg "_law_due" = some (.ref f)
  f_w_word : ∃ f fd, Fun K "_law_word" "_law_word" st_w_word f fd ∧ mg "_law_word" = some (.ref f)
  f_w_bent : ∃ f fd, Fun K "_law_bent" "_law_bent" st_w_bent f fd ∧ mg "_law_bent" = some (.ref f)
  f_law : ∃ f fd, Fun K "law" "law" st_law f fd ∧ mg "law" = some (.ref f)
theorem sc_is_integer : FnScope ["thing"] ["thing"] (defScope st_is_integer) := ⟨rfl, rfl, rfl, by decide +kernel, rfl, by decide +kernel, by decide +kernel⟩
noncomputable def b_is_integer : { g : SM // ∀ {P : Program} {w : World} {K : PySem.W.Frag} {mg : Str → Option Value} {base : Heap} (T : Txt K mg)  (f : Addr) (cdv : Value) (A : Around) (outer : List Env) (s : Shared) (H : Hp) (E : XK), Room 0 (A.deeper (envOfC "is_integer" (defScope st_is_integer) s.heap.objs.size f cdv)) → PDSs (cxOf (L2.CX P w) P w K mg base ["thing"] "is_integer" (defScope st_is_integer) f cdv A outer s H E) E (defBody st_is_integer) g } :=
  ⟨_, fun T  f cdv A outer s H E hr => by
    have Sc := sc_is_integer
    exact (pds_one (pds_ret (pd_and (pd_isi T.b_isinstance T.b_int (by decide +kernel) kInt (pd_var 0)) (pd_one (pd_not (pd_isi T.b_isinstance T.b_bool (by decide +kernel) kBool (pd_var 0)))))))⟩
@[irreducible] noncomputable def m_is_integer : FM := fnOf ["thing"] b_is_integer.1
theorem df_is_integer {P : Program} {w : World} {K : PySem.W.Frag} {mg : Str → Option Value} {base : Heap} (T : Txt K mg)  : Df P w K mg base 1 "is_integer" ["thing"] m_is_integer := by
  unfold m_is_integer
  obtain ⟨f, fd, Fn, hm⟩ := T.f_is_integer
  exact Df.mk' Fn sc_is_integer hm (Fn.binds fun _ _ _ _ _ _ us hl => match us, hl with | [_], _ => rfl) (fun cdv A outer s H E hr => b_is_integer.2 T  f cdv A outer s H E hr)
theorem sc_is_between : FnScope ["thing", "least", "most"] ["thing", "least", "most"] (defScope st_is_between) := ⟨rfl, rfl, rfl, by decide +kernel, rfl, by decide +kernel, by decide +kernel⟩
noncomputable def b_is_between : { g : SM // ∀ {P : Program} {w : World} {K : PySem.W.Frag} {mg : Str → Option Value} {base : Heap} (T : Txt K mg) (c_is_integer : Df P w K mg base 1 "is_integer" ["thing"] m_is_integer) (f : Addr) (cdv : Value) (A : Around) (outer : List Env) (s : Shared) (H : Hp) (E : XK), Room 1 (A.deeper (envOfC "is_between" (defScope st_is_between) s.heap.objs.size f cdv)) → PDSs (cxOf (L2.CX P w) P w K mg base ["thing", "least", "most"] "is_between" (defScope st_is_between) f cdv A outer s H E) E (defBody st_is_between) g } :=
  ⟨_, fun T c_is_integer f cdv A outer s H E hr => by
    have Sc := sc_is_between
    exact (pds_one (pds_ret (pd_and (pd_call c_is_integer hr (pda_cons false (pd_var 0) pda_nil) hx_cx (hlen := (aCons_len aNil_len))) (pd_one (pd_leLe (pd_var 1) (pd_var 0) (pd_var 2))))))⟩
@[irreducible] noncomputable def m_is_between : FM := fnOf ["thing", "least", "most"] b_is_between.1
theorem df_is_between {P : Program} {w : World} {K : PySem.W.Frag} {mg : Str → Option Value} {base : Heap} (T : Txt K mg) (c_is_integer : Df P w K mg base 1 "is_integer" ["thing"] m_is_integer) : Df P w K mg base 2 "is_between" ["thing", "least", "most"] m_is_between := by
  unfold m_is_between
  obtain ⟨f, fd, Fn, hm⟩ := T.f_is_between
  exact Df.mk' Fn sc_is_between hm (Fn.binds fun _ _ _ _ _ _ us hl => match us, hl with | [_, _, _], _ => rfl) (fun cdv A outer s H E hr => b_is_between.2 T c_is_integer f cdv A outer s H E hr)
theorem sc_is_index : FnScope ["thing", "many"] ["thing", "many"] (defScope st_is_index) := ⟨rfl, rfl, rfl, by decide +kernel, rfl, by decide +kernel, by decide +kernel⟩
noncomputable def b_is_index : { g : SM // ∀ {P : Program} {w : World} {K : PySem.W.Frag} {mg : Str → Option Value} {base : Heap} (T : Txt K mg) (c_is_between : Df P w K mg base 2 "is_between" ["thing", "least", "most"] m_is_between) (f : Addr) (cdv : Value) (A : Around) (outer : List Env) (s : Shared) (H : Hp) (E : XK), Room 2 (A.deeper (envOfC "is_index" (defScope st_is_index) s.heap.objs.size f cdv)) → PDSs (cxOf (L2.CX P w) P w K mg base ["thing", "many"] "is_index" (defScope st_is_index) f cdv A outer s H E) E (defBody st_is_index) g } :=
  ⟨_, fun T c_is_between f cdv A outer s H E hr => by
    have Sc := sc_is_index
    exact (pds_one (pds_ret (pd_call c_is_between hr (pda_cons false (pd_var 0) (pda_cons false pd_int (pda_cons false (pd_subI (pd_var 1) pd_int) pda_nil))) hx_cx (hlen := (aCons_len (aCons_len (aCons_len aNil_len)))))))⟩
@[irreducible] noncomputable def m_is_index : FM := fnOf ["thing", "many"] b_is_index.1
theorem df_is_index {P : Program} {w : World} {K : PySem.W.Frag} {mg : Str → Option Value} {base : Heap} (T : Txt K mg) (c_is_between : Df P w K mg base 2 "is_between" ["thing", "least", "most"] m_is_between) : Df P w K mg base 3 "is_index" ["thing", "many"] m_is_index := by
  unfold m_is_index
  obtain ⟨f, fd, Fn, hm⟩ := T.f_is_index
  exact Df.mk' Fn sc_is_index hm (Fn.binds fun _ _ _ _ _ _ us hl => match us, hl with | [_, _], _ => rfl) (fun cdv A outer s H E hr => b_is_index.2 T c_is_between f cdv A outer s H E hr)
theorem sc_is_tuple_of : FnScope ["thing", "many"] ["thing", "many"] (defScope st_is_tuple_of) := ⟨rfl, rfl, rfl, by decide +kernel, rfl, by decide +kernel, by decide +kernel⟩
noncomputable def b_is_tuple_of : { g : SM // ∀ {P : Program} {w : World} {K : PySem.W.Frag} {mg : Str → Option Value} {base : Heap} (T : Txt K mg)  (f : Addr) (cdv : Value) (A : Around) (outer : List Env) (s : Shared) (H : Hp) (E : XK), Room 0 (A.deeper (envOfC "is_tuple_of" (defScope st_is_tuple_of) s.heap.objs.size f cdv)) → PDSs (cxOf (L2.CX P w) P w K mg base ["thing", "many"] "is_tuple_of" (defScope st_is_tuple_of) f cdv A outer s H E) E (defBody st_is_tuple_of) g } :=
  ⟨_, fun T  f cdv A outer s H E hr => by
    have Sc := sc_is_tuple_of
    exact (pds_one (pds_ret (pd_and (pd_isi T.b_isinstance T.b_tuple (by decide +kernel) kTup (pd_var 0)) (pd_one (pd_eq hr (pd_len T.b_len (pd_var 0)) (pd_var 1))))))⟩
@[irreducible] noncomputable def m_is_tuple_of : FM := fnOf ["thing", "many"] b_is_tuple_of.1
theorem df_is_tuple_of {P : Program} {w : World} {K : PySem.W.Frag} {mg : Str → Option Value} {base : Heap} (T : Txt K mg)  : Df P w K mg base 1 "is_tuple_of" ["thing", "many"] m_is_tuple_of := by
  unfold m_is_tuple_of
  obtain ⟨f, fd, Fn, hm⟩ := T.f_is_tuple_of
  exact Df.mk' Fn sc_is_tuple_of hm (Fn.binds fun _ _ _ _ _ _ us hl => match us, hl with | [_, _], _ => rfl) (fun cdv A outer s H E hr => b_is_tuple_of.2 T  f cdv A outer s H E hr)
theorem sc_is_sign : FnScope ["sign"] ["sign"] (defScope st_is_sign) := ⟨rfl, rfl, rfl, by decide +kernel, rfl, by decide +kernel, by decide +kernel⟩
noncomputable def b_is_sign : { g : SM // ∀ {P : Program} {w : World} {K : PySem.W.Frag} {mg : Str → Option Value} {base : Heap} (T : Txt K mg)  (f : Addr) (cdv : Value) (A : Around) (outer : List Env) (s : Shared) (H : Hp) (E : XK), Room 0 (A.deeper (envOfC "is_sign" (defScope st_is_sign) s.heap.objs.size f cdv)) → PDSs (cxOf (L2.CX P w) P w K mg base ["sign"] "is_sign" (defScope st_is_sign) f cdv A outer s H E) E (defBody st_is_sign) g } :=
  ⟨_, fun T  f cdv A outer s H E hr => by
    have Sc := sc_is_sign
    exact (pds_one (pds_ret (pd_leLe pd_str (pd_var 0) pd_str)))⟩
@[irreducible] noncomputable def m_is_sign : FM := fnOf ["sign"] b_is_sign.1
theorem df_is_sign {P : Program} {w : World} {K : PySem.W.Frag} {mg : Str → Option Value} {base : Heap} (T : Txt K mg)  : Df P w K mg base 1 "is_sign" ["sign"] m_is_sign := by
  unfold m_is_sign
  obtain ⟨f, fd, Fn, hm⟩ := T.f_is_sign
  exact Df.mk' Fn sc_is_sign hm (Fn.binds fun _ _ _ _ _ _ us hl => match us, hl with | [_], _ => rfl) (fun cdv A outer s H E hr => b_is_sign.2 T  f cdv A outer s H E hr)
theorem sc_is_signs : FnScope ["thing", "sign"] ["thing"] (defScope st_is_signs) := ⟨rfl, rfl, rfl, by decide +kernel, rfl, by decide +kernel, by decide +kernel⟩
noncomputable def b_is_signs : { g : SM // ∀ {P : Program} {w : World} {K : PySem.W.Frag} {mg : Str → Option Value} {base : Heap} (T : Txt K mg) (c_is_sign : Df P w K mg base 1 "is_sign" ["sign"] m_is_sign) (f : Addr) (cdv : Value) (A : Around) (outer : List Env) (s : Shared) (H : Hp) (E : XK), Room 1 (A.deeper (envOfC "is_signs" (defScope st_is_signs) s.heap.objs.size f cdv)) → PDSs (cxOf (L2.CX P w) P w K mg base ["thing", "sign"] "is_signs" (defScope st_is_signs) f cdv A outer s H E) E (defBody st_is_signs) g } :=
  ⟨_, fun T c_is_sign f cdv A outer s H E hr => by
    have Sc := sc_is_signs
    exact (pds_one (pds_ret (pd_and (pd_isi T.b_isinstance T.b_str (by decide +kernel) kStr (pd_var 0)) (pd_one (pd_all T.b_all rfl (pd_lc rfl Sc.nd (pdi_any (pd_var 0)) [("sign", 1)] (blkOk_by (N := ["thing", "sign"]) (sc := defScope st_is_signs) (by decide +kernel)) (fun _ _ _ _ _ => (pdg_name 1 Sc.nd)) (gT1_mem 1) (fun _ _ _ _ _ => pdts_nil) (fun _ _ _ _ _ => (pd_call c_is_sign hr (pda_cons false (pd_var 1) pda_nil) passL (hlen := (aCons_len aNil_len))))))))))⟩
@[irreducible] noncomputable def m_is_signs : FM := fnOf ["thing", "sign"] b_is_signs.1
theorem df_is_signs {P : Program} {w : World} {K : PySem.W.Frag} {mg : Str → Option Value} {base : Heap} (T : Txt K mg) (c_is_sign : Df P w K mg base 1 "is_sign" ["sign"] m_is_sign) : Df P w K mg base 2 "is_signs" ["thing"] m_is_signs := by
  unfold m_is_signs
  obtain ⟨f, fd, Fn, hm⟩ := T.f_is_signs
  exact Df.mk' Fn sc_is_signs hm (Fn.binds fun _ _ _ _ _ _ us hl => match us, hl with | [_], _ => rfl) (fun cdv A outer s H E hr => b_is_signs.2 T c_is_sign f cdv A outer s H E hr)
theorem sc_is_thing : FnScope ["thing", "deep", "item"] ["thing", "deep"] (defScope st_is_thing) := ⟨rfl, rfl, rfl, by decide +kernel, rfl, by decide +kernel, by decide +kernel⟩
noncomputable def b_is_thing (m : FM) : { g : SM // ∀ {P : Program} {w : World} {K : PySem.W.Frag} {mg : Str → Option Value} {base : Heap} (T : Txt K mg) (l : Nat) (hl : 2 ≤ l) (c_is_integer : Df P w K mg base 1 "is_integer" ["thing"] m_is_integer) (c_is_signs : Df P w K mg base 2 "is_signs" ["thing"] m_is_signs) (c_is_thing : Df P w K mg base l "is_thing" ["thing", "deep"] m) (f : Addr) (cdv : Value) (A : Around) (outer : List Env) (s : Shared) (H : Hp) (E : XK), Room l (A.deeper (envOfC "is_thing" (defScope st_is_thing) s.heap.objs.size f cdv)) → PDSs (cxOf (L2.CX P w) P w K mg base ["thing", "deep", "item"] "is_thing" (defScope st_is_thing) f cdv A outer s H E) E (defBody st_is_thing) g } :=
  ⟨_, fun T l hl c_is_integer c_is_signs c_is_thing f cdv A outer s H E hr => by
    have Sc := sc_is_thing
    exact (pds_cons (pds_if (pdt_val (pd_isi T.b_isinstance T.b_tuple (by decide +kernel) kTup (pd_var 0))) (pds_one (pds_ret (pd_and (pd_gtA (pd_var 1) pd_int) (pd_one (pd_all T.b_all rfl (pd_lc rfl Sc.nd (pdi_any (pd_var 0)) [("item", 2)] (blkOk_by (N := ["thing", "deep", "item"]) (sc := defScope st_is_thing) (by decide +kernel)) (fun _ _ _ _ _ => (pdg_name 2 Sc.nd)) (gT1_mem 2) (fun _ _ _ _ _ => pdts_nil) (fun _ _ _ _ _ => (pd_call c_is_thing hr (pda_cons false (pd_var 2) (pda_cons false (pd_subI (pd_var 1) pd_int) pda_nil)) passL (hlen := (aCons_len (aCons_len aNil_len))) (hkj := Nat.le_refl _))))))))) pds_nil)
    (pds_cons (pds_if (pdt_val (pd_call c_is_integer (hr.mono (by omega)) (hkj := Nat.le_refl _) (pda_cons false (pd_var 0) pda_nil) hx_cx (hlen := (aCons_len aNil_len)))) (pds_one (pds_ret (pd_leLe (pd_neg (pd_gint T.c_GREATEST)) (pd_var 0) (pd_gint T.c_GREATEST)))) pds_nil)
    (pds_one (pds_ret (pd_or (pd_isN (pd_var 0) pd_non) (pd_one (pd_call c_is_signs (hr.mono (by omega)) (hkj := Nat.le_refl _) (pda_cons false (pd_var 0) pda_nil) hx_cx (hlen := (aCons_len aNil_len)))))))))⟩
noncomputable def m_is_thing : Nat → FM
  | 0 => fun _ _ => .bad
  | n + 1 => fnOf ["thing", "deep", "item"] (b_is_thing (m_is_thing n)).1
theorem df_is_thing {P : Program} {w : World} {K : PySem.W.Frag} {mg : Str → Option Value} {base : Heap} (T : Txt K mg) (c_is_integer : Df P w K mg base 1 "is_integer" ["thing"] m_is_integer) (c_is_signs : Df P w K mg base 2 "is_signs" ["thing"] m_is_signs) : ∀ n, Df P w K mg base (2 + n) "is_thing" ["thing", "deep"] (m_is_thing n)
  | 0 => by
    obtain ⟨f, fd, Fn, hm⟩ := T.f_is_thing
    exact (Df.bad Fn sc_is_thing hm (Fn.binds fun _ _ _ _ _ _ us hl => match us, hl with | [_, _], _ => rfl)).mono (Nat.zero_le _)
  | n + 1 => by
    obtain ⟨f, fd, Fn, hm⟩ := T.f_is_thing
    exact Df.mk' Fn sc_is_thing hm (Fn.binds fun _ _ _ _ _ _ us hl => match us, hl with | [_, _], _ => rfl) (fun cdv A outer s H E hr => (b_is_thing (m_is_thing n)).2 T (2 + n) (Nat.le_add_right _ _) c_is_integer c_is_signs (df_is_thing T c_is_integer c_is_signs n) f cdv A outer s H E hr)
theorem sc_is_call : FnScope ["thing", "kind", "name", "told", "begin", "end"] ["thing"] (defScope st_is_call) := ⟨rfl, rfl, rfl, by decide +kernel, rfl, by decide +kernel, by decide +kernel⟩
noncomputable def b_is_call : { g : SM // ∀ {P : Program} {w : World} {K : PySem.W.Frag} {mg : Str → Option Value} {base : Heap} (T : Txt K mg) (c_is_tuple_of : Df P w K mg base 1 "is_tuple_of" ["thing", "many"] m_is_tuple_of) (c_is_integer : Df P w K mg base 1 "is_integer" ["thing"] m_is_integer) (c_is_thing : Df P w K mg base 9 "is_thing" ["thing", "deep"] (m_is_thing 7)) (f : Addr) (cdv : Value) (A : Around) (outer : List Env) (s : Shared) (H : Hp) (E : XK), Room 9 (A.deeper (envOfC "is_call" (defScope st_is_call) s.heap.objs.size f cdv)) → PDSs (cxOf (L2.CX P w) P w K mg base ["thing", "kind", "name", "told", "begin", "end"] "is_call" (defScope st_is_call) f cdv A outer s H E) E (defBody st_is_call) g } :=
  ⟨_, fun T c_is_tuple_of c_is_integer c_is_thing f cdv A outer s H E hr => by
    have Sc := sc_is_call
    exact (pds_cons (pds_if (PDW.t (pdw_or (pdt_not (pdt_val (pd_call c_is_tuple_of hr (pda_cons false (pd_var 0) (pda_cons false pd_int pda_nil)) hx_cx (hlen := (aCons_len (aCons_len aNil_len)))))) (pdw_or (pdt_notInS hr (pd_ix (pd_var 0) pd_int) (pd_tup (pda_cons false (pd_gstr T.c_READ) (pda_cons false (pd_gstr T.c_WRITE) pda_nil)))) (pdw_or1 (pdt_not (pdt_val (pd_isi T.b_isinstance T.b_str (by decide +kernel) kStr (pd_ix (pd_var 0) pd_int)))))))) (pds_one (pds_ret pd_bl)) pds_nil)
    (pds_cons (pds_tup (pdg_tup rfl (pdgs_cons 1 Sc.nd (pdgs_cons 2 Sc.nd (pdgs_cons 3 Sc.nd (pdgs_cons 4 Sc.nd (pdgs_cons 5 Sc.nd pdgs_nil)))))) (pd_var 0))
    (pds_cons (pds_if (PDW.t (pdw_or (pdt_not (pdt_val (pd_isi T.b_isinstance T.b_str (by decide +kernel) kStr (pd_var 2)))) (pdw_or (pdt_not (pdt_val (pd_call c_is_thing hr (pda_cons false (pd_var 3) (pda_cons false (pd_gint T.c_MOST_TOLD) pda_nil)) hx_cx (hlen := (aCons_len (aCons_len aNil_len)))))) (pdw_or1 (pdt_not (pdt_val (pd_call c_is_integer hr (pda_cons false (pd_var 4) pda_nil) hx_cx (hlen := (aCons_len aNil_len))))))))) (pds_one (pds_ret pd_bl)) pds_nil)
    (pds_cons (pds_if (PDW.t (pdw_and (pdt_eq hr (pd_var 1) (pd_gstr T.c_WRITE)) (pdw_and1 (pdt_isN (pd_var 3) pd_non)))) (pds_one (pds_ret pd_bl)) pds_nil)
    (pds_one (pds_ret (pd_or (pd_isN (pd_var 5) pd_non) (pd_one (pd_and (pd_call c_is_integer hr (pda_cons false (pd_var 5) pda_nil) hx_cx (hlen := (aCons_len aNil_len))) (pd_one (pd_ltA (pd_var 4) (pd_var 5))))))))))))⟩
@[irreducible] noncomputable def m_is_call : FM := fnOf ["thing", "kind", "name", "told", "begin", "end"] b_is_call.1
theorem df_is_call {P : Program} {w : World} {K : PySem.W.Frag} {mg : Str → Option Value} {base : Heap} (T : Txt K mg) (c_is_tuple_of : Df P w K mg base 1 "is_tuple_of" ["thing", "many"] m_is_tuple_of) (c_is_integer : Df P w K mg base 1 "is_integer" ["thing"] m_is_integer) (c_is_thing : Df P w K mg base 9 "is_thing" ["thing", "deep"] (m_is_thing 7)) : Df P w K mg base 10 "is_call" ["thing"] m_is_call := by
  unfold m_is_call
  obtain ⟨f, fd, Fn, hm⟩ := T.f_is_call
  exact Df.mk' Fn sc_is_call hm (Fn.binds fun _ _ _ _ _ _ us hl => match us, hl with | [_], _ => rfl) (fun cdv A outer s H E hr => b_is_call.2 T c_is_tuple_of c_is_integer c_is_thing f cdv A outer s H E hr)
end K49

set_option Elab.async false
set_option linter.all false
set_option maxRecDepth 100000
set_option maxHeartbeats 4000000
namespace K49
open PySem PySem.Spec PyProof.Rows L2 PD

theorem sc_moments_of : FnScope ["calls", "found", "call", "moment"] ["calls"] (defScope st_moments_of) := ⟨rfl, rfl, rfl, by decide +kernel, rfl, by decide +kernel, by decide +kernel⟩
noncomputable def b_moments_of : { g : SM // ∀ {P : Program} {w : World} {K : PySem.W.Frag} {mg : Str → Option Value} {base : Heap} (T : Txt K mg)  (f : Addr) (cdv : Value) (A : Around) (outer : List Env) (s : Shared) (H : Hp) (E : XK), Room 0 (A.deeper (envOfC "moments_of" (defScope st_moments_of) s.heap.objs.size f cdv)) → PDSs (cxOf (L2.CX P w) P w K mg base ["calls", "found", "call", "moment"] "moments_of" (defScope st_moments_of) f cdv A outer s H E) E (defBody st_moments_of) g } :=
  ⟨_, fun T  f cdv A outer s H E hr => by
    have Sc := sc_moments_of
    exact (pds_cons (pds_set true 1 Sc.nd (pd_lst pda_nil))
    (pds_cons (pds_for (pdi_any (pd_var 0)) (pdg_name 2 Sc.nd) (pds_one (pds_expr (pd_extend (pd_var 1) (pd_lc rfl Sc.nd (pdi_any (pd_slice (pd_var 2) (pdo_some pd_int) pdo_none)) [("moment", 3)] (blkOk_by (N := ["calls", "found", "call", "moment"]) (sc := defScope st_moments_of) (by decide +kernel)) (fun _ _ _ _ _ => (pdg_name 3 Sc.nd)) (gT1_mem 3) (fun _ _ _ _ _ => (pdts_one (pdt_notN (pd_var 3) pd_non))) (fun _ _ _ _ _ => (pd_tup (pda_cons false (pd_ix (pd_var 2) pd_int) (pda_cons false (pd_var 3) pda_nil)))))))) rfl (passes_of rfl))
    (pds_one (pds_ret (pd_var 1)))))⟩
@[irreducible] noncomputable def m_moments_of : FM := fnOf ["calls", "found", "call", "moment"] b_moments_of.1
theorem df_moments_of {P : Program} {w : World} {K : PySem.W.Frag} {mg : Str → Option Value} {base : Heap} (T : Txt K mg)  : Df P w K mg base 1 "moments_of" ["calls"] m_moments_of := by
  unfold m_moments_of
  obtain ⟨f, fd, Fn, hm⟩ := T.f_moments_of
  exact Df.mk' Fn sc_moments_of hm (Fn.binds fun _ _ _ _ _ _ us hl => match us, hl with | [_], _ => rfl) (fun cdv A outer s H E hr => b_moments_of.2 T  f cdv A outer s H E hr)
theorem sc_is_history : FnScope ["thing", "moments", "written", "call", "pair"] ["thing"] (defScope st_is_history) := ⟨rfl, rfl, rfl, by decide +kernel, rfl, by decide +kernel, by decide +kernel⟩
noncomputable def b_is_history : { g : SM // ∀ {P : Program} {w : World} {K : PySem.W.Frag} {mg : Str → Option Value} {base : Heap} (T : Txt K mg) (c_is_call : Df P w K mg base 10 "is_call" ["thing"] m_is_call) (c_moments_of : Df P w K mg base 1 "moments_of" ["calls"] m_moments_of) (f : Addr) (cdv : Value) (A : Around) (outer : List Env) (s : Shared) (H : Hp) (E : XK), Room 10 (A.deeper (envOfC "is_history" (defScope st_is_history) s.heap.objs.size f cdv)) → PDSs (cxOf (L2.CX P w) P w K mg base ["thing", "moments", "written", "call", "pair"] "is_history" (defScope st_is_history) f cdv A outer s H E) E (defBody st_is_history) g } :=
  ⟨_, fun T c_is_call c_moments_of f cdv A outer s H E hr => by
    have Sc := sc_is_history
    exact (pds_cons (pds_if (PDW.t (pdw_or (pdt_not (pdt_val (pd_isi T.b_isinstance T.b_tuple (by decide +kernel) kTup (pd_var 0)))) (pdw_or1 (pdt_not (pdt_val (pd_all T.b_all rfl (pd_lc rfl Sc.nd (pdi_any (pd_var 0)) [("call", 3)] (blkOk_by (N := ["thing", "moments", "written", "call", "pair"]) (sc := defScope st_is_history) (by decide +kernel)) (fun _ _ _ _ _ => (pdg_name 3 Sc.nd)) (gT1_mem 3) (fun _ _ _ _ _ => pdts_nil) (fun _ _ _ _ _ => (pd_call c_is_call hr (pda_cons false (pd_var 3) pda_nil) passL (hlen := (aCons_len aNil_len))))))))))) (pds_one (pds_ret pd_bl)) pds_nil)
    (pds_cons (pds_set false 1 Sc.nd (pd_call c_moments_of hr (pda_cons false (pd_var 0) pda_nil) hx_cx (hlen := (aCons_len aNil_len))))
    (pds_cons (pds_setLc false 2 rfl Sc.nd (pdi_any (pd_var 0)) [("call", 3)] (blkOk_by (N := ["thing", "moments", "written", "call", "pair"]) (sc := defScope st_is_history) (by decide +kernel)) (fun _ _ _ _ _ => (pdg_name 3 Sc.nd)) (gT1_mem 3) (fun _ _ _ _ _ => (pdts_one (pdt_eq hr (pd_ix (pd_var 3) pd_int) (pd_gstr T.c_WRITE)))) (fun _ _ _ _ _ => (pd_slice (pd_var 3) (pdo_some pd_int) (pdo_some pd_int))) (sw_true rfl rfl rfl (by decide +kernel)))
    (pds_cons (pds_if (pdt_ne hr (pd_lenNK 4 T.b_len hr rfl Sc.nd (pd_var 1) (blkOk_by (N := ["thing", "moments", "written", "call", "pair"]) (sc := defScope st_is_history) (by decide +kernel)) (by intros; exact pg_name Sc.nd rfl (by first | exact Or.inl rfl | exact Or.inr rfl)) (by intros; exact pe_var rfl (by first | exact Or.inl rfl | exact Or.inr (Or.inl rfl) | exact Or.inr (Or.inr rfl)))) (pd_len T.b_len (pd_var 1))) (pds_one (pds_ret pd_bl)) pds_nil)
    (pds_one (pds_ret (pd_eq hr (pd_lenNK 4 T.b_len hr rfl Sc.nd (pd_var 2) (blkOk_by (N := ["thing", "moments", "written", "call", "pair"]) (sc := defScope st_is_history) (by decide +kernel)) (by intros; exact pg_name Sc.nd rfl (by first | exact Or.inl rfl | exact Or.inr rfl)) (by intros; exact pe_var rfl (by first | exact Or.inl rfl | exact Or.inr (Or.inl rfl) | exact Or.inr (Or.inr rfl)))) (pd_len T.b_len (pd_var 2)))))))))⟩
@[irreducible] noncomputable def m_is_history : FM := fnOf ["thing", "moments", "written", "call", "pair"] b_is_history.1
theorem df_is_history {P : Program} {w : World} {K : PySem.W.Frag} {mg : Str → Option Value} {base : Heap} (T : Txt K mg) (c_is_call : Df P w K mg base 10 "is_call" ["thing"] m_is_call) (c_moments_of : Df P w K mg base 1 "moments_of" ["calls"] m_moments_of) : Df P w K mg base 11 "is_history" ["thing"] m_is_history := by
  unfold m_is_history
  obtain ⟨f, fd, Fn, hm⟩ := T.f_is_history
  exact Df.mk' Fn sc_is_history hm (Fn.binds fun _ _ _ _ _ _ us hl => match us, hl with | [_], _ => rfl) (fun cdv A outer s H E hr => b_is_history.2 T c_is_call c_moments_of f cdv A outer s H E hr)
theorem sc_check_history : FnScope ["thing"] ["thing"] (defScope st_check_history) := ⟨rfl, rfl, rfl, by decide +kernel, rfl, by decide +kernel, by decide +kernel⟩
noncomputable def b_check_history : { g : SM // ∀ {P : Program} {w : World} {K : PySem.W.Frag} {mg : Str → Option Value} {base : Heap} (T : Txt K mg) (c_is_history : Df P w K mg base 11 "is_history" ["thing"] m_is_history) (f : Addr) (cdv : Value) (A : Around) (outer : List Env) (s : Shared) (H : Hp) (E : XK), Room 11 (A.deeper (envOfC "check_history" (defScope st_check_history) s.heap.objs.size f cdv)) → PDSs (cxOf (L2.CX P w) P w K mg base ["thing"] "check_history" (defScope st_check_history) f cdv A outer s H E) E (defBody st_check_history) g } :=
  ⟨_, fun T c_is_history f cdv A outer s H E hr => by
    have Sc := sc_check_history
    exact (pds_one (pds_if (pdt_not (pdt_val (pd_call c_is_history hr (pda_cons false (pd_var 0) pda_nil) hx_cx (hlen := (aCons_len aNil_len))))) (pds_one (pds_raise T.x_NoHistory rfl tk_cx)) pds_nil))⟩
@[irreducible] noncomputable def m_check_history : FM := fnOf ["thing"] b_check_history.1
theorem df_check_history {P : Program} {w : World} {K : PySem.W.Frag} {mg : Str → Option Value} {base : Heap} (T : Txt K mg) (c_is_history : Df P w K mg base 11 "is_history" ["thing"] m_is_history) : Df P w K mg base 12 "check_history" ["thing"] m_check_history := by
  unfold m_check_history
  obtain ⟨f, fd, Fn, hm⟩ := T.f_check_history
  exact Df.mk' Fn sc_check_history hm (Fn.binds fun _ _ _ _ _ _ us hl => match us, hl with | [_], _ => rfl) (fun cdv A outer s H E hr => b_check_history.2 T c_is_history f cdv A outer s H E hr)
theorem sc_writer_of : FnScope ["history", "call", "index", "other"] ["history", "call"] (defScope st_writer_of) := ⟨rfl, rfl, rfl, by decide +kernel, rfl, by decide +kernel, by decide +kernel⟩
noncomputable def b_writer_of : { g : SM // ∀ {P : Program} {w : World} {K : PySem.W.Frag} {mg : Str → Option Value} {base : Heap} (T : Txt K mg)  (f : Addr) (cdv : Value) (A : Around) (outer : List Env) (s : Shared) (H : Hp) (E : XK), Room 0 (A.deeper (envOfC "writer_of" (defScope st_writer_of) s.heap.objs.size f cdv)) → PDSs (cxOf (L2.CX P w) P w K mg base ["history", "call", "index", "other"] "writer_of" (defScope st_writer_of) f cdv A outer s H E) E (defBody st_writer_of) g } :=
  ⟨_, fun T  f cdv A outer s H E hr => by
    have Sc := sc_writer_of
    exact (pds_cons (pds_for (pdi_enumT T.b_enumerate (pd_var 0)) (pdg_tup rfl (pdgs_cons 2 Sc.nd (pdgs_cons 3 Sc.nd pdgs_nil))) (pds_one (pds_if (PDW.t (pdw_and (pdt_eq hr (pd_ix (pd_var 3) pd_int) (pd_gstr T.c_WRITE)) (pdw_and1 (pdt_eq hr (pd_slice (pd_var 3) (pdo_some pd_int) (pdo_some pd_int)) (pd_slice (pd_var 1) (pdo_some pd_int) (pdo_some pd_int)))))) (pds_one (pds_ret (pd_var 2))) pds_nil)) rfl (passes_of rfl))
    (pds_one (pds_ret pd_non)))⟩
@[irreducible] noncomputable def m_writer_of : FM := fnOf ["history", "call", "index", "other"] b_writer_of.1
theorem df_writer_of {P : Program} {w : World} {K : PySem.W.Frag} {mg : Str → Option Value} {base : Heap} (T : Txt K mg)  : Df P w K mg base 1 "writer_of" ["history", "call"] m_writer_of := by
  unfold m_writer_of
  obtain ⟨f, fd, Fn, hm⟩ := T.f_writer_of
  exact Df.mk' Fn sc_writer_of hm (Fn.binds fun _ _ _ _ _ _ us hl => match us, hl with | [_, _], _ => rfl) (fun cdv A outer s H E hr => b_writer_of.2 T  f cdv A outer s H E hr)
theorem sc_counts : FnScope ["history", "index", "call", "other"] ["history", "index"] (defScope st_counts) := ⟨rfl, rfl, rfl, by decide +kernel, rfl, by decide +kernel, by decide +kernel⟩
noncomputable def b_counts : { g : SM // ∀ {P : Program} {w : World} {K : PySem.W.Frag} {mg : Str → Option Value} {base : Heap} (T : Txt K mg)  (f : Addr) (cdv : Value) (A : Around) (outer : List Env) (s : Shared) (H : Hp) (E : XK), Room 0 (A.deeper (envOfC "counts" (defScope st_counts) s.heap.objs.size f cdv)) → PDSs (cxOf (L2.CX P w) P w K mg base ["history", "index", "call", "other"] "counts" (defScope st_counts) f cdv A outer s H E) E (defBody st_counts) g } :=
  ⟨_, fun T  f cdv A outer s H E hr => by
    have Sc := sc_counts
    exact (pds_cons (pds_set false 2 Sc.nd (pd_ix (pd_var 0) (pd_var 1)))
    (pds_cons (pds_if (pdt_notN (pd_ix (pd_var 2) pd_int) pd_non) (pds_one (pds_ret pd_bl)) pds_nil)
    (pds_cons (pds_if (pdt_eq hr (pd_ix (pd_var 2) pd_int) (pd_gstr T.c_READ)) (pds_one (pds_ret pd_bl)) pds_nil)
    (pds_one (pds_ret (pd_any T.b_any rfl (pd_lc rfl Sc.nd (pdi_any (pd_var 0)) [("other", 3)] (blkOk_by (N := ["history", "index", "call", "other"]) (sc := defScope st_counts) (by decide +kernel)) (fun _ _ _ _ _ => (pdg_name 3 Sc.nd)) (gT1_mem 3) (fun _ _ _ _ _ => pdts_nil) (fun _ _ _ _ _ => (pd_and (pd_eq hr (pd_ix (pd_var 3) pd_int) (pd_gstr T.c_READ)) (pd_and (pd_notN (pd_ix (pd_var 3) pd_int) pd_non) (pd_one (pd_eq hr (pd_slice (pd_var 3) (pdo_some pd_int) (pdo_some pd_int)) (pd_slice (pd_var 2) (pdo_some pd_int) (pdo_some pd_int))))))))))))))⟩
@[irreducible] noncomputable def m_counts : FM := fnOf ["history", "index", "call", "other"] b_counts.1
theorem df_counts {P : Program} {w : World} {K : PySem.W.Frag} {mg : Str → Option Value} {base : Heap} (T : Txt K mg)  : Df P w K mg base 1 "counts" ["history", "index"] m_counts := by
  unfold m_counts
  obtain ⟨f, fd, Fn, hm⟩ := T.f_counts
  exact Df.mk' Fn sc_counts hm (Fn.binds fun _ _ _ _ _ _ us hl => match us, hl with | [_, _], _ => rfl) (fun cdv A outer s H E hr => b_counts.2 T  f cdv A outer s H E hr)
theorem sc_first_end : FnScope ["history", "group", "ended", "index"] ["history", "group"] (defScope st_first_end) := ⟨rfl, rfl, rfl, by decide +kernel, rfl, by decide +kernel, by decide +kernel⟩
noncomputable def b_first_end : { g : SM // ∀ {P : Program} {w : World} {K : PySem.W.Frag} {mg : Str → Option Value} {base : Heap} (T : Txt K mg)  (f : Addr) (cdv : Value) (A : Around) (outer : List Env) (s : Shared) (H : Hp) (E : XK), Room 0 (A.deeper (envOfC "first_end" (defScope st_first_end) s.heap.objs.size f cdv)) → PDSs (cxOf (L2.CX P w) P w K mg base ["history", "group", "ended", "index"] "first_end" (defScope st_first_end) f cdv A outer s H E) E (defBody st_first_end) g } :=
  ⟨_, fun T  f cdv A outer s H E hr => by
    have Sc := sc_first_end
    exact (pds_cons (pds_setLc false 2 rfl Sc.nd (pdi_any (pd_var 1)) [("index", 3)] (blkOk_by (N := ["history", "group", "ended", "index"]) (sc := defScope st_first_end) (by decide +kernel)) (fun _ _ _ _ _ => (pdg_name 3 Sc.nd)) (gT1_mem 3) (fun _ _ _ _ _ => (pdts_one (pdt_notN (pd_ix (pd_ix (pd_var 0) (pd_var 3)) pd_int) pd_non))) (fun _ _ _ _ _ => (pd_tup (pda_cons false (pd_ix (pd_ix (pd_var 0) (pd_var 3)) pd_int) (pda_cons false (pd_var 3) pda_nil)))) (sw_true rfl rfl rfl (by decide +kernel)))
    (pds_one (pds_ret (pd_if (pdt_eq hr (pd_len T.b_len (pd_var 2)) pd_int) pd_non (pd_ix (pd_min1 T.b_min rfl hr (pd_var 2)) pd_int)))))⟩
@[irreducible] noncomputable def m_first_end : FM := fnOf ["history", "group", "ended", "index"] b_first_end.1
theorem df_first_end {P : Program} {w : World} {K : PySem.W.Frag} {mg : Str → Option Value} {base : Heap} (T : Txt K mg)  : Df P w K mg base 1 "first_end" ["history", "group"] m_first_end := by
  unfold m_first_end
  obtain ⟨f, fd, Fn, hm⟩ := T.f_first_end
  exact Df.mk' Fn sc_first_end hm (Fn.binds fun _ _ _ _ _ _ us hl => match us, hl with | [_, _], _ => rfl) (fun cdv A outer s H E hr => b_first_end.2 T  f cdv A outer s H E hr)
theorem sc_last_begin : FnScope ["history", "group", "index"] ["history", "group"] (defScope st_last_begin) := ⟨rfl, rfl, rfl, by decide +kernel, rfl, by decide +kernel, by decide +kernel⟩
noncomputable def b_last_begin : { g : SM // ∀ {P : Program} {w : World} {K : PySem.W.Frag} {mg : Str → Option Value} {base : Heap} (T : Txt K mg)  (f : Addr) (cdv : Value) (A : Around) (outer : List Env) (s : Shared) (H : Hp) (E : XK), Room 0 (A.deeper (envOfC "last_begin" (defScope st_last_begin) s.heap.objs.size f cdv)) → PDSs (cxOf (L2.CX P w) P w K mg base ["history", "group", "index"] "last_begin" (defScope st_last_begin) f cdv A outer s H E) E (defBody st_last_begin) g } :=
  ⟨_, fun T  f cdv A outer s H E hr => by
    have Sc := sc_last_begin
    exact (pds_one (pds_ret (pd_ix (pd_max1 T.b_max rfl hr (pd_lc rfl Sc.nd (pdi_any (pd_var 1)) [("index", 2)] (blkOk_by (N := ["history", "group", "index"]) (sc := defScope st_last_begin) (by decide +kernel)) (fun _ _ _ _ _ => (pdg_name 2 Sc.nd)) (gT1_mem 2) (fun _ _ _ _ _ => pdts_nil) (fun _ _ _ _ _ => (pd_tup (pda_cons false (pd_ix (pd_ix (pd_var 0) (pd_var 2)) pd_int) (pda_cons false (pd_var 2) pda_nil)))))) pd_int)))⟩
@[irreducible] noncomputable def m_last_begin : FM := fnOf ["history", "group", "index"] b_last_begin.1
theorem df_last_begin {P : Program} {w : World} {K : PySem.W.Frag} {mg : Str → Option Value} {base : Heap} (T : Txt K mg)  : Df P w K mg base 1 "last_begin" ["history", "group"] m_last_begin := by
  unfold m_last_begin
  obtain ⟨f, fd, Fn, hm⟩ := T.f_last_begin
  exact Df.mk' Fn sc_last_begin hm (Fn.binds fun _ _ _ _ _ _ us hl => match us, hl with | [_, _], _ => rfl) (fun cdv A outer s H E hr => b_last_begin.2 T  f cdv A outer s H E hr)
theorem sc_is_ahead : FnScope ["history", "one", "other", "first", "last"] ["history", "one", "other"] (defScope st_is_ahead) := ⟨rfl, rfl, rfl, by decide +kernel, rfl, by decide +kernel, by decide +kernel⟩
noncomputable def b_is_ahead : { g : SM // ∀ {P : Program} {w : World} {K : PySem.W.Frag} {mg : Str → Option Value} {base : Heap} (T : Txt K mg) (c_first_end : Df P w K mg base 1 "first_end" ["history", "group"] m_first_end) (c_last_begin : Df P w K mg base 1 "last_begin" ["history", "group"] m_last_begin) (f : Addr) (cdv : Value) (A : Around) (outer : List Env) (s : Shared) (H : Hp) (E : XK), Room 1 (A.deeper (envOfC "is_ahead" (defScope st_is_ahead) s.heap.objs.size f cdv)) → PDSs (cxOf (L2.CX P w) P w K mg base ["history", "one", "other", "first", "last"] "is_ahead" (defScope st_is_ahead) f cdv A outer s H E) E (defBody st_is_ahead) g } :=
  ⟨_, fun T c_first_end c_last_begin f cdv A outer s H E hr => by
    have Sc := sc_is_ahead
    exact (pds_cons (pds_par false false 3 4 rfl Sc.nd (pd_call c_first_end hr (pda_cons false (pd_var 0) (pda_cons false (pd_var 1) pda_nil)) hx_cx (hlen := (aCons_len (aCons_len aNil_len)))) (pd_call c_last_begin hr (pda_cons false (pd_var 0) (pda_cons false (pd_var 2) pda_nil)) hx_cx (hlen := (aCons_len (aCons_len aNil_len)))))
    (pds_one (pds_ret (pd_and (pd_notN (pd_var 3) pd_non) (pd_one (pd_ltA (pd_ix (pd_ix (pd_var 0) (pd_var 3)) pd_int) (pd_ix (pd_ix (pd_var 0) (pd_var 4)) pd_int)))))))⟩
@[irreducible] noncomputable def m_is_ahead : FM := fnOf ["history", "one", "other", "first", "last"] b_is_ahead.1
theorem df_is_ahead {P : Program} {w : World} {K : PySem.W.Frag} {mg : Str → Option Value} {base : Heap} (T : Txt K mg) (c_first_end : Df P w K mg base 1 "first_end" ["history", "group"] m_first_end) (c_last_begin : Df P w K mg base 1 "last_begin" ["history", "group"] m_last_begin) : Df P w K mg base 2 "is_ahead" ["history", "one", "other"] m_is_ahead := by
  unfold m_is_ahead
  obtain ⟨f, fd, Fn, hm⟩ := T.f_is_ahead
  exact Df.mk' Fn sc_is_ahead hm (Fn.binds fun _ _ _ _ _ _ us hl => match us, hl with | [_, _, _], _ => rfl) (fun cdv A outer s H E hr => b_is_ahead.2 T c_first_end c_last_begin f cdv A outer s H E hr)
theorem sc_single_bar : FnScope ["history", "index", "call", "writer"] ["history"] (defScope st_single_bar) := ⟨rfl, rfl, rfl, by decide +kernel, rfl, by decide +kernel, by decide +kernel⟩
noncomputable def b_single_bar : { g : SM // ∀ {P : Program} {w : World} {K : PySem.W.Frag} {mg : Str → Option Value} {base : Heap} (T : Txt K mg) (c_writer_of : Df P w K mg base 1 "writer_of" ["history", "call"] m_writer_of) (f : Addr) (cdv : Value) (A : Around) (outer : List Env) (s : Shared) (H : Hp) (E : XK), Room 1 (A.deeper (envOfC "single_bar" (defScope st_single_bar) s.heap.objs.size f cdv)) → PDSs (cxOf (L2.CX P w) P w K mg base ["history", "index", "call", "writer"] "single_bar" (defScope st_single_bar) f cdv A outer s H E) E (defBody st_single_bar) g } :=
  ⟨_, fun T c_writer_of f cdv A outer s H E hr => by
    have Sc := sc_single_bar
    exact (pds_cons (pds_for (pdi_enumT T.b_enumerate (pd_var 0)) (pdg_tup rfl (pdgs_cons 1 Sc.nd (pdgs_cons 2 Sc.nd pdgs_nil))) (pds_one (pds_if (PDW.t (pdw_and (pdt_eq hr (pd_ix (pd_var 2) pd_int) (pd_gstr T.c_READ)) (pdw_and (pdt_notN (pd_ix (pd_var 2) pd_int) pd_non) (pdw_and1 (pdt_notN (pd_ix (pd_var 2) pd_int) pd_non))))) (pds_cons (pds_set false 3 Sc.nd (pd_call c_writer_of hr (pda_cons false (pd_var 0) (pda_cons false (pd_var 2) pda_nil)) hx_cx (hlen := (aCons_len (aCons_len aNil_len)))))
    (pds_cons (pds_if (pdt_isN (pd_var 3) pd_non) (pds_one (pds_ret (pd_tup (pda_cons false pd_str (pda_cons false (pd_var 1) pda_nil))))) pds_nil)
    (pds_one (pds_if (pdt_ltA (pd_ix (pd_var 2) pd_int) (pd_ix (pd_ix (pd_var 0) (pd_var 3)) pd_int)) (pds_one (pds_ret (pd_tup (pda_cons false pd_str (pda_cons false (pd_var 1) pda_nil))))) pds_nil)))) pds_nil)) rfl (passes_of rfl))
    (pds_one (pds_ret pd_non)))⟩
@[irreducible] noncomputable def m_single_bar : FM := fnOf ["history", "index", "call", "writer"] b_single_bar.1
theorem df_single_bar {P : Program} {w : World} {K : PySem.W.Frag} {mg : Str → Option Value} {base : Heap} (T : Txt K mg) (c_writer_of : Df P w K mg base 1 "writer_of" ["history", "call"] m_writer_of) : Df P w K mg base 2 "single_bar" ["history"] m_single_bar := by
  unfold m_single_bar
  obtain ⟨f, fd, Fn, hm⟩ := T.f_single_bar
  exact Df.mk' Fn sc_single_bar hm (Fn.binds fun _ _ _ _ _ _ us hl => match us, hl with | [_], _ => rfl) (fun cdv A outer s H E hr => b_single_bar.2 T c_writer_of f cdv A outer s H E hr)
theorem sc_crossed : FnScope ["history", "one", "other", "ends", "begins"] ["history", "one", "other"] (defScope st_crossed) := ⟨rfl, rfl, rfl, by decide +kernel, rfl, by decide +kernel, by decide +kernel⟩
noncomputable def b_crossed : { g : SM // ∀ {P : Program} {w : World} {K : PySem.W.Frag} {mg : Str → Option Value} {base : Heap} (T : Txt K mg) (c_first_end : Df P w K mg base 1 "first_end" ["history", "group"] m_first_end) (c_last_begin : Df P w K mg base 1 "last_begin" ["history", "group"] m_last_begin) (f : Addr) (cdv : Value) (A : Around) (outer : List Env) (s : Shared) (H : Hp) (E : XK), Room 1 (A.deeper (envOfC "crossed" (defScope st_crossed) s.heap.objs.size f cdv)) → PDSs (cxOf (L2.CX P w) P w K mg base ["history", "one", "other", "ends", "begins"] "crossed" (defScope st_crossed) f cdv A outer s H E) E (defBody st_crossed) g } :=
  ⟨_, fun T c_first_end c_last_begin f cdv A outer s H E hr => by
    have Sc := sc_crossed
    exact (pds_cons (pds_set false 3 Sc.nd (pd_tup (pda_cons false (pd_call c_first_end hr (pda_cons false (pd_var 0) (pda_cons false (pd_var 1) pda_nil)) hx_cx (hlen := (aCons_len (aCons_len aNil_len)))) (pda_cons false (pd_call c_first_end hr (pda_cons false (pd_var 0) (pda_cons false (pd_var 2) pda_nil)) hx_cx (hlen := (aCons_len (aCons_len aNil_len)))) pda_nil))))
    (pds_cons (pds_set false 4 Sc.nd (pd_tup (pda_cons false (pd_call c_last_begin hr (pda_cons false (pd_var 0) (pda_cons false (pd_var 1) pda_nil)) hx_cx (hlen := (aCons_len (aCons_len aNil_len)))) (pda_cons false (pd_call c_last_begin hr (pda_cons false (pd_var 0) (pda_cons false (pd_var 2) pda_nil)) hx_cx (hlen := (aCons_len (aCons_len aNil_len)))) pda_nil))))
    (pds_one (pds_ret (pd_tup (pda_cons false pd_str (pda_cons false (pd_ix (pd_var 3) pd_int) (pda_cons false (pd_ix (pd_var 4) pd_int) (pda_cons false (pd_ix (pd_var 4) pd_int) (pda_cons false (pd_ix (pd_var 3) pd_int) pda_nil))))))))))⟩
@[irreducible] noncomputable def m_crossed : FM := fnOf ["history", "one", "other", "ends", "begins"] b_crossed.1
theorem df_crossed {P : Program} {w : World} {K : PySem.W.Frag} {mg : Str → Option Value} {base : Heap} (T : Txt K mg) (c_first_end : Df P w K mg base 1 "first_end" ["history", "group"] m_first_end) (c_last_begin : Df P w K mg base 1 "last_begin" ["history", "group"] m_last_begin) : Df P w K mg base 2 "crossed" ["history", "one", "other"] m_crossed := by
  unfold m_crossed
  obtain ⟨f, fd, Fn, hm⟩ := T.f_crossed
  exact Df.mk' Fn sc_crossed hm (Fn.binds fun _ _ _ _ _ _ us hl => match us, hl with | [_, _, _], _ => rfl) (fun cdv A outer s H E hr => b_crossed.2 T c_first_end c_last_begin f cdv A outer s H E hr)
theorem sc_tail : FnScope ["history", "group", "reads", "index", "begin"] ["history", "group"] (defScope st_tail) := ⟨rfl, rfl, rfl, by decide +kernel, rfl, by decide +kernel, by decide +kernel⟩
noncomputable def b_tail : { g : SM // ∀ {P : Program} {w : World} {K : PySem.W.Frag} {mg : Str → Option Value} {base : Heap} (T : Txt K mg)  (f : Addr) (cdv : Value) (A : Around) (outer : List Env) (s : Shared) (H : Hp) (E : XK), Room 0 (A.deeper (envOfC "tail" (defScope st_tail) s.heap.objs.size f cdv)) → PDSs (cxOf (L2.CX P w) P w K mg base ["history", "group", "reads", "index", "begin"] "tail" (defScope st_tail) f cdv A outer s H E) E (defBody st_tail) g } :=
  ⟨_, fun T  f cdv A outer s H E hr => by
    have Sc := sc_tail
    exact (pds_cons (pds_set false 2 Sc.nd (pd_sort T.b_sorted hr (pd_lc rfl Sc.nd (pdi_any (pd_var 1)) [("index", 3)] (blkOk_by (N := ["history", "group", "reads", "index", "begin"]) (sc := defScope st_tail) (by decide +kernel)) (fun _ _ _ _ _ => (pdg_name 3 Sc.nd)) (gT1_mem 3) (fun _ _ _ _ _ => (pdts_one (pdt_eq hr (pd_ix (pd_ix (pd_var 0) (pd_var 3)) pd_int) (pd_gstr T.c_READ)))) (fun _ _ _ _ _ => (pd_tup (pda_cons false (pd_ix (pd_ix (pd_var 0) (pd_var 3)) pd_int) (pda_cons false (pd_var 3) pda_nil)))))))
    (pds_one (pds_ret (pd_add (pd_lc rfl Sc.nd (pdi_any (pd_var 1)) [("index", 3)] (blkOk_by (N := ["history", "group", "reads", "index", "begin"]) (sc := defScope st_tail) (by decide +kernel)) (fun _ _ _ _ _ => (pdg_name 3 Sc.nd)) (gT1_mem 3) (fun _ _ _ _ _ => (pdts_one (pdt_eq hr (pd_ix (pd_ix (pd_var 0) (pd_var 3)) pd_int) (pd_gstr T.c_WRITE)))) (fun _ _ _ _ _ => (pd_var 3))) (pd_lc rfl Sc.nd (pdi_any (pd_var 2)) [("begin", 4), ("index", 3)] (blkOk_by (N := ["history", "group", "reads", "index", "begin"]) (sc := defScope st_tail) (by decide +kernel)) (fun _ _ _ _ _ => (pdg_tup rfl (pdgs_cons 4 Sc.nd (pdgs_cons 3 Sc.nd pdgs_nil)))) (gTupT_mem [4, 3]) (fun _ _ _ _ _ => pdts_nil) (fun _ _ _ _ _ => (pd_var 3)))))))⟩
@[irreducible] noncomputable def m_tail : FM := fnOf ["history", "group", "reads", "index", "begin"] b_tail.1
theorem df_tail {P : Program} {w : World} {K : PySem.W.Frag} {mg : Str → Option Value} {base : Heap} (T : Txt K mg)  : Df P w K mg base 1 "tail" ["history", "group"] m_tail := by
  unfold m_tail
  obtain ⟨f, fd, Fn, hm⟩ := T.f_tail
  exact Df.mk' Fn sc_tail hm (Fn.binds fun _ _ _ _ _ _ us hl => match us, hl with | [_, _], _ => rfl) (fun cdv A outer s H E hr => b_tail.2 T  f cdv A outer s H E hr)
theorem sc_tells : FnScope ["call"] ["call"] (defScope st_tells) := ⟨rfl, rfl, rfl, by decide +kernel, rfl, by decide +kernel, by decide +kernel⟩
noncomputable def b_tells : { g : SM // ∀ {P : Program} {w : World} {K : PySem.W.Frag} {mg : Str → Option Value} {base : Heap} (T : Txt K mg)  (f : Addr) (cdv : Value) (A : Around) (outer : List Env) (s : Shared) (H : Hp) (E : XK), Room 0 (A.deeper (envOfC "tells" (defScope st_tells) s.heap.objs.size f cdv)) → PDSs (cxOf (L2.CX P w) P w K mg base ["call"] "tells" (defScope st_tells) f cdv A outer s H E) E (defBody st_tells) g } :=
  ⟨_, fun T  f cdv A outer s H E hr => by
    have Sc := sc_tells
    exact (pds_one (pds_ret (pd_and (pd_notN (pd_ix (pd_var 0) pd_int) pd_non) (pd_one (pd_or (pd_eq hr (pd_ix (pd_var 0) pd_int) (pd_gstr T.c_WRITE)) (pd_one (pd_notN (pd_ix (pd_var 0) pd_int) pd_non)))))))⟩
@[irreducible] noncomputable def m_tells : FM := fnOf ["call"] b_tells.1
theorem df_tells {P : Program} {w : World} {K : PySem.W.Frag} {mg : Str → Option Value} {base : Heap} (T : Txt K mg)  : Df P w K mg base 1 "tells" ["call"] m_tells := by
  unfold m_tells
  obtain ⟨f, fd, Fn, hm⟩ := T.f_tells
  exact Df.mk' Fn sc_tells hm (Fn.binds fun _ _ _ _ _ _ us hl => match us, hl with | [_], _ => rfl) (fun cdv A outer s H E hr => b_tells.2 T  f cdv A outer s H E hr)
end K49

set_option Elab.async false
set_option linter.all false
set_option maxRecDepth 100000
set_option maxHeartbeats 4000000
namespace K49
open PySem PySem.Spec PyProof.Rows L2 PD

theorem sc_w_hand : FnScope ["_law_script", "_law_cells", "_law_cell"] ["_law_script"] (defScope st_w_hand) := ⟨rfl, rfl, rfl, by decide +kernel, rfl, by decide +kernel, by decide +kernel⟩
noncomputable def b_w_hand : { g : SM // ∀ {P : Program} {w : World} {K : PySem.W.Frag} {mg : Str → Option Value} {base : Heap} (T : Txt K mg)  (f : Addr) (cdv : Value) (A : Around) (outer : List Env) (s : Shared) (H : Hp) (E : XK), Room 0 (A.deeper (envOfC "_law_hand" (defScope st_w_hand) s.heap.objs.size f cdv)) → PDSs (cxOf (L2.CX P w) P w K mg base ["_law_script", "_law_cells", "_law_cell"] "_law_hand" (defScope st_w_hand) f cdv A outer s H E) E (defBody st_w_hand) g } :=
  ⟨_, fun T  f cdv A outer s H E hr => by
    have Sc := sc_w_hand
    exact (pds_cons (pds_setLc false 1 rfl Sc.nd (pdi_any (pd_slice (pd_var 0) pdo_none (pdo_some pd_int))) [("_law_cell", 2)] (blkOk_by (N := ["_law_script", "_law_cells", "_law_cell"]) (sc := defScope st_w_hand) (by decide +kernel)) (fun _ _ _ _ _ => (pdg_name 2 Sc.nd)) (gT1_mem 2) (fun _ _ _ _ _ => pdts_nil) (fun _ _ _ _ _ => (pd_abs T.b_abs (pd_intC T.b_int (pd_var 2)))) (sw_true rfl rfl rfl (by decide +kernel)))
    (pds_one (pds_ret (pd_lst (pda_cons false (pd_var 1) (pda_cons false pd_int (pda_cons false pd_int (pda_cons false (pd_add pd_int (pd_len T.b_len (pd_var 1))) (pda_cons false pd_int pda_nil)))))))))⟩
@[irreducible] noncomputable def m_w_hand : FM := fnOf ["_law_script", "_law_cells", "_law_cell"] b_w_hand.1
theorem df_w_hand {P : Program} {w : World} {K : PySem.W.Frag} {mg : Str → Option Value} {base : Heap} (T : Txt K mg)  : Df P w K mg base 1 "_law_hand" ["_law_script"] m_w_hand := by
  unfold m_w_hand
  obtain ⟨f, fd, Fn, hm⟩ := T.f_w_hand
  exact Df.mk' Fn sc_w_hand hm (Fn.binds fun _ _ _ _ _ _ us hl => match us, hl with | [_], _ => rfl) (fun cdv A outer s H E hr => b_w_hand.2 T  f cdv A outer s H E hr)
theorem sc_w_draw : FnScope ["_law_hand_here", "_law_many", "_law_number", "_law_cell", "_law_digit"] ["_law_hand_here", "_law_many"] (defScope st_w_draw) := ⟨rfl, rfl, rfl, by decide +kernel, rfl, by decide +kernel, by decide +kernel⟩
noncomputable def b_w_draw : { g : SM // ∀ {P : Program} {w : World} {K : PySem.W.Frag} {mg : Str → Option Value} {base : Heap} (T : Txt K mg)  (f : Addr) (cdv : Value) (A : Around) (outer : List Env) (s : Shared) (H : Hp) (E : XK), Room 0 (A.deeper (envOfC "_law_draw" (defScope st_w_draw) s.heap.objs.size f cdv)) → PDSs (cxOf (L2.CX P w) P w K mg base ["_law_hand_here", "_law_many", "_law_number", "_law_cell", "_law_digit"] "_law_draw" (defScope st_w_draw) f cdv A outer s H E) E (defBody st_w_draw) g } :=
  ⟨_, fun T  f cdv A outer s H E hr => by
    have Sc := sc_w_draw
    exact (pds_cons (pds_if (PDW.t (pdw_and (pdt_eq hr (pd_ix (pd_var 0) pd_int) pd_int) (pdw_and1 (pdt_ltA (pd_ix (pd_var 0) pd_int) (pd_len T.b_len (pd_ix (pd_var 0) pd_int)))))) (pds_cons (pds_set false 3 Sc.nd (pd_ix (pd_ix (pd_var 0) pd_int) (pd_ix (pd_var 0) pd_int)))
    (pds_cons (pds_item (pd_add (pd_ix (pd_var 0) pd_int) pd_int) (pd_var 0) pd_int)
    (pds_cons (pds_item (pd_mod (pd_intC T.b_int (pd_add (pd_add (pd_mul (pd_ix (pd_var 0) pd_int) pd_int) (pd_var 3)) pd_int)) pd_int) (pd_var 0) pd_int)
    (pds_one (pds_if (pdt_geA (pd_var 3) (pd_pow pd_int pd_int)) (pds_one (pds_item (pd_var 3) (pd_var 0) pd_int)) pds_nil))))) pds_nil)
    (pds_cons (pds_if (pdt_gtA (pd_ix (pd_var 0) pd_int) pd_int) (pds_cons (pds_set false 4 Sc.nd (pd_mod (pd_intC T.b_int (pd_ix (pd_var 0) pd_int)) (pd_var 1)))
    (pds_cons (pds_item (pd_div (pd_ix (pd_var 0) pd_int) (pd_var 1)) (pd_var 0) pd_int)
    (pds_one (pds_ret (pd_var 4))))) pds_nil)
    (pds_cons (pds_item (pd_add (pd_ix (pd_var 0) pd_int) pd_int) (pd_var 0) pd_int)
    (pds_cons (pds_set false 2 Sc.nd (pd_mod (pd_intC T.b_int (pd_mul (pd_intC T.b_int (pd_add (pd_ix (pd_var 0) pd_int) (pd_mul pd_int (pd_ix (pd_var 0) pd_int)))) pd_int)) pd_int))
    (pds_cons (pds_set false 2 Sc.nd (pd_mod (pd_intC T.b_int (pd_mul (pd_var 2) (pd_add (pd_div (pd_var 2) pd_int) pd_int))) pd_int))
    (pds_cons (pds_set false 2 Sc.nd (pd_mod (pd_intC T.b_int (pd_mul (pd_var 2) (pd_add (pd_div (pd_var 2) pd_int) pd_int))) pd_int))
    (pds_one (pds_ret (pd_mod (pd_intC T.b_int (pd_div (pd_var 2) pd_int)) (pd_var 1))))))))))⟩
@[irreducible] noncomputable def m_w_draw : FM := fnOf ["_law_hand_here", "_law_many", "_law_number", "_law_cell", "_law_digit"] b_w_draw.1
theorem df_w_draw {P : Program} {w : World} {K : PySem.W.Frag} {mg : Str → Option Value} {base : Heap} (T : Txt K mg)  : Df P w K mg base 1 "_law_draw" ["_law_hand_here", "_law_many"] m_w_draw := by
  unfold m_w_draw
  obtain ⟨f, fd, Fn, hm⟩ := T.f_w_draw
  exact Df.mk' Fn sc_w_draw hm (Fn.binds fun _ _ _ _ _ _ us hl => match us, hl with | [_, _], _ => rfl) (fun cdv A outer s H E hr => b_w_draw.2 T  f cdv A outer s H E hr)
theorem sc_w_call : FnScope ["_law_hand_here", "_law_moments", "_law_told", "_law_begin", "_law_later", "_law_end", "_law_moment"] ["_law_hand_here", "_law_moments", "_law_told"] (defScope st_w_call) := ⟨rfl, rfl, rfl, by decide +kernel, rfl, by decide +kernel, by decide +kernel⟩
noncomputable def b_w_call : { g : SM // ∀ {P : Program} {w : World} {K : PySem.W.Frag} {mg : Str → Option Value} {base : Heap} (T : Txt K mg) (c_w_draw : Df P w K mg base 1 "_law_draw" ["_law_hand_here", "_law_many"] m_w_draw) (f : Addr) (cdv : Value) (A : Around) (outer : List Env) (s : Shared) (H : Hp) (E : XK), Room 1 (A.deeper (envOfC "_law_call" (defScope st_w_call) s.heap.objs.size f cdv)) → PDSs (cxOf (L2.CX P w) P w K mg base ["_law_hand_here", "_law_moments", "_law_told", "_law_begin", "_law_later", "_law_end", "_law_moment"] "_law_call" (defScope st_w_call) f cdv A outer s H E) E (defBody st_w_call) g } :=
  ⟨_, fun T c_w_draw f cdv A outer s H E hr => by
    have Sc := sc_w_call
    exact (pds_cons (pds_set false 3 Sc.nd (pd_popAt (pd_var 1) (pd_call c_w_draw hr (pda_cons true (pd_var 0) (pda_cons false (pd_len T.b_len (pd_var 1)) pda_nil)) hx_cx (hlen := (aCons_len (aCons_len aNil_len))))))
    (pds_cons (pds_setLcC false 4 rfl Sc.nd (pd_var 1) [("_law_moment", 6)] (blkOk_by (N := ["_law_hand_here", "_law_moments", "_law_told", "_law_begin", "_law_later", "_law_end", "_law_moment"]) (sc := defScope st_w_call) (by decide +kernel)) (fun _ _ _ _ _ => (pdg_name 6 Sc.nd)) (gT1_mem 6) (fun _ _ _ _ _ => (pdts_one (pdt_gtA (pd_var 6) (pd_var 3)))) (fun _ _ _ _ _ => (pd_var 6)) (sw_true rfl rfl rfl (by decide +kernel)))
    (pds_cons (pds_set false 5 Sc.nd pd_non)
    (pds_cons (pds_if (PDW.t (pdw_and (pdt_ne hr (pd_var 4) (pd_lst pda_nil)) (pdw_and1 (pdt_gtA (pd_call c_w_draw hr (pda_cons true (pd_var 0) (pda_cons false pd_int pda_nil)) hx_cx (hlen := (aCons_len (aCons_len aNil_len)))) pd_int)))) (pds_cons (pds_set false 5 Sc.nd (pd_ix (pd_var 4) (pd_call c_w_draw hr (pda_cons true (pd_var 0) (pda_cons false (pd_min2 T.b_min rfl (pd_len T.b_len (pd_var 4)) pd_int) pda_nil)) hx_cx (hlen := (aCons_len (aCons_len aNil_len))))))
    (pds_one (pds_expr (pd_remove hr (pd_var 1) (pd_var 5))))) pds_nil)
    (pds_one (pds_ret (pd_tup (pda_cons false (pd_var 3) (pda_cons false (pd_var 5) pda_nil)))))))))⟩
@[irreducible] noncomputable def m_w_call : FM := fnOf ["_law_hand_here", "_law_moments", "_law_told", "_law_begin", "_law_later", "_law_end", "_law_moment"] b_w_call.1
theorem df_w_call {P : Program} {w : World} {K : PySem.W.Frag} {mg : Str → Option Value} {base : Heap} (T : Txt K mg) (c_w_draw : Df P w K mg base 1 "_law_draw" ["_law_hand_here", "_law_many"] m_w_draw) : Df P w K mg base 2 "_law_call" ["_law_hand_here", "_law_moments", "_law_told"] m_w_call := by
  unfold m_w_call
  obtain ⟨f, fd, Fn, hm⟩ := T.f_w_call
  exact Df.mk' Fn sc_w_call hm (Fn.binds fun _ _ _ _ _ _ us hl => match us, hl with | [_, _, _], _ => rfl) (fun cdv A outer s H E hr => b_w_call.2 T c_w_draw f cdv A outer s H E hr)
theorem sc_w_read : FnScope ["_law_hand_here", "_law_call_here", "_law_written", "_law_some", "_law_told"] ["_law_hand_here", "_law_call_here", "_law_written"] (defScope st_w_read) := ⟨rfl, rfl, rfl, by decide +kernel, rfl, by decide +kernel, by decide +kernel⟩
noncomputable def b_w_read : { g : SM // ∀ {P : Program} {w : World} {K : PySem.W.Frag} {mg : Str → Option Value} {base : Heap} (T : Txt K mg) (c_w_draw : Df P w K mg base 1 "_law_draw" ["_law_hand_here", "_law_many"] m_w_draw) (f : Addr) (cdv : Value) (A : Around) (outer : List Env) (s : Shared) (H : Hp) (E : XK), Room 1 (A.deeper (envOfC "_law_read" (defScope st_w_read) s.heap.objs.size f cdv)) → PDSs (cxOf (L2.CX P w) P w K mg base ["_law_hand_here", "_law_call_here", "_law_written", "_law_some", "_law_told"] "_law_read" (defScope st_w_read) f cdv A outer s H E) E (defBody st_w_read) g } :=
  ⟨_, fun T c_w_draw f cdv A outer s H E hr => by
    have Sc := sc_w_read
    exact (pds_cons (pds_if (pdt_eq hr (pd_ix (pd_var 1) pd_int) pd_str) (pds_one (pds_ret (pd_var 1))) pds_nil)
    (pds_cons (pds_setLcC false 3 rfl Sc.nd (pd_var 2) [("_law_told", 4)] (blkOk_by (N := ["_law_hand_here", "_law_call_here", "_law_written", "_law_some", "_law_told"]) (sc := defScope st_w_read) (by decide +kernel)) (fun _ _ _ _ _ => (pdg_name 4 Sc.nd)) (gT1_mem 4) (fun _ _ _ _ _ => (pdts_one (pdt_eq hr (pd_ix (pd_var 4) pd_int) (pd_ix (pd_var 1) pd_int)))) (fun _ _ _ _ _ => (pd_var 4)) (sw_true rfl rfl rfl (by decide +kernel)))
    (pds_cons (pds_set false 4 Sc.nd pd_non)
    (pds_cons (pds_if (PDW.t (pdw_and (pdt_ne hr (pd_var 3) (pd_lst pda_nil)) (pdw_and1 (pdt_gtA (pd_call c_w_draw hr (pda_cons true (pd_var 0) (pda_cons false pd_int pda_nil)) hx_cx (hlen := (aCons_len (aCons_len aNil_len)))) pd_int)))) (pds_one (pds_set false 4 Sc.nd (pd_ix (pd_var 3) (pd_call c_w_draw hr (pda_cons true (pd_var 0) (pda_cons false (pd_len T.b_len (pd_var 3)) pda_nil)) hx_cx (hlen := (aCons_len (aCons_len aNil_len))))))) pds_nil)
    (pds_cons (pds_if (pdt_eq hr (pd_call c_w_draw hr (pda_cons true (pd_var 0) (pda_cons false pd_int pda_nil)) hx_cx (hlen := (aCons_len (aCons_len aNil_len)))) pd_int) (pds_one (pds_set false 4 Sc.nd pd_str)) pds_nil)
    (pds_one (pds_ret (pd_add (pd_add (pd_slice (pd_var 1) pdo_none (pdo_some pd_int)) (pd_tup (pda_cons false (pd_var 4) pda_nil))) (pd_slice (pd_var 1) (pdo_some pd_int) pdo_none)))))))))⟩
@[irreducible] noncomputable def m_w_read : FM := fnOf ["_law_hand_here", "_law_call_here", "_law_written", "_law_some", "_law_told"] b_w_read.1
theorem df_w_read {P : Program} {w : World} {K : PySem.W.Frag} {mg : Str → Option Value} {base : Heap} (T : Txt K mg) (c_w_draw : Df P w K mg base 1 "_law_draw" ["_law_hand_here", "_law_many"] m_w_draw) : Df P w K mg base 2 "_law_read" ["_law_hand_here", "_law_call_here", "_law_written"] m_w_read := by
  unfold m_w_read
  obtain ⟨f, fd, Fn, hm⟩ := T.f_w_read
  exact Df.mk' Fn sc_w_read hm (Fn.binds fun _ _ _ _ _ _ us hl => match us, hl with | [_, _, _], _ => rfl) (fun cdv A outer s H E hr => b_w_read.2 T c_w_draw f cdv A outer s H E hr)
theorem sc_w_is_int : FnScope ["_law_thing"] ["_law_thing"] (defScope st_w_is_int) := ⟨rfl, rfl, rfl, by decide +kernel, rfl, by decide +kernel, by decide +kernel⟩
noncomputable def b_w_is_int : { g : SM // ∀ {P : Program} {w : World} {K : PySem.W.Frag} {mg : Str → Option Value} {base : Heap} (T : Txt K mg)  (f : Addr) (cdv : Value) (A : Around) (outer : List Env) (s : Shared) (H : Hp) (E : XK), Room 0 (A.deeper (envOfC "_law_is_int" (defScope st_w_is_int) s.heap.objs.size f cdv)) → PDSs (cxOf (L2.CX P w) P w K mg base ["_law_thing"] "_law_is_int" (defScope st_w_is_int) f cdv A outer s H E) E (defBody st_w_is_int) g } :=
  ⟨_, fun T  f cdv A outer s H E hr => by
    have Sc := sc_w_is_int
    exact (pds_one (pds_ret (pd_and (pd_isi T.b_isinstance T.b_int (by decide +kernel) kInt (pd_var 0)) (pd_one (pd_not (pd_isi T.b_isinstance T.b_bool (by decide +kernel) kBool (pd_var 0)))))))⟩
@[irreducible] noncomputable def m_w_is_int : FM := fnOf ["_law_thing"] b_w_is_int.1
theorem df_w_is_int {P : Program} {w : World} {K : PySem.W.Frag} {mg : Str → Option Value} {base : Heap} (T : Txt K mg)  : Df P w K mg base 1 "_law_is_int" ["_law_thing"] m_w_is_int := by
  unfold m_w_is_int
  obtain ⟨f, fd, Fn, hm⟩ := T.f_w_is_int
  exact Df.mk' Fn sc_w_is_int hm (Fn.binds fun _ _ _ _ _ _ us hl => match us, hl with | [_], _ => rfl) (fun cdv A outer s H E hr => b_w_is_int.2 T  f cdv A outer s H E hr)
theorem sc_w_is_thing : FnScope ["_law_thing", "_law_deep_here", "_law_sign", "_law_one"] ["_law_thing", "_law_deep_here"] (defScope st_w_is_thing) := ⟨rfl, rfl, rfl, by decide +kernel, rfl, by decide +kernel, by decide +kernel⟩
noncomputable def b_w_is_thing (m : FM) : { g : SM // ∀ {P : Program} {w : World} {K : PySem.W.Frag} {mg : Str → Option Value} {base : Heap} (T : Txt K mg) (l : Nat) (hl : 1 ≤ l) (c_w_is_int : Df P w K mg base 1 "_law_is_int" ["_law_thing"] m_w_is_int) (c_w_is_thing : Df P w K mg base l "_law_is_thing" ["_law_thing", "_law_deep_here"] m) (f : Addr) (cdv : Value) (A : Around) (outer : List Env) (s : Shared) (H : Hp) (E : XK), Room l (A.deeper (envOfC "_law_is_thing" (defScope st_w_is_thing) s.heap.objs.size f cdv)) → PDSs (cxOf (L2.CX P w) P w K mg base ["_law_thing", "_law_deep_here", "_law_sign", "_law_one"] "_law_is_thing" (defScope st_w_is_thing) f cdv A outer s H E) E (defBody st_w_is_thing) g } :=
  ⟨_, fun T l hl c_w_is_int c_w_is_thing f cdv A outer s H E hr => by
    have Sc := sc_w_is_thing
    exact (pds_cons (pds_if (PDW.t (pdw_or (pdt_isN (pd_var 0) pd_non) (pdw_or1 (pdt_val (pd_call c_w_is_int (hr.mono (by omega)) (hkj := Nat.le_refl _) (pda_cons false (pd_var 0) pda_nil) hx_cx (hlen := (aCons_len aNil_len))))))) (pds_one (pds_ret pd_bl)) pds_nil)
    (pds_cons (pds_if (pdt_val (pd_isi T.b_isinstance T.b_str (by decide +kernel) kStr (pd_var 0))) (pds_one (pds_ret (pd_all T.b_all rfl (pd_lc rfl Sc.nd (pdi_any (pd_var 0)) [("_law_sign", 2)] (blkOk_by (N := ["_law_thing", "_law_deep_here", "_law_sign", "_law_one"]) (sc := defScope st_w_is_thing) (by decide +kernel)) (fun _ _ _ _ _ => (pdg_name 2 Sc.nd)) (gT1_mem 2) (fun _ _ _ _ _ => pdts_nil) (fun _ _ _ _ _ => (pd_leLe pd_str (pd_var 2) pd_str)))))) pds_nil)
    (pds_one (pds_ret (pd_and (pd_isi T.b_isinstance T.b_tuple (by decide +kernel) kTup (pd_var 0)) (pd_and (pd_gtA (pd_var 1) pd_int) (pd_one (pd_all T.b_all rfl (pd_lc rfl Sc.nd (pdi_any (pd_var 0)) [("_law_one", 3)] (blkOk_by (N := ["_law_thing", "_law_deep_here", "_law_sign", "_law_one"]) (sc := defScope st_w_is_thing) (by decide +kernel)) (fun _ _ _ _ _ => (pdg_name 3 Sc.nd)) (gT1_mem 3) (fun _ _ _ _ _ => pdts_nil) (fun _ _ _ _ _ => (pd_call c_w_is_thing hr (pda_cons false (pd_var 3) (pda_cons false (pd_subI (pd_var 1) pd_int) pda_nil)) passL (hlen := (aCons_len (aCons_len aNil_len))) (hkj := Nat.le_refl _))))))))))))⟩
noncomputable def m_w_is_thing : Nat → FM
  | 0 => fun _ _ => .bad
  | n + 1 => fnOf ["_law_thing", "_law_deep_here", "_law_sign", "_law_one"] (b_w_is_thing (m_w_is_thing n)).1
theorem df_w_is_thing {P : Program} {w : World} {K : PySem.W.Frag} {mg : Str → Option Value} {base : Heap} (T : Txt K mg) (c_w_is_int : Df P w K mg base 1 "_law_is_int" ["_law_thing"] m_w_is_int) : ∀ n, Df P w K mg base (1 + n) "_law_is_thing" ["_law_thing", "_law_deep_here"] (m_w_is_thing n)
  | 0 => by
    obtain ⟨f, fd, Fn, hm⟩ := T.f_w_is_thing
    exact (Df.bad Fn sc_w_is_thing hm (Fn.binds fun _ _ _ _ _ _ us hl => match us, hl with | [_, _], _ => rfl)).mono (Nat.zero_le _)
  | n + 1 => by
    obtain ⟨f, fd, Fn, hm⟩ := T.f_w_is_thing
    exact Df.mk' Fn sc_w_is_thing hm (Fn.binds fun _ _ _ _ _ _ us hl => match us, hl with | [_, _], _ => rfl) (fun cdv A outer s H E hr => (b_w_is_thing (m_w_is_thing n)).2 T (1 + n) (Nat.le_add_right _ _) c_w_is_int (df_w_is_thing T c_w_is_int n) f cdv A outer s H E hr)
theorem sc_w_is_call : FnScope ["_law_thing", "_law_kind", "_law_name", "_law_told", "_law_begin", "_law_end"] ["_law_thing"] (defScope st_w_is_call) := ⟨rfl, rfl, rfl, by decide +kernel, rfl, by decide +kernel, by decide +kernel⟩
noncomputable def b_w_is_call : { g : SM // ∀ {P : Program} {w : World} {K : PySem.W.Frag} {mg : Str → Option Value} {base : Heap} (T : Txt K mg) (c_w_is_thing : Df P w K mg base 8 "_law_is_thing" ["_law_thing", "_law_deep_here"] (m_w_is_thing 7)) (c_w_is_int : Df P w K mg base 1 "_law_is_int" ["_law_thing"] m_w_is_int) (f : Addr) (cdv : Value) (A : Around) (outer : List Env) (s : Shared) (H : Hp) (E : XK), Room 8 (A.deeper (envOfC "_law_is_call" (defScope st_w_is_call) s.heap.objs.size f cdv)) → PDSs (cxOf (L2.CX P w) P w K mg base ["_law_thing", "_law_kind", "_law_name", "_law_told", "_law_begin", "_law_end"] "_law_is_call" (defScope st_w_is_call) f cdv A outer s H E) E (defBody st_w_is_call) g } :=
  ⟨_, fun T c_w_is_thing c_w_is_int f cdv A outer s H E hr => by
    have Sc := sc_w_is_call
    exact (pds_cons (pds_if (PDW.t (pdw_or (pdt_not (pdt_val (pd_isi T.b_isinstance T.b_tuple (by decide +kernel) kTup (pd_var 0)))) (pdw_or (pdt_ne hr (pd_len T.b_len (pd_var 0)) pd_int) (pdw_or1 (pdt_not (pdt_val (pd_isi T.b_isinstance T.b_str (by decide +kernel) kStr (pd_ix (pd_var 0) pd_int)))))))) (pds_one (pds_ret pd_bl)) pds_nil)
    (pds_cons (pds_tup (pdg_tup rfl (pdgs_cons 1 Sc.nd (pdgs_cons 2 Sc.nd (pdgs_cons 3 Sc.nd (pdgs_cons 4 Sc.nd (pdgs_cons 5 Sc.nd pdgs_nil)))))) (pd_var 0))
    (pds_cons (pds_if (PDW.t (pdw_or (pdt_notInS hr (pd_var 1) (pd_tup (pda_cons false pd_str (pda_cons false pd_str pda_nil)))) (pdw_or (pdt_not (pdt_val (pd_isi T.b_isinstance T.b_str (by decide +kernel) kStr (pd_var 2)))) (pdw_or1 (pdt_not (pdt_val (pd_call c_w_is_thing hr (pda_cons false (pd_var 3) (pda_cons false pd_int pda_nil)) hx_cx (hlen := (aCons_len (aCons_len aNil_len)))))))))) (pds_one (pds_ret pd_bl)) pds_nil)
    (pds_cons (pds_if (pdt_not (pdt_val (pd_call c_w_is_int hr (pda_cons false (pd_var 4) pda_nil) hx_cx (hlen := (aCons_len aNil_len))))) (pds_one (pds_ret pd_bl)) pds_nil)
    (pds_cons (pds_if (PDW.t (pdw_and (pdt_eq hr (pd_var 1) pd_str) (pdw_and1 (pdt_isN (pd_var 3) pd_non)))) (pds_one (pds_ret pd_bl)) pds_nil)
    (pds_one (pds_ret (pd_or (pd_isN (pd_var 5) pd_non) (pd_one (pd_and (pd_call c_w_is_int hr (pda_cons false (pd_var 5) pda_nil) hx_cx (hlen := (aCons_len aNil_len))) (pd_one (pd_ltA (pd_var 4) (pd_var 5)))))))))))))⟩
@[irreducible] noncomputable def m_w_is_call : FM := fnOf ["_law_thing", "_law_kind", "_law_name", "_law_told", "_law_begin", "_law_end"] b_w_is_call.1
theorem df_w_is_call {P : Program} {w : World} {K : PySem.W.Frag} {mg : Str → Option Value} {base : Heap} (T : Txt K mg) (c_w_is_thing : Df P w K mg base 8 "_law_is_thing" ["_law_thing", "_law_deep_here"] (m_w_is_thing 7)) (c_w_is_int : Df P w K mg base 1 "_law_is_int" ["_law_thing"] m_w_is_int) : Df P w K mg base 9 "_law_is_call" ["_law_thing"] m_w_is_call := by
  unfold m_w_is_call
  obtain ⟨f, fd, Fn, hm⟩ := T.f_w_is_call
  exact Df.mk' Fn sc_w_is_call hm (Fn.binds fun _ _ _ _ _ _ us hl => match us, hl with | [_], _ => rfl) (fun cdv A outer s H E hr => b_w_is_call.2 T c_w_is_thing c_w_is_int f cdv A outer s H E hr)
theorem sc_w_due : FnScope ["_law_thing", "_law_call_here", "_law_moments", "_law_written", "_law_moment"] ["_law_thing"] (defScope st_w_due) := ⟨rfl, rfl, rfl, by decide +kernel, rfl, by decide +kernel, by decide +kernel⟩
noncomputable def b_w_due : { g : SM // ∀ {P : Program} {w : World} {K : PySem.W.Frag} {mg : Str → Option Value} {base : Heap} (T : Txt K mg) (c_w_is_call : Df P w K mg base 9 "_law_is_call" ["_law_thing"] m_w_is_call) (f : Addr) (cdv : Value) (A : Around) (outer : List Env) (s : Shared) (H : Hp) (E : XK), Room 9 (A.deeper (envOfC "_law_due" (defScope st_w_due) s.heap.objs.size f cdv)) → PDSs (cxOf (L2.CX P w) P w K mg base ["_law_thing", "_law_call_here", "_law_moments", "_law_written", "_law_moment"] "_law_due" (defScope st_w_due) f cdv A outer s H E) E (defBody st_w_due) g } :=
  ⟨_, fun T c_w_is_call f cdv A outer s H E hr => by
    have Sc := sc_w_due
    exact (pds_cons (pds_if (PDW.t (pdw_or (pdt_not (pdt_val (pd_isi T.b_isinstance T.b_tuple (by decide +kernel) kTup (pd_var 0)))) (pdw_or1 (pdt_not (pdt_val (pd_all T.b_all rfl (pd_lc rfl Sc.nd (pdi_any (pd_var 0)) [("_law_call_here", 1)] (blkOk_by (N := ["_law_thing", "_law_call_here", "_law_moments", "_law_written", "_law_moment"]) (sc := defScope st_w_due) (by decide +kernel)) (fun _ _ _ _ _ => (pdg_name 1 Sc.nd)) (gT1_mem 1) (fun _ _ _ _ _ => pdts_nil) (fun _ _ _ _ _ => (pd_call c_w_is_call hr (pda_cons false (pd_var 1) pda_nil) passL (hlen := (aCons_len aNil_len))))))))))) (pds_one (pds_ret pd_bl)) pds_nil)
    (pds_cons (pds_par true true 2 3 rfl Sc.nd (pd_lst pda_nil) (pd_lst pda_nil))
    (pds_cons (pds_for (pdi_any (pd_var 0)) (pdg_name 1 Sc.nd) (pds_cons (pds_expr (pd_extend (pd_var 2) (pd_lc rfl Sc.nd (pdi_any (pd_slice (pd_var 1) (pdo_some pd_int) pdo_none)) [("_law_moment", 4)] (blkOk_by (N := ["_law_thing", "_law_call_here", "_law_moments", "_law_written", "_law_moment"]) (sc := defScope st_w_due) (by decide +kernel)) (fun _ _ _ _ _ => (pdg_name 4 Sc.nd)) (gT1_mem 4) (fun _ _ _ _ _ => (pdts_one (pdt_notN (pd_var 4) pd_non))) (fun _ _ _ _ _ => (pd_tup (pda_cons false (pd_ix (pd_var 1) pd_int) (pda_cons false (pd_var 4) pda_nil)))))))
    (pds_one (pds_expr (pd_extend (pd_var 3) (pd_mul (pd_lst (pda_cons false (pd_slice (pd_var 1) (pdo_some pd_int) (pdo_some pd_int)) pda_nil)) (pd_intC T.b_int (pd_eq hr (pd_ix (pd_var 1) pd_int) pd_str))))))) rfl (passes_of rfl))
    (pds_one (pds_ret (pd_and (pd_eq hr (pd_lenSet T.b_len T.b_set hr rfl (pd_var 2)) (pd_len T.b_len (pd_var 2))) (pd_one (pd_eq hr (pd_lenSet T.b_len T.b_set hr rfl (pd_var 3)) (pd_len T.b_len (pd_var 3))))))))))⟩
@[irreducible] noncomputable def m_w_due : FM := fnOf ["_law_thing", "_law_call_here", "_law_moments", "_law_written", "_law_moment"] b_w_due.1
theorem df_w_due {P : Program} {w : World} {K : PySem.W.Frag} {mg : Str → Option Value} {base : Heap} (T : Txt K mg) (c_w_is_call : Df P w K mg base 9 "_law_is_call" ["_law_thing"] m_w_is_call) : Df P w K mg base 10 "_law_due" ["_law_thing"] m_w_due := by
  unfold m_w_due
  obtain ⟨f, fd, Fn, hm⟩ := T.f_w_due
  exact Df.mk' Fn sc_w_due hm (Fn.binds fun _ _ _ _ _ _ us hl => match us, hl with | [_], _ => rfl) (fun cdv A outer s H E hr => b_w_due.2 T c_w_is_call f cdv A outer s H E hr)
end K49

set_option Elab.async false
set_option linter.all false
set_option maxRecDepth 100000
set_option maxHeartbeats 4000000
namespace K49
open PySem PySem.Spec PyProof.Rows L2 PD

theorem sc_w_deep : FnScope ["_law_hand_here", "_law_found", "_law_turn"] ["_law_hand_here"] (defScope st_w_deep) := ⟨rfl, rfl, rfl, by decide +kernel, rfl, by decide +kernel, by decide +kernel⟩
noncomputable def b_w_deep : { g : SM // ∀ {P : Program} {w : World} {K : PySem.W.Frag} {mg : Str → Option Value} {base : Heap} (T : Txt K mg) (c_w_draw : Df P w K mg base 1 "_law_draw" ["_law_hand_here", "_law_many"] m_w_draw) (f : Addr) (cdv : Value) (A : Around) (outer : List Env) (s : Shared) (H : Hp) (E : XK), Room 1 (A.deeper (envOfC "_law_deep" (defScope st_w_deep) s.heap.objs.size f cdv)) → PDSs (cxOf (L2.CX P w) P w K mg base ["_law_hand_here", "_law_found", "_law_turn"] "_law_deep" (defScope st_w_deep) f cdv A outer s H E) E (defBody st_w_deep) g } :=
  ⟨_, fun T c_w_draw f cdv A outer s H E hr => by
    have Sc := sc_w_deep
    exact (pds_cons (pds_set false 1 Sc.nd (pd_ix (pd_lst (pda_cons false pd_non (pda_cons false (pd_tup pda_nil) (pda_cons false pd_int pda_nil)))) (pd_call c_w_draw hr (pda_cons true (pd_var 0) (pda_cons false pd_int pda_nil)) hx_cx (hlen := (aCons_len (aCons_len aNil_len))))))
    (pds_cons (pds_for (pdi_range1 T.b_range (pd_add pd_int (pd_call c_w_draw hr (pda_cons true (pd_var 0) (pda_cons false pd_int pda_nil)) hx_cx (hlen := (aCons_len (aCons_len aNil_len)))))) (pdg_name 2 Sc.nd) (pds_one (pds_set false 1 Sc.nd (pd_ix (pd_lst (pda_cons false (pd_lst (pda_cons false (pd_var 1) pda_nil)) (pda_cons false (pd_tup (pda_cons false (pd_var 1) pda_nil)) (pda_cons false (pd_disp1 1) pda_nil)))) (pd_call c_w_draw hr (pda_cons true (pd_var 0) (pda_cons false pd_int pda_nil)) hx_cx (hlen := (aCons_len (aCons_len aNil_len))))))) rfl (passes_of rfl))
    (pds_one (pds_ret (pd_var 1)))))⟩
@[irreducible] noncomputable def m_w_deep : FM := fnOf ["_law_hand_here", "_law_found", "_law_turn"] b_w_deep.1
theorem df_w_deep {P : Program} {w : World} {K : PySem.W.Frag} {mg : Str → Option Value} {base : Heap} (T : Txt K mg) (c_w_draw : Df P w K mg base 1 "_law_draw" ["_law_hand_here", "_law_many"] m_w_draw) : Df P w K mg base 2 "_law_deep" ["_law_hand_here"] m_w_deep := by
  unfold m_w_deep
  obtain ⟨f, fd, Fn, hm⟩ := T.f_w_deep
  exact Df.mk' Fn sc_w_deep hm (Fn.binds fun _ _ _ _ _ _ us hl => match us, hl with | [_], _ => rfl) (fun cdv A outer s H E hr => b_w_deep.2 T c_w_draw f cdv A outer s H E hr)
theorem sc_w_history : FnScope ["_law_hand_here", "_law_most", "_law_names", "_law_many", "_law_moments", "_law_k", "_law_found", "_law_written", "_law_name", "_law_begin", "_law_end", "_law_told", "_law_call_here"] ["_law_hand_here", "_law_most", "_law_names"] (defScope st_w_history) := ⟨rfl, rfl, rfl, by decide +kernel, rfl, by decide +kernel, by decide +kernel⟩
noncomputable def b_w_history : { g : SM // ∀ {P : Program} {w : World} {K : PySem.W.Frag} {mg : Str → Option Value} {base : Heap} (T : Txt K mg) (c_w_draw : Df P w K mg base 1 "_law_draw" ["_law_hand_here", "_law_many"] m_w_draw) (c_w_call : Df P w K mg base 2 "_law_call" ["_law_hand_here", "_law_moments", "_law_told"] m_w_call) (c_w_read : Df P w K mg base 2 "_law_read" ["_law_hand_here", "_law_call_here", "_law_written"] m_w_read) (f : Addr) (cdv : Value) (A : Around) (outer : List Env) (s : Shared) (H : Hp) (E : XK), Room 2 (A.deeper (envOfC "_law_history" (defScope st_w_history) s.heap.objs.size f cdv)) → PDSs (cxOf (L2.CX P w) P w K mg base ["_law_hand_here", "_law_most", "_law_names", "_law_many", "_law_moments", "_law_k", "_law_found", "_law_written", "_law_name", "_law_begin", "_law_end", "_law_told", "_law_call_here"] "_law_history" (defScope st_w_history) f cdv A outer s H E) E (defBody st_w_history) g } :=
  ⟨_, fun T c_w_draw c_w_call c_w_read f cdv A outer s H E hr => by
    have Sc := sc_w_history
    exact (pds_cons (pds_set false 3 Sc.nd (pd_add pd_int (pd_call c_w_draw hr (pda_cons true (pd_var 0) (pda_cons false (pd_var 1) pda_nil)) hx_cx (hlen := (aCons_len (aCons_len aNil_len))))))
    (pds_cons (pds_setLc true 4 rfl Sc.nd (pdi_range1 T.b_range (pd_add (pd_mul pd_int (pd_var 3)) (pd_call c_w_draw hr (pda_cons true (pd_var 0) (pda_cons false pd_int pda_nil)) hx_cx (hlen := (aCons_len (aCons_len aNil_len)))))) [("_law_k", 5)] (blkOk_by (N := ["_law_hand_here", "_law_most", "_law_names", "_law_many", "_law_moments", "_law_k", "_law_found", "_law_written", "_law_name", "_law_begin", "_law_end", "_law_told", "_law_call_here"]) (sc := defScope st_w_history) (by decide +kernel)) (fun _ _ _ _ _ => (pdg_name 5 Sc.nd)) (gT1_mem 5) (fun _ _ _ _ _ => pdts_nil) (fun _ _ _ _ _ => (pd_subI (pd_mul pd_int (pd_var 5)) pd_int)) (sw_true rfl rfl rfl (by decide +kernel)))
    (pds_cons (pds_parC true true 6 7 rfl Sc.nd (pd_lst pda_nil) (pd_lst pda_nil))
    (pds_cons (pds_for (pdi_range1 T.b_range (pd_var 3)) (pdg_name 5 Sc.nd) (pds_cons (pds_set false 8 Sc.nd (pd_ix (pd_var 2) (pd_call c_w_draw hr (pda_cons true (pd_var 0) (pda_cons false (pd_len T.b_len (pd_var 2)) pda_nil)) hx_cx (hlen := (aCons_len (aCons_len aNil_len))))))
    (pds_cons (pds_tup (pdg_tup rfl (pdgs_cons 9 Sc.nd (pdgs_cons 10 Sc.nd pdgs_nil))) (pd_call c_w_call hr (pda_cons true (pd_var 0) (pda_cons true (pd_var 4) (pda_cons false pd_non pda_nil))) hx_cx (hlen := (aCons_len (aCons_len (aCons_len aNil_len))))))
    (pds_one (pds_if (pdt_eq hr (pd_call c_w_draw hr (pda_cons true (pd_var 0) (pda_cons false pd_int pda_nil)) hx_cx (hlen := (aCons_len (aCons_len aNil_len)))) pd_int) (pds_cons (pds_set false 11 Sc.nd (pd_tup (pda_cons false (pd_var 8) (pda_cons false (pd_var 5) pda_nil))))
    (pds_cons (pds_expr (pd_append (pd_var 7) (pd_var 11)))
    (pds_one (pds_expr (pd_append (pd_var 6) (pd_tup (pda_cons false pd_str (pda_cons false (pd_var 8) (pda_cons false (pd_var 11) (pda_cons false (pd_var 9) (pda_cons false (pd_var 10) pda_nil))))))))))) (pds_one (pds_expr (pd_append (pd_var 6) (pd_tup (pda_cons false pd_str (pda_cons false (pd_var 8) (pda_cons false pd_non (pda_cons false (pd_var 9) (pda_cons false (pd_var 10) pda_nil))))))))))))) rfl (passes_of rfl))
    (pds_one (pds_ret (pd_tuple T.b_tuple (pd_lc rfl Sc.nd (pdi_any (pd_var 6)) [("_law_call_here", 12)] (blkOk_by (N := ["_law_hand_here", "_law_most", "_law_names", "_law_many", "_law_moments", "_law_k", "_law_found", "_law_written", "_law_name", "_law_begin", "_law_end", "_law_told", "_law_call_here"]) (sc := defScope st_w_history) (by decide +kernel)) (fun _ _ _ _ _ => (pdg_name 12 Sc.nd)) (gT1_mem 12) (fun _ _ _ _ _ => pdts_nil) (fun _ _ _ _ _ => (pd_call c_w_read hr (pda_cons true (pd_var 0) (pda_cons false (pd_var 12) (pda_cons true (pd_var 7) pda_nil))) passL (hlen := (aCons_len (aCons_len (aCons_len aNil_len))))))))))))))⟩
@[irreducible] noncomputable def m_w_history : FM := fnOf ["_law_hand_here", "_law_most", "_law_names", "_law_many", "_law_moments", "_law_k", "_law_found", "_law_written", "_law_name", "_law_begin", "_law_end", "_law_told", "_law_call_here"] b_w_history.1
theorem df_w_history {P : Program} {w : World} {K : PySem.W.Frag} {mg : Str → Option Value} {base : Heap} (T : Txt K mg) (c_w_draw : Df P w K mg base 1 "_law_draw" ["_law_hand_here", "_law_many"] m_w_draw) (c_w_call : Df P w K mg base 2 "_law_call" ["_law_hand_here", "_law_moments", "_law_told"] m_w_call) (c_w_read : Df P w K mg base 2 "_law_read" ["_law_hand_here", "_law_call_here", "_law_written"] m_w_read) : Df P w K mg base 3 "_law_history" ["_law_hand_here", "_law_most", "_law_names"] m_w_history := by
  unfold m_w_history
  obtain ⟨f, fd, Fn, hm⟩ := T.f_w_history
  exact Df.mk' Fn sc_w_history hm (Fn.binds fun _ _ _ _ _ _ us hl => match us, hl with | [_, _, _], _ => rfl) (fun cdv A outer s H E hr => b_w_history.2 T c_w_draw c_w_call c_w_read f cdv A outer s H E hr)
theorem sc_w_bent : FnScope ["_law_hand_here", "_law_history_here", "_law_k", "_law_call_here", "_law_part", "_law_deep_here", "_law_odd", "_law_other", "_law_put", "_law_things"] ["_law_hand_here", "_law_history_here"] (defScope st_w_bent) := ⟨rfl, rfl, rfl, by decide +kernel, rfl, by decide +kernel, by decide +kernel⟩
noncomputable def b_w_bent : { g : SM // ∀ {P : Program} {w : World} {K : PySem.W.Frag} {mg : Str → Option Value} {base : Heap} (T : Txt K mg) (c_w_draw : Df P w K mg base 1 "_law_draw" ["_law_hand_here", "_law_many"] m_w_draw) (c_w_deep : Df P w K mg base 2 "_law_deep" ["_law_hand_here"] m_w_deep) (f : Addr) (cdv : Value) (A : Around) (outer : List Env) (s : Shared) (H : Hp) (E : XK), Room 2 (A.deeper (envOfC "_law_bent" (defScope st_w_bent) s.heap.objs.size f cdv)) → PDSs (cxOf (L2.CX P w) P w K mg base ["_law_hand_here", "_law_history_here", "_law_k", "_law_call_here", "_law_part", "_law_deep_here", "_law_odd", "_law_other", "_law_put", "_law_things"] "_law_bent" (defScope st_w_bent) f cdv A outer s H E) E (defBody st_w_bent) g } :=
  ⟨_, fun T c_w_draw c_w_deep f cdv A outer s H E hr => by
    have Sc := sc_w_bent
    exact (pds_cons (pds_set false 2 Sc.nd (pd_call c_w_draw hr (pda_cons true (pd_var 0) (pda_cons false (pd_len T.b_len (pd_var 1)) pda_nil)) hx_cx (hlen := (aCons_len (aCons_len aNil_len)))))
    (pds_cons (pds_set false 3 Sc.nd (pd_ix (pd_var 1) (pd_var 2)))
    (pds_cons (pds_set false 4 Sc.nd (pd_call c_w_draw hr (pda_cons true (pd_var 0) (pda_cons false pd_int pda_nil)) hx_cx (hlen := (aCons_len (aCons_len aNil_len)))))
    (pds_cons (pds_set false 5 Sc.nd (pd_call c_w_deep hr (pda_cons true (pd_var 0) pda_nil) hx_cx (hlen := (aCons_len aNil_len))))
    (pds_cons (pds_set true 6 Sc.nd (pd_lst (pda_cons false pd_non (pda_cons false pd_bl (pda_cons false pd_int (pda_cons false pd_str (pda_cons false pd_str (pda_cons false pd_str (pda_cons false (pd_tup (pda_cons false (pd_tup (pda_cons false (pd_tup (pda_cons false (pd_tup (pda_cons false (pd_tup (pda_cons false pd_int pda_nil)) pda_nil)) pda_nil)) pda_nil)) pda_nil)) (pda_cons false (pd_tup (pda_cons false (pd_tup (pda_cons false (pd_tup (pda_cons false (pd_tup (pda_cons false (pd_tup (pda_cons false (pd_tup pda_nil) pda_nil)) pda_nil)) pda_nil)) pda_nil)) pda_nil)) (pda_cons false (pd_lst (pda_cons false pd_int pda_nil)) (pda_cons false pd_dic (pda_cons false (pd_var 5) pda_nil)))))))))))))
    (pds_cons (pds_expr (pd_extend (pd_var 6) (pd_lst (pda_cons false (pd_ix (pd_ix (pd_var 1) pd_int) pd_int) (pda_cons false (pd_ix (pd_ix (pd_var 1) pd_int) pd_int) (pda_cons false (pd_neg pd_int) (pda_cons false (pd_tup (pda_cons false pd_bl pda_nil)) pda_nil)))))))
    (pds_cons (pds_set false 7 Sc.nd (pd_add (pd_add (pd_slice (pd_var 3) pdo_none (pdo_some (pd_var 4))) (pd_tup (pda_cons false (pd_ix (pd_var 6) (pd_call c_w_draw hr (pda_cons true (pd_var 0) (pda_cons false pd_int pda_nil)) hx_cx (hlen := (aCons_len (aCons_len aNil_len))))) pda_nil))) (pd_slice (pd_var 3) (pdo_some (pd_add (pd_var 4) pd_int)) pdo_none)))
    (pds_cons (pds_set false 8 Sc.nd (pd_add (pd_add (pd_slice (pd_var 1) pdo_none (pdo_some (pd_var 2))) (pd_tup (pda_cons false (pd_var 7) pda_nil))) (pd_slice (pd_var 1) (pdo_some (pd_add (pd_var 2) pd_int)) pdo_none)))
    (pds_cons (pds_set true 9 Sc.nd (pd_lst (pda_cons false (pd_var 8) (pda_cons false (pd_var 8) (pda_cons false (pd_var 8) (pda_cons false (pd_var 8) (pda_cons false (pd_var 1) (pda_cons false (pd_list T.b_list (pd_var 1)) (pda_cons false (pd_add (pd_var 1) (pd_tup (pda_cons false (pd_var 3) pda_nil))) (pda_cons false pd_non (pda_cons false pd_str (pda_cons false (pd_var 5) (pda_cons false (pd_tup pda_nil) (pda_cons false (pd_var 3) (pda_cons false pd_dic pda_nil)))))))))))))))
    (pds_cons (pds_expr (pd_extend (pd_var 9) (pd_lst (pda_cons false (pd_add (pd_add (pd_slice (pd_var 1) pdo_none (pdo_some (pd_var 2))) (pd_tup (pda_cons false (pd_list T.b_list (pd_var 3)) pda_nil))) (pd_slice (pd_var 1) (pdo_some (pd_add (pd_var 2) pd_int)) pdo_none)) (pda_cons false (pd_add (pd_add (pd_slice (pd_var 1) pdo_none (pdo_some (pd_var 2))) (pd_tup (pda_cons false (pd_slice (pd_var 3) pdo_none (pdo_some pd_int)) pda_nil))) (pd_slice (pd_var 1) (pdo_some (pd_add (pd_var 2) pd_int)) pdo_none)) pda_nil)))))
    (pds_cons (pds_expr (pd_append (pd_var 9) (pd_add (pd_var 1) (pd_tup (pda_cons false (pd_add (pd_add (pd_slice (pd_var 3) pdo_none (pdo_some pd_int)) (pd_tup (pda_cons false (pd_add (pd_ix (pd_var 3) pd_int) pd_str) pda_nil))) (pd_slice (pd_var 3) (pdo_some pd_int) pdo_none)) pda_nil)))))
    (pds_one (pds_ret (pd_ix (pd_var 9) (pd_call c_w_draw hr (pda_cons true (pd_var 0) (pda_cons false pd_int pda_nil)) hx_cx (hlen := (aCons_len (aCons_len aNil_len))))))))))))))))))⟩
@[irreducible] noncomputable def m_w_bent : FM := fnOf ["_law_hand_here", "_law_history_here", "_law_k", "_law_call_here", "_law_part", "_law_deep_here", "_law_odd", "_law_other", "_law_put", "_law_things"] b_w_bent.1
theorem df_w_bent {P : Program} {w : World} {K : PySem.W.Frag} {mg : Str → Option Value} {base : Heap} (T : Txt K mg) (c_w_draw : Df P w K mg base 1 "_law_draw" ["_law_hand_here", "_law_many"] m_w_draw) (c_w_deep : Df P w K mg base 2 "_law_deep" ["_law_hand_here"] m_w_deep) : Df P w K mg base 3 "_law_bent" ["_law_hand_here", "_law_history_here"] m_w_bent := by
  unfold m_w_bent
  obtain ⟨f, fd, Fn, hm⟩ := T.f_w_bent
  exact Df.mk' Fn sc_w_bent hm (Fn.binds fun _ _ _ _ _ _ us hl => match us, hl with | [_, _], _ => rfl) (fun cdv A outer s H E hr => b_w_bent.2 T c_w_draw c_w_deep f cdv A outer s H E hr)
end K49

set_option Elab.async false
set_option linter.all false
set_option maxRecDepth 100000
set_option maxHeartbeats 4000000
namespace K49
open PySem PySem.Spec PyProof.Rows L2 PD

theorem sc_groups_of : FnScope ["history", "found", "index", "call"] ["history"] (defScope st_groups_of) := ⟨rfl, rfl, rfl, by decide +kernel, rfl, by decide +kernel, by decide +kernel⟩
noncomputable def b_groups_of : { g : SM // ∀ {P : Program} {w : World} {K : PySem.W.Frag} {mg : Str → Option Value} {base : Heap} (T : Txt K mg) (c_counts : Df P w K mg base 1 "counts" ["history", "index"] m_counts) (f : Addr) (cdv : Value) (A : Around) (outer : List Env) (s : Shared) (H : Hp) (E : XK), Room 1 (A.deeper (envOfC "groups_of" (defScope st_groups_of) s.heap.objs.size f cdv)) → PDSs (cxOf (L2.CX P w) P w K mg base ["history", "found", "index", "call"] "groups_of" (defScope st_groups_of) f cdv A outer s H E) E (defBody st_groups_of) g } :=
  ⟨_, fun T c_counts f cdv A outer s H E hr => by
    have Sc := sc_groups_of
    exact (pds_groups 1 2 hr rfl Sc.nd (pdi_enumT T.b_enumerate (pd_var 0)) (pdg_tup rfl (pdgs_cons 2 Sc.nd (pdgs_cons 3 Sc.nd pdgs_nil))) (pdt_val (pd_call c_counts hr (pda_cons false (pd_var 0) (pda_cons false (pd_var 2) pda_nil)) hx_cx (hlen := (aCons_len (aCons_len aNil_len))))) (pd_slice (pd_var 3) (pdo_some pd_int) (pdo_some pd_int)) (passes_of rfl) (m := ⟨rfl, rfl, rfl, rfl⟩))⟩
@[irreducible] noncomputable def m_groups_of : FM := fnOf ["history", "found", "index", "call"] b_groups_of.1
theorem df_groups_of {P : Program} {w : World} {K : PySem.W.Frag} {mg : Str → Option Value} {base : Heap} (T : Txt K mg) (c_counts : Df P w K mg base 1 "counts" ["history", "index"] m_counts) : Df P w K mg base 2 "groups_of" ["history"] m_groups_of := by
  unfold m_groups_of
  obtain ⟨f, fd, Fn, hm⟩ := T.f_groups_of
  exact Df.mk' Fn sc_groups_of hm (Fn.binds fun _ _ _ _ _ _ us hl => match us, hl with | [_], _ => rfl) (fun cdv A outer s H E hr => b_groups_of.2 T c_counts f cdv A outer s H E hr)
theorem sc_late_bar : FnScope ["history", "groups", "pair", "group", "nothing"] ["history"] (defScope st_late_bar) := ⟨rfl, rfl, rfl, by decide +kernel, rfl, by decide +kernel, by decide +kernel⟩
noncomputable def b_late_bar : { g : SM // ∀ {P : Program} {w : World} {K : PySem.W.Frag} {mg : Str → Option Value} {base : Heap} (T : Txt K mg) (c_groups_of : Df P w K mg base 2 "groups_of" ["history"] m_groups_of) (c_is_ahead : Df P w K mg base 2 "is_ahead" ["history", "one", "other"] m_is_ahead) (c_last_begin : Df P w K mg base 1 "last_begin" ["history", "group"] m_last_begin) (c_first_end : Df P w K mg base 1 "first_end" ["history", "group"] m_first_end) (f : Addr) (cdv : Value) (A : Around) (outer : List Env) (s : Shared) (H : Hp) (E : XK), Room 2 (A.deeper (envOfC "late_bar" (defScope st_late_bar) s.heap.objs.size f cdv)) → PDSs (cxOf (L2.CX P w) P w K mg base ["history", "groups", "pair", "group", "nothing"] "late_bar" (defScope st_late_bar) f cdv A outer s H E) E (defBody st_late_bar) g } :=
  ⟨_, fun T c_groups_of c_is_ahead c_last_begin c_first_end f cdv A outer s H E hr => by
    have Sc := sc_late_bar
    exact (pds_cons (pds_set false 1 Sc.nd (pd_call c_groups_of hr (pda_cons false (pd_var 0) pda_nil) hx_cx (hlen := (aCons_len aNil_len))))
    (pds_cons (pds_for (pdi_itemsN (pd_var 1)) (pdg_tup rfl (pdgs_cons 2 Sc.nd (pdgs_cons 3 Sc.nd pdgs_nil))) (pds_cons (pds_set false 4 Sc.nd (pd_dget2N hr (pd_var 1) (pd_tup (pda_cons false (pd_ix (pd_var 2) pd_int) (pda_cons false pd_non pda_nil))) (pd_lst pda_nil) ⟨rfl, rfl, rfl, rfl⟩))
    (pds_one (pds_if (PDW.t (pdw_and (pdt_notN (pd_ix (pd_var 2) pd_int) pd_non) (pdw_and (pdt_gtA (pd_len T.b_len (pd_var 4)) pd_int) (pdw_and1 (pdt_val (pd_call c_is_ahead hr (pda_cons false (pd_var 0) (pda_cons false (pd_var 3) (pda_cons false (pd_var 4) pda_nil))) hx_cx (hlen := (aCons_len (aCons_len (aCons_len aNil_len)))))))))) (pds_one (pds_ret (pd_tup (pda_cons false pd_str (pda_cons false (pd_call c_first_end hr (pda_cons false (pd_var 0) (pda_cons false (pd_var 3) pda_nil)) hx_cx (hlen := (aCons_len (aCons_len aNil_len)))) (pda_cons false (pd_call c_last_begin hr (pda_cons false (pd_var 0) (pda_cons false (pd_var 4) pda_nil)) hx_cx (hlen := (aCons_len (aCons_len aNil_len)))) pda_nil)))))) pds_nil))) rfl (passes_of rfl))
    (pds_one (pds_ret pd_non))))⟩
@[irreducible] noncomputable def m_late_bar : FM := fnOf ["history", "groups", "pair", "group", "nothing"] b_late_bar.1
theorem df_late_bar {P : Program} {w : World} {K : PySem.W.Frag} {mg : Str → Option Value} {base : Heap} (T : Txt K mg) (c_groups_of : Df P w K mg base 2 "groups_of" ["history"] m_groups_of) (c_is_ahead : Df P w K mg base 2 "is_ahead" ["history", "one", "other"] m_is_ahead) (c_last_begin : Df P w K mg base 1 "last_begin" ["history", "group"] m_last_begin) (c_first_end : Df P w K mg base 1 "first_end" ["history", "group"] m_first_end) : Df P w K mg base 3 "late_bar" ["history"] m_late_bar := by
  unfold m_late_bar
  obtain ⟨f, fd, Fn, hm⟩ := T.f_late_bar
  exact Df.mk' Fn sc_late_bar hm (Fn.binds fun _ _ _ _ _ _ us hl => match us, hl with | [_], _ => rfl) (fun cdv A outer s H E hr => b_late_bar.2 T c_groups_of c_is_ahead c_last_begin c_first_end f cdv A outer s H E hr)
theorem sc_crossed_bar : FnScope ["history", "groups", "pairs", "at", "one", "other", "pair"] ["history"] (defScope st_crossed_bar) := ⟨rfl, rfl, rfl, by decide +kernel, rfl, by decide +kernel, by decide +kernel⟩
noncomputable def b_crossed_bar : { g : SM // ∀ {P : Program} {w : World} {K : PySem.W.Frag} {mg : Str → Option Value} {base : Heap} (T : Txt K mg) (c_groups_of : Df P w K mg base 2 "groups_of" ["history"] m_groups_of) (c_is_ahead : Df P w K mg base 2 "is_ahead" ["history", "one", "other"] m_is_ahead) (c_crossed : Df P w K mg base 2 "crossed" ["history", "one", "other"] m_crossed) (f : Addr) (cdv : Value) (A : Around) (outer : List Env) (s : Shared) (H : Hp) (E : XK), Room 2 (A.deeper (envOfC "crossed_bar" (defScope st_crossed_bar) s.heap.objs.size f cdv)) → PDSs (cxOf (L2.CX P w) P w K mg base ["history", "groups", "pairs", "at", "one", "other", "pair"] "crossed_bar" (defScope st_crossed_bar) f cdv A outer s H E) E (defBody st_crossed_bar) g } :=
  ⟨_, fun T c_groups_of c_is_ahead c_crossed f cdv A outer s H E hr => by
    have Sc := sc_crossed_bar
    exact (pds_cons (pds_set false 1 Sc.nd (pd_call c_groups_of hr (pda_cons false (pd_var 0) pda_nil) hx_cx (hlen := (aCons_len aNil_len))))
    (pds_cons (pds_setLc false 2 rfl Sc.nd (pdi_keysN (pd_var 1)) [("pair", 6)] (blkOk_by (N := ["history", "groups", "pairs", "at", "one", "other", "pair"]) (sc := defScope st_crossed_bar) (by decide +kernel)) (fun _ _ _ _ _ => (pdg_name 6 Sc.nd)) (gT1_mem 6) (fun _ _ _ _ _ => (pdts_one (pdt_notN (pd_ix (pd_var 6) pd_int) pd_non))) (fun _ _ _ _ _ => (pd_var 6)) (sw_true rfl rfl rfl (by decide +kernel)))
    (pds_cons (pds_for (pdi_enum T.b_enumerate (pd_var 2)) (pdg_tup rfl (pdgs_cons 3 Sc.nd (pdgs_cons 4 Sc.nd pdgs_nil))) (pds_one (pds_for (pdi_any (pd_slice (pd_var 2) pdo_none (pdo_some (pd_var 3)))) (pdg_name 5 Sc.nd) (pds_one (pds_if (PDW.t (pdw_and (pdt_eq hr (pd_ix (pd_var 4) pd_int) (pd_ix (pd_var 5) pd_int)) (pdw_and1 (pdt_val (pd_call c_is_ahead hr (pda_cons false (pd_var 0) (pda_cons false (pd_dgetN hr (pd_var 1) (pd_var 4) (fun _ _ => rfl)) (pda_cons false (pd_dgetN hr (pd_var 1) (pd_var 5) (fun _ _ => rfl)) pda_nil))) hx_cx (hlen := (aCons_len (aCons_len (aCons_len aNil_len))))))))) (pds_one (pds_if (pdt_val (pd_call c_is_ahead hr (pda_cons false (pd_var 0) (pda_cons false (pd_dgetN hr (pd_var 1) (pd_var 5) (fun _ _ => rfl)) (pda_cons false (pd_dgetN hr (pd_var 1) (pd_var 4) (fun _ _ => rfl)) pda_nil))) hx_cx (hlen := (aCons_len (aCons_len (aCons_len aNil_len)))))) (pds_one (pds_ret (pd_call c_crossed hr (pda_cons false (pd_var 0) (pda_cons false (pd_dgetN hr (pd_var 1) (pd_var 4) (fun _ _ => rfl)) (pda_cons false (pd_dgetN hr (pd_var 1) (pd_var 5) (fun _ _ => rfl)) pda_nil))) hx_cx (hlen := (aCons_len (aCons_len (aCons_len aNil_len))))))) pds_nil)) pds_nil)) rfl (passes_of rfl))) rfl (passes_of rfl))
    (pds_one (pds_ret pd_non)))))⟩
@[irreducible] noncomputable def m_crossed_bar : FM := fnOf ["history", "groups", "pairs", "at", "one", "other", "pair"] b_crossed_bar.1
theorem df_crossed_bar {P : Program} {w : World} {K : PySem.W.Frag} {mg : Str → Option Value} {base : Heap} (T : Txt K mg) (c_groups_of : Df P w K mg base 2 "groups_of" ["history"] m_groups_of) (c_is_ahead : Df P w K mg base 2 "is_ahead" ["history", "one", "other"] m_is_ahead) (c_crossed : Df P w K mg base 2 "crossed" ["history", "one", "other"] m_crossed) : Df P w K mg base 3 "crossed_bar" ["history"] m_crossed_bar := by
  unfold m_crossed_bar
  obtain ⟨f, fd, Fn, hm⟩ := T.f_crossed_bar
  exact Df.mk' Fn sc_crossed_bar hm (Fn.binds fun _ _ _ _ _ _ us hl => match us, hl with | [_], _ => rfl) (fun cdv A outer s H E hr => b_crossed_bar.2 T c_groups_of c_is_ahead c_crossed f cdv A outer s H E hr)
theorem sc_raw_bar : FnScope ["history", "told"] ["history"] (defScope st_raw_bar) := ⟨rfl, rfl, rfl, by decide +kernel, rfl, by decide +kernel, by decide +kernel⟩
noncomputable def b_raw_bar : { g : SM // ∀ {P : Program} {w : World} {K : PySem.W.Frag} {mg : Str → Option Value} {base : Heap} (T : Txt K mg) (c_crossed_bar : Df P w K mg base 3 "crossed_bar" ["history"] m_crossed_bar) (c_late_bar : Df P w K mg base 3 "late_bar" ["history"] m_late_bar) (c_single_bar : Df P w K mg base 2 "single_bar" ["history"] m_single_bar) (f : Addr) (cdv : Value) (A : Around) (outer : List Env) (s : Shared) (H : Hp) (E : XK), Room 3 (A.deeper (envOfC "raw_bar" (defScope st_raw_bar) s.heap.objs.size f cdv)) → PDSs (cxOf (L2.CX P w) P w K mg base ["history", "told"] "raw_bar" (defScope st_raw_bar) f cdv A outer s H E) E (defBody st_raw_bar) g } :=
  ⟨_, fun T c_crossed_bar c_late_bar c_single_bar f cdv A outer s H E hr => by
    have Sc := sc_raw_bar
    exact (pds_cons (pds_for (pdi_any (pd_tup (pda_cons false (pd_call c_single_bar hr (pda_cons false (pd_var 0) pda_nil) hx_cx (hlen := (aCons_len aNil_len))) (pda_cons false (pd_call c_late_bar hr (pda_cons false (pd_var 0) pda_nil) hx_cx (hlen := (aCons_len aNil_len))) (pda_cons false (pd_call c_crossed_bar hr (pda_cons false (pd_var 0) pda_nil) hx_cx (hlen := (aCons_len aNil_len))) pda_nil))))) (pdg_name 1 Sc.nd) (pds_one (pds_if (pdt_notN (pd_var 1) pd_non) (pds_one (pds_ret (pd_var 1))) pds_nil)) rfl (passes_of rfl))
    (pds_one (pds_ret pd_non)))⟩
@[irreducible] noncomputable def m_raw_bar : FM := fnOf ["history", "told"] b_raw_bar.1
theorem df_raw_bar {P : Program} {w : World} {K : PySem.W.Frag} {mg : Str → Option Value} {base : Heap} (T : Txt K mg) (c_crossed_bar : Df P w K mg base 3 "crossed_bar" ["history"] m_crossed_bar) (c_late_bar : Df P w K mg base 3 "late_bar" ["history"] m_late_bar) (c_single_bar : Df P w K mg base 2 "single_bar" ["history"] m_single_bar) : Df P w K mg base 4 "raw_bar" ["history"] m_raw_bar := by
  unfold m_raw_bar
  obtain ⟨f, fd, Fn, hm⟩ := T.f_raw_bar
  exact Df.mk' Fn sc_raw_bar hm (Fn.binds fun _ _ _ _ _ _ us hl => match us, hl with | [_], _ => rfl) (fun cdv A outer s H E hr => b_raw_bar.2 T c_crossed_bar c_late_bar c_single_bar f cdv A outer s H E hr)
theorem sc_bar : FnScope ["history"] ["history"] (defScope st_bar) := ⟨rfl, rfl, rfl, by decide +kernel, rfl, by decide +kernel, by decide +kernel⟩
noncomputable def b_bar : { g : SM // ∀ {P : Program} {w : World} {K : PySem.W.Frag} {mg : Str → Option Value} {base : Heap} (T : Txt K mg) (c_check_history : Df P w K mg base 12 "check_history" ["thing"] m_check_history) (c_raw_bar : Df P w K mg base 4 "raw_bar" ["history"] m_raw_bar) (f : Addr) (cdv : Value) (A : Around) (outer : List Env) (s : Shared) (H : Hp) (E : XK), Room 12 (A.deeper (envOfC "bar" (defScope st_bar) s.heap.objs.size f cdv)) → PDSs (cxOf (L2.CX P w) P w K mg base ["history"] "bar" (defScope st_bar) f cdv A outer s H E) E (defBody st_bar) g } :=
  ⟨_, fun T c_check_history c_raw_bar f cdv A outer s H E hr => by
    have Sc := sc_bar
    exact (pds_cons (pds_expr (pd_call c_check_history hr (pda_cons false (pd_var 0) pda_nil) hx_cx (hlen := (aCons_len aNil_len))))
    (pds_one (pds_ret (pd_call c_raw_bar hr (pda_cons false (pd_var 0) pda_nil) hx_cx (hlen := (aCons_len aNil_len))))))⟩
@[irreducible] noncomputable def m_bar : FM := fnOf ["history"] b_bar.1
theorem df_bar {P : Program} {w : World} {K : PySem.W.Frag} {mg : Str → Option Value} {base : Heap} (T : Txt K mg) (c_check_history : Df P w K mg base 12 "check_history" ["thing"] m_check_history) (c_raw_bar : Df P w K mg base 4 "raw_bar" ["history"] m_raw_bar) : Df P w K mg base 13 "bar" ["history"] m_bar := by
  unfold m_bar
  obtain ⟨f, fd, Fn, hm⟩ := T.f_bar
  exact Df.mk' Fn sc_bar hm (Fn.binds fun _ _ _ _ _ _ us hl => match us, hl with | [_], _ => rfl) (fun cdv A outer s H E hr => b_bar.2 T c_check_history c_raw_bar f cdv A outer s H E hr)
theorem sc_name_order : FnScope ["history", "groups", "left", "found", "free", "one", "other"] ["history", "groups"] (defScope st_name_order) := ⟨rfl, rfl, rfl, by decide +kernel, rfl, by decide +kernel, by decide +kernel⟩
noncomputable def b_name_order : { g : SM // ∀ {P : Program} {w : World} {K : PySem.W.Frag} {mg : Str → Option Value} {base : Heap} (T : Txt K mg) (c_is_ahead : Df P w K mg base 2 "is_ahead" ["history", "one", "other"] m_is_ahead) (c_tail : Df P w K mg base 1 "tail" ["history", "group"] m_tail) (f : Addr) (cdv : Value) (A : Around) (outer : List Env) (s : Shared) (H : Hp) (E : XK), Room 2 (A.deeper (envOfC "name_order" (defScope st_name_order) s.heap.objs.size f cdv)) → PDSs (cxOf (L2.CX P w) P w K mg base ["history", "groups", "left", "found", "free", "one", "other"] "name_order" (defScope st_name_order) f cdv A outer s H E) E (defBody st_name_order) g } :=
  ⟨_, fun T c_is_ahead c_tail f cdv A outer s H E hr => by
    have Sc := sc_name_order
    exact (pds_cons (pds_set true 2 Sc.nd (pd_list T.b_list (pd_var 1)))
    (pds_cons (pds_set true 3 Sc.nd (pd_lst pda_nil))
    (pds_cons (pds_while rounds.1 (pdt_gtA (pd_len T.b_len (pd_var 2)) pd_int) (pds_cons (pds_setLcC false 4 rfl Sc.nd (pd_var 2) [("one", 5)] (blkOk_by (N := ["history", "groups", "left", "found", "free", "one", "other"]) (sc := defScope st_name_order) (by decide +kernel)) (fun _ _ _ _ _ => (pdg_name 5 Sc.nd)) (gT1_mem 5) (fun _ _ _ _ _ => (pdts_one (pdt_not (pdt_val (pd_any T.b_any rfl (pd_lcC rfl Sc.nd (pd_var 2) [("other", 6)] (blkOk_by (by kernel_rfl)) (fun _ _ _ _ _ => (pdg_name 6 Sc.nd)) (gT1_mem 6) (fun _ _ _ _ _ => (pdts_one (pdt_ne hr (pd_var 6) (pd_var 5)))) (fun _ _ _ _ _ => (pd_call c_is_ahead hr (pda_cons false (pd_var 0) (pda_cons false (pd_var 6) (pda_cons false (pd_var 5) pda_nil))) passL (hlen := (aCons_len (aCons_len (aCons_len aNil_len)))))))))))) (fun _ _ _ _ _ => (pd_var 5)) (sw_true rfl rfl rfl (by decide +kernel)))
    (pds_cons (pds_expr (pd_extend (pd_var 3) (pd_call c_tail hr (pda_cons false (pd_var 0) (pda_cons false (pd_ix (pd_var 4) pd_int) pda_nil)) hx_cx (hlen := (aCons_len (aCons_len aNil_len))))))
    (pds_one (pds_expr (pd_remove hr (pd_var 2) (pd_ix (pd_var 4) pd_int)))))) (passes_of rfl))
    (pds_one (pds_ret (pd_var 3))))))⟩
@[irreducible] noncomputable def m_name_order : FM := fnOf ["history", "groups", "left", "found", "free", "one", "other"] b_name_order.1
theorem df_name_order {P : Program} {w : World} {K : PySem.W.Frag} {mg : Str → Option Value} {base : Heap} (T : Txt K mg) (c_is_ahead : Df P w K mg base 2 "is_ahead" ["history", "one", "other"] m_is_ahead) (c_tail : Df P w K mg base 1 "tail" ["history", "group"] m_tail) : Df P w K mg base 3 "name_order" ["history", "groups"] m_name_order := by
  unfold m_name_order
  obtain ⟨f, fd, Fn, hm⟩ := T.f_name_order
  exact Df.mk' Fn sc_name_order hm (Fn.binds fun _ _ _ _ _ _ us hl => match us, hl with | [_, _], _ => rfl) (fun cdv A outer s H E hr => b_name_order.2 T c_is_ahead c_tail f cdv A outer s H E hr)
theorem sc_right_order : FnScope ["history", "groups", "names", "found", "name", "told", "pair"] ["history"] (defScope st_right_order) := ⟨rfl, rfl, rfl, by decide +kernel, rfl, by decide +kernel, by decide +kernel⟩
noncomputable def b_right_order : { g : SM // ∀ {P : Program} {w : World} {K : PySem.W.Frag} {mg : Str → Option Value} {base : Heap} (T : Txt K mg) (c_check_history : Df P w K mg base 12 "check_history" ["thing"] m_check_history) (c_raw_bar : Df P w K mg base 4 "raw_bar" ["history"] m_raw_bar) (c_groups_of : Df P w K mg base 2 "groups_of" ["history"] m_groups_of) (c_tail : Df P w K mg base 1 "tail" ["history", "group"] m_tail) (c_name_order : Df P w K mg base 3 "name_order" ["history", "groups"] m_name_order) (f : Addr) (cdv : Value) (A : Around) (outer : List Env) (s : Shared) (H : Hp) (E : XK), Room 12 (A.deeper (envOfC "right_order" (defScope st_right_order) s.heap.objs.size f cdv)) → PDSs (cxOf (L2.CX P w) P w K mg base ["history", "groups", "names", "found", "name", "told", "pair"] "right_order" (defScope st_right_order) f cdv A outer s H E) E (defBody st_right_order) g } :=
  ⟨_, fun T c_check_history c_raw_bar c_groups_of c_tail c_name_order f cdv A outer s H E hr => by
    have Sc := sc_right_order
    exact (pds_cons (pds_expr (pd_call c_check_history hr (pda_cons false (pd_var 0) pda_nil) hx_cx (hlen := (aCons_len aNil_len))))
    (pds_cons (pds_if (pdt_notN (pd_call c_raw_bar hr (pda_cons false (pd_var 0) pda_nil) hx_cx (hlen := (aCons_len aNil_len))) pd_non) (pds_one (pds_ret pd_non)) pds_nil)
    (pds_cons (pds_set false 1 Sc.nd (pd_call c_groups_of hr (pda_cons false (pd_var 0) pda_nil) hx_cx (hlen := (aCons_len aNil_len))))
    (pds_cons (pds_set false 2 Sc.nd (pd_sortNames 6 T.b_sorted hr rfl Sc.nd (pd_var 1) (blkOk_by (N := ["history", "groups", "names", "found", "name", "told", "pair"]) (sc := defScope st_right_order) (by decide +kernel)) (by intros; exact pg_name Sc.nd rfl (by first | exact Or.inl rfl | exact Or.inr rfl)) (by intros; exact pe_var rfl (by first | exact Or.inl rfl | exact Or.inr (Or.inl rfl) | exact Or.inr (Or.inr rfl)))))
    (pds_cons (pds_set true 3 Sc.nd (pd_lst pda_nil))
    (pds_cons (pds_for (pdi_any (pd_var 2)) (pdg_name 4 Sc.nd) (pds_cons (pds_expr (pd_extend (pd_var 3) (pd_call c_tail hr (pda_cons false (pd_var 0) (pda_cons false (pd_dget2N hr (pd_var 1) (pd_tup (pda_cons false (pd_var 4) (pda_cons false pd_non pda_nil))) (pd_lst pda_nil) ⟨rfl, rfl, rfl, rfl⟩) pda_nil)) hx_cx (hlen := (aCons_len (aCons_len aNil_len))))))
    (pds_cons (pds_setLc false 5 rfl Sc.nd (pdi_keysN (pd_var 1)) [("pair", 6)] (blkOk_by (N := ["history", "groups", "names", "found", "name", "told", "pair"]) (sc := defScope st_right_order) (by decide +kernel)) (fun _ _ _ _ _ => (pdg_name 6 Sc.nd)) (gT1_mem 6) (fun _ _ _ _ _ => (pdts_one (PDW.t (pdw_and (pdt_eq hr (pd_ix (pd_var 6) pd_int) (pd_var 4)) (pdw_and1 (pdt_notN (pd_ix (pd_var 6) pd_int) pd_non)))))) (fun _ _ _ _ _ => (pd_var 6)) (sw_true rfl rfl rfl (by decide +kernel)))
    (pds_one (pds_expr (pd_extend (pd_var 3) (pd_call c_name_order hr (pda_cons false (pd_var 0) (pda_cons false (pd_lc rfl Sc.nd (pdi_any (pd_var 5)) [("pair", 6)] (blkOk_by (N := ["history", "groups", "names", "found", "name", "told", "pair"]) (sc := defScope st_right_order) (by decide +kernel)) (fun _ _ _ _ _ => (pdg_name 6 Sc.nd)) (gT1_mem 6) (fun _ _ _ _ _ => pdts_nil) (fun _ _ _ _ _ => (pd_dgetN hr (pd_var 1) (pd_var 6) (fun _ _ => rfl)))) pda_nil)) hx_cx (hlen := (aCons_len (aCons_len aNil_len))))))))) rfl (passes_of rfl))
    (pds_one (pds_ret (pd_var 3)))))))))⟩
@[irreducible] noncomputable def m_right_order : FM := fnOf ["history", "groups", "names", "found", "name", "told", "pair"] b_right_order.1
theorem df_right_order {P : Program} {w : World} {K : PySem.W.Frag} {mg : Str → Option Value} {base : Heap} (T : Txt K mg) (c_check_history : Df P w K mg base 12 "check_history" ["thing"] m_check_history) (c_raw_bar : Df P w K mg base 4 "raw_bar" ["history"] m_raw_bar) (c_groups_of : Df P w K mg base 2 "groups_of" ["history"] m_groups_of) (c_tail : Df P w K mg base 1 "tail" ["history", "group"] m_tail) (c_name_order : Df P w K mg base 3 "name_order" ["history", "groups"] m_name_order) : Df P w K mg base 13 "right_order" ["history"] m_right_order := by
  unfold m_right_order
  obtain ⟨f, fd, Fn, hm⟩ := T.f_right_order
  exact Df.mk' Fn sc_right_order hm (Fn.binds fun _ _ _ _ _ _ us hl => match us, hl with | [_], _ => rfl) (fun cdv A outer s H E hr => b_right_order.2 T c_check_history c_raw_bar c_groups_of c_tail c_name_order f cdv A outer s H E hr)
end K49

set_option Elab.async false
set_option linter.all false
set_option maxRecDepth 100000
set_option maxHeartbeats 4000000
namespace K49
open PySem PySem.Spec PyProof.Rows L2 PD

theorem sc_are_behind : FnScope ["history", "row", "at", "index", "other", "end"] ["history", "row"] (defScope st_are_behind) := ⟨rfl, rfl, rfl, by decide +kernel, rfl, by decide +kernel, by decide +kernel⟩
noncomputable def m_are_behind : FM := fun _ _ => .bad
theorem df_are_behind {P : Program} {w : World} {K : PySem.W.Frag} {mg : Str → Option Value} {base : Heap} (T : Txt K mg) : Df P w K mg base 0 "are_behind" ["history", "row"] m_are_behind := by
  obtain ⟨f, fd, Fn, hm⟩ := T.f_are_behind
  exact Df.bad Fn sc_are_behind hm (Fn.binds fun _ _ _ _ _ _ us hl => match us, hl with | [_, _], _ => rfl)
theorem sc_are_told : FnScope ["history", "row", "written", "index", "kind", "name", "told", "begin", "end"] ["history", "row"] (defScope st_are_told) := ⟨rfl, rfl, rfl, by decide +kernel, rfl, by decide +kernel, by decide +kernel⟩
noncomputable def m_are_told : FM := fun _ _ => .bad
theorem df_are_told {P : Program} {w : World} {K : PySem.W.Frag} {mg : Str → Option Value} {base : Heap} (T : Txt K mg) : Df P w K mg base 0 "are_told" ["history", "row"] m_are_told := by
  obtain ⟨f, fd, Fn, hm⟩ := T.f_are_told
  exact Df.bad Fn sc_are_told hm (Fn.binds fun _ _ _ _ _ _ us hl => match us, hl with | [_, _], _ => rfl)
theorem sc_is_right_order : FnScope ["history", "thing", "many", "index", "call"] ["history", "thing"] (defScope st_is_right_order) := ⟨rfl, rfl, rfl, by decide +kernel, rfl, by decide +kernel, by decide +kernel⟩
noncomputable def b_is_right_order : { g : SM // ∀ {P : Program} {w : World} {K : PySem.W.Frag} {mg : Str → Option Value} {base : Heap} (T : Txt K mg) (c_check_history : Df P w K mg base 12 "check_history" ["thing"] m_check_history) (c_is_index : Df P w K mg base 3 "is_index" ["thing", "many"] m_is_index) (c_are_told : Df P w K mg base 0 "are_told" ["history", "row"] m_are_told) (c_are_behind : Df P w K mg base 0 "are_behind" ["history", "row"] m_are_behind) (f : Addr) (cdv : Value) (A : Around) (outer : List Env) (s : Shared) (H : Hp) (E : XK), Room 12 (A.deeper (envOfC "is_right_order" (defScope st_is_right_order) s.heap.objs.size f cdv)) → PDSs (cxOf (L2.CX P w) P w K mg base ["history", "thing", "many", "index", "call"] "is_right_order" (defScope st_is_right_order) f cdv A outer s H E) E (defBody st_is_right_order) g } :=
  ⟨_, fun T c_check_history c_is_index c_are_told c_are_behind f cdv A outer s H E hr => by
    have Sc := sc_is_right_order
    exact (pds_cons (pds_expr (pd_call c_check_history hr (pda_cons false (pd_var 0) pda_nil) hx_cx (hlen := (aCons_len aNil_len))))
    (pds_cons (pds_set false 2 Sc.nd (pd_len T.b_len (pd_var 0)))
    (pds_cons (pds_if (PDW.t (pdw_or (pdt_not (pdt_val (pd_isi T.b_isinstance T.b_list (by decide +kernel) kLst (pd_var 1)))) (pdw_or1 (pdt_not (pdt_val (pd_all T.b_all rfl (pd_lc rfl Sc.nd (pdi_any (pd_var 1)) [("index", 3)] (blkOk_by (N := ["history", "thing", "many", "index", "call"]) (sc := defScope st_is_right_order) (by decide +kernel)) (fun _ _ _ _ _ => (pdg_name 3 Sc.nd)) (gT1_mem 3) (fun _ _ _ _ _ => pdts_nil) (fun _ _ _ _ _ => (pd_call c_is_index hr (pda_cons false (pd_var 3) (pda_cons false (pd_var 2) pda_nil)) passL (hlen := (aCons_len (aCons_len aNil_len)))))))))))) (pds_one (pds_ret pd_bl)) pds_nil)
    (pds_cons (pds_if (pdt_ne hr (pd_lenNK 3 T.b_len hr rfl Sc.nd (pd_var 1) (blkOk_by (N := ["history", "thing", "many", "index", "call"]) (sc := defScope st_is_right_order) (by decide +kernel)) (by intros; exact pg_name Sc.nd rfl (by first | exact Or.inl rfl | exact Or.inr rfl)) (by intros; exact pe_var rfl (by first | exact Or.inl rfl | exact Or.inr (Or.inl rfl) | exact Or.inr (Or.inr rfl)))) (pd_len T.b_len (pd_var 1))) (pds_one (pds_ret pd_bl)) pds_nil)
    (pds_cons (pds_for (pdi_enumT T.b_enumerate (pd_var 0)) (pdg_tup rfl (pdgs_cons 3 Sc.nd (pdgs_cons 4 Sc.nd pdgs_nil))) (pds_one (pds_if (PDW.t (pdw_or (PDW.t (pdw_and (pdt_notN (pd_ix (pd_var 4) pd_int) pd_non) (pdw_and1 (pdt_notIn (pd_var 3) (pd_var 1))))) (pdw_or1 (PDW.t (pdw_and (pdt_isN (pd_ix (pd_var 4) pd_int) pd_non) (pdw_and (pdt_eq hr (pd_ix (pd_var 4) pd_int) (pd_gstr T.c_READ)) (pdw_and1 (pdt_in (pd_var 3) (pd_var 1))))))))) (pds_one (pds_ret pd_bl)) pds_nil)) rfl (passes_of rfl))
    (pds_one (pds_ret (pd_and (pd_call c_are_behind hr (pda_cons false (pd_var 0) (pda_cons false (pd_var 1) pda_nil)) hx_cx (hlen := (aCons_len (aCons_len aNil_len)))) (pd_one (pd_call c_are_told hr (pda_cons false (pd_var 0) (pda_cons false (pd_var 1) pda_nil)) hx_cx (hlen := (aCons_len (aCons_len aNil_len)))))))))))))⟩
@[irreducible] noncomputable def m_is_right_order : FM := fnOf ["history", "thing", "many", "index", "call"] b_is_right_order.1
theorem df_is_right_order {P : Program} {w : World} {K : PySem.W.Frag} {mg : Str → Option Value} {base : Heap} (T : Txt K mg) (c_check_history : Df P w K mg base 12 "check_history" ["thing"] m_check_history) (c_is_index : Df P w K mg base 3 "is_index" ["thing", "many"] m_is_index) (c_are_told : Df P w K mg base 0 "are_told" ["history", "row"] m_are_told) (c_are_behind : Df P w K mg base 0 "are_behind" ["history", "row"] m_are_behind) : Df P w K mg base 13 "is_right_order" ["history", "thing"] m_is_right_order := by
  unfold m_is_right_order
  obtain ⟨f, fd, Fn, hm⟩ := T.f_is_right_order
  exact Df.mk' Fn sc_is_right_order hm (Fn.binds fun _ _ _ _ _ _ us hl => match us, hl with | [_, _], _ => rfl) (fun cdv A outer s H E hr => b_is_right_order.2 T c_check_history c_is_index c_are_told c_are_behind f cdv A outer s H E hr)
theorem sc_is_single : FnScope ["history", "word", "call", "writer"] ["history", "word", "call"] (defScope st_is_single) := ⟨rfl, rfl, rfl, by decide +kernel, rfl, by decide +kernel, by decide +kernel⟩
noncomputable def m_is_single : FM := fun _ _ => .bad
theorem df_is_single {P : Program} {w : World} {K : PySem.W.Frag} {mg : Str → Option Value} {base : Heap} (T : Txt K mg) : Df P w K mg base 0 "is_single" ["history", "word", "call"] m_is_single := by
  obtain ⟨f, fd, Fn, hm⟩ := T.f_is_single
  exact Df.bad Fn sc_is_single hm (Fn.binds fun _ _ _ _ _ _ us hl => match us, hl with | [_, _, _], _ => rfl)
theorem sc_is_late : FnScope ["call", "read"] ["call", "read"] (defScope st_is_late) := ⟨rfl, rfl, rfl, by decide +kernel, rfl, by decide +kernel, by decide +kernel⟩
noncomputable def m_is_late : FM := fun _ _ => .bad
theorem df_is_late {P : Program} {w : World} {K : PySem.W.Frag} {mg : Str → Option Value} {base : Heap} (T : Txt K mg) : Df P w K mg base 0 "is_late" ["call", "read"] m_is_late := by
  obtain ⟨f, fd, Fn, hm⟩ := T.f_is_late
  exact Df.bad Fn sc_is_late hm (Fn.binds fun _ _ _ _ _ _ us hl => match us, hl with | [_, _], _ => rfl)
theorem sc_is_crossed : FnScope ["calls", "one", "two", "three", "four", "call"] ["calls"] (defScope st_is_crossed) := ⟨rfl, rfl, rfl, by decide +kernel, rfl, by decide +kernel, by decide +kernel⟩
noncomputable def m_is_crossed : FM := fun _ _ => .bad
theorem df_is_crossed {P : Program} {w : World} {K : PySem.W.Frag} {mg : Str → Option Value} {base : Heap} (T : Txt K mg) : Df P w K mg base 0 "is_crossed" ["calls"] m_is_crossed := by
  obtain ⟨f, fd, Fn, hm⟩ := T.f_is_crossed
  exact Df.bad Fn sc_is_crossed hm (Fn.binds fun _ _ _ _ _ _ us hl => match us, hl with | [_], _ => rfl)
theorem sc_is_bar : FnScope ["history", "thing", "calls", "index"] ["history", "thing"] (defScope st_is_bar) := ⟨rfl, rfl, rfl, by decide +kernel, rfl, by decide +kernel, by decide +kernel⟩
noncomputable def b_is_bar : { g : SM // ∀ {P : Program} {w : World} {K : PySem.W.Frag} {mg : Str → Option Value} {base : Heap} (T : Txt K mg) (c_check_history : Df P w K mg base 12 "check_history" ["thing"] m_check_history) (c_is_index : Df P w K mg base 3 "is_index" ["thing", "many"] m_is_index) (c_is_single : Df P w K mg base 0 "is_single" ["history", "word", "call"] m_is_single) (c_is_tuple_of : Df P w K mg base 1 "is_tuple_of" ["thing", "many"] m_is_tuple_of) (c_is_late : Df P w K mg base 0 "is_late" ["call", "read"] m_is_late) (c_is_crossed : Df P w K mg base 0 "is_crossed" ["calls"] m_is_crossed) (f : Addr) (cdv : Value) (A : Around) (outer : List Env) (s : Shared) (H : Hp) (E : XK), Room 12 (A.deeper (envOfC "is_bar" (defScope st_is_bar) s.heap.objs.size f cdv)) → PDSs (cxOf (L2.CX P w) P w K mg base ["history", "thing", "calls", "index"] "is_bar" (defScope st_is_bar) f cdv A outer s H E) E (defBody st_is_bar) g } :=
  ⟨_, fun T c_check_history c_is_index c_is_single c_is_tuple_of c_is_late c_is_crossed f cdv A outer s H E hr => by
    have Sc := sc_is_bar
    exact (pds_cons (pds_expr (pd_call c_check_history hr (pda_cons false (pd_var 0) pda_nil) hx_cx (hlen := (aCons_len aNil_len))))
    (pds_cons (pds_if (PDW.t (pdw_or (pdt_not (pdt_val (pd_isi T.b_isinstance T.b_tuple (by decide +kernel) kTup (pd_var 1)))) (pdw_or (pdt_ltA (pd_len T.b_len (pd_var 1)) pd_int) (pdw_or1 (pdt_not (pdt_val (pd_isi T.b_isinstance T.b_str (by decide +kernel) kStr (pd_ix (pd_var 1) pd_int)))))))) (pds_one (pds_ret pd_bl)) pds_nil)
    (pds_cons (pds_if (pdt_not (pdt_val (pd_all T.b_all rfl (pd_lc rfl Sc.nd (pdi_any (pd_slice (pd_var 1) (pdo_some pd_int) pdo_none)) [("index", 3)] (blkOk_by (N := ["history", "thing", "calls", "index"]) (sc := defScope st_is_bar) (by decide +kernel)) (fun _ _ _ _ _ => (pdg_name 3 Sc.nd)) (gT1_mem 3) (fun _ _ _ _ _ => pdts_nil) (fun _ _ _ _ _ => (pd_call c_is_index hr (pda_cons false (pd_var 3) (pda_cons false (pd_len T.b_len (pd_var 0)) pda_nil)) passL (hlen := (aCons_len (aCons_len aNil_len))))))))) (pds_one (pds_ret pd_bl)) pds_nil)
    (pds_cons (pds_setLc false 2 rfl Sc.nd (pdi_any (pd_slice (pd_var 1) (pdo_some pd_int) pdo_none)) [("index", 3)] (blkOk_by (N := ["history", "thing", "calls", "index"]) (sc := defScope st_is_bar) (by decide +kernel)) (fun _ _ _ _ _ => (pdg_name 3 Sc.nd)) (gT1_mem 3) (fun _ _ _ _ _ => pdts_nil) (fun _ _ _ _ _ => (pd_ix (pd_var 0) (pd_var 3))) (sw_true rfl rfl rfl (by decide +kernel)))
    (pds_cons (pds_if (pdt_in (pd_ix (pd_var 1) pd_int) (pd_tup (pda_cons false pd_str (pda_cons false pd_str pda_nil)))) (pds_one (pds_ret (pd_and (pd_call c_is_tuple_of hr (pda_cons false (pd_var 1) (pda_cons false pd_int pda_nil)) hx_cx (hlen := (aCons_len (aCons_len aNil_len)))) (pd_one (pd_call c_is_single hr (pda_cons false (pd_var 0) (pda_cons false (pd_ix (pd_var 1) pd_int) (pda_cons false (pd_ix (pd_var 2) pd_int) pda_nil))) hx_cx (hlen := (aCons_len (aCons_len (aCons_len aNil_len))))))))) pds_nil)
    (pds_cons (pds_if (pdt_eq hr (pd_ix (pd_var 1) pd_int) pd_str) (pds_one (pds_ret (pd_and (pd_call c_is_tuple_of hr (pda_cons false (pd_var 1) (pda_cons false pd_int pda_nil)) hx_cx (hlen := (aCons_len (aCons_len aNil_len)))) (pd_one (pd_call c_is_late hr (pda_cons false (pd_ix (pd_var 2) pd_int) (pda_cons false (pd_ix (pd_var 2) pd_int) pda_nil)) hx_cx (hlen := (aCons_len (aCons_len aNil_len)))))))) pds_nil)
    (pds_one (pds_ret (pd_and (pd_eq hr (pd_ix (pd_var 1) pd_int) pd_str) (pd_and (pd_call c_is_tuple_of hr (pda_cons false (pd_var 1) (pda_cons false pd_int pda_nil)) hx_cx (hlen := (aCons_len (aCons_len aNil_len)))) (pd_one (pd_call c_is_crossed hr (pda_cons false (pd_var 2) pda_nil) hx_cx (hlen := (aCons_len aNil_len))))))))))))))⟩
@[irreducible] noncomputable def m_is_bar : FM := fnOf ["history", "thing", "calls", "index"] b_is_bar.1
theorem df_is_bar {P : Program} {w : World} {K : PySem.W.Frag} {mg : Str → Option Value} {base : Heap} (T : Txt K mg) (c_check_history : Df P w K mg base 12 "check_history" ["thing"] m_check_history) (c_is_index : Df P w K mg base 3 "is_index" ["thing", "many"] m_is_index) (c_is_single : Df P w K mg base 0 "is_single" ["history", "word", "call"] m_is_single) (c_is_tuple_of : Df P w K mg base 1 "is_tuple_of" ["thing", "many"] m_is_tuple_of) (c_is_late : Df P w K mg base 0 "is_late" ["call", "read"] m_is_late) (c_is_crossed : Df P w K mg base 0 "is_crossed" ["calls"] m_is_crossed) : Df P w K mg base 13 "is_bar" ["history", "thing"] m_is_bar := by
  unfold m_is_bar
  obtain ⟨f, fd, Fn, hm⟩ := T.f_is_bar
  exact Df.mk' Fn sc_is_bar hm (Fn.binds fun _ _ _ _ _ _ us hl => match us, hl with | [_, _], _ => rfl) (fun cdv A outer s H E hr => b_is_bar.2 T c_check_history c_is_index c_is_single c_is_tuple_of c_is_late c_is_crossed f cdv A outer s H E hr)
end K49

set_option Elab.async false
set_option linter.all false
set_option maxRecDepth 100000
set_option maxHeartbeats 4000000
namespace K49
noncomputable section
open PySem PySem.Spec PyProof.Rows L2 PD LamX
theorem sc_w_word : FnScope ["_law_ask", "_law_told"] ["_law_ask"] (defScope st_w_word) := ⟨rfl, rfl, rfl, by decide +kernel, rfl, by decide +kernel, by decide +kernel⟩
theorem takes_len {X : Cx} {W : WX} (t : Takes X W) : Takes X (fun c d σ H => σ.length = X.N.length → W c d σ H) := fun u s' ⟨a, B, sI, pins, σ, H, cls, d, e, I, nb, up, sky, na, os, ag, w⟩ =>
  t u s' ⟨a, B, sI, pins, σ, H, cls, d, e, I, nb, up, sky, na, os, ag, w I.len⟩
theorem word_gives {X : Cx} {g CS1 CS2 : Addr} {cdg : Value} {q : Str} (h1 : X.mg "NoHistory" = some (.ref CS1)) (h2 : X.mg "HomeError" = some (.ref CS2)) :
    GivesTo X ["_law_ask", "_law_told"] "_law_word" (defScope st_w_word) g cdg (defBody st_w_word) "_law_ask" q (TWordG X.K CS1) := by
  intro f c' s H Q tl act hc h
  have Sc := sc_w_word
  refine ⟨_, pss_cons (ps_set (i := 1) Sc.nd rfl (.inl rfl) pe_str) (pss_cons (ps_try_many (X := (cxOf C8.CX0 X.prog X.w X.K X.mg X.base ["_law_ask", "_law_told"] "_law_word" (defScope st_w_word) g cdg X.A X.stack s H C8.E0).nox)
      (l := [(.ref CS1, fun _ _ _ => tAsg (tC (.str "history")) (gName 1)), (.ref CS2, fun _ _ _ => tAsg (tC (.str "other")) (gName 1))])
      (tb := fun W D σ H => ∃ Ech : XK, (∀ cls d σ' H', Ech cls d H' → σ'.length = 2 → W cls d σ' H') ∧ σ[0]? = some (some (.ref f)) ∧ H c' = some (CodeO c' q) ∧ tl Ech H (fun _ H' => D.nx σ H'))
      rfl rfl L2.takes0 (fun W pn xe tk _ => ?_) (.cons ⟨rfl, by decide, .inl h1⟩ (fun a oe cls d pn _ _ => pss_one (ps_set (i := 1) Sc.nd rfl (.inl rfl) pe_str)) (.cons ⟨rfl, by decide, .inl h2⟩ (fun a oe cls d pn _ _ => pss_one (ps_set (i := 1) Sc.nd rfl (.inl rfl) pe_str)) .nil))) (pss_one (ps_ret (pe_var (i := 1) rfl (.inl rfl))))), ?_⟩
  · refine ⟨fun pins s' σ H' D I h' => ?_⟩
    obtain ⟨Ech, hW, k1, k2, k3⟩ := h'
    exact (pss_one (ps_expr (act _ pn xe Ech _ _ (takes_len tk) hW))).run pins s' σ H' D I ⟨k1, k2, k3⟩
  · have l0 : (L2.start ["_law_ask", "_law_told"] [V.ref f]) = [some (.ref f), none] := rfl
    rw [l0]
    refine ⟨fun cls _ H' => ∃ b, PySem.W.exmOne X.K cls (.ref CS1) = some b ∧ (b = true → Q (.str "history") H') ∧ (b = false → False), fun cls d σ' H' hh hl => ?_, rfl, hc, h _ _ (fun v H' q => ⟨.str "let", rfl, q⟩) fun cls d H' hh => hh⟩
    obtain ⟨b, e1, e2, e3⟩ := hh
    refine ⟨b, e1, fun hb a _ => ⟨.str "history", ?_, e2 hb⟩, fun hb => (e3 hb).elim⟩
    exact List.getElem?_set_self (by rw [hl]; decide)
/-- _law_word(lambda: ..) -/
theorem pd_word {q : Str} {X : Cx} {E : XK} {g CS1 CS2 c P : Addr} {k ti : Nat} {pg : Arguments} {dV kV doc pm cdv ct oc : Value} {an od : Option Addr} {osl : Array (Option Value)} {params : Arguments} {body : Expr} {scope : Scope} {p lpos pos : Pos} {fb : EM}
    (h1 : X.mg "NoHistory" = some (.ref CS1)) (h2 : X.mg "HomeError" = some (.ref CS2)) (hex : PySem.W.exmOne X.K (.ref CS1) (.ref CS1) = some true)
    (hm : X.mg "_law_word" = some (.ref g)) (hk : PySem.W.keepIn X.K (.ref g) = true)
    (lk : X.K.lookup g = some ⟨oc, od, .func (PySem.W.fnOf "_law_word" "_law_word" pg (defBody st_w_word) (defScope st_w_word) dV kV doc pm an cdv ct), osl⟩) (hcg : PySem.W.codeIn X.K cdv "_law_word" = true)
    (hb : L2.Binds X.K (PySem.W.fnOf "_law_word" "_law_word" pg (defBody st_w_word) (defScope st_w_word) dV kV doc pm an cdv ct) ["_law_ask"] [])
    (TB : TabB X.base X.mg c P) (hcode : X.env.code = .ref c) (hr : Room (k + 2) X.A) (L : LamS X.env.scope scope)
    (hbody : ∀ (A : Around) (outer : List Env) (s : Shared) (H : Hp) (E : XK) (f c' : Addr), Room k (A.deeper (lamEnv X scope s.heap.objs.size f c')) → PDE (lamCx X A outer s H E scope f c') E body fb)
    (hdef : defaultsOf params X.env = ([], []) := by rfl)
    (hbind : ∀ (q : Str) (cl : List (Str × Addr)) (pm cv ctv : Value), bindArgs (PySem.W.kla_fn "<lambda>" q params body scope cl pm cv ctv) ⟨[], []⟩ = pure [] := by intros; rfl)
    (hg : Gl X "_law_word" := by rfl) (hq : X.env.qual ++ "<lambda>" = q := by rfl) : PDE X E (.Call (.Name "_law_word" p) [.Lambda params body scope lpos] [] pos) (eWord ti P q fb) := by
  subst hq
  exact ⟨PE.imp (pe_lamcall3 (k := k) hg hm hk lk hcg hb sc_w_word rfl (.inl rfl) (word_gives h1 h2) TB hcode hr L hdef hbind (fun A outer s H E f c' hr2 => (hbody A outer s H E f c' hr2).pe)) fun σ H Q h => word_ok h1 hex h⟩
end
end K49

set_option Elab.async false
set_option linter.all false
set_option maxRecDepth 100000
set_option maxHeartbeats 4000000
namespace K49
open PySem PySem.Spec PyProof.Rows L2 PD LamX
/-- what the law's lambdas lean on -/
structure WordT (K : PySem.W.Frag) (mg : Str → Option Value) (base : Heap) (c Lp : Addr) : Prop where
  ex : ∃ CS1 CS2 : Addr, mg "NoHistory" = some (.ref CS1) ∧ mg "HomeError" = some (.ref CS2) ∧ PySem.W.exmOne K (.ref CS1) (.ref CS1) = some true
  tb : TabB base mg c Lp
theorem sc_law : FnScope ["_law_script", "_law_hand_here", "_law_turn", "_law_history_here", "_law_thing", "_law_due_here", "_law_flag", "_law_words"] ["_law_script"] (defScope st_law) := ⟨rfl, rfl, rfl, by decide +kernel, rfl, by decide +kernel, by decide +kernel⟩
noncomputable def b_law (Lp : Addr) : { g : SM // ∀ {P : Program} {w : World} {K : PySem.W.Frag} {mg : Str → Option Value} {base : Heap} (T : Txt K mg) (c_w_hand : Df P w K mg base 1 "_law_hand" ["_law_script"] m_w_hand) (c_w_history : Df P w K mg base 3 "_law_history" ["_law_hand_here", "_law_most", "_law_names"] m_w_history) (c_w_draw : Df P w K mg base 1 "_law_draw" ["_law_hand_here", "_law_many"] m_w_draw) (c_w_bent : Df P w K mg base 3 "_law_bent" ["_law_hand_here", "_law_history_here"] m_w_bent) (c_w_due : Df P w K mg base 10 "_law_due" ["_law_thing"] m_w_due) (c_is_history : Df P w K mg base 11 "is_history" ["thing"] m_is_history) (c_right_order : Df P w K mg base 13 "right_order" ["history"] m_right_order) (c_bar : Df P w K mg base 13 "bar" ["history"] m_bar) (c_is_right_order : Df P w K mg base 13 "is_right_order" ["history", "thing"] m_is_right_order) (c_is_bar : Df P w K mg base 13 "is_bar" ["history", "thing"] m_is_bar) (c : Addr) (WT : WordT K mg base c Lp) (f : Addr) (A : Around) (outer : List Env) (s : Shared) (H : Hp) (E : XK), Room 24 (A.deeper (envOfC "law" (defScope st_law) s.heap.objs.size f (.ref c))) → PDSs (cxOf (L2.CX P w) P w K mg base ["_law_script", "_law_hand_here", "_law_turn", "_law_history_here", "_law_thing", "_law_due_here", "_law_flag", "_law_words"] "law" (defScope st_law) f (.ref c) A outer s H E) E (defBody st_law) g } :=
  ⟨_, fun T c_w_hand c_w_history c_w_draw c_w_bent c_w_due c_is_history c_right_order c_bar c_is_right_order c_is_bar c WT f A outer s H E hr => by
    have Sc := sc_law
    obtain ⟨CS1, CS2, h1, h2, hex⟩ := WT.ex
    have TB := WT.tb
    obtain ⟨gw, fdw, Fw, hmw⟩ := T.f_w_word
    have hkw := Fw.kp
    have hbw := Fw.binds (ps := ["_law_ask"]) fun _ _ _ _ _ _ us hl => match us, hl with | [_], _ => rfl
    obtain ⟨_, _, _, _, _, _, _, _, _, rfl, lkw, hcw⟩ := Fw.ex
    exact (pds_cons (pds_set true 1 Sc.nd (pd_call c_w_hand hr (pda_cons false (pd_var 0) pda_nil) hx_cx (hlen := (aCons_len aNil_len))))
    (pds_cons (pds_for (pdi_range1 T.b_range pd_int) (pdg_name 2 Sc.nd) (pds_cons (pds_set false 3 Sc.nd (pd_call c_w_history hr (pda_cons true (pd_var 1) (pda_cons false pd_int (pda_cons false (pd_ix (pd_lst (pda_cons false (pd_lst (pda_cons false pd_str pda_nil)) (pda_cons false (pd_lst (pda_cons false pd_str (pda_cons false pd_str pda_nil))) pda_nil))) (pd_call c_w_draw hr (pda_cons true (pd_var 1) (pda_cons false pd_int pda_nil)) hx_cx (hlen := (aCons_len (aCons_len aNil_len))))) pda_nil))) hx_cx (hlen := (aCons_len (aCons_len (aCons_len aNil_len))))))
    (pds_cons (pds_set false 4 Sc.nd (pd_call c_w_bent hr (pda_cons true (pd_var 1) (pda_cons false (pd_var 3) pda_nil)) hx_cx (hlen := (aCons_len (aCons_len aNil_len)))))
    (pds_cons (pds_set false 5 Sc.nd (pd_call c_w_due hr (pda_cons false (pd_var 4) pda_nil) hx_cx (hlen := (aCons_len aNil_len))))
    (pds_cons (pds_set false 6 Sc.nd (pd_call c_is_history hr (pda_cons false (pd_var 4) pda_nil) hx_cx (hlen := (aCons_len aNil_len))))
    (pds_cons (pds_if (PDW.t (pdw_or (pdt_not (pdt_val (pd_isi T.b_isinstance T.b_bool (by decide +kernel) kBool (pd_var 6)))) (pdw_or1 (pdt_ne hr (pd_var 6) (pd_var 5))))) (pds_one (pds_ret pd_bl)) pds_nil)
    (pds_cons (pds_set true 7 Sc.nd (pd_lst (pda_cons false (pd_word (q := "law.<locals>.<lambda>") (ti := 0) (k := 20) h1 h2 hex hmw hkw lkw hcw hbw TB rfl (hr.mono (by decide)) (lamS_by (by kernel_rfl)) (fun A outer s H E f c1 hr2 => (pd_call c_right_order hr2 (pda_cons false (pd_var 4) pda_nil) (passes_call (takes_of rfl rfl rfl rfl) fun _ _ _ _ h => h) (hlen := (aCons_len aNil_len))))) pda_nil)))
    (pds_cons (pds_expr (pd_append (pd_var 7) (pd_word (q := "law.<locals>.<lambda>") (ti := 0) (k := 20) h1 h2 hex hmw hkw lkw hcw hbw TB rfl (hr.mono (by decide)) (lamS_by (by kernel_rfl)) (fun A outer s H E f c1 hr2 => (pd_call c_bar hr2 (pda_cons false (pd_var 4) pda_nil) (passes_call (takes_of rfl rfl rfl rfl) fun _ _ _ _ h => h) (hlen := (aCons_len aNil_len)))))))
    (pds_cons (pds_expr (pd_append (pd_var 7) (pd_word (q := "law.<locals>.<lambda>") (ti := 0) (k := 20) h1 h2 hex hmw hkw lkw hcw hbw TB rfl (hr.mono (by decide)) (lamS_by (by kernel_rfl)) (fun A outer s H E f c1 hr2 => (pd_call c_is_right_order hr2 (pda_cons false (pd_var 4) (pda_cons false pd_non pda_nil)) (passes_call (takes_of rfl rfl rfl rfl) fun _ _ _ _ h => h) (hlen := (aCons_len (aCons_len aNil_len))))))))
    (pds_cons (pds_expr (pd_append (pd_var 7) (pd_word (q := "law.<locals>.<lambda>") (ti := 0) (k := 20) h1 h2 hex hmw hkw lkw hcw hbw TB rfl (hr.mono (by decide)) (lamS_by (by kernel_rfl)) (fun A outer s H E f c1 hr2 => (pd_call c_is_bar hr2 (pda_cons false (pd_var 4) (pda_cons false (pd_tup pda_nil) pda_nil)) (passes_call (takes_of rfl rfl rfl rfl) fun _ _ _ _ h => h) (hlen := (aCons_len (aCons_len aNil_len))))))))
    (pds_one (pds_if (pdt_ne hr (pd_var 7) (pd_mul (pd_lst (pda_cons false (pd_if (pdt_val (pd_var 5)) pd_str pd_str) pda_nil)) pd_int)) (pds_one (pds_ret pd_bl)) pds_nil))))))))))) rfl (passes_of rfl))
    (pds_one (pds_ret pd_bl))))⟩
@[irreducible] noncomputable def m_law (Lp : Addr) : FM := fnOf ["_law_script", "_law_hand_here", "_law_turn", "_law_history_here", "_law_thing", "_law_due_here", "_law_flag", "_law_words"] (b_law Lp).1
/-- the law's def, its code object known -/
theorem fn_law {P : Program} {w : World} {K : PySem.W.Frag} {mg : Str → Option Value} {base : Heap} {f c Lp : Addr} {kV doc pm ct oc : Value} {an od : Option Addr} {osl : Array (Option Value)} (T : Txt K mg) (c_w_hand : Df P w K mg base 1 "_law_hand" ["_law_script"] m_w_hand) (c_w_history : Df P w K mg base 3 "_law_history" ["_law_hand_here", "_law_most", "_law_names"] m_w_history) (c_w_draw : Df P w K mg base 1 "_law_draw" ["_law_hand_here", "_law_many"] m_w_draw) (c_w_bent : Df P w K mg base 3 "_law_bent" ["_law_hand_here", "_law_history_here"] m_w_bent) (c_w_due : Df P w K mg base 10 "_law_due" ["_law_thing"] m_w_due) (c_is_history : Df P w K mg base 11 "is_history" ["thing"] m_is_history) (c_right_order : Df P w K mg base 13 "right_order" ["history"] m_right_order) (c_bar : Df P w K mg base 13 "bar" ["history"] m_bar) (c_is_right_order : Df P w K mg base 13 "is_right_order" ["history", "thing"] m_is_right_order) (c_is_bar : Df P w K mg base 13 "is_bar" ["history", "thing"] m_is_bar) (WT : WordT K mg base c Lp)
    (lk : K.lookup f = some ⟨oc, od, .func (PySem.W.fnOf "law" "law" (defArgs st_law) (defBody st_law) (defScope st_law) .none kV doc pm an (.ref c) ct), osl⟩) (hcd : PySem.W.codeIn K (.ref c) "law" = true) :
    FnOk P w K mg base (L2.CX P w) 25 f (PySem.W.fnOf "law" "law" (defArgs st_law) (defBody st_law) (defScope st_law) .none kV doc pm an (.ref c) ct) ["_law_script"] (spF ⟨K, P, w⟩ mg 1 (m_law Lp)) := by
  unfold m_law
  refine fn_of lk hcd sc_law (fun vs H Q E h => ?_) fun A outer s H vs Q E hr h => ⟨_, ((b_law Lp).2 T c_w_hand c_w_history c_w_draw c_w_bent c_w_due c_is_history c_right_order c_bar c_is_right_order c_is_bar c WT f A outer s H E hr).pss, ?_⟩
  · obtain ⟨_, _, _, _, _, hl, _⟩ := h
    exact hl
  · obtain ⟨F, G, as, mem, ws, hl, R, r, h⟩ := h
    exact ⟨F, G, as, s0 ["_law_script", "_law_hand_here", "_law_turn", "_law_history_here", "_law_thing", "_law_due_here", "_law_flag", "_law_words"] mem ws, R.start _ r, fin_ok (sb := s0 ["_law_script", "_law_hand_here", "_law_turn", "_law_history_here", "_law_thing", "_law_due_here", "_law_flag", "_law_words"] mem ws) rfl (R.start _ r) h⟩
end K49

set_option Elab.async false
set_option linter.all false
set_option maxRecDepth 100000
set_option maxHeartbeats 4000000
set_option exponentiation.threshold 4000
namespace K49
open PySem PySem.Spec PyProof.Rows L2 PD
abbrev Mem := List (Option Cell)
theorem sl_le {n : Nat} (h : n ≤ 16777216) : n ≤ sizeLine := Nat.le_trans h sizeLine_big
theorem sl_lt {n : Nat} (h : n < 16777216) : n < sizeLine := Nat.lt_of_lt_of_le h sizeLine_big
@[simp] theorem sl0 : 0 ≤ sizeLine := sl_le (by decide)
@[simp] theorem sl0' : 0 < sizeLine := sl_lt (by decide)
@[simp] theorem SL0 : 0 ≤ SL.1 := SL_le (by decide)
@[simp] theorem SL0' : 0 < SL.1 := SL_lt (by decide)
@[simp] theorem sl1 : 1 ≤ sizeLine := sl_le (by decide)
@[simp] theorem sl1' : 1 < sizeLine := sl_lt (by decide)
@[simp] theorem SL1 : 1 ≤ SL.1 := SL_le (by decide)
@[simp] theorem SL1' : 1 < SL.1 := SL_lt (by decide)
@[simp] theorem sl2 : 2 ≤ sizeLine := sl_le (by decide)
@[simp] theorem sl2' : 2 < sizeLine := sl_lt (by decide)
@[simp] theorem SL2 : 2 ≤ SL.1 := SL_le (by decide)
@[simp] theorem SL2' : 2 < SL.1 := SL_lt (by decide)
@[simp] theorem sl3 : 3 ≤ sizeLine := sl_le (by decide)
@[simp] theorem sl3' : 3 < sizeLine := sl_lt (by decide)
@[simp] theorem SL3 : 3 ≤ SL.1 := SL_le (by decide)
@[simp] theorem SL3' : 3 < SL.1 := SL_lt (by decide)
@[simp] theorem sl4 : 4 ≤ sizeLine := sl_le (by decide)
@[simp] theorem sl4' : 4 < sizeLine := sl_lt (by decide)
@[simp] theorem SL4 : 4 ≤ SL.1 := SL_le (by decide)
@[simp] theorem SL4' : 4 < SL.1 := SL_lt (by decide)
@[simp] theorem sl5 : 5 ≤ sizeLine := sl_le (by decide)
@[simp] theorem sl5' : 5 < sizeLine := sl_lt (by decide)
@[simp] theorem SL5 : 5 ≤ SL.1 := SL_le (by decide)
@[simp] theorem SL5' : 5 < SL.1 := SL_lt (by decide)
@[simp] theorem sl6 : 6 ≤ sizeLine := sl_le (by decide)
@[simp] theorem sl6' : 6 < sizeLine := sl_lt (by decide)
@[simp] theorem SL6 : 6 ≤ SL.1 := SL_le (by decide)
@[simp] theorem SL6' : 6 < SL.1 := SL_lt (by decide)
@[simp] theorem sl7 : 7 ≤ sizeLine := sl_le (by decide)
@[simp] theorem sl7' : 7 < sizeLine := sl_lt (by decide)
@[simp] theorem SL7 : 7 ≤ SL.1 := SL_le (by decide)
@[simp] theorem SL7' : 7 < SL.1 := SL_lt (by decide)
@[simp] theorem sl8 : 8 ≤ sizeLine := sl_le (by decide)
@[simp] theorem sl8' : 8 < sizeLine := sl_lt (by decide)
@[simp] theorem SL8 : 8 ≤ SL.1 := SL_le (by decide)
@[simp] theorem SL8' : 8 < SL.1 := SL_lt (by decide)
@[simp] theorem sl9 : 9 ≤ sizeLine := sl_le (by decide)
@[simp] theorem sl9' : 9 < sizeLine := sl_lt (by decide)
@[simp] theorem SL9 : 9 ≤ SL.1 := SL_le (by decide)
@[simp] theorem SL9' : 9 < SL.1 := SL_lt (by decide)
@[simp] theorem sl10 : 10 ≤ sizeLine := sl_le (by decide)
@[simp] theorem sl10' : 10 < sizeLine := sl_lt (by decide)
@[simp] theorem SL10 : 10 ≤ SL.1 := SL_le (by decide)
@[simp] theorem SL10' : 10 < SL.1 := SL_lt (by decide)
@[simp] theorem sl11 : 11 ≤ sizeLine := sl_le (by decide)
@[simp] theorem sl11' : 11 < sizeLine := sl_lt (by decide)
@[simp] theorem SL11 : 11 ≤ SL.1 := SL_le (by decide)
@[simp] theorem SL11' : 11 < SL.1 := SL_lt (by decide)
@[simp] theorem sl12 : 12 ≤ sizeLine := sl_le (by decide)
@[simp] theorem sl12' : 12 < sizeLine := sl_lt (by decide)
@[simp] theorem SL12 : 12 ≤ SL.1 := SL_le (by decide)
@[simp] theorem SL12' : 12 < SL.1 := SL_lt (by decide)
@[simp] theorem sl13 : 13 ≤ sizeLine := sl_le (by decide)
@[simp] theorem sl13' : 13 < sizeLine := sl_lt (by decide)
@[simp] theorem SL13 : 13 ≤ SL.1 := SL_le (by decide)
@[simp] theorem SL13' : 13 < SL.1 := SL_lt (by decide)
@[simp] theorem sl14 : 14 ≤ sizeLine := sl_le (by decide)
@[simp] theorem sl14' : 14 < sizeLine := sl_lt (by decide)
@[simp] theorem SL14 : 14 ≤ SL.1 := SL_le (by decide)
@[simp] theorem SL14' : 14 < SL.1 := SL_lt (by decide)
@[simp] theorem sl15 : 15 ≤ sizeLine := sl_le (by decide)
@[simp] theorem sl15' : 15 < sizeLine := sl_lt (by decide)
@[simp] theorem SL15 : 15 ≤ SL.1 := SL_le (by decide)
@[simp] theorem SL15' : 15 < SL.1 := SL_lt (by decide)
@[simp] theorem sl16 : 16 ≤ sizeLine := sl_le (by decide)
@[simp] theorem sl16' : 16 < sizeLine := sl_lt (by decide)
@[simp] theorem SL16 : 16 ≤ SL.1 := SL_le (by decide)
@[simp] theorem SL16' : 16 < SL.1 := SL_lt (by decide)
@[simp] theorem sl17 : 17 ≤ sizeLine := sl_le (by decide)
@[simp] theorem sl17' : 17 < sizeLine := sl_lt (by decide)
@[simp] theorem SL17 : 17 ≤ SL.1 := SL_le (by decide)
@[simp] theorem SL17' : 17 < SL.1 := SL_lt (by decide)
@[simp] theorem sl18 : 18 ≤ sizeLine := sl_le (by decide)
@[simp] theorem sl18' : 18 < sizeLine := sl_lt (by decide)
@[simp] theorem SL18 : 18 ≤ SL.1 := SL_le (by decide)
@[simp] theorem SL18' : 18 < SL.1 := SL_lt (by decide)
@[simp] theorem sl19 : 19 ≤ sizeLine := sl_le (by decide)
@[simp] theorem sl19' : 19 < sizeLine := sl_lt (by decide)
@[simp] theorem SL19 : 19 ≤ SL.1 := SL_le (by decide)
@[simp] theorem SL19' : 19 < SL.1 := SL_lt (by decide)
@[simp] theorem sl20 : 20 ≤ sizeLine := sl_le (by decide)
@[simp] theorem sl20' : 20 < sizeLine := sl_lt (by decide)
@[simp] theorem SL20 : 20 ≤ SL.1 := SL_le (by decide)
@[simp] theorem SL20' : 20 < SL.1 := SL_lt (by decide)
section
variable {e : List (Option W)} {m : List (Option Cell)} {b : Nat} {i j : Nat} {w w1 w2 : W} {s : S} {x y z : D} {xs ys zs : List D} {fa fb fc fe fo fi : EM} {ga : AM} {t u : TM} {f g h : SM}
@[simp] theorem gInS_mk {k : Bool} : gInS k w1 w2 ⟨e, m, b⟩ = match dat ⟨e, m, b⟩ w1, w2 with
  | some x, .d (.tuple xs) => (match strsD xs with
    | some ys => .ok (.d (.bool (if k then !inStrD x ys else inStrD x ys)), ⟨e, m, b⟩)
    | none => .bad)
  | _, _ => .bad := id rfl
@[simp] theorem strsD_nil : strsD [] = some [] := rfl
@[simp] theorem strsD_c {z : Str} : strsD (.str z :: xs) = (strsD xs).map (z :: ·) := rfl
@[simp] theorem inStrD_s {z : Str} {ys : List Str} : inStrD (.str z) ys = ys.any fun y => decide (y = z) := rfl
@[simp] theorem inStrD_i {z : Int} {ys : List Str} : inStrD (.int z) ys = false := rfl
@[simp] theorem inStrD_b {z : Bool} {ys : List Str} : inStrD (.bool z) ys = false := rfl
@[simp] theorem inStrD_n {ys : List Str} : inStrD .none ys = false := rfl
@[simp] theorem inStrD_l {ys : List Str} : inStrD (.list xs) ys = false := rfl
@[simp] theorem inStrD_t {ys : List Str} : inStrD (.tuple xs) ys = false := rfl
@[simp] theorem inStrD_d {kd : List (D × D)} {ys : List Str} : inStrD (.dict kd) ys = false := rfl
@[simp] theorem eLcC_mk {own : List Nat} {tgt : GM} : eLcC own fi tgt t fe ⟨e, m, b⟩ = (fi ⟨e, m, b⟩).bind fun p => match p.1 with
  | .c n => (match p.2.mem[n]? with
    | some (some (.l xs)) => (lcGoC n own tgt t fe p.2.env xs.length 0 p.2 []).bind fun q => .ok (.f q.1, q.2)
    | _ => .bad)
  | _ => .bad := id rfl
@[simp] theorem tupOnly_mk : tupOnly fa ⟨e, m, b⟩ = (fa ⟨e, m, b⟩).bind fun p => match toD p.1 p.2 with
  | some (.tuple xs, s') => .ok (xs, s')
  | _ => .bad := id rfl
@[simp] theorem iEnumT_mk : iEnumT fa ⟨e, m, b⟩ = (tupOnly fa ⟨e, m, b⟩).bind fun p => .ok (enumFrom 0 p.1, p.2) := id rfl
@[simp] theorem gBest_mk {k : Bool} : gBest k w ⟨e, m, b⟩ = match dat ⟨e, m, b⟩ w with
  | some (.list (x :: xs)) => if (x :: xs).all isIP then .ok (.d (bestD k x xs), ⟨e, m, b⟩) else .bad
  | _ => .bad := id rfl
@[simp] theorem eLenNK_mk : eLenNK i fa ⟨e, m, b⟩ = (fa ⟨e, m, b⟩).bind fun p => match toD p.1 p.2 with
  | some (.list xs, s2) => (match keysD xs with
    | some ks => if ks.length < SL.1 ∧ i < s2.env.length then .ok (.d (.int (diffK ks).length), s2) else .bad
    | none => .bad)
  | _ => .bad := by rw [SL.2]; rfl
@[simp] theorem eLenSet_mk : eLenSet fa ⟨e, m, b⟩ = (fa ⟨e, m, b⟩).bind fun p => match toD p.1 p.2 with
  | some (.list xs, s2) => (match keysD xs with
    | some ks => if ks.length < 64 then .ok (.d (.int (diffK ks).length), s2) else .bad
    | none => .bad)
  | _ => .bad := id rfl
@[simp] theorem gSort_mk : gSort w ⟨e, m, b⟩ = match dat ⟨e, m, b⟩ w with
  | some (.list xs) => if srtOk xs then .ok (.f (sortD xs), ⟨e, m, b⟩) else .bad
  | _ => .bad := id rfl
@[simp] theorem mRemove_mk : mRemove xs [.d x] = if PyData.canLayAll0 xs = true ∧ x.canLay0 = true ∧ x.depth ≤ 60 then (match SeqAt.dataPlace xs x with
    | some j => some (.none, xs.eraseIdx j)
    | none => none) else none := id rfl
@[simp] theorem eDisp1_mk : eDisp1 i ⟨e, m, b⟩ = match e[i]? with
  | some (some _) => .ok (.d dicS, ⟨e, m, b⟩)
  | _ => .bad := id rfl
@[simp] theorem dicOnly_mk {k : List (D × D) → List D} : dicOnly k fa ⟨e, m, b⟩ = (fa ⟨e, m, b⟩).bind fun p => match p.1 with
  | .d (.dict kd) => if ndOk kd then .ok (k kd, p.2) else .bad
  | _ => .bad := id rfl
@[simp] theorem gDGet_mk : gDGet w1 w2 ⟨e, m, b⟩ = match w1, w2 with
  | .d (.dict kd), .d x => if ndOk kd then (match keyD x with
    | some k => (match lookD kd k with
      | some d => .ok (.d d, ⟨e, m, b⟩)
      | none => .bad)
    | none => .bad) else .bad
  | _, _ => .bad := id rfl
@[simp] theorem eDGet2_mk : eDGet2 fa fb fc ⟨e, m, b⟩ = (fa ⟨e, m, b⟩).bind fun p => match p.1 with
  | .d (.dict kd) => if ndOk kd then (fb p.2).bind fun q => (match q.1 with
    | .d x => (match keyD x with
      | some k => (fc q.2).bind fun t => (match lookD kd k with
        | some d => .ok (.d d, t.2)
        | none => .ok t)
      | none => .bad)
    | _ => .bad) else .bad
  | _ => .bad := id rfl
@[simp] theorem eSortNames_mk : eSortNames i fa ⟨e, m, b⟩ = (fa ⟨e, m, b⟩).bind fun p => match p.1 with
  | .d (.dict kd) => if ndOk kd ∧ i < p.2.env.length then (match namesD kd with
    | some zs => if zs.length < SL.1 then .ok (.f (sortD ((distS zs).map PyData.str)), p.2) else .bad
    | none => .bad) else .bad
  | _ => .bad := by rw [SL.2]; rfl
@[simp] theorem sGroups_mk {it : IM} {tgt : GM} : sGroups i j it tgt t fe ⟨e, m, b⟩ = match e[i]? with
  | some none => (it ⟨e, m, b⟩).bind fun p => (grpGo tgt t fe j p.1 p.2 []).bind fun q => .ok (.rt (.d (dictG q.1)), q.2)
  | _ => .bad := id rfl
end
@[simp] theorem eqvAll_cons' (x y : D) (xs ys : List D) : PyData.eqvAll (x :: xs) (y :: ys) = (PyData.eqv x y && PyData.eqvAll xs ys) := by rw [PyData.eqvAll]
@[simp] theorem eqvAll_nil' : PyData.eqvAll [] [] = true := by rw [PyData.eqvAll]
@[simp] theorem eqvAll_nc (y : D) (ys : List D) : PyData.eqvAll [] (y :: ys) = false := by rw [PyData.eqvAll]
@[simp] theorem eqvAll_cn (y : D) (ys : List D) : PyData.eqvAll (y :: ys) [] = false := by rw [PyData.eqvAll]
@[simp] theorem eqv_tt (xs ys : List D) : PyData.eqv (.tuple xs) (.tuple ys) = PyData.eqvAll xs ys := by rw [PyData.eqv]
@[simp] theorem eqv_ll (xs ys : List D) : PyData.eqv (.list xs) (.list ys) = PyData.eqvAll xs ys := by rw [PyData.eqv]
@[simp] theorem canLay0_i (i : Int) : PyData.canLay0 (.int i) = true := by rw [PyData.canLay0]
@[simp] theorem canLay0_b (i : Bool) : PyData.canLay0 (.bool i) = true := by rw [PyData.canLay0]
@[simp] theorem canLay0_n : PyData.canLay0 .none = true := by rw [PyData.canLay0]
@[simp] theorem canLay0_t (xs : List D) : PyData.canLay0 (.tuple xs) = PyData.canLayAll0 xs := by rw [PyData.canLay0]
@[simp] theorem canLay0_l (xs : List D) : PyData.canLay0 (.list xs) = PyData.canLayAll0 xs := by rw [PyData.canLay0]
@[simp] theorem canLayAll0_nil : PyData.canLayAll0 [] = true := by rw [PyData.canLayAll0]
@[simp] theorem canLayAll0_cons (x : D) (xs : List D) : PyData.canLayAll0 (x :: xs) = (PyData.canLay0 x && PyData.canLayAll0 xs) := by rw [PyData.canLayAll0]
@[simp] theorem depth_i (i : Int) : PyData.depth (.int i) = 0 := by rw [PyData.depth]
@[simp] theorem depth_b (i : Bool) : PyData.depth (.bool i) = 0 := by rw [PyData.depth]
@[simp] theorem depth_n : PyData.depth .none = 0 := by rw [PyData.depth]
@[simp] theorem depth_s (x : Str) : PyData.depth (.str x) = 0 := by rw [PyData.depth]
@[simp] theorem depth_t (xs : List D) : PyData.depth (.tuple xs) = PyData.depthAll xs + 1 := by rw [PyData.depth]
@[simp] theorem depth_l (xs : List D) : PyData.depth (.list xs) = PyData.depthAll xs + 1 := by rw [PyData.depth]
@[simp] theorem depthAll_nil : PyData.depthAll [] = 0 := by rw [PyData.depthAll]
@[simp] theorem depthAll_cons (x : D) (xs : List D) : PyData.depthAll (x :: xs) = max (PyData.depth x) (PyData.depthAll xs) := by rw [PyData.depthAll]
@[simp] theorem shaped_eq (d : D) : SeqAt.shaped d = (d.canLay0 && decide (d.depth ≤ 64)) := rfl
@[simp] theorem eqv_nb {a2 : Bool} : PyData.eqv .none (.bool a2) = false := by rw [PyData.eqv]
@[simp] theorem eqv_ni {i2 : Int} : PyData.eqv .none (.int i2) = false := by rw [PyData.eqv]
@[simp] theorem eqv_ns {x2 : Str} : PyData.eqv .none (.str x2) = false := by rw [PyData.eqv]
@[simp] theorem eqv_nl {xs2 : List D} : PyData.eqv .none (.list xs2) = false := by rw [PyData.eqv]
@[simp] theorem eqv_nt {xs2 : List D} : PyData.eqv .none (.tuple xs2) = false := by rw [PyData.eqv]
@[simp] theorem eqv_nd {kd2 : List (D × D)} : PyData.eqv .none (.dict kd2) = false := by rw [PyData.eqv]
@[simp] theorem eqv_bn {a : Bool} : PyData.eqv (.bool a) .none = false := by rw [PyData.eqv]
@[simp] theorem eqv_bs {a : Bool} {x2 : Str} : PyData.eqv (.bool a) (.str x2) = false := by rw [PyData.eqv]
@[simp] theorem eqv_bl {a : Bool} {xs2 : List D} : PyData.eqv (.bool a) (.list xs2) = false := by rw [PyData.eqv]
@[simp] theorem eqv_bt {a : Bool} {xs2 : List D} : PyData.eqv (.bool a) (.tuple xs2) = false := by rw [PyData.eqv]
@[simp] theorem eqv_bd {a : Bool} {kd2 : List (D × D)} : PyData.eqv (.bool a) (.dict kd2) = false := by rw [PyData.eqv]
@[simp] theorem eqv_in {i : Int} : PyData.eqv (.int i) .none = false := by rw [PyData.eqv]
@[simp] theorem eqv_is {i : Int} {x2 : Str} : PyData.eqv (.int i) (.str x2) = false := by rw [PyData.eqv]
@[simp] theorem eqv_il {i : Int} {xs2 : List D} : PyData.eqv (.int i) (.list xs2) = false := by rw [PyData.eqv]
@[simp] theorem eqv_it {i : Int} {xs2 : List D} : PyData.eqv (.int i) (.tuple xs2) = false := by rw [PyData.eqv]
@[simp] theorem eqv_id {i : Int} {kd2 : List (D × D)} : PyData.eqv (.int i) (.dict kd2) = false := by rw [PyData.eqv]
@[simp] theorem eqv_sn {x : Str} : PyData.eqv (.str x) .none = false := by rw [PyData.eqv]
@[simp] theorem eqv_sb {x : Str} {a2 : Bool} : PyData.eqv (.str x) (.bool a2) = false := by rw [PyData.eqv]
@[simp] theorem eqv_si {x : Str} {i2 : Int} : PyData.eqv (.str x) (.int i2) = false := by rw [PyData.eqv]
@[simp] theorem eqv_sl {x : Str} {xs2 : List D} : PyData.eqv (.str x) (.list xs2) = false := by rw [PyData.eqv]
@[simp] theorem eqv_st {x : Str} {xs2 : List D} : PyData.eqv (.str x) (.tuple xs2) = false := by rw [PyData.eqv]
@[simp] theorem eqv_sd {x : Str} {kd2 : List (D × D)} : PyData.eqv (.str x) (.dict kd2) = false := by rw [PyData.eqv]
@[simp] theorem eqv_ln {xs : List D} : PyData.eqv (.list xs) .none = false := by rw [PyData.eqv]
@[simp] theorem eqv_lb {xs : List D} {a2 : Bool} : PyData.eqv (.list xs) (.bool a2) = false := by rw [PyData.eqv]
@[simp] theorem eqv_li {xs : List D} {i2 : Int} : PyData.eqv (.list xs) (.int i2) = false := by rw [PyData.eqv]
@[simp] theorem eqv_ls {xs : List D} {x2 : Str} : PyData.eqv (.list xs) (.str x2) = false := by rw [PyData.eqv]
@[simp] theorem eqv_lt {xs : List D} {xs2 : List D} : PyData.eqv (.list xs) (.tuple xs2) = false := by rw [PyData.eqv]
@[simp] theorem eqv_ld {xs : List D} {kd2 : List (D × D)} : PyData.eqv (.list xs) (.dict kd2) = false := by rw [PyData.eqv]
@[simp] theorem eqv_tn {xs : List D} : PyData.eqv (.tuple xs) .none = false := by rw [PyData.eqv]
@[simp] theorem eqv_tb {xs : List D} {a2 : Bool} : PyData.eqv (.tuple xs) (.bool a2) = false := by rw [PyData.eqv]
@[simp] theorem eqv_ti {xs : List D} {i2 : Int} : PyData.eqv (.tuple xs) (.int i2) = false := by rw [PyData.eqv]
@[simp] theorem eqv_ts {xs : List D} {x2 : Str} : PyData.eqv (.tuple xs) (.str x2) = false := by rw [PyData.eqv]
@[simp] theorem eqv_tl {xs : List D} {xs2 : List D} : PyData.eqv (.tuple xs) (.list xs2) = false := by rw [PyData.eqv]
@[simp] theorem eqv_td {xs : List D} {kd2 : List (D × D)} : PyData.eqv (.tuple xs) (.dict kd2) = false := by rw [PyData.eqv]
@[simp] theorem eqv_dn {kd : List (D × D)} : PyData.eqv (.dict kd) .none = false := by rw [PyData.eqv]
@[simp] theorem eqv_db {kd : List (D × D)} {a2 : Bool} : PyData.eqv (.dict kd) (.bool a2) = false := by rw [PyData.eqv]
@[simp] theorem eqv_di {kd : List (D × D)} {i2 : Int} : PyData.eqv (.dict kd) (.int i2) = false := by rw [PyData.eqv]
@[simp] theorem eqv_ds {kd : List (D × D)} {x2 : Str} : PyData.eqv (.dict kd) (.str x2) = false := by rw [PyData.eqv]
@[simp] theorem eqv_dl {kd : List (D × D)} {xs2 : List D} : PyData.eqv (.dict kd) (.list xs2) = false := by rw [PyData.eqv]
@[simp] theorem eqv_dt {kd : List (D × D)} {xs2 : List D} : PyData.eqv (.dict kd) (.tuple xs2) = false := by rw [PyData.eqv]
@[simp] theorem eqv_dd' {kd kd2 : List (D × D)} : PyData.eqv (.dict kd) (.dict kd2) = false := by rw [PyData.eqv]
@[simp] theorem eqv_nn : PyData.eqv .none .none = true := by rw [PyData.eqv]
@[simp] theorem eqv_ii {i j : Int} : PyData.eqv (.int i) (.int j) = decide (i = j) := by
  rw [PyData.eqv]
  by_cases h : i = j <;> simp [h]
@[simp] theorem eqv_ss {x y : Str} : PyData.eqv (.str x) (.str y) = decide (x = y) := by
  rw [PyData.eqv]
  by_cases h : x = y <;> simp [h]
@[simp] theorem eqv_bb {x y : Bool} : PyData.eqv (.bool x) (.bool y) = decide (x = y) := by
  rw [PyData.eqv]
  by_cases h : x = y <;> simp [h]
theorem inB_small {i : Int} (h : 0 ≤ i) (h2 : i ≤ 16777216) : inB i = true := by rw [inB_eq]; simp; omega
theorem boolsOf_of {α : Type} {f : α → D} (g : α → Bool) : ∀ {l : List α}, (∀ x ∈ l, f x = .bool (g x)) → boolsOf (l.map f) = some (l.map g)
  | [], _ => rfl
  | x :: l, h => by
    rw [List.map_cons, h x (List.mem_cons_self ..)]
    show (boolsOf (l.map f)).map (g x :: ·) = _
    rw [boolsOf_of g fun y hy => h y (List.mem_cons_of_mem _ hy)]
    rfl
@[simp] theorem boolsOf_nil : boolsOf [] = some [] := rfl
@[simp] theorem boolsOf_c (b : Bool) (r : List D) : boolsOf (.bool b :: r) = (boolsOf r).map (b :: ·) := rfl
abbrev IL (xs : List Int) : List D := xs.map PyData.int
theorem cutD_to {xs : List D} {h : Int} (h0 : 0 ≤ h) : PD.cutD xs none (some h) = xs.take h.toNat := by
  obtain ⟨k, rfl⟩ := Int.eq_ofNat_of_zero_le h0
  unfold PD.cutD
  rw [HT.sIx_nat, HT.sIx_none]
  simp
theorem cutD_from {xs : List D} {h : Int} (h0 : 0 ≤ h) : PD.cutD xs (some h) none = xs.drop h.toNat := by
  obtain ⟨k, rfl⟩ := Int.eq_ofNat_of_zero_le h0
  unfold PD.cutD
  rw [HT.sIx_nat, HT.sIx_none]
  by_cases h : k ≤ xs.length
  · rw [Nat.min_eq_left h, List.take_of_length_le (by simp)]
    rfl
  · rw [Nat.min_eq_right (by omega)]
    simp
    omega
theorem cutD_both {xs : List D} {l h : Int} (l0 : 0 ≤ l) (lh : l ≤ h) : PD.cutD xs (some l) (some h) = (xs.drop l.toNat).take (h.toNat - l.toNat) := by
  obtain ⟨k, rfl⟩ := Int.eq_ofNat_of_zero_le l0
  obtain ⟨j, rfl⟩ := Int.eq_ofNat_of_zero_le (a := h) (by omega)
  unfold PD.cutD
  rw [HT.sIx_nat, HT.sIx_nat]
  simp only [Int.ofNat_eq_natCast, Int.toNat_natCast]
  by_cases h1 : k ≤ xs.length
  · rw [Nat.min_eq_left h1]
    by_cases h2 : j ≤ xs.length
    · rw [Nat.min_eq_left h2]
    · rw [Nat.min_eq_right (by omega), List.take_of_length_le (by simp), List.take_of_length_le (by simp; omega)]
  · rw [List.drop_of_length_le (show xs.length ≤ min k xs.length by omega), List.drop_of_length_le (show xs.length ≤ k by omega)]
    simp
theorem atI_pos {α : Type} {l : List α} {i : Int} (h : 0 ≤ i) : atI l i = l[i.toNat]? := by
  obtain ⟨k, rfl⟩ := Int.eq_ofNat_of_zero_le h
  exact atI_nat
theorem log2_le_of {n k : Nat} (h : n < 2 ^ k) : n.log2 ≤ k := by
  by_cases h0 : n = 0
  · subst h0; simp
  · exact Nat.le_of_lt ((Nat.log2_lt h0).mpr h)
theorem cMul_pow {i j : Int} (n m : Nat) (hi : i.natAbs < 2 ^ n) (hj : j.natAbs < 2 ^ m) (h : n + m < 1000000) : cMul i j = true := by
  unfold cMul
  have h1 := log2_le_of hi
  have h2 := log2_le_of hj
  exact decide_eq_true (by omega)
theorem cDiv_pow {i j : Int} (m : Nat) (h0 : 0 < j) (hj : j.natAbs < 2 ^ m) (h : m < 9000) : cDiv i j = true := by
  unfold cDiv
  have h2 := log2_le_of hj
  rw [decide_eq_true h0, decide_eq_true (show j.natAbs.log2 < 9000 by omega)]
  rfl
theorem mulA {i j : Int} (hi : -(2 ^ 400) < i ∧ i < 2 ^ 400) (hj : -(2 ^ 400) < j ∧ j < 2 ^ 400) : cMul i j = true := cMul_pow 400 400 (by omega) (by omega) (by decide)
theorem pick {P : D → Prop} {l : List D} {f : Int} (f0 : 0 ≤ f) (f1 : f < (l.length : Int)) (h : ∀ x ∈ l, P x) : ∃ x, atI l f = some x ∧ P x := by
  rw [atI_pos f0]
  have hl : f.toNat < l.length := by omega
  exact ⟨l[f.toNat], List.getElem?_eq_getElem hl, h _ (List.getElem_mem hl)⟩
@[simp] theorem enumFrom_nil {k : Nat} : enumFrom k [] = [] := rfl
@[simp] theorem enumFrom_c {k : Nat} {d : D} {r : List D} : enumFrom k (d :: r) = .tuple [.int (k : Nat), d] :: enumFrom (k + 1) r := rfl
theorem seqIx {k n : Nat} (h : k < n) : seqIndex? (k : Int) n = some k := by
  unfold seqIndex?
  have h0 : ¬ ((k : Int) < 0) := by omega
  simp [h0]
  omega
theorem popAt_ok {xs : List D} {k : Nat} {x : D} (h : xs[k]? = some x) (hk : k < 16777216) : mPopAt xs [.d (.int (k : Int))] = some (x, xs.eraseIdx k) := by
  have hl : k < xs.length := (List.getElem?_eq_some_iff.mp h).1
  unfold mPopAt
  dsimp only
  rw [if_pos (inB_small (by omega) (by omega)), seqIx hl]
  dsimp only
  rw [h]
/-! ### a comprehension over a cell that only looks -/
theorem lcGoC_pure {n : Nat} {own : List Nat} {tgt : GM} {t : TM} {fe : EM} {env0 : List (Option W)} {m : List (Option Cell)} {b : Nat} (k : D → Option D) {xs : List D} (hm : m[n]? = some (some (.l xs))) : ∀ (fuel i : Nat) (acc : List D)
    (_ : ∀ d ∈ xs, ∃ s1, tgt d ⟨wipeE env0 own, m, b⟩ = some s1 ∧ ((k d = none ∧ ∃ e2, t s1 = .ok (false, ⟨e2, m, b⟩)) ∨ ∃ x e2 w e3 e4, k d = some x ∧ t s1 = .ok (true, ⟨e2, m, b⟩) ∧ fe ⟨e2, m, b⟩ = .ok (w, ⟨e3, m, b⟩) ∧ toD w ⟨e3, m, b⟩ = some (x, ⟨e4, m, b⟩))) (_ : xs.length ≤ sizeLine) (_ : xs.length ≤ i + fuel) (_ : i ≤ xs.length) (_ : acc.length ≤ i),
    lcGoC n own tgt t fe env0 fuel i ⟨env0, m, b⟩ acc = .ok (acc ++ (xs.drop i).filterMap k, ⟨env0, m, b⟩)
  | 0, i, acc, h, hl, hf, hi, ha => by
    have : xs[i]? = none := List.getElem?_eq_none (by omega)
    unfold lcGoC
    dsimp only
    rw [hm]
    dsimp only
    rw [this, List.drop_of_length_le (by omega)]
    simp
  | fuel + 1, i, acc, h, hl, hf, hi, ha => by
    unfold lcGoC
    dsimp only
    rw [hm]
    dsimp only
    by_cases hi2 : i < xs.length
    · have e0 : xs[i]? = some xs[i] := List.getElem?_eq_getElem hi2
      rw [e0, List.drop_eq_getElem_cons hi2]
      dsimp only
      obtain ⟨s1, e1, h1⟩ := h xs[i] (List.getElem_mem hi2)
      rw [e1]
      dsimp only
      rcases h1 with ⟨kd, e2, ht⟩ | ⟨x, e2, w, e3, e4, kd, ht, hf', hd⟩
      · rw [ht, nox_ok, Res.bind_ok]
        dsimp only
        rw [if_neg Bool.false_ne_true, lcGoC_pure k hm fuel (i + 1) acc h hl (by omega) (by omega) (by omega), List.filterMap_cons, kd]
      · rw [ht, nox_ok, Res.bind_ok]
        dsimp only
        rw [if_pos rfl, hf', nox_ok, Res.bind_ok]
        dsimp only
        rw [hd]
        dsimp only
        rw [if_pos (by omega), lcGoC_pure k hm fuel (i + 1) (acc ++ [x]) h hl (by omega) (by omega) (by simp; omega), List.filterMap_cons, kd]
        simp
    · have : xs[i]? = none := List.getElem?_eq_none (by omega)
      rw [this, List.drop_of_length_le (by omega)]
      simp
/-! ### kinds -/
def isI : D → Bool | .int _ => true | _ => false
@[simp] theorem isI_i {i : Int} : isI (.int i) = true := rfl
@[simp] theorem is_integer_eq (mem : Mem) (x : D) : m_is_integer mem [.d x] = .ok (.d (.bool (isI x)), mem) := by
  unfold m_is_integer b_is_integer
  cases x <;> simp [isI]
@[simp] theorem w_is_int_eq (mem : Mem) (x : D) : m_w_is_int mem [.d x] = .ok (.d (.bool (isI x)), mem) := by
  unfold m_w_is_int b_w_is_int
  cases x <;> simp [isI]
def tupOf : D → Int → Bool | .tuple xs, n => decide ((xs.length : Int) = n) | _, _ => false
@[simp] theorem tupOf_t {xs : List D} {n : Int} : tupOf (.tuple xs) n = decide ((xs.length : Int) = n) := rfl
@[simp] theorem is_tuple_of_eq (mem : Mem) (x : D) (n : Int) : m_is_tuple_of mem [.d x, .d (.int n)] = .ok (.d (.bool (tupOf x n)), mem) := by
  unfold m_is_tuple_of b_is_tuple_of
  cases x <;> simp [tupOf]
def sg (z : Str) : Bool := !decide (z.cps.toList < (" " : Str).cps.toList) && !decide (("~" : Str).cps.toList < z.cps.toList)
@[simp] theorem is_sign_eq (mem : Mem) (z : Str) : m_is_sign mem [.d (.str z)] = .ok (.d (.bool (sg z)), mem) := by
  unfold m_is_sign b_is_sign
  simp [sg]
  split <;> simp_all
def isSt : D → Bool | .str _ => true | _ => false
def sgs (z : Str) : Bool := z.cps.toList.all fun c => sg ⟨#[c]⟩
/-! a small thing of any kind -/
mutual
def gd : D → Bool
  | .none => true
  | .bool _ => true
  | .int i => decide (-1000000 ≤ i) && decide (i ≤ 1000000)
  | .str z => decide (z.length ≤ 1000) && PyData.strOk z
  | .list xs => decide (xs.length ≤ 1000) && gdAll xs
  | .tuple xs => decide (xs.length ≤ 1000) && gdAll xs
  | .dict _ => true
def gdAll : List D → Bool
  | [] => true
  | x :: xs => gd x && gdAll xs
end
theorem gdAll_iff : ∀ {xs : List D}, gdAll xs = true ↔ ∀ x ∈ xs, gd x = true
  | [] => by simp [gdAll]
  | x :: xs => by simp [gdAll, gdAll_iff (xs := xs)]
theorem sgs_ok (mem : Mem) (z : Str) (hz : z.length ≤ 1000) : m_is_signs mem [.d (.str z)] = .ok (.d (.bool (sgs z)), mem) := by
  unfold m_is_signs b_is_signs
  simp
  rw [lcGo_map (fun d => match d with
    | .str y => PyData.bool (sg y)
    | _ => .none)]
  · simp
    rw [boolsOf_of fun c => sg ⟨#[c]⟩]
    · simp [sgs]
    · intro c _
      simp
  · intro d hd
    obtain ⟨c, _, rfl⟩ := List.mem_map.mp hd
    simp
  · simp
    exact sl_le (Nat.le_trans (show z.cps.size ≤ 1000 from hz) (by decide))
theorem sgs_no (mem : Mem) (x : D) (h : isSt x = false) : m_is_signs mem [.d x] = .ok (.d (.bool false), mem) := by
  unfold m_is_signs b_is_signs
  cases x <;> simp [isSt] at h ⊢
def isThing : Nat → D → Bool
  | _, .none => true
  | _, .int _ => true
  | _, .str z => sgs z
  | k + 1, .tuple xs => xs.all (isThing k)
  | _, _ => false
theorem is_thing_eq (mem : Mem) : ∀ (k n : Nat) (x : D), k ≤ n → gd x = true → m_is_thing (n + 1) mem [.d x, .d (.int (k : Nat))] = .ok (.d (.bool (isThing k x)), mem) := by
  intro k
  induction k with
  | zero =>
    intro n x _ hg
    unfold m_is_thing b_is_thing
    cases x with
    | str z =>
      have := sgs_ok mem z (by simp [gd] at hg; exact hg.1)
      simp [isI, isThing, this]
    | int i =>
      simp [gd] at hg
      have h1 : (-999999999999999999999999999999 : Int) ≤ i := by omega
      have h2 : i ≤ (999999999999999999999999999999 : Int) := by omega
      simp [isI, isThing, h1, h2]
    | none => simp [isI, isThing]
    | bool b => simp [isI, isThing, sgs_no mem (.bool b) rfl]
    | list b => simp [isI, isThing, sgs_no mem (.list b) rfl]
    | dict b => simp [isI, isThing, sgs_no mem (.dict b) rfl]
    | tuple b => simp [isI, isThing]
  | succ k ih =>
    intro n x hn hg
    obtain ⟨n, rfl⟩ : ∃ n', n = n' + 1 := ⟨n - 1, by omega⟩
    unfold m_is_thing b_is_thing
    cases x with
    | str z =>
      have := sgs_ok mem z (by simp [gd] at hg; exact hg.1)
      simp [isI, isThing, this]
    | int i =>
      simp [gd] at hg
      have h1 : (-999999999999999999999999999999 : Int) ≤ i := by omega
      have h2 : i ≤ (999999999999999999999999999999 : Int) := by omega
      simp [isI, isThing, h1, h2]
    | tuple xs =>
      simp [gd] at hg
      have hx := gdAll_iff.mp hg.2
      have h0 : (0 : Int) < (k : Int) + 1 := by omega
      have h1 : ((k : Int) + 1 - 1) = k := by omega
      simp [h0]
      rw [lcGo_map (fun d => PyData.bool (isThing k d))]
      · simp
        rw [boolsOf_of (fun d => isThing k d) fun _ _ => rfl]
        simp [isThing]
      · intro d hd
        have := ih n d (by omega) (hx d hd)
        simp [h1, this]
      · exact sl_le (by omega)
    | none => simp [isI, isThing]
    | bool b => simp [isI, isThing, sgs_no mem (.bool b) rfl]
    | list b => simp [isI, isThing, sgs_no mem (.list b) rfl]
    | dict b => simp [isI, isThing, sgs_no mem (.dict b) rfl]
theorem w_is_thing_eq (mem : Mem) : ∀ (k n : Nat) (x : D), k ≤ n → gd x = true → m_w_is_thing (n + 1) mem [.d x, .d (.int (k : Nat))] = .ok (.d (.bool (isThing k x)), mem) := by
  have st : ∀ (n : Nat) (k : Nat) (z : Str), z.length ≤ 1000 → m_w_is_thing (n + 1) mem [.d (.str z), .d (.int (k : Nat))] = .ok (.d (.bool (sgs z)), mem) := fun n k z hz => by
    unfold m_w_is_thing b_w_is_thing
    simp [isI]
    rw [lcGo_map (fun d => match d with
      | .str y => PyData.bool (sg y)
      | _ => .none)]
    · simp
      rw [boolsOf_of fun c => sg ⟨#[c]⟩]
      · simp [sgs]
      · intro c _
        simp
    · intro d hd
      obtain ⟨c, _, rfl⟩ := List.mem_map.mp hd
      simp [sg]
      split <;> simp_all
    · simp
      exact sl_le (Nat.le_trans (show z.cps.size ≤ 1000 from hz) (by decide))
  intro k
  induction k with
  | zero =>
    intro n x _ hg
    cases x with
    | str z => exact st n 0 z (by simp [gd] at hg; exact hg.1)
    | _ =>
      unfold m_w_is_thing b_w_is_thing
      simp [isI, isThing]
  | succ k ih =>
    intro n x hn hg
    obtain ⟨n, rfl⟩ : ∃ n', n = n' + 1 := ⟨n - 1, by omega⟩
    cases x with
    | str z => exact st _ _ z (by simp [gd] at hg; exact hg.1)
    | tuple xs =>
      unfold m_w_is_thing b_w_is_thing
      simp [gd] at hg
      have hx := gdAll_iff.mp hg.2
      have h0 : (0 : Int) < (k : Int) + 1 := by omega
      have h1 : ((k : Int) + 1 - 1) = k := by omega
      simp [h0, isI]
      rw [lcGo_map (fun d => PyData.bool (isThing k d))]
      · simp
        rw [boolsOf_of (fun d => isThing k d) fun _ _ => rfl]
        simp [isThing]
      · intro d hd
        have := ih n d (by omega) (hx d hd)
        simp [h1, this]
      · exact sl_le (by omega)
    | _ =>
      unfold m_w_is_thing b_w_is_thing
      simp [isI, isThing]
end K49

set_option Elab.async false
set_option linter.all false
set_option maxRecDepth 100000
set_option maxHeartbeats 4000000
namespace K49
open PySem PySem.Spec PyProof.Rows L2 PD
/-- a call -/
structure Cl where
  w : Bool
  n : Str
  t : D
  b : Int
  e : Option Int
def dE : Option Int → D
  | none => .none
  | some i => .int i
@[simp] theorem dE_n : dE none = .none := rfl
@[simp] theorem dE_s {i : Int} : dE (some i) = .int i := rfl
def kS (w : Bool) : Str := if w then "write" else "read"
def dC (c : Cl) : D := .tuple [.str (kS c.w), .str c.n, c.t, .int c.b, dE c.e]
@[simp] theorem nwA : (("read" : Str) = "write") = False := by simp only [eq_iff_iff, iff_false]; decide
@[simp] theorem nwB : (("write" : Str) = "read") = False := by simp only [eq_iff_iff, iff_false]; decide
@[simp] theorem kS_w {w : Bool} : (kS w = "write") = (w = true) := by cases w <;> simp [kS]
@[simp] theorem kS_r {w : Bool} : (kS w = "read") = (w = false) := by cases w <;> simp [kS]
@[simp] theorem w_kS {w : Bool} : ("write" = kS w) = (w = true) := by cases w <;> simp [kS]
@[simp] theorem r_kS {w : Bool} : ("read" = kS w) = (w = false) := by cases w <;> simp [kS]
def isN : D → Bool | .none => true | _ => false
@[simp] theorem isN_n : isN .none = true := rfl
@[simp] theorem isN_i {i : Int} : isN (.int i) = false := rfl
@[simp] theorem isN_s {i : Str} : isN (.str i) = false := rfl
@[simp] theorem isN_t {i : List D} : isN (.tuple i) = false := rfl
theorem isN_iff {x : D} : isN x = true ↔ x = .none := by cases x <;> simp [isN]
def endOf (b : Int) : D → Option (Option Int)
  | .none => some none
  | .int x => if b < x then some (some x) else none
  | _ => none
def callOf : D → Option Cl
  | .tuple [.str z, .str n, t, .int b, e] => if (z = "read" ∨ z = "write") ∧ isThing 5 t = true ∧ ¬ (z = "write" ∧ isN t = true) then (endOf b e).map fun e => ⟨decide (z = "write"), n, t, b, e⟩ else none
  | _ => none
theorem callOf_ok {x : D} {c : Cl} (h : callOf x = some c) : x = dC c ∧ isThing 5 c.t = true ∧ (c.w = true → isN c.t = false) ∧ (∀ i, c.e = some i → c.b < i) := by
  unfold callOf at h
  split at h
  · rename_i z n t b e
    split at h
    · rename_i hz
      obtain ⟨h1, h2, h3⟩ := hz
      have : ∃ o, endOf b e = some o ∧ (⟨decide (z = "write"), n, t, b, o⟩ : Cl) = c := by
        cases q : endOf b e with
        | none => rw [q] at h; cases h
        | some o => rw [q] at h; exact ⟨o, rfl, by simpa using h⟩
      obtain ⟨o, e1, rfl⟩ := this
      have he : e = dE o ∧ ∀ i, o = some i → b < i := by
        unfold endOf at e1
        split at e1
        · cases e1; exact ⟨rfl, fun _ h => by cases h⟩
        · split at e1
          · rename_i hb
            cases e1
            exact ⟨rfl, fun i h => by cases h; exact hb⟩
          · cases e1
        · cases e1
      refine ⟨?_, h2, fun hw => ?_, he.2⟩
      · rw [he.1]
        rcases h1 with rfl | rfl
        · simp [dC, kS]
        · simp [dC, kS]
      · dsimp only at hw ⊢
        rw [decide_eq_true_eq] at hw
        cases q : isN t with
        | false => rfl
        | true => exact absurd ⟨hw, q⟩ h3
    · cases h
  · cases h
theorem isI_iff {x : D} : isI x = true ↔ ∃ i, x = .int i := by cases x <;> simp [isI]
theorem isSt_iff {x : D} : isSt x = true ↔ ∃ z, x = .str z := by cases x <;> simp [isSt]
theorem end_eq (b : Int) (e : D) : (isN e || (isI e && (match e with | .int x => decide (b < x) | _ => false))) = (endOf b e).isSome := by
  cases e with
  | int x => by_cases h : b < x <;> simp [isN, endOf, h, isI]
  | _ => simp [isN, endOf, isI]
theorem is_call_eq (mem : Mem) (x : D) (hg : gd x = true) : m_is_call mem [.d x] = .ok (.d (.bool (callOf x).isSome), mem) := by
  unfold m_is_call b_is_call
  cases x with
  | tuple xs =>
    match xs with
    | [k, n, t, b, e] =>
      simp [gd, gdAll] at hg
      have ht := is_thing_eq mem 5 6 t (by decide) (by simp [hg])
      have ht' : m_is_thing 7 mem [.d t, .d (.int 5)] = .ok (.d (.bool (isThing 5 t)), mem) := ht
      cases k with
      | str z =>
        by_cases hz : z = "read" ∨ z = "write"
        · cases n with
          | str n =>
            cases h5 : isThing 5 t with
            | false => cases b <;> (rcases hz with rfl | rfl <;> simp [callOf, ht', h5])
            | true =>
              cases b with
              | int b =>
                rcases hz with rfl | rfl
                · cases e with
                  | int e => by_cases hb : b < e <;> simp [callOf, ht', h5, endOf, hb]
                  | _ => simp [callOf, ht', h5, endOf, isI]
                · cases t with
                  | none => simp [callOf, ht', h5]
                  | _ =>
                    cases e with
                    | int e => by_cases hb : b < e <;> simp [callOf, ht', h5, endOf, hb, isN]
                    | _ => simp [callOf, ht', h5, endOf, isI, isN]
              | _ => rcases hz with rfl | rfl <;> simp [callOf, ht', h5, isI]
          | _ => rcases hz with rfl | rfl <;> simp [callOf]
        · have hz1 : ¬ z = "read" := fun h => hz (.inl h)
          have hz2 : ¬ z = "write" := fun h => hz (.inr h)
          have hz3 : ¬ "read" = z := fun h => hz1 h.symm
          have hz4 : ¬ "write" = z := fun h => hz2 h.symm
          cases n with
          | str n =>
            cases b with
            | int b => simp [callOf, hz1, hz2, hz3, hz4]
            | _ => simp [callOf, hz1, hz2, hz3, hz4]
          | _ => simp [callOf, hz1, hz2, hz3, hz4]
      | _ => simp [callOf]
    | [] => simp [callOf]
    | [_] => simp [callOf]
    | [_, _] => simp [callOf]
    | [_, _, _] => simp [callOf]
    | [_, _, _, _] => simp [callOf]
    | a :: b :: c :: d :: e :: f :: r =>
      have : ¬ ((r.length : Int) + 1 + 1 + 1 + 1 + 1 + 1 = 5) := by omega
      simp [callOf, this]
  | _ => simp [callOf, tupOf]
theorem w_is_call_eq (mem : Mem) (x : D) (hg : gd x = true) : m_w_is_call mem [.d x] = .ok (.d (.bool (callOf x).isSome), mem) := by
  unfold m_w_is_call b_w_is_call
  cases x with
  | tuple xs =>
    match xs with
    | [k, n, t, b, e] =>
      simp [gd, gdAll] at hg
      have ht := w_is_thing_eq mem 5 6 t (by decide) (by simp [hg])
      have ht' : m_w_is_thing 7 mem [.d t, .d (.int 5)] = .ok (.d (.bool (isThing 5 t)), mem) := ht
      cases k with
      | str z =>
        by_cases hz : z = "read" ∨ z = "write"
        · cases n with
          | str n =>
            cases h5 : isThing 5 t with
            | false => cases b <;> (rcases hz with rfl | rfl <;> simp [callOf, ht', h5])
            | true =>
              cases b with
              | int b =>
                rcases hz with rfl | rfl
                · cases e with
                  | int e => by_cases hb : b < e <;> simp [callOf, ht', h5, endOf, hb]
                  | _ => simp [callOf, ht', h5, endOf, isI]
                · cases t with
                  | none => simp [callOf, ht', h5]
                  | _ =>
                    cases e with
                    | int e => by_cases hb : b < e <;> simp [callOf, ht', h5, endOf, hb, isN]
                    | _ => simp [callOf, ht', h5, endOf, isI, isN]
              | _ => rcases hz with rfl | rfl <;> simp [callOf, ht', h5, isI]
          | _ => rcases hz with rfl | rfl <;> simp [callOf]
        · have hz1 : ¬ z = "read" := fun h => hz (.inl h)
          have hz2 : ¬ z = "write" := fun h => hz (.inr h)
          have hz3 : ¬ "read" = z := fun h => hz1 h.symm
          have hz4 : ¬ "write" = z := fun h => hz2 h.symm
          cases n with
          | str n =>
            cases b with
            | int b => simp [callOf, hz1, hz2, hz3, hz4]
            | _ => simp [callOf, hz1, hz2, hz3, hz4]
          | _ => simp [callOf, hz1, hz2, hz3, hz4]
      | _ => simp [callOf]
    | [] => simp [callOf]
    | [_] => simp [callOf]
    | [_, _] => simp [callOf]
    | [_, _, _] => simp [callOf]
    | [_, _, _, _] => simp [callOf]
    | a :: b :: c :: d :: e :: f :: r =>
      have : ¬ ((r.length : Int) + 1 + 1 + 1 + 1 + 1 + 1 = 5) := by omega
      have h2 : r.length + 1 + 1 + 1 + 1 + 1 + 1 ≠ 5 := by omega
      simp [callOf, this]
  | _ => simp [callOf, tupOf]
end K49

set_option Elab.async false
set_option linter.all false
set_option maxRecDepth 100000
set_option maxHeartbeats 4000000
namespace K49
open PySem PySem.Spec PyProof.Rows L2 PD
abbrev HL (cs : List Cl) : List D := cs.map dC
structure GC (c : Cl) : Prop where
  th : isThing 5 c.t = true
  td : gd c.t = true
  ns : gd (.str c.n) = true
  wn : c.w = true → isN c.t = false
  be : ∀ i, c.e = some i → c.b < i
structure GH (cs : List Cl) : Prop where
  len : cs.length ≤ 20
  c : ∀ c ∈ cs, GC c
/-! ### keys -/
mutual
theorem nk_thing : ∀ (x : D) (k : Nat), isThing k x = true → ∃ q, nkD x = some q ∧ q.depth ≤ k
  | .none, k, _ => ⟨.none, by simp [nkD], by simp [NestedKey.depth]⟩
  | .int i, k, _ => ⟨.num i, by simp [nkD], by simp [NestedKey.depth]⟩
  | .str z, k, _ => ⟨.text z, by simp [nkD], by simp [NestedKey.depth]⟩
  | .bool b, k, h => by cases k <;> simp [isThing] at h
  | .list xs, k, h => by cases k <;> simp [isThing] at h
  | .dict xs, k, h => by cases k <;> simp [isThing] at h
  | .tuple xs, 0, h => by simp [isThing] at h
  | .tuple xs, k + 1, h => by
    obtain ⟨q, h1, h2⟩ := nks_thing xs k (by simpa [isThing] using h)
    exact ⟨.tup q, by rw [nkD, h1]; rfl, by rw [NestedKey.depth]; omega⟩
theorem nks_thing : ∀ (xs : List D) (k : Nat), (∀ x ∈ xs, isThing k x = true) → ∃ q, nkDs xs = some q ∧ NestedKey.depthAll q ≤ k
  | [], k, _ => ⟨[], by simp [nkDs], by simp [NestedKey.depthAll]⟩
  | x :: xs, k, h => by
    obtain ⟨q, h1, h2⟩ := nk_thing x k (h x (List.mem_cons_self ..))
    obtain ⟨r, h3, h4⟩ := nks_thing xs k fun y hy => h y (List.mem_cons_of_mem _ hy)
    exact ⟨q :: r, by rw [nkDs, h1, h3]; rfl, by rw [NestedKey.depthAll]; omega⟩
end
mutual
theorem nk_inj : ∀ (x y : D) (k j : Nat), isThing k x = true → isThing j y = true → nkD x = nkD y → x = y
  | .none, y, k, j, _, hy, h => by
    cases y with
    | none => rfl
    | tuple ys => simp only [nkD] at h; cases q : nkDs ys <;> rw [q] at h <;> cases h
    | bool b => cases j <;> simp [isThing] at hy
    | _ => simp [nkD] at h
  | .int i, y, k, j, _, hy, h => by
    cases y with
    | tuple ys => simp only [nkD] at h; cases q : nkDs ys <;> rw [q] at h <;> cases h
    | bool b => cases j <;> simp [isThing] at hy
    | _ => simp [nkD] at h <;> simp [h]
  | .str z, y, k, j, _, hy, h => by
    cases y with
    | tuple ys => simp only [nkD] at h; cases q : nkDs ys <;> rw [q] at h <;> cases h
    | bool b => cases j <;> simp [isThing] at hy
    | _ => simp [nkD] at h <;> simp [h]
  | .bool b, y, k, j, hx, _, _ => by cases k <;> simp [isThing] at hx
  | .list b, y, k, j, hx, _, _ => by cases k <;> simp [isThing] at hx
  | .dict b, y, k, j, hx, _, _ => by cases k <;> simp [isThing] at hx
  | .tuple xs, y, 0, j, hx, _, _ => by simp [isThing] at hx
  | .tuple xs, y, k + 1, j, hx, hy, h => by
    have hx' : ∀ x ∈ xs, isThing k x = true := by simpa [isThing] using hx
    obtain ⟨q, h1, _⟩ := nks_thing xs k hx'
    cases y with
    | tuple ys =>
      cases j with
      | zero => simp [isThing] at hy
      | succ j =>
        have hy' : ∀ x ∈ ys, isThing j x = true := by simpa [isThing] using hy
        rw [nks_inj xs ys k j hx' hy' ?_]
        obtain ⟨r, h2, _⟩ := nks_thing ys j hy'
        simp only [nkD, h1, h2, Option.map_some, Option.some.injEq, NestedKey.tup.injEq] at h
        rw [h1, h2, h]
    | none => simp [nkD, h1] at h
    | int i => simp [nkD, h1] at h
    | str i => simp [nkD, h1] at h
    | bool b => cases j <;> simp [isThing] at hy
    | list b => cases j <;> simp [isThing] at hy
    | dict b => cases j <;> simp [isThing] at hy
theorem nks_inj : ∀ (xs ys : List D) (k j : Nat), (∀ x ∈ xs, isThing k x = true) → (∀ x ∈ ys, isThing j x = true) → nkDs xs = nkDs ys → xs = ys
  | [], [], k, j, _, _, _ => rfl
  | [], y :: ys, k, j, _, hy, h => by
    obtain ⟨r, h2, _⟩ := nks_thing (y :: ys) j hy
    obtain ⟨q, h3, _⟩ := nk_thing y j (hy y (List.mem_cons_self ..))
    obtain ⟨q', h4, _⟩ := nks_thing ys j fun z hz => hy z (List.mem_cons_of_mem _ hz)
    simp [nkDs, h3, h4] at h
  | x :: xs, [], k, j, hx, _, h => by
    obtain ⟨q, h3, _⟩ := nk_thing x k (hx x (List.mem_cons_self ..))
    obtain ⟨q', h4, _⟩ := nks_thing xs k fun z hz => hx z (List.mem_cons_of_mem _ hz)
    simp [nkDs, h3, h4] at h
  | x :: xs, y :: ys, k, j, hx, hy, h => by
    obtain ⟨q, h3, _⟩ := nk_thing x k (hx x (List.mem_cons_self ..))
    obtain ⟨q', h4, _⟩ := nks_thing xs k fun z hz => hx z (List.mem_cons_of_mem _ hz)
    obtain ⟨r, h5, _⟩ := nk_thing y j (hy y (List.mem_cons_self ..))
    obtain ⟨r', h6, _⟩ := nks_thing ys j fun z hz => hy z (List.mem_cons_of_mem _ hz)
    simp [nkDs, h3, h4, h5, h6] at h
    rw [nk_inj x y k j (hx x (List.mem_cons_self ..)) (hy y (List.mem_cons_self ..)) (by rw [h3, h5, h.1]), nks_inj xs ys k j (fun z hz => hx z (List.mem_cons_of_mem _ hz)) (fun z hz => hy z (List.mem_cons_of_mem _ hz)) (by rw [h4, h6, h.2])]
end
/-- a thing's key -/
def nk (x : D) : NestedKey := (nkD x).getD .none
theorem nk_eq {x : D} {k : Nat} (h : isThing k x = true) : nkD x = some (nk x) ∧ (nk x).depth ≤ k := by
  obtain ⟨q, h1, h2⟩ := nk_thing x k h
  unfold nk
  rw [h1]
  exact ⟨rfl, h2⟩
theorem nk_iff {x y : D} {k j : Nat} (hx : isThing k x = true) (hy : isThing j y = true) : nk x = nk y ↔ x = y :=
  ⟨fun h => nk_inj x y k j hx hy (by rw [(nk_eq hx).1, (nk_eq hy).1, h]), fun h => by rw [h]⟩
mutual
theorem eqv_thing : ∀ (x y : D) (k j : Nat), isThing k x = true → isThing j y = true → (PyData.eqv x y = true ↔ x = y)
  | .none, y, k, j, _, hy => by cases y <;> simp
  | .int i, y, k, j, _, hy => by
    cases y with
    | bool b => cases j <;> simp [isThing] at hy
    | _ => simp
  | .str z, y, k, j, _, hy => by cases y <;> simp
  | .bool b, y, k, j, hx, _ => by cases k <;> simp [isThing] at hx
  | .list b, y, k, j, hx, _ => by cases k <;> simp [isThing] at hx
  | .dict b, y, k, j, hx, _ => by cases k <;> simp [isThing] at hx
  | .tuple xs, y, 0, j, hx, _ => by simp [isThing] at hx
  | .tuple xs, y, k + 1, j, hx, hy => by
    have hx' : ∀ x ∈ xs, isThing k x = true := by simpa [isThing] using hx
    cases y with
    | tuple ys =>
      cases j with
      | zero => simp [isThing] at hy
      | succ j =>
        have hy' : ∀ x ∈ ys, isThing j x = true := by simpa [isThing] using hy
        simpa using eqvs_thing xs ys k j hx' hy'
    | _ => simp
theorem eqvs_thing : ∀ (xs ys : List D) (k j : Nat), (∀ x ∈ xs, isThing k x = true) → (∀ x ∈ ys, isThing j x = true) → (PyData.eqvAll xs ys = true ↔ xs = ys)
  | [], [], k, j, _, _ => by simp
  | [], y :: ys, k, j, _, hy => by simp
  | x :: xs, [], k, j, hx, _ => by simp
  | x :: xs, y :: ys, k, j, hx, hy => by
    simp [eqv_thing x y k j (hx x (List.mem_cons_self ..)) (hy y (List.mem_cons_self ..)), eqvs_thing xs ys k j (fun z hz => hx z (List.mem_cons_of_mem _ hz)) (fun z hz => hy z (List.mem_cons_of_mem _ hz))]
end
open Classical in
theorem eqv_dec {x y : D} {k j : Nat} (hx : isThing k x = true) (hy : isThing j y = true) : PyData.eqv x y = decide (x = y) := by
  have h := eqv_thing x y k j hx hy
  cases q : PyData.eqv x y with
  | true => exact (decide_eq_true (h.mp q)).symm
  | false =>
    refine (decide_eq_false fun e => ?_).symm
    rw [h.mpr e] at q
    cases q
/-! ### keys of pairs -/
theorem keyD_pair {n : Str} {x : D} (h : isThing 5 x = true) : keyD (.tuple [.str n, x]) = some (.tup [.text n, nk x]) := by
  obtain ⟨h1, h2⟩ := nk_eq h
  have h3 : NestedKey.depth (.tup [.text n, nk x]) ≤ 8 := by
    simp only [NestedKey.depth, NestedKey.depthAll]
    omega
  simp [keyD, nkD, nkDs, h1, h3]
theorem keysD_of {α : Type} {f : α → D} (g : α → NestedKey) : ∀ {l : List α}, (∀ x ∈ l, keyD (f x) = some (g x)) → keysD (l.map f) = some (l.map g)
  | [], _ => rfl
  | x :: l, h => by
    rw [List.map_cons, keysD, h x (List.mem_cons_self ..), keysD_of g fun y hy => h y (List.mem_cons_of_mem _ hy)]
    rfl
/-! ### moments and writes -/
def momP (c : Cl) : List (Str × Int) := (c.n, c.b) :: (match c.e with
  | none => []
  | some i => [(c.n, i)])
def moms (cs : List Cl) : List (Str × Int) := cs.flatMap momP
def pI (p : Str × Int) : D := .tuple [.str p.1, .int p.2]
def kI (p : Str × Int) : NestedKey := .tup [.text p.1, .num p.2]
def wris (cs : List Cl) : List Cl := cs.filter (·.w)
def pT (c : Cl) : D := .tuple [.str c.n, c.t]
def kT (c : Cl) : NestedKey := .tup [.text c.n, nk c.t]
theorem keys_moms (ps : List (Str × Int)) : keysD (ps.map pI) = some (ps.map kI) := keysD_of kI fun p _ => by
  have := keyD_pair (n := p.1) (x := .int p.2) (by simp [isThing])
  simpa [nk, nkD, pI, kI] using this
theorem keys_wris {cs : List Cl} (h : ∀ c ∈ cs, isThing 5 c.t = true) : keysD (cs.map pT) = some (cs.map kT) := keysD_of kT fun c hc => keyD_pair (h c hc)
theorem moms_len (cs : List Cl) : (moms cs).length ≤ 2 * cs.length := by
  induction cs with
  | nil => simp [moms]
  | cons c cs ih =>
    have : (momP c).length ≤ 2 := by unfold momP; cases c.e <;> simp
    simp only [moms, List.flatMap_cons, List.length_append, List.length_cons] at ih ⊢
    omega
/-- a history's flag -/
def histB (cs : List Cl) : Bool := decide ((diffK ((moms cs).map kI)).length = (moms cs).length) && decide ((diffK ((wris cs).map kT)).length = (wris cs).length)
theorem dC_get (c : Cl) : ∃ xs, dC c = .tuple xs ∧ xs = [.str (kS c.w), .str c.n, c.t, .int c.b, dE c.e] := ⟨_, rfl, rfl⟩
@[simp] theorem app_get0 {α : Type} {l r : List α} {x : α} : (l ++ x :: r)[l.length]? = some x := by simp
@[simp] theorem app_set0 {α : Type} {l r : List α} {x y : α} : (l ++ x :: r).set l.length y = l ++ y :: r := by
  rw [List.set_append_right _ _ (Nat.le_refl _)]
  simp
theorem moments_eq (mem : Mem) (cs : List Cl) (h : cs.length ≤ 1000) : m_moments_of mem [.d (.tuple (HL cs))] = .ok (.f ((moms cs).map pI), mem) := by
  have w : (m_moments_of mem [.d (.tuple (HL cs))]).wp (fun q => q = (.f ((moms cs).map pI), mem)) fun _ => False := by
    unfold m_moments_of b_moments_of
    simp
    rw [Res.wp_bind]
    refine forGo_wp (fun xs s => ∃ (ds rs : List Cl) (g1 : Option W), cs = ds ++ rs ∧ xs = HL rs ∧ s = ⟨[some (.d (.tuple (HL cs))), some (.c mem.length), g1, none], mem ++ [some (.l ((moms ds).map pI))], mem.length⟩) ?_ ?_ _ _ ?_
    · rintro d r s ⟨ds, rs, g1, e, hx, rfl⟩
      cases rs with
      | nil => cases hx
      | cons c rs =>
        cases hx
        have hl : ds.length + 1 + rs.length ≤ 1000 := by
          rw [e] at h; simp at h; omega
        have hm := moms_len ds
        have c1 := cutD_from (xs := [PyData.str (kS c.w), .str c.n, c.t, .int c.b, dE c.e]) (h := 3) (by decide)
        simp at c1
        have k1 : (moms ds).length + 1 ≤ SL.1 := SL_le (by omega)
        have k2 : (moms ds).length + 2 ≤ SL.1 := SL_le (by omega)
        have hd : moms (ds ++ [c]) = moms ds ++ momP c := by simp [moms]
        cases he : c.e with
        | none =>
          have hp : momP c = [(c.n, c.b)] := by simp [momP, he]
          simp [dC, he] at c1 ⊢
          simp [c1, lcGo, k1]
          exact ⟨ds ++ [c], rs, by simp [e], rfl, by simp [hd, hp, pI]⟩
        | some i =>
          have hp : momP c = [(c.n, c.b), (c.n, i)] := by simp [momP, he]
          simp [dC, he] at c1 ⊢
          simp [c1, lcGo, k2]
          exact ⟨ds ++ [c], rs, by simp [e], rfl, by simp [hd, hp, pI]⟩
    · rintro s ⟨ds, rs, g1, e, hx, rfl⟩
      have : rs = [] := by simpa using hx.symm
      subst this
      have : cs = ds := by simpa using e
      subst this
      simp
    · exact ⟨[], cs, none, rfl, rfl, rfl⟩
  obtain ⟨q, e, rfl⟩ := Res.ok_of_wp w
  exact e
end K49

set_option Elab.async false
set_option linter.all false
set_option maxRecDepth 100000
set_option maxHeartbeats 4000000
namespace K49
open PySem PySem.Spec PyProof.Rows L2 PD
@[simp] theorem gInt_b {b : Bool} {s : S} : gInt (.d (.bool b)) s = .ok (.d (.int (if b then 1 else 0)), s) := id rfl
theorem look_of {own : List Nat} {env0 : List (Option W)} {m : List (Option Cell)} {b : Nat} {tgt : GM} {t : TM} {fe : EM} {k : D → Option D} {d : D} (h : ∃ s1, tgt d ⟨wipeE env0 own, m, b⟩ = some s1 ∧ (t s1).wp (fun c => c.2.mem = m ∧ c.2.base = b ∧ (if c.1 = true then (fe c.2).wp (fun p => p.2.mem = m ∧ p.2.base = b ∧ match toD p.1 p.2 with | some q => k d = some q.1 ∧ q.2.mem = m ∧ q.2.base = b | none => False) (fun _ => False) else k d = none)) fun _ => False) :
    ∃ s1, tgt d ⟨wipeE env0 own, m, b⟩ = some s1 ∧ ((k d = none ∧ ∃ e2, t s1 = .ok (false, ⟨e2, m, b⟩)) ∨ ∃ x e2 w e3 e4, k d = some x ∧ t s1 = .ok (true, ⟨e2, m, b⟩) ∧ fe ⟨e2, m, b⟩ = .ok (w, ⟨e3, m, b⟩) ∧ toD w ⟨e3, m, b⟩ = some (x, ⟨e4, m, b⟩)) := by
  obtain ⟨s1, h1, h2⟩ := h
  refine ⟨s1, h1, ?_⟩
  obtain ⟨⟨b1, e2, m2, b2⟩, h3, h4, h5, h6⟩ := Res.ok_of_wp h2
  dsimp only at h4 h5 h6
  subst h4 h5
  cases b1 with
  | false => exact .inl ⟨by simpa using h6, e2, h3⟩
  | true =>
    rw [if_pos rfl] at h6
    obtain ⟨⟨w, e3, m3, b3⟩, h7, h10, h11, h8⟩ := Res.ok_of_wp h6
    dsimp only at h8 h10 h11
    subst h10 h11
    split at h8
    · rename_i q e
      obtain ⟨x, e4, m4, b4⟩ := q
      obtain ⟨h9, h12, h13⟩ := h8
      dsimp only at h9 h12 h13
      subst h12 h13
      exact .inr ⟨x, e2, w, e3, e4, h9, h3, h7, e⟩
    · exact h8.elim
/-- a comprehension that only looks -/
theorem lcGo_look {own : List Nat} {env0 : List (Option W)} {m : List (Option Cell)} {b : Nat} {tgt : GM} {t : TM} {fe : EM} (k : D → Option D) (xs : List D) (h : ∀ d ∈ xs, ∃ s1, tgt d ⟨wipeE env0 own, m, b⟩ = some s1 ∧ (t s1).wp (fun c => c.2.mem = m ∧ c.2.base = b ∧ (if c.1 = true then (fe c.2).wp (fun p => p.2.mem = m ∧ p.2.base = b ∧ match toD p.1 p.2 with | some q => k d = some q.1 ∧ q.2.mem = m ∧ q.2.base = b | none => False) (fun _ => False) else k d = none)) fun _ => False) (hl : xs.length ≤ 16777216) :
    lcGo own tgt t fe env0 xs ⟨env0, m, b⟩ [] = .ok (xs.filterMap k, ⟨env0, m, b⟩) := by
  rw [lcGo_pure k xs [] (fun d hd => look_of (h d hd)) (by simpa using sl_le hl)]
  simp
theorem lcGoC_look {n : Nat} {own : List Nat} {env0 : List (Option W)} {m : List (Option Cell)} {b : Nat} {tgt : GM} {t : TM} {fe : EM} (k : D → Option D) {xs : List D} (hm : m[n]? = some (some (.l xs))) (h : ∀ d ∈ xs, ∃ s1, tgt d ⟨wipeE env0 own, m, b⟩ = some s1 ∧ (t s1).wp (fun c => c.2.mem = m ∧ c.2.base = b ∧ (if c.1 = true then (fe c.2).wp (fun p => p.2.mem = m ∧ p.2.base = b ∧ match toD p.1 p.2 with | some q => k d = some q.1 ∧ q.2.mem = m ∧ q.2.base = b | none => False) (fun _ => False) else k d = none)) fun _ => False) (hl : xs.length ≤ 16777216) :
    lcGoC n own tgt t fe env0 xs.length 0 ⟨env0, m, b⟩ [] = .ok (xs.filterMap k, ⟨env0, m, b⟩) := by
  rw [lcGoC_pure k hm xs.length 0 [] (fun d hd => look_of (h d hd)) (sl_le hl) (by omega) (by omega) (by simp)]
  simp
@[simp] theorem lt_cut31 {α : Type} {a b c d e : α} : List.take 2 (List.drop 1 [a, b, c, d, e]) = [b, c] := rfl
def callsOf : List D → Option (List Cl)
  | [] => some []
  | x :: xs => (callOf x).bind fun c => (callsOf xs).map (c :: ·)
theorem callsOf_all : ∀ xs : List D, (xs.all fun x => (callOf x).isSome) = (callsOf xs).isSome
  | [] => rfl
  | x :: xs => by
    rw [List.all_cons, callsOf_all xs, callsOf]
    cases callOf x with
    | none => rfl
    | some c => cases callsOf xs <;> rfl
theorem callsOf_ok : ∀ {xs : List D} {cs : List Cl}, callsOf xs = some cs → (∀ x ∈ xs, gd x = true) → xs = HL cs ∧ ∀ c ∈ cs, GC c
  | [], cs, h, _ => by cases h; exact ⟨rfl, fun c h => by cases h⟩
  | x :: xs, cs, h, hg => by
    rw [callsOf] at h
    cases e1 : callOf x with
    | none => rw [e1] at h; cases h
    | some c =>
      rw [e1, Option.bind_some] at h
      cases e2 : callsOf xs with
      | none => rw [e2] at h; cases h
      | some r =>
        rw [e2] at h
        cases h
        obtain ⟨a1, a2⟩ := callsOf_ok e2 fun y hy => hg y (List.mem_cons_of_mem _ hy)
        obtain ⟨b1, b2, b3, b4⟩ := callOf_ok e1
        refine ⟨by rw [a1, b1]; rfl, fun d hd => ?_⟩
        rcases List.mem_cons.mp hd with rfl | hd
        · have := hg x (List.mem_cons_self ..)
          rw [b1] at this
          simp [dC, gd, gdAll] at this
          exact ⟨b2, this.2.2.1, by simp [gd]; exact this.2.1, b3, b4⟩
        · exact a2 d hd
def isHist : D → Bool
  | .tuple xs => (match callsOf xs with
    | some cs => histB cs
    | none => false)
  | _ => false
def kW : D → Option D
  | .tuple [.str z, n, t, _, _] => if z = "write" then some (.tuple [n, t]) else none
  | _ => none
theorem kW_wris : ∀ cs : List Cl, (HL cs).filterMap kW = (wris cs).map pT
  | [] => rfl
  | c :: cs => by
    have ih := kW_wris cs
    have e : kW (dC c) = if c.w then some (pT c) else none := by
      unfold dC kW pT
      simp
    cases hw : c.w with
    | true => simp [List.filterMap_cons, e, hw, wris, ih]
    | false => simp [List.filterMap_cons, e, hw, wris, ih]
theorem wris_len (cs : List Cl) : (wris cs).length ≤ cs.length := List.length_filter_le _ _
theorem is_history_c (mem : Mem) (cs : List Cl) (h : cs.length ≤ 20) (hc : ∀ c ∈ cs, GC c) (hg : ∀ x ∈ HL cs, gd x = true) (ha : (HL cs).all (fun x => (callOf x).isSome) = true) : m_is_history mem [.d (.tuple (HL cs))] = .ok (.d (.bool (histB cs)), mem) := by
  unfold m_is_history b_is_history
  have hm := moms_len cs
  have hw := wris_len cs
  have ha' : ∀ c ∈ cs, (callOf (dC c)).isSome = true := by simpa using ha
  have k1 := keys_moms (moms cs)
  have k2 := keys_wris (cs := wris cs) fun c hx => (hc c (List.mem_filter.mp hx).1).th
  have k3 : (moms cs).length < SL.1 := SL_lt (by omega)
  have k4 : (wris cs).length < SL.1 := SL_lt (by omega)
  simp
  rw [lcGo_map (fun d => PyData.bool (callOf d).isSome)]
  · simp
    rw [boolsOf_of fun c => (callOf (dC c)).isSome]
    · have e : (List.map (fun c => (callOf (dC c)).isSome) cs).all id = true := by simpa using ha'
      simp only [e, Res.bind_ok']
      simp [moments_eq mem cs (by omega)]
      rw [lcGo_look kW _ ?_ (by simp; omega)]
      · rw [kW_wris]
        simp [k1, k2, k3, k4]
        by_cases e1 : (diffK ((moms cs).map kI)).length = (moms cs).length
        · simp [e1, histB, k2, k4]
          by_cases e2 : (diffK ((wris cs).map kT)).length = (wris cs).length
          · simp [e2]
          · simp [e2]
            omega
        · have e1' : ¬ ((diffK ((moms cs).map kI)).length : Int) = ((moms cs).length : Int) := by omega
          simp [e1, e1', histB]
      · intro d hd
        obtain ⟨c, hc', rfl⟩ := List.mem_map.mp hd
        have c1 := cutD_both (xs := [PyData.str (kS c.w), .str c.n, c.t, .int c.b, dE c.e]) (l := 1) (h := 3) (by decide) (by decide)
        simp at c1
        cases hw' : c.w with
        | true =>
          rw [hw'] at c1
          simp [kW, dC, hw', c1]
        | false => simp [kW, dC, hw', c1]
    · intro c _
      simp
  · intro d hd
    have := is_call_eq mem d (hg d hd)
    simp [this]
  · simp
    exact sl_le (by omega)
end K49

set_option Elab.async false
set_option linter.all false
set_option maxRecDepth 100000
set_option maxHeartbeats 4000000
namespace K49
open PySem PySem.Spec PyProof.Rows L2 PD
theorem is_history_eq (mem : Mem) (x : D) (hg : gd x = true) (hl : ∀ xs, x = .tuple xs → xs.length ≤ 20) : m_is_history mem [.d x] = .ok (.d (.bool (isHist x)), mem) := by
  cases x with
  | tuple xs =>
    have hg' : ∀ x ∈ xs, gd x = true := by
      simp [gd] at hg
      exact gdAll_iff.mp hg.2
    have hl' := hl xs rfl
    cases e : callsOf xs with
    | some cs =>
      obtain ⟨rfl, hc⟩ := callsOf_ok e hg'
      have ha := callsOf_all (HL cs)
      rw [e] at ha
      rw [is_history_c mem cs (by simpa using hl') hc hg' ha]
      simp [isHist, e]
    | none =>
      have ha := callsOf_all xs
      rw [e] at ha
      unfold m_is_history b_is_history
      simp
      rw [lcGo_map (fun d => PyData.bool (callOf d).isSome)]
      · simp
        rw [boolsOf_of fun d => (callOf d).isSome]
        · have e2 : (List.map (fun d => (callOf d).isSome) xs).all id = false := by rw [List.all_map]; exact ha
          simp only [e2, Res.bind_ok']
          simp [isHist, e]
        · intro d _
          rfl
      · intro d hd
        have := is_call_eq mem d (hg' d hd)
        simp [this]
      · exact sl_le (by omega)
  | _ =>
    unfold m_is_history b_is_history
    simp [isHist]
@[simp] theorem app_get1 {α : Type} {l r : List α} {x y : α} : (l ++ x :: y :: r)[l.length + 1]? = some y := by simp
@[simp] theorem app_set1 {α : Type} {l r : List α} {x y z : α} : (l ++ x :: y :: r).set (l.length + 1) z = l ++ x :: z :: r := by
  rw [List.set_append_right _ _ (by omega)]
  simp
theorem due_c (mem : Mem) (cs : List Cl) (h : cs.length ≤ 20) (hc : ∀ c ∈ cs, GC c) (hg : ∀ x ∈ HL cs, gd x = true) (ha : (HL cs).all (fun x => (callOf x).isSome) = true) : m_w_due mem [.d (.tuple (HL cs))] = .ok (.d (.bool (histB cs)), mem) := by
  have w : (m_w_due mem [.d (.tuple (HL cs))]).wp (fun q => q = (.d (.bool (histB cs)), mem)) fun _ => False := by
    unfold m_w_due b_w_due
    have hm := moms_len cs
    have hw := wris_len cs
    have ha' : ∀ c ∈ cs, (callOf (dC c)).isSome = true := by simpa using ha
    simp
    rw [lcGo_map (fun d => PyData.bool (callOf d).isSome)]
    · simp
      rw [boolsOf_of fun c => (callOf (dC c)).isSome]
      · have e : (List.map (fun c => (callOf (dC c)).isSome) cs).all id = true := by simpa using ha'
        simp only [e, Res.bind_ok']
        simp
        rw [Res.wp_bind]
        refine forGo_wp (fun xs s => ∃ (ds rs : List Cl) (g1 : Option W), cs = ds ++ rs ∧ xs = HL rs ∧ s = ⟨[some (.d (.tuple (HL cs))), g1, some (.c mem.length), some (.c (mem.length + 1)), none], mem ++ [some (.l ((moms ds).map pI)), some (.l ((wris ds).map pT))], mem.length⟩) ?_ ?_ _ _ ?_
        · rintro d r s ⟨ds, rs, g1, e, hx, rfl⟩
          cases rs with
          | nil => cases hx
          | cons c rs =>
            cases hx
            have hl : ds.length + 1 + rs.length ≤ 20 := by
              rw [e] at h; simp at h; omega
            have hm := moms_len ds
            have hw := wris_len ds
            have c1 := cutD_from (xs := [PyData.str (kS c.w), .str c.n, c.t, .int c.b, dE c.e]) (h := 3) (by decide)
            simp at c1
            have c2 := cutD_both (xs := [PyData.str (kS c.w), .str c.n, c.t, .int c.b, dE c.e]) (l := 1) (h := 3) (by decide) (by decide)
            simp at c2
            have k1 : (moms ds).length + 1 ≤ SL.1 := SL_le (by omega)
            have k2 : (moms ds).length + 2 ≤ SL.1 := SL_le (by omega)
            have k3 : (wris ds).length + 1 ≤ SL.1 := SL_le (by omega)
            have k4 : (wris ds).length ≤ SL.1 := SL_le (by omega)
            have r1 : cRep 1 1 = true := cRep_ok (by decide) (by decide) (by decide)
            have r0 : cRep 1 0 = true := cRep_ok (by decide) (by decide) (by decide)
            have hd : moms (ds ++ [c]) = moms ds ++ momP c := by simp [moms]
            have hd2 : wris (ds ++ [c]) = wris ds ++ if c.w then [c] else [] := by
              cases hw : c.w <;> simp [wris, hw]
            cases he : c.e with
            | none =>
              have hp : momP c = [(c.n, c.b)] := by simp [momP, he]
              cases hw : c.w with
              | true =>
                rw [hw] at c1 c2 hd2
                simp [dC, he, hw] at c1 c2 ⊢
                simp [c1, c2, lcGo, k1, r1, k3]
                exact ⟨ds ++ [c], rs, by simp [e], rfl, by simp [hd, hp, pI], by simp [hd2, pT]⟩
              | false =>
                rw [hw] at c1 c2 hd2
                simp [dC, he, hw] at c1 c2 ⊢
                simp [c1, c2, lcGo, k1, r0, k4]
                exact ⟨ds ++ [c], rs, by simp [e], rfl, by simp [hd, hp, pI], by simp [hd2]⟩
            | some i =>
              have hp : momP c = [(c.n, c.b), (c.n, i)] := by simp [momP, he]
              cases hw : c.w with
              | true =>
                rw [hw] at c1 c2 hd2
                simp [dC, he, hw] at c1 c2 ⊢
                simp [c1, c2, lcGo, k2, r1, k3]
                exact ⟨ds ++ [c], rs, by simp [e], rfl, by simp [hd, hp, pI], by simp [hd2, pT]⟩
              | false =>
                rw [hw] at c1 c2 hd2
                simp [dC, he, hw] at c1 c2 ⊢
                simp [c1, c2, lcGo, k2, r0, k4]
                exact ⟨ds ++ [c], rs, by simp [e], rfl, by simp [hd, hp, pI], by simp [hd2]⟩
        · rintro s ⟨ds, rs, g1, e, hx, rfl⟩
          have : rs = [] := by simpa using hx.symm
          subst this
          have : cs = ds := by simpa using e
          subst this
          have k1 := keys_moms (moms cs)
          have k2 := keys_wris (cs := wris cs) fun c hx => (hc c (List.mem_filter.mp hx).1).th
          have k3 : (moms cs).length < 64 := by omega
          have k4 : (wris cs).length < 64 := by omega
          simp [k1, k2, k3, k4]
          by_cases e1 : (diffK ((moms cs).map kI)).length = (moms cs).length
          · simp [e1, histB, k2, k4]
            by_cases e2 : (diffK ((wris cs).map kT)).length = (wris cs).length
            · simp [e2]
            · simp [e2]
              omega
          · have e1' : ¬ ((diffK ((moms cs).map kI)).length : Int) = ((moms cs).length : Int) := by omega
            simp [e1, e1', histB]
        · exact ⟨[], cs, none, rfl, rfl, rfl⟩
      · intro c _
        simp
    · intro d hd
      have := w_is_call_eq mem d (hg d hd)
      simp [this]
    · simp
      exact sl_le (by omega)
  obtain ⟨q, e, rfl⟩ := Res.ok_of_wp w
  exact e
theorem due_eq (mem : Mem) (x : D) (hg : gd x = true) (hl : ∀ xs, x = .tuple xs → xs.length ≤ 20) : m_w_due mem [.d x] = .ok (.d (.bool (isHist x)), mem) := by
  cases x with
  | tuple xs =>
    have hg' : ∀ x ∈ xs, gd x = true := by
      simp [gd] at hg
      exact gdAll_iff.mp hg.2
    have hl' := hl xs rfl
    cases e : callsOf xs with
    | some cs =>
      obtain ⟨rfl, hc⟩ := callsOf_ok e hg'
      have ha := callsOf_all (HL cs)
      rw [e] at ha
      rw [due_c mem cs (by simpa using hl') hc hg' ha]
      simp [isHist, e]
    | none =>
      have ha := callsOf_all xs
      rw [e] at ha
      unfold m_w_due b_w_due
      simp
      rw [lcGo_map (fun d => PyData.bool (callOf d).isSome)]
      · simp
        rw [boolsOf_of fun d => (callOf d).isSome]
        · have e2 : (List.map (fun d => (callOf d).isSome) xs).all id = false := by rw [List.all_map]; exact ha
          simp only [e2, Res.bind_ok']
          simp [isHist, e]
        · intro d _
          rfl
      · intro d hd
        have := w_is_call_eq mem d (hg' d hd)
        simp [this]
      · exact sl_le (by omega)
  | _ =>
    unfold m_w_due b_w_due
    simp [isHist]
theorem check_history_eq (mem : Mem) (x : D) (hg : gd x = true) (hl : ∀ xs, x = .tuple xs → xs.length ≤ 20) : m_check_history mem [.d x] = if isHist x = true then .ok (.d .none, mem) else .exc "NoHistory" := by
  unfold m_check_history b_check_history
  simp [is_history_eq mem x hg hl]
  cases isHist x <;> simp
/-- a history: its calls -/
theorem hist_calls {x : D} (h : isHist x = true) (hg : gd x = true) (hl : ∀ xs, x = .tuple xs → xs.length ≤ 20) : ∃ cs, x = .tuple (HL cs) ∧ GH cs ∧ histB cs = true := by
  unfold isHist at h
  split at h
  · rename_i xs
    split at h
    · rename_i cs e
      have hg' : ∀ x ∈ xs, gd x = true := by
        simp [gd] at hg
        exact gdAll_iff.mp hg.2
      obtain ⟨rfl, hc⟩ := callsOf_ok e hg'
      exact ⟨cs, rfl, ⟨by simpa using hl _ rfl, hc⟩, h⟩
    · cases h
  · cases h
end K49

set_option Elab.async false
set_option linter.all false
set_option maxRecDepth 100000
set_option maxHeartbeats 4000000
namespace K49
open PySem PySem.Spec PyProof.Rows L2 PD
/-! ### comprehensions over a written list -/
/-- one turn of a comprehension that only looks -/
def Look (own : List Nat) (tgt : GM) (t : TM) (fe : EM) (env0 : List (Option W)) (m : List (Option Cell)) (b : Nat) (d : D) (k : Option D) : Prop :=
  ∃ s1, tgt d ⟨wipeE env0 own, m, b⟩ = some s1 ∧ (t s1).wp (fun c => c.2.mem = m ∧ c.2.base = b ∧ (if c.1 = true then (fe c.2).wp (fun p => p.2.mem = m ∧ p.2.base = b ∧ match toD p.1 p.2 with | some q => k = some q.1 ∧ q.2.mem = m ∧ q.2.base = b | none => False) (fun _ => False) else k = none)) fun _ => False
theorem lcGo_list {α : Type} {own : List Nat} {env0 : List (Option W)} {m : List (Option Cell)} {b : Nat} {tgt : GM} {t : TM} {fe : EM} {f : α → D} (k : α → Option D) : ∀ (l : List α) (acc : List D), (∀ a ∈ l, Look own tgt t fe env0 m b (f a) (k a)) → acc.length + l.length ≤ 16777216 →
    lcGo own tgt t fe env0 (l.map f) ⟨env0, m, b⟩ acc = .ok (acc ++ l.filterMap k, ⟨env0, m, b⟩)
  | [], acc, _, _ => by simp [lcGo]
  | a :: l, acc, h, hl => by
    obtain ⟨s1, e1, h1⟩ := look_of (k := fun _ => k a) (h a (List.mem_cons_self ..))
    rw [List.map_cons]
    unfold lcGo
    dsimp only
    rw [e1]
    dsimp only
    rw [List.length_cons] at hl
    rcases h1 with ⟨kd, e2, ht⟩ | ⟨x, e2, w, e3, e4, kd, ht, hf, hd⟩
    · rw [ht, nox_ok, Res.bind_ok]
      dsimp only
      rw [if_neg Bool.false_ne_true, lcGo_list k l acc (fun d hd => h d (List.mem_cons_of_mem _ hd)) (by omega), List.filterMap_cons, kd]
    · rw [ht, nox_ok, Res.bind_ok]
      dsimp only
      rw [if_pos rfl, hf, nox_ok, Res.bind_ok]
      dsimp only
      rw [hd]
      dsimp only
      rw [if_pos (sl_lt (by omega)), lcGo_list k l (acc ++ [x]) (fun d hd => h d (List.mem_cons_of_mem _ hd)) (by simp; omega), List.filterMap_cons, kd]
      simp
theorem lcGo_l {α : Type} {own : List Nat} {env0 : List (Option W)} {m : List (Option Cell)} {b : Nat} {tgt : GM} {t : TM} {fe : EM} {f : α → D} (k : α → Option D) (l : List α) (h : ∀ a ∈ l, Look own tgt t fe env0 m b (f a) (k a)) (hl : l.length ≤ 16777216) :
    lcGo own tgt t fe env0 (l.map f) ⟨env0, m, b⟩ [] = .ok (l.filterMap k, ⟨env0, m, b⟩) := by
  rw [lcGo_list k l [] h (by simpa using hl)]
  rfl
/-! ### calls -/
abbrev NL (is : List Nat) : List D := is.map fun i => PyData.int (i : Nat)
def oN : Option Nat → D
  | none => .none
  | some i => .int (i : Nat)
@[simp] theorem oN_n : oN none = .none := rfl
@[simp] theorem oN_s {i : Nat} : oN (some i) = .int (i : Nat) := rfl
@[simp] theorem canLay0_s {z : Str} : PyData.canLay0 (.str z) = PyData.strOk z := by rw [PyData.canLay0]
mutual
theorem lay_thing : ∀ (x : D) (k : Nat), isThing k x = true → gd x = true → PyData.canLay0 x = true ∧ PyData.depth x ≤ k
  | .none, k, _, _ => by simp
  | .int i, k, _, _ => by simp
  | .str z, k, _, h => by simp [gd] at h; simp [h.2]
  | .bool b, k, h, _ => by simp
  | .list xs, k, h, _ => by cases k <;> simp [isThing] at h
  | .dict xs, k, h, _ => by cases k <;> simp [isThing] at h
  | .tuple xs, 0, h, _ => by simp [isThing] at h
  | .tuple xs, k + 1, h, hg => by
    have := lays_thing xs k (by simpa [isThing] using h) (by simp [gd] at hg; exact gdAll_iff.mp hg.2)
    simp [this.1]
    omega
theorem lays_thing : ∀ (xs : List D) (k : Nat), (∀ x ∈ xs, isThing k x = true) → (∀ x ∈ xs, gd x = true) → PyData.canLayAll0 xs = true ∧ PyData.depthAll xs ≤ k
  | [], k, _, _ => by simp
  | x :: xs, k, h, hg => by
    have h1 := lay_thing x k (h x (List.mem_cons_self ..)) (hg x (List.mem_cons_self ..))
    have h2 := lays_thing xs k (fun y hy => h y (List.mem_cons_of_mem _ hy)) fun y hy => hg y (List.mem_cons_of_mem _ hy)
    simp [h1.1, h2.1]
    omega
end
theorem GC.lay {c : Cl} (h : GC c) : PyData.canLay0 c.t = true ∧ PyData.depth c.t ≤ 63 ∧ PyData.strOk c.n = true := by
  have h1 := lay_thing c.t 5 h.th h.td
  have h2 := h.ns
  simp [gd] at h2
  exact ⟨h1.1, by omega, h2.2⟩
def kEq (o c : Cl) : Bool := decide (o.n = c.n) && PyData.eqv o.t c.t
theorem kEq_iff {o c : Cl} (ho : GC o) (hc : GC c) : kEq o c = true ↔ o.n = c.n ∧ o.t = c.t := by
  unfold kEq
  rw [Bool.and_eq_true, decide_eq_true_eq, eqv_thing o.t c.t 5 5 ho.th hc.th]
/-- name and what is told -/
theorem cut13 (c : Cl) : PD.cutD [PyData.str (kS c.w), .str c.n, c.t, .int c.b, dE c.e] (some 1) (some 3) = [.str c.n, c.t] := by
  have := cutD_both (xs := [PyData.str (kS c.w), .str c.n, c.t, .int c.b, dE c.e]) (l := 1) (h := 3) (by decide) (by decide)
  simpa using this
def WR (cs : List Cl) (c : Cl) : Option Nat → Prop
  | none => ∀ o ∈ cs, o.w = true → kEq o c = false
  | some i => ∃ o, cs[i]? = some o ∧ o.w = true ∧ kEq o c = true
theorem writer_ok (mem : Mem) (cs : List Cl) (c : Cl) (h : GH cs) (hc : GC c) : ∃ r, m_writer_of mem [.d (.tuple (HL cs)), .d (dC c)] = .ok (.d (oN r), mem) ∧ WR cs c r := by
  have w : (m_writer_of mem [.d (.tuple (HL cs)), .d (dC c)]).wp (fun q => ∃ r, q = (.d (oN r), mem) ∧ WR cs c r) fun _ => False := by
    unfold m_writer_of b_writer_of
    simp
    rw [Res.wp_bind]
    refine forGo_wp (fun xs s => ∃ (ds rs : List Cl) (g1 g2 : Option W), cs = ds ++ rs ∧ xs = enumFrom ds.length (HL rs) ∧ s = ⟨[some (.d (.tuple (HL cs))), some (.d (dC c)), g1, g2], mem, mem.length⟩ ∧ ∀ o ∈ ds, o.w = true → kEq o c = false) ?_ ?_ _ _ ?_
    · rintro d r s ⟨ds, rs, g1, g2, e, hx, rfl, hn⟩
      cases rs with
      | nil => cases hx
      | cons o rs =>
        cases hx
        have ho : GC o := h.c o (by rw [e]; simp)
        obtain ⟨a1, a2, a3⟩ := ho.lay
        obtain ⟨b1, b2, b3⟩ := hc.lay
        have c1 := cut13 o
        have c2 := cut13 c
        cases hw : o.w with
        | false =>
          simp [dC, hw]
          exact ⟨ds ++ [o], rs, by simp [e], by simp, fun p hp hpw => by
            rcases List.mem_append.mp hp with hp | hp
            · exact hn p hp hpw
            · rw [List.mem_singleton.mp hp, hw] at hpw; cases hpw⟩
        | true =>
          rw [hw] at c1
          simp [dC, hw, c1, c2, a1, a2, a3, b1, b2, b3]
          cases hk : kEq o c with
          | true =>
            have hk' : (decide (o.n = c.n) && PyData.eqv o.t c.t) = true := hk
            simp at hk'
            simp [hk']
            exact ⟨some ds.length, rfl, o, by rw [e]; simp, hw, hk⟩
          | false =>
            have hk' : (decide (o.n = c.n) && PyData.eqv o.t c.t) = false := hk
            have hk2 : ¬ (o.n = c.n ∧ PyData.eqv o.t c.t = true) := by
              intro z
              simp [z] at hk'
            simp [hk2]
            exact ⟨ds ++ [o], rs, by simp [e], by simp, fun p hp hpw => by
              rcases List.mem_append.mp hp with hp | hp
              · exact hn p hp hpw
              · rw [List.mem_singleton.mp hp]; exact hk⟩
    · rintro s ⟨ds, rs, g1, g2, e, hx, rfl, hn⟩
      have : rs = [] := by cases rs with
        | nil => rfl
        | cons o rs => cases hx
      subst this
      have : cs = ds := by simpa using e
      subst this
      simp
      exact ⟨none, rfl, hn⟩
    · exact ⟨[], cs, none, none, rfl, rfl, rfl, fun o h => by cases h⟩
  obtain ⟨q, e, r, rfl, hr⟩ := Res.ok_of_wp w
  exact ⟨r, e, hr⟩
/-- whether the call i counts -/
def cntC (cs : List Cl) (c : Cl) : Bool := c.e.isSome || (c.w && cs.any fun o => !o.w && (o.e.isSome && kEq o c))
theorem counts_eq (mem : Mem) (cs : List Cl) (i : Nat) (c : Cl) (h : GH cs) (hi : cs[i]? = some c) : m_counts mem [.d (.tuple (HL cs)), .d (.int (i : Nat))] = .ok (.d (.bool (cntC cs c)), mem) := by
  have hc : GC c := h.c c (List.mem_of_getElem? hi)
  obtain ⟨b1, b2, b3⟩ := hc.lay
  have c2 := cut13 c
  unfold m_counts b_counts
  cases he : c.e with
  | some x => simp [hi, dC, he, cntC]
  | none =>
    cases hw : c.w with
    | false => simp [hi, dC, he, hw, cntC]
    | true =>
      rw [hw, he] at c2
      simp [hi, dC, he, hw, cntC]
      rw [lcGo_l (f := dC) (fun o => some (.bool (!o.w && (o.e.isSome && kEq o c)))) cs ?_ (by have := h.len; omega)]
      · simp
        rw [boolsOf_of (fun o => !o.w && (o.e.isSome && kEq o c)) fun _ _ => rfl]
        simp [List.any_map, Function.comp_def]
      · intro o ho
        have hgo := h.c o ho
        obtain ⟨a1, a2, a3⟩ := hgo.lay
        have c1 := cut13 o
        cases hw' : o.w with
        | true => simp [Look, dC, hw']
        | false =>
          cases he' : o.e with
          | none => simp [Look, dC, hw', he']
          | some y =>
            rw [hw', he'] at c1
            simp at c1 c2
            simp [Look, dC, hw', he', c1, c2, a1, a2, a3, b1, b2, b3, kEq]
/-! ### ends and begins -/
def endAt (cs : List Cl) (i : Nat) : Option Int := (cs[i]?).bind (·.e)
def begAt (cs : List Cl) (i : Nat) : Int := match cs[i]? with
  | some c => c.b
  | none => 0
def prD (p : Int × Nat) : D := .tuple [.int p.1, .int (p.2 : Nat)]
def endL (cs : List Cl) (is : List Nat) : List (Int × Nat) := is.filterMap fun i => (endAt cs i).map fun x => (x, i)
def begL (cs : List Cl) (is : List Nat) : List (Int × Nat) := is.map fun i => (begAt cs i, i)
theorem lt_pr (p q : Int × Nat) : PySem.W.dataLt (prD p) (prD q) = decide (p.1 < q.1 ∨ (p.1 = q.1 ∧ p.2 < q.2)) := by
  unfold prD
  rw [PySem.W.dataLt_tuple]
  have := PySem.W.dataLt_ints [p.1, (p.2 : Int)] [q.1, (q.2 : Int)]
  unfold PySem.W.rowLt at this
  rw [show ([PyData.int p.1, PyData.int (p.2 : Nat)] : List PyData) = [p.1, (p.2 : Int)].map PyData.int from rfl, show ([PyData.int q.1, PyData.int (q.2 : Nat)] : List PyData) = [q.1, (q.2 : Int)].map PyData.int from rfl, this]
  congr 1
  simp [List.cons_lt_cons_iff]
theorem best_min : ∀ (ps : List (Int × Nat)) (p : Int × Nat), ∃ q ∈ p :: ps, bestD false (prD p) (ps.map prD) = prD q ∧ ∀ r ∈ p :: ps, q.1 ≤ r.1
  | [], p => ⟨p, List.mem_cons_self .., rfl, fun r hr => by rw [List.mem_singleton.mp hr]; exact Int.le_refl _⟩
  | x :: ps, p => by
    have e : bestD false (prD p) ((x :: ps).map prD) = bestD false (if PySem.W.dataLt (prD x) (prD p) then prD x else prD p) (ps.map prD) := rfl
    rw [e, lt_pr]
    by_cases h : x.1 < p.1 ∨ (x.1 = p.1 ∧ x.2 < p.2)
    · obtain ⟨q, h1, h2, h3⟩ := best_min ps x
      refine ⟨q, List.mem_cons_of_mem _ h1, by rw [if_pos (decide_eq_true h)]; exact h2, fun r hr => ?_⟩
      rcases List.mem_cons.mp hr with rfl | hr
      · have := h3 x (List.mem_cons_self ..)
        omega
      · exact h3 r hr
    · obtain ⟨q, h1, h2, h3⟩ := best_min ps p
      refine ⟨q, ?_, by rw [if_neg (by simpa using h)]; exact h2, fun r hr => ?_⟩
      · rcases List.mem_cons.mp h1 with rfl | h1
        · exact List.mem_cons_self ..
        · exact List.mem_cons_of_mem _ (List.mem_cons_of_mem _ h1)
      · have hp := h3 p (List.mem_cons_self ..)
        rcases List.mem_cons.mp hr with rfl | hr
        · exact hp
        · rcases List.mem_cons.mp hr with rfl | hr
          · omega
          · exact h3 r (List.mem_cons_of_mem _ hr)
theorem best_max : ∀ (ps : List (Int × Nat)) (p : Int × Nat), ∃ q ∈ p :: ps, bestD true (prD p) (ps.map prD) = prD q ∧ ∀ r ∈ p :: ps, r.1 ≤ q.1
  | [], p => ⟨p, List.mem_cons_self .., rfl, fun r hr => by rw [List.mem_singleton.mp hr]; exact Int.le_refl _⟩
  | x :: ps, p => by
    have e : bestD true (prD p) ((x :: ps).map prD) = bestD true (if PySem.W.dataLt (prD p) (prD x) then prD x else prD p) (ps.map prD) := rfl
    rw [e, lt_pr]
    by_cases h : p.1 < x.1 ∨ (p.1 = x.1 ∧ p.2 < x.2)
    · obtain ⟨q, h1, h2, h3⟩ := best_max ps x
      refine ⟨q, List.mem_cons_of_mem _ h1, by rw [if_pos (decide_eq_true h)]; exact h2, fun r hr => ?_⟩
      rcases List.mem_cons.mp hr with rfl | hr
      · have := h3 x (List.mem_cons_self ..)
        omega
      · exact h3 r hr
    · obtain ⟨q, h1, h2, h3⟩ := best_max ps p
      refine ⟨q, ?_, by rw [if_neg (by simpa using h)]; exact h2, fun r hr => ?_⟩
      · rcases List.mem_cons.mp h1 with rfl | h1
        · exact List.mem_cons_self ..
        · exact List.mem_cons_of_mem _ (List.mem_cons_of_mem _ h1)
      · have hp := h3 p (List.mem_cons_self ..)
        rcases List.mem_cons.mp hr with rfl | hr
        · exact hp
        · rcases List.mem_cons.mp hr with rfl | hr
          · omega
          · exact h3 r (List.mem_cons_of_mem _ hr)
@[simp] theorem isIP_prD (p : Int × Nat) : isIP (prD p) = true := id rfl
theorem isIP_prs (ps : List (Int × Nat)) : ∀ x ∈ ps.map prD, isIP x = true := fun x hx => by
  obtain ⟨p, _, rfl⟩ := List.mem_map.mp hx
  rfl
theorem isIP_pr (ps : List (Int × Nat)) : (ps.map prD).all isIP = true := by
  rw [List.all_map, List.all_eq_true]
  intro p _
  rfl
def Val (cs : List Cl) (is : List Nat) : Prop := ∀ i ∈ is, i < cs.length
def FE (cs : List Cl) (is : List Nat) : Option Nat → Prop
  | none => ∀ i ∈ is, endAt cs i = none
  | some i => i ∈ is ∧ ∃ x, endAt cs i = some x ∧ ∀ j ∈ is, ∀ y, endAt cs j = some y → x ≤ y
theorem first_end_ok (mem : Mem) (cs : List Cl) (is : List Nat) (hv : Val cs is) (hl : is.length ≤ 1000) : ∃ r, m_first_end mem [.d (.tuple (HL cs)), .d (.list (NL is))] = .ok (.d (oN r), mem) ∧ FE cs is r := by
  have w : (m_first_end mem [.d (.tuple (HL cs)), .d (.list (NL is))]).wp (fun q => ∃ r, q = (.d (oN r), mem) ∧ FE cs is r) fun _ => False := by
    unfold m_first_end b_first_end
    simp
    rw [lcGo_l (f := fun i => PyData.int (i : Nat)) (fun i => (endAt cs i).map fun x => prD (x, i)) is ?_ (by omega)]
    · have e : is.filterMap (fun i => (endAt cs i).map fun x => prD (x, i)) = (endL cs is).map prD := by
        unfold endL
        rw [List.map_filterMap]
        congr 1
        funext i
        cases endAt cs i <;> rfl
      rw [e]
      simp
      cases hq : endL cs is with
      | nil =>
        simp
        refine ⟨none, rfl, fun i hi => ?_⟩
        cases he : endAt cs i with
        | none => rfl
        | some x =>
          have : (x, i) ∈ endL cs is := List.mem_filterMap.mpr ⟨i, hi, by rw [he]; rfl⟩
          rw [hq] at this
          cases this
      | cons p ps =>
        obtain ⟨q, h1, h2, h3⟩ := best_min ps p
        have hip := isIP_prs ps
        have h0 : ¬ ((ps.length : Int) + 1 = 0) := by omega
        simp only [List.map_cons, List.length_cons, List.length_map]
        have hip2 : isIP (prD p) = true ∧ ∀ x ∈ ps.map prD, isIP x = true := ⟨rfl, hip⟩
        simp [h0]
        rw [if_pos hip2, h2]
        simp [prD]
        refine ⟨some q.2, rfl, ?_⟩
        have hq1 : q ∈ endL cs is := by rw [hq]; exact h1
        obtain ⟨i, hi, ei⟩ := List.mem_filterMap.mp hq1
        cases he : endAt cs i with
        | none => rw [he] at ei; cases ei
        | some x =>
          rw [he] at ei
          cases ei
          refine ⟨hi, x, he, fun j hj y ej => ?_⟩
          have : (y, j) ∈ endL cs is := List.mem_filterMap.mpr ⟨j, hj, by rw [ej]; rfl⟩
          rw [hq] at this
          exact h3 _ this
    · intro i hi
      have hlt := hv i hi
      have e1 : cs[i]? = some cs[i] := List.getElem?_eq_getElem hlt
      cases he : cs[i].e with
      | none => simp [Look, e1, dC, he, endAt]
      | some x => simp [Look, e1, dC, he, endAt, prD]
  obtain ⟨q, e, r, rfl, hr⟩ := Res.ok_of_wp w
  exact ⟨r, e, hr⟩
def LB (cs : List Cl) (is : List Nat) (i : Nat) : Prop := i ∈ is ∧ ∀ j ∈ is, begAt cs j ≤ begAt cs i
theorem last_begin_ok (mem : Mem) (cs : List Cl) (is : List Nat) (hv : Val cs is) (hl : is.length ≤ 1000) (hne : is ≠ []) : ∃ r, m_last_begin mem [.d (.tuple (HL cs)), .d (.list (NL is))] = .ok (.d (.int (r : Nat)), mem) ∧ LB cs is r := by
  have w : (m_last_begin mem [.d (.tuple (HL cs)), .d (.list (NL is))]).wp (fun q => ∃ r : Nat, q = (.d (.int (r : Nat)), mem) ∧ LB cs is r) fun _ => False := by
    unfold m_last_begin b_last_begin
    simp
    rw [lcGo_l (f := fun i => PyData.int (i : Nat)) (fun i => some (prD (begAt cs i, i))) is ?_ (by omega)]
    · have e : is.filterMap (fun i => some (prD (begAt cs i, i))) = (begL cs is).map prD := by
        unfold begL
        simp [Function.comp_def]
      rw [e]
      cases hq : begL cs is with
      | nil =>
        exfalso
        apply hne
        simpa [begL] using hq
      | cons p ps =>
        obtain ⟨q, h1, h2, h3⟩ := best_max ps p
        have hip := isIP_prs ps
        simp only [List.map_cons, Res.bind_ok']
        simp
        rw [h2]
        simp [prD]
        have hq1 : q ∈ begL cs is := by rw [hq]; exact h1
        obtain ⟨i, hi, ei⟩ := List.mem_map.mp hq1
        subst ei
        refine ⟨i, rfl, hi, fun j hj => ?_⟩
        have : (begAt cs j, j) ∈ begL cs is := List.mem_map.mpr ⟨j, hj, rfl⟩
        rw [hq] at this
        exact h3 _ this
    · intro i hi
      have hlt := hv i hi
      have e1 : cs[i]? = some cs[i] := List.getElem?_eq_getElem hlt
      simp [Look, e1, dC, begAt, prD]
  obtain ⟨q, e, r, rfl, hr⟩ := Res.ok_of_wp w
  exact ⟨r, e, hr⟩
/-- whether i ended ahead of j's begin -/
def endLt (cs : List Cl) (i j : Nat) : Bool := match endAt cs i with
  | some x => decide (x < begAt cs j)
  | none => false
def ahead (cs : List Cl) (is js : List Nat) : Bool := is.any fun i => js.any fun j => endLt cs i j
theorem ahead_of {cs : List Cl} {is js : List Nat} {r : Option Nat} {l : Nat} (h1 : FE cs is r) (h2 : LB cs js l) : ahead cs is js = (match r with
  | some i => endLt cs i l
  | none => false) := by
  cases r with
  | none =>
    unfold ahead
    rw [List.any_eq_false]
    intro i hi
    rw [Bool.not_eq_true, List.any_eq_false]
    intro j _
    unfold endLt
    rw [h1 i hi]
    simp
  | some i =>
    obtain ⟨hi, x, ex, hx⟩ := h1
    show ahead cs is js = endLt cs i l
    cases q : endLt cs i l with
    | true => exact List.any_eq_true.mpr ⟨i, hi, List.any_eq_true.mpr ⟨l, h2.1, q⟩⟩
    | false =>
      unfold ahead
      rw [List.any_eq_false]
      intro a ha
      rw [Bool.not_eq_true, List.any_eq_false]
      intro j hj
      unfold endLt at q ⊢
      rw [ex] at q
      have q := of_decide_eq_false q
      cases ea : endAt cs a with
      | none => simp
      | some y =>
        have := hx a ha y ea
        have := h2.2 j hj
        simp
        omega
theorem is_ahead_eq (mem : Mem) (cs : List Cl) (is js : List Nat) (hv : Val cs is) (hl : is.length ≤ 1000) (hv2 : Val cs js) (hl2 : js.length ≤ 1000) (hne : js ≠ []) : m_is_ahead mem [.d (.tuple (HL cs)), .d (.list (NL is)), .d (.list (NL js))] = .ok (.d (.bool (ahead cs is js)), mem) := by
  obtain ⟨r, e1, h1⟩ := first_end_ok mem cs is hv hl
  obtain ⟨l, e2, h2⟩ := last_begin_ok mem cs js hv2 hl2 hne
  rw [ahead_of h1 h2]
  unfold m_is_ahead b_is_ahead
  cases r with
  | none => simp [e1, e2]
  | some i =>
    obtain ⟨hi, x, ex, _⟩ := h1
    have i1 := hv i hi
    have i2 := hv2 l h2.1
    have k1 : cs[i]? = some cs[i] := List.getElem?_eq_getElem i1
    have k2 : cs[l]? = some cs[l] := List.getElem?_eq_getElem i2
    have ex' : cs[i].e = some x := by
      unfold endAt at ex
      rw [k1] at ex
      exact ex
    simp [e1, e2, k1, k2, dC, ex', endLt, ex, begAt]
end K49

set_option Elab.async false
set_option linter.all false
set_option maxRecDepth 100000
set_option maxHeartbeats 4000000
namespace K49
open PySem PySem.Spec PyProof.Rows L2 PD
/-! ### groups -/
abbrev Gr := List (Cl × List Nat)
def gdOf (g : Gr) : GD := g.map fun p => (pT p.1, NL p.2)
def addC (g : Gr) (c : Cl) (i : Nat) : Gr := if g.any (fun p => kEq p.1 c) then g.map (fun p => if kEq p.1 c then (p.1, p.2 ++ [i]) else p) else g ++ [(c, [i])]
theorem nk_pT {c : Cl} (h : GC c) : nkD (pT c) = some (kT c) := by
  obtain ⟨h1, _⟩ := nk_eq h.th
  simp [pT, kT, nkD, nkDs, h1]
theorem keyD_pT {c : Cl} (h : GC c) : keyD (pT c) = some (kT c) := keyD_pair h.th
theorem kT_iff {o c : Cl} (ho : GC o) (hc : GC c) : kT o = kT c ↔ kEq o c = true := by
  rw [kEq_iff ho hc]
  unfold kT
  simp [nk_iff ho.th hc.th]
theorem kEq_refl {c : Cl} (h : GC c) : kEq c c = true := (kEq_iff h h).mpr ⟨rfl, rfl⟩
theorem kEq_symm {o c : Cl} (ho : GC o) (hc : GC c) (h : kEq o c = true) : kEq c o = true := by
  rw [kEq_iff hc ho]
  rw [kEq_iff ho hc] at h
  exact ⟨h.1.symm, h.2.symm⟩
theorem kEq_trans {a b c : Cl} (ha : GC a) (hb : GC b) (hc : GC c) (h : kEq a b = true) (h2 : kEq b c = true) : kEq a c = true := by
  rw [kEq_iff ha hc]
  rw [kEq_iff ha hb] at h
  rw [kEq_iff hb hc] at h2
  exact ⟨h.1.trans h2.1, h.2.trans h2.2⟩
theorem addG_eq {g : Gr} {c : Cl} (i : Nat) (hg : ∀ p ∈ g, GC p.1) (hc : GC c) : addG (gdOf g) (kT c) (pT c) (.int (i : Nat)) = gdOf (addC g c i) := by
  have key : ∀ p ∈ g, (nkD (pT p.1) = some (kT c)) ↔ kEq p.1 c = true := fun p hp => by
    rw [nk_pT (hg p hp), Option.some.injEq, kT_iff (hg p hp) hc]
  have e1 : (gdOf g).any (fun p => decide (nkD p.1 = some (kT c))) = g.any fun p => kEq p.1 c := by
    unfold gdOf
    rw [List.any_map]
    refine Bool.eq_iff_iff.mpr ?_
    rw [List.any_eq_true, List.any_eq_true]
    constructor
    · rintro ⟨p, hp, h⟩
      exact ⟨p, hp, (key p hp).mp (by simpa using h)⟩
    · rintro ⟨p, hp, h⟩
      exact ⟨p, hp, by simpa using (key p hp).mpr h⟩
  unfold addG addC
  rw [e1]
  cases q : g.any fun p => kEq p.1 c with
  | true =>
    rw [if_pos rfl, if_pos rfl]
    unfold gdOf
    rw [List.map_map, List.map_map]
    refine List.map_congr_left fun p hp => ?_
    simp only [Function.comp_apply]
    by_cases h : kEq p.1 c = true
    · rw [if_pos ((key p hp).mpr h), if_pos h]
      simp
    · rw [if_neg fun z => h ((key p hp).mp z), if_neg h]
  | false =>
    rw [if_neg Bool.false_ne_true, if_neg Bool.false_ne_true]
    simp [gdOf]
/-- what the groups are, of the first m calls -/
structure GS (cs : List Cl) (m : Nat) (g : Gr) : Prop where
  gc : ∀ p ∈ g, p.1 ∈ cs
  mem : ∀ p ∈ g, ∀ i, i ∈ p.2 ↔ i < m ∧ ∃ c, cs[i]? = some c ∧ cntC cs c = true ∧ kEq p.1 c = true
  ne : ∀ p ∈ g, p.2 ≠ []
  key : g.Pairwise fun p q => kEq p.1 q.1 = false
  all : ∀ i c, i < m → cs[i]? = some c → cntC cs c = true → ∃ p ∈ g, kEq p.1 c = true
  asc : ∀ p ∈ g, p.2.Pairwise (· < ·)
  len : g.length ≤ m
  lens : ∀ p ∈ g, p.2.length ≤ m
theorem GS.nil (cs : List Cl) : GS cs 0 [] := ⟨fun p h => (by cases h), fun p h => (by cases h), fun p h => (by cases h), List.Pairwise.nil, fun i c h => (by omega), fun p h => (by cases h), Nat.le_refl _, fun p h => (by cases h)⟩
theorem GS.skip {cs : List Cl} {m : Nat} {g : Gr} (h : GS cs m g) {c : Cl} (hm : cs[m]? = some c) (hc : cntC cs c = false) : GS cs (m + 1) g := by
  refine ⟨h.gc, fun p hp i => ?_, h.ne, h.key, fun i c' hi hi2 hi3 => ?_, h.asc, Nat.le_succ_of_le h.len, fun p hp => Nat.le_succ_of_le (h.lens p hp)⟩
  · rw [h.mem p hp]
    constructor
    · rintro ⟨h1, h2⟩
      exact ⟨by omega, h2⟩
    · rintro ⟨h1, c', h2, h3, h4⟩
      refine ⟨?_, c', h2, h3, h4⟩
      by_cases e : i = m
      · subst e
        rw [hm] at h2
        cases h2
        rw [hc] at h3
        cases h3
      · omega
  · by_cases e : i = m
    · subst e
      rw [hm] at hi2
      cases hi2
      rw [hc] at hi3
      cases hi3
    · exact h.all i c' (by omega) hi2 hi3
theorem GS.add {cs : List Cl} (hG : GH cs) {m : Nat} {g : Gr} (h : GS cs m g) {c : Cl} (hm : cs[m]? = some c) (hc : cntC cs c = true) : GS cs (m + 1) (addC g c m) := by
  have hcm : c ∈ cs := List.mem_of_getElem? hm
  have gcc := hG.c c hcm
  have gp : ∀ p ∈ g, GC p.1 := fun p hp => hG.c _ (h.gc p hp)
  unfold addC
  cases q : g.any fun p => kEq p.1 c with
  | true =>
    rw [if_pos rfl]
    obtain ⟨p0, hp0, hk0⟩ := List.any_eq_true.mp q
    have im : ∀ p' ∈ g.map (fun p => if kEq p.1 c then (p.1, p.2 ++ [m]) else p), ∃ p ∈ g, p'.1 = p.1 ∧ ((kEq p.1 c = true ∧ p'.2 = p.2 ++ [m]) ∨ (kEq p.1 c = false ∧ p'.2 = p.2)) := fun p' hp' => by
      obtain ⟨p, hp, rfl⟩ := List.mem_map.mp hp'
      refine ⟨p, hp, ?_⟩
      cases e : kEq p.1 c <;> simp
    refine ⟨fun p' hp' => ?_, fun p' hp' i => ?_, fun p' hp' => ?_, ?_, fun i c' hi hi2 hi3 => ?_, fun p' hp' => ?_, by rw [List.length_map]; exact Nat.le_succ_of_le h.len, fun p' hp' => ?_⟩
    · obtain ⟨p, hp, e, _⟩ := im p' hp'
      rw [e]; exact h.gc p hp
    · obtain ⟨p, hp, e, e2⟩ := im p' hp'
      rw [e]
      rcases e2 with ⟨k, e2⟩ | ⟨k, e2⟩
      · rw [e2, List.mem_append, h.mem p hp, List.mem_singleton]
        constructor
        · rintro (⟨h1, h2⟩ | rfl)
          · exact ⟨by omega, h2⟩
          · exact ⟨by omega, c, hm, hc, k⟩
        · rintro ⟨h1, h2⟩
          by_cases e : i = m
          · exact .inr e
          · exact .inl ⟨by omega, h2⟩
      · rw [e2, h.mem p hp]
        constructor
        · rintro ⟨h1, h2⟩
          exact ⟨by omega, h2⟩
        · rintro ⟨h1, c', h2, h3, h4⟩
          refine ⟨?_, c', h2, h3, h4⟩
          by_cases e : i = m
          · subst e
            rw [hm] at h2
            cases h2
            rw [k] at h4
            cases h4
          · omega
    · obtain ⟨p, hp, _, e2⟩ := im p' hp'
      rcases e2 with ⟨k, e2⟩ | ⟨k, e2⟩
      · rw [e2]; simp
      · rw [e2]; exact h.ne p hp
    · rw [List.pairwise_map]
      refine h.key.imp fun {a b} z => ?_
      have ea : (if kEq a.1 c = true then (a.1, a.2 ++ [m]) else a).1 = a.1 := by split <;> rfl
      have eb : (if kEq b.1 c = true then (b.1, b.2 ++ [m]) else b).1 = b.1 := by split <;> rfl
      rw [ea, eb]
      exact z
    · have : ∃ p ∈ g, kEq p.1 c' = true := by
        by_cases e : i = m
        · subst e
          rw [hm] at hi2
          cases hi2
          exact ⟨p0, hp0, hk0⟩
        · exact h.all i c' (by omega) hi2 hi3
      obtain ⟨p, hp, hk⟩ := this
      refine ⟨_, List.mem_map.mpr ⟨p, hp, rfl⟩, ?_⟩
      have ea : (if kEq p.1 c = true then (p.1, p.2 ++ [m]) else p).1 = p.1 := by split <;> rfl
      rw [ea]
      exact hk
    · obtain ⟨p, hp, _, e2⟩ := im p' hp'
      rcases e2 with ⟨k, e2⟩ | ⟨k, e2⟩
      · rw [e2, List.pairwise_append]
        refine ⟨h.asc p hp, List.pairwise_singleton _ _, fun a ha b hb => ?_⟩
        rw [List.mem_singleton.mp hb]
        exact ((h.mem p hp a).mp ha).1
      · rw [e2]; exact h.asc p hp
    · obtain ⟨p, hp, _, e2⟩ := im p' hp'
      have := h.lens p hp
      rcases e2 with ⟨k, e2⟩ | ⟨k, e2⟩
      · rw [e2]; simp; exact this
      · rw [e2]; omega
  | false =>
    rw [if_neg Bool.false_ne_true]
    have no : ∀ p ∈ g, kEq p.1 c = false := fun p hp => by
      have := List.any_eq_false.mp q p hp
      simpa using this
    have cases' : ∀ p' ∈ g ++ [(c, [m])], p' ∈ g ∨ p' = (c, [m]) := fun p' hp' => by
      rcases List.mem_append.mp hp' with z | z
      · exact .inl z
      · exact .inr (List.mem_singleton.mp z)
    refine ⟨fun p' hp' => ?_, fun p' hp' i => ?_, fun p' hp' => ?_, ?_, fun i c' hi hi2 hi3 => ?_, fun p' hp' => ?_, by simp; exact h.len, fun p' hp' => ?_⟩
    · rcases cases' p' hp' with hp | rfl
      · exact h.gc p' hp
      · exact hcm
    · rcases cases' p' hp' with hp | rfl
      · rw [h.mem p' hp]
        constructor
        · rintro ⟨h1, h2⟩
          exact ⟨by omega, h2⟩
        · rintro ⟨h1, c', h2, h3, h4⟩
          refine ⟨?_, c', h2, h3, h4⟩
          by_cases e : i = m
          · subst e
            rw [hm] at h2
            cases h2
            rw [no p' hp] at h4
            cases h4
          · omega
      · dsimp only
        rw [List.mem_singleton]
        constructor
        · rintro rfl
          exact ⟨by omega, c, hm, hc, kEq_refl gcc⟩
        · rintro ⟨h1, c', h2, h3, h4⟩
          by_cases e : i = m
          · exact e
          · obtain ⟨p, hp, hk⟩ := h.all i c' (by omega) h2 h3
            have gc' := hG.c c' (List.mem_of_getElem? h2)
            have := kEq_trans (gp p hp) gc' gcc hk (kEq_symm gcc gc' h4)
            rw [no p hp] at this
            cases this
    · rcases cases' p' hp' with hp | rfl
      · exact h.ne p' hp
      · simp
    · rw [List.pairwise_append]
      exact ⟨h.key, List.pairwise_singleton _ _, fun a ha b hb => by rw [List.mem_singleton.mp hb]; exact no a ha⟩
    · by_cases e : i = m
      · subst e
        rw [hm] at hi2
        cases hi2
        exact ⟨(c, [i]), by simp, kEq_refl gcc⟩
      · obtain ⟨p, hp, hk⟩ := h.all i c' (by omega) hi2 hi3
        exact ⟨p, List.mem_append_left _ hp, hk⟩
    · rcases cases' p' hp' with hp | rfl
      · exact h.asc p' hp
      · exact List.pairwise_singleton _ _
    · rcases cases' p' hp' with hp | rfl
      · exact Nat.le_succ_of_le (h.lens p' hp)
      · simp
theorem gFits_ok {g : Gr} (h : g.length ≤ 1000) (h2 : ∀ p ∈ g, p.2.length ≤ 1000) : gFits (gdOf g) = true := by
  unfold gFits
  rw [Bool.and_eq_true]
  refine ⟨decide_eq_true (by rw [gdOf, List.length_map]; exact sl_lt (by omega)), ?_⟩
  rw [List.all_eq_true]
  intro p hp
  obtain ⟨q, hq, rfl⟩ := List.mem_map.mp hp
  exact decide_eq_true (by dsimp only; rw [List.length_map]; exact sl_lt (by have := h2 q hq; omega))
def dG (g : Gr) : D := .dict (g.map fun p => (pT p.1, .list (NL p.2)))
theorem groups_go (mem : Mem) (cs : List Cl) (hG : GH cs) : ∀ (rs ds : List Cl) (g : Gr) (g1 g2 : Option W), cs = ds ++ rs → GS cs ds.length g →
    ∃ (g' : Gr) (s' : S), grpGo (gTupT [2, 3]) (tOf (eCall m_counts (aCons false (eVar 0) (aCons false (eVar 2) aNil)))) (eSl (eVar 3) (oSome (eC (.int 1))) (oSome (eC (.int 3)))) 2 (enumFrom ds.length (HL rs)) ⟨[some (.d (.tuple (HL cs))), none, g1, g2], mem, mem.length⟩ (gdOf g) = .ok (gdOf g', s') ∧ s'.mem = mem ∧ s'.base = mem.length ∧ GS cs cs.length g'
  | [], ds, g, g1, g2, e, h => by
    have : cs = ds := by simpa using e
    subst this
    exact ⟨g, _, rfl, rfl, rfl, h⟩
  | c :: rs, ds, g, g1, g2, e, h => by
    have hm : cs[ds.length]? = some c := by rw [e]; simp
    have gcc := hG.c c (List.mem_of_getElem? hm)
    have e' : cs = (ds ++ [c]) ++ rs := by simp [e]
    have el : (ds ++ [c]).length = ds.length + 1 := by simp
    have c1 := cut13 c
    have hl : ds.length ≤ 20 := by have := hG.len; rw [e] at this; simp at this; omega
    have ct := counts_eq mem cs ds.length c hG hm
    rw [show enumFrom ds.length (HL (c :: rs)) = .tuple [.int (ds.length : Nat), dC c] :: enumFrom (ds.length + 1) (HL rs) from rfl]
    unfold grpGo
    cases q : cntC cs c with
    | false =>
      simp [ct, q]
      have := groups_go mem cs hG rs (ds ++ [c]) g (some (.d (.int (ds.length : Nat)))) (some (.d (dC c))) e' (by rw [el]; exact h.skip hm q)
      rw [el] at this
      exact this
    | true =>
      have hk := keyD_pT gcc
      have gp : ∀ p ∈ g, GC p.1 := fun p hp => hG.c _ (h.gc p hp)
      have hf : gFits (gdOf g) = true := gFits_ok (by have := h.len; omega) fun p hp => by have := h.lens p hp; omega
      have ha := addG_eq (g := g) (c := c) ds.length gp gcc
      have := groups_go mem cs hG rs (ds ++ [c]) (addC g c ds.length) (some (.d (.int (ds.length : Nat)))) (some (.d (dC c))) e' (by rw [el]; exact h.add hG hm q)
      rw [el] at this
      unfold pT at hk ha
      simp [ct, q]
      simp [dC, c1, hk, hf, ha] at this ⊢
      exact this
theorem groups_ok (mem : Mem) (cs : List Cl) (hG : GH cs) : ∃ g, m_groups_of mem [.d (.tuple (HL cs))] = .ok (.d (dG g), mem) ∧ GS cs cs.length g := by
  obtain ⟨g', s', e, h1, h2, h3⟩ := groups_go mem cs hG cs [] [] none none rfl (GS.nil cs)
  refine ⟨g', ?_, h3⟩
  obtain ⟨en, m, b⟩ := s'
  dsimp only at h1 h2
  subst h1 h2
  unfold m_groups_of b_groups_of
  simp
  have e : grpGo (gTupT [2, 3]) (tOf (eCall m_counts (aCons false (eVar 0) (aCons false (eVar 2) aNil)))) (eSl (eVar 3) (oSome (eC (.int 1))) (oSome (eC (.int 3)))) 2 (enumFrom 0 (HL cs)) ⟨[some (.d (.tuple (HL cs))), none, none, none], m, m.length⟩ [] = .ok (gdOf g', ⟨en, m, m.length⟩) := e
  rw [e]
  simp [dictG, dG, gdOf]
end K49

set_option Elab.async false
set_option linter.all false
set_option maxRecDepth 100000
set_option maxHeartbeats 4000000
namespace K49
open PySem PySem.Spec PyProof.Rows L2 PD
/-! ### bars -/
def tellsC (c : Cl) : Bool := c.w || c.e.isSome
inductive IsBar (cs : List Cl) : D → Prop
  | strange {r : Nat} {c : Cl} : cs[r]? = some c → c.w = false → c.e.isSome = true → isN c.t = false → (∀ o ∈ cs, o.w = true → kEq o c = false) → IsBar cs (.tuple [.str "strange", .int (r : Nat)])
  | early {r i : Nat} {c o : Cl} : cs[r]? = some c → c.w = false → c.e.isSome = true → isN c.t = false → cs[i]? = some o → o.w = true → kEq o c = true → endLt cs r i = true → IsBar cs (.tuple [.str "early", .int (r : Nat)])
  | late {a b : Nat} {ca cb : Cl} : cs[a]? = some ca → cs[b]? = some cb → ca.n = cb.n → isN ca.t = false → cb.w = false → cb.e.isSome = true → isN cb.t = true → endLt cs a b = true → IsBar cs (.tuple [.str "late", .int (a : Nat), .int (b : Nat)])
  | crossed {a b c d : Nat} {ca cb cc cd : Cl} : cs[a]? = some ca → cs[b]? = some cb → cs[c]? = some cc → cs[d]? = some cd → tellsC cb = true → tellsC cc = true → kEq ca cb = true → kEq cc cd = true → ca.n = cc.n → kEq ca cc = false → isN ca.t = false → isN cc.t = false →
    endLt cs a c = true → endLt cs d b = true → IsBar cs (.tuple [.str "crossed", .int (a : Nat), .int (b : Nat), .int (c : Nat), .int (d : Nat)])
def Ok1 (cs : List Cl) : Prop := ∀ (r : Nat) (c : Cl), cs[r]? = some c → c.w = false → c.e.isSome = true → isN c.t = false → ∃ (i : Nat) (o : Cl), cs[i]? = some o ∧ o.w = true ∧ kEq o c = true ∧ endLt cs r i = false
theorem isN_kEq {o c : Cl} (ho : GC o) (hc : GC c) (h : kEq o c = true) : isN o.t = isN c.t := by rw [((kEq_iff ho hc).mp h).2]
theorem notN {t : D} (h : isN t = false) : t ≠ .none := by rintro rfl; cases h
theorem gIsN_d {k : Bool} {t : D} {e : List (Option W)} {m : List (Option Cell)} {b : Nat} : gIsN k (.d t) (.d .none) ⟨e, m, b⟩ = .ok (.d (.bool (if isN t = true then !k else k)), ⟨e, m, b⟩) := by
  cases t <;> simp [isN]
theorem single_bar_ok (mem : Mem) (cs : List Cl) (hG : GH cs) : ∃ x, m_single_bar mem [.d (.tuple (HL cs))] = .ok (.d x, mem) ∧ ((x = .none ∧ Ok1 cs) ∨ IsBar cs x) := by
  have w : (m_single_bar mem [.d (.tuple (HL cs))]).wp (fun q => ∃ x, q = (.d x, mem) ∧ ((x = .none ∧ Ok1 cs) ∨ IsBar cs x)) fun _ => False := by
    unfold m_single_bar b_single_bar
    simp
    rw [Res.wp_bind]
    refine forGo_wp (fun xs s => ∃ (ds rs : List Cl) (g1 g2 g3 : Option W), cs = ds ++ rs ∧ xs = enumFrom ds.length (HL rs) ∧ s = ⟨[some (.d (.tuple (HL cs))), g1, g2, g3], mem, mem.length⟩ ∧ ∀ (r : Nat) (c : Cl), r < ds.length → cs[r]? = some c → c.w = false → c.e.isSome = true → isN c.t = false → ∃ (i : Nat) (o : Cl), cs[i]? = some o ∧ o.w = true ∧ kEq o c = true ∧ endLt cs r i = false) ?_ ?_ _ _ ?_
    · rintro d r s ⟨ds, rs, g1, g2, g3, e, hx, rfl, hn⟩
      cases rs with
      | nil => cases hx
      | cons c rs =>
        cases hx
        have hm : cs[ds.length]? = some c := by rw [e]; simp
        have hc : GC c := hG.c c (List.mem_of_getElem? hm)
        have hlast : ∀ (P : Prop), (c.w = false → c.e.isSome = true → isN c.t = false → ∃ (i : Nat) (o : Cl), cs[i]? = some o ∧ o.w = true ∧ kEq o c = true ∧ endLt cs ds.length i = false) → ∀ (r : Nat) (c' : Cl), r < (ds ++ [c]).length → cs[r]? = some c' → c'.w = false → c'.e.isSome = true → isN c'.t = false → ∃ (i : Nat) (o : Cl), cs[i]? = some o ∧ o.w = true ∧ kEq o c' = true ∧ endLt cs r i = false := fun _ hh r c' hr e1 e2 e3 e4 => by
          by_cases er : r = ds.length
          · subst er
            rw [hm] at e1
            cases e1
            exact hh e2 e3 e4
          · exact hn r c' (by simp at hr; omega) e1 e2 e3 e4
        cases hw : c.w with
        | true =>
          simp [dC, hw]
          exact ⟨ds ++ [c], rs, by simp [e], by simp, hlast True fun z => by rw [hw] at z; cases z⟩
        | false =>
          cases he : c.e with
          | none =>
            simp [dC, hw, he]
            exact ⟨ds ++ [c], rs, by simp [e], by simp, hlast True fun _ z => by rw [he] at z; cases z⟩
          | some x =>
            cases hN : isN c.t with
            | true =>
              have := isN_iff.mp hN
              simp [dC, hw, he, this]
              exact ⟨ds ++ [c], rs, by simp [e], by simp, hlast True fun _ _ z => by rw [hN] at z; cases z⟩
            | false =>
              obtain ⟨r, e1, h1⟩ := writer_ok mem cs c hG hc
              unfold dC at e1
              rw [hw, he] at e1
              cases r with
              | none =>
                simp [-gIsN_mk, gIsN_d, dC, hw, he, hN]
                simp at e1
                simp [-gIsN_mk, gIsN_d, e1]
                exact .strange hm hw (by rw [he]; rfl) hN h1
              | some i =>
                obtain ⟨o, k1, k2, k3⟩ := h1
                have ee : endAt cs ds.length = some x := by unfold endAt; rw [hm]; exact he
                have eb : begAt cs i = o.b := by unfold begAt; rw [k1]
                simp [-gIsN_mk, gIsN_d, dC, hw, he, hN]
                simp at e1
                simp [-gIsN_mk, gIsN_d, e1, k1, dC]
                by_cases hlt : x < o.b
                · simp [hlt]
                  refine .early hm hw (by rw [he]; rfl) hN k1 k2 k3 ?_
                  unfold endLt
                  rw [ee, eb]
                  exact decide_eq_true hlt
                · simp [hlt]
                  refine ⟨ds ++ [c], rs, by simp [e], by simp, hlast True fun _ _ _ => ⟨i, o, k1, k2, k3, ?_⟩⟩
                  unfold endLt
                  rw [ee, eb]
                  exact decide_eq_false hlt
    · rintro s ⟨ds, rs, g1, g2, g3, e, hx, rfl, hn⟩
      have : rs = [] := by cases rs with
        | nil => rfl
        | cons o rs => cases hx
      subst this
      have : cs = ds := by simpa using e
      subst this
      simp
      exact .inl fun r c h1 => hn r c (List.getElem?_eq_some_iff.mp h1).1 h1
    · exact ⟨[], cs, none, none, none, rfl, rfl, rfl, fun r c h => by simp at h⟩
  obtain ⟨q, e, x, rfl, hr⟩ := Res.ok_of_wp w
  exact ⟨x, e, hr⟩
end K49

set_option Elab.async false
set_option linter.all false
set_option maxRecDepth 100000
set_option maxHeartbeats 4000000
namespace K49
open PySem PySem.Spec PyProof.Rows L2 PD
/-! ### reading the groups -/
abbrev kdOf (g : Gr) : List (D × D) := g.map fun p => (pT p.1, PyData.list (NL p.2))
theorem ndOk_kd (g : Gr) : ndOk (kdOf g) = true := by
  unfold ndOk
  rw [List.all_map, List.all_eq_true]
  intro p _
  rfl
theorem lookD_kd : ∀ {g : Gr} {c : Cl}, (∀ p ∈ g, GC p.1) → GC c → lookD (kdOf g) (kT c) = (g.find? fun p => kEq p.1 c).map fun p => PyData.list (NL p.2)
  | [], c, _, _ => rfl
  | p :: g, c, hg, hc => by
    have ih := lookD_kd (g := g) (c := c) (fun q hq => hg q (List.mem_cons_of_mem _ hq)) hc
    unfold lookD at ih ⊢
    have gp := hg p (List.mem_cons_self ..)
    rw [show kdOf (p :: g) = (pT p.1, PyData.list (NL p.2)) :: kdOf g from rfl, List.find?_cons, List.find?_cons]
    dsimp only
    rw [nk_pT gp]
    cases q : kEq p.1 c with
    | true =>
      rw [(kT_iff gp hc).mpr q]
      simp
    | false =>
      have : ¬ kT p.1 = kT c := fun z => by rw [(kT_iff gp hc).mp z] at q; cases q
      rw [decide_eq_false (fun z => this (Option.some.inj z))]
      exact ih
theorem GS.gp {cs : List Cl} {m : Nat} {g : Gr} (hG : GH cs) (h : GS cs m g) : ∀ p ∈ g, GC p.1 := fun p hp => hG.c _ (h.gc p hp)
theorem GS.uniq {cs : List Cl} {m : Nat} {g : Gr} (hG : GH cs) (h : GS cs m g) {p q : Cl × List Nat} (hp : p ∈ g) (hq : q ∈ g) (e : kEq p.1 q.1 = true) : p = q := by
  have key := h.key
  have gp := h.gp hG
  clear h
  induction g with
  | nil => cases hp
  | cons x g ih =>
    obtain ⟨k1, k2⟩ := List.pairwise_cons.mp key
    rcases List.mem_cons.mp hp with hp1 | hp1
    · rcases List.mem_cons.mp hq with hq1 | hq1
      · rw [hp1, hq1]
      · rw [hp1, k1 q hq1] at e; cases e
    · rcases List.mem_cons.mp hq with hq1 | hq1
      · have := kEq_symm (gp p hp) (gp q hq) e
        rw [hq1, k1 p hp1] at this; cases this
      · exact ih hp1 hq1 k2 fun r hr => gp r (List.mem_cons_of_mem _ hr)
theorem GS.find {cs : List Cl} {m : Nat} {g : Gr} (hG : GH cs) (h : GS cs m g) {p : Cl × List Nat} (hp : p ∈ g) {c : Cl} (hc : GC c) (e : kEq p.1 c = true) : g.find? (fun p => kEq p.1 c) = some p := by
  have gp := h.gp hG
  cases q : g.find? (fun p => kEq p.1 c) with
  | none =>
    have := List.find?_eq_none.mp q p hp
    exact absurd e this
  | some r =>
    have hr := List.mem_of_find?_eq_some q
    have er := List.find?_some q
    have er : kEq r.1 c = true := er
    rw [h.uniq hG hr hp (kEq_trans (gp r hr) hc (gp p hp) er (kEq_symm (gp p hp) hc e))]
theorem GS.val {cs : List Cl} {g : Gr} (h : GS cs cs.length g) {p : Cl × List Nat} (hp : p ∈ g) : Val cs p.2 := fun i hi => ((h.mem p hp i).mp hi).1
/-- nothing told -/
def nC (n : Str) : Cl := ⟨false, n, .none, 0, none⟩
theorem nC_gc {n : Str} (h : gd (.str n) = true) : GC (nC n) := ⟨rfl, rfl, h, fun z => (by cases z), fun i z => (by cases z)⟩
def noneG (g : Gr) (n : Str) : List Nat := match g.find? fun p => kEq p.1 (nC n) with
  | some p => p.2
  | none => []
theorem noneG_mem {cs : List Cl} {g : Gr} (hG : GH cs) (h : GS cs cs.length g) {n : Str} (hn : gd (.str n) = true) {i : Nat} : i ∈ noneG g n ↔ i < cs.length ∧ ∃ c, cs[i]? = some c ∧ cntC cs c = true ∧ c.n = n ∧ isN c.t = true := by
  have gp := h.gp hG
  have gn := nC_gc hn
  have key : ∀ c ∈ cs, (kEq c (nC n) = true ↔ c.n = n ∧ isN c.t = true) := fun c hc => by
    rw [kEq_iff (hG.c c hc) gn, isN_iff]
    exact Iff.rfl
  unfold noneG
  cases q : g.find? fun p => kEq p.1 (nC n) with
  | none =>
    constructor
    · intro z; cases z
    · rintro ⟨h1, c, h2, h3, h4⟩
      have hc := List.mem_of_getElem? h2
      obtain ⟨p, hp, hk⟩ := h.all i c h1 h2 h3
      have := List.find?_eq_none.mp q p hp
      exact absurd (kEq_trans (gp p hp) (hG.c c hc) gn hk ((key c hc).mpr h4)) this
  | some p =>
    have hp := List.mem_of_find?_eq_some q
    have ep : kEq p.1 (nC n) = true := List.find?_some (p := fun p : Cl × List Nat => kEq p.1 (nC n)) q
    dsimp only
    rw [h.mem p hp]
    constructor
    · rintro ⟨h1, c, h2, h3, h4⟩
      have hc := List.mem_of_getElem? h2
      exact ⟨h1, c, h2, h3, (key c hc).mp (kEq_trans (hG.c c hc) (gp p hp) gn (kEq_symm (gp p hp) (hG.c c hc) h4) ep)⟩
    · rintro ⟨h1, c, h2, h3, h4⟩
      have hc := List.mem_of_getElem? h2
      exact ⟨h1, c, h2, h3, kEq_trans (gp p hp) gn (hG.c c hc) ep (kEq_symm (hG.c c hc) gn ((key c hc).mpr h4))⟩
theorem noneG_len {cs : List Cl} {g : Gr} (h : GS cs cs.length g) (n : Str) : (noneG g n).length ≤ cs.length := by
  unfold noneG
  cases q : g.find? fun p => kEq p.1 (nC n) with
  | none => simp
  | some p => exact h.lens p (List.mem_of_find?_eq_some q)
theorem cnt_tells {cs : List Cl} {c : Cl} (h : cntC cs c = true) : tellsC c = true := by
  unfold cntC at h
  unfold tellsC
  rcases Bool.or_eq_true_iff.mp h with h | h
  · simp [h]
  · rw [Bool.and_eq_true] at h
    simp [h.1]
def Ok2 (cs : List Cl) : Prop := ∀ (a b : Nat) (ca cb : Cl), cs[a]? = some ca → cs[b]? = some cb → cntC cs ca = true → cntC cs cb = true → ca.n = cb.n → isN ca.t = false → isN cb.t = true → endLt cs a b = false
theorem ahead_ex {cs : List Cl} {is js : List Nat} : ahead cs is js = true ↔ ∃ i ∈ is, ∃ j ∈ js, endLt cs i j = true := by
  unfold ahead
  rw [List.any_eq_true]
  constructor
  · rintro ⟨i, hi, h⟩
    obtain ⟨j, hj, h⟩ := List.any_eq_true.mp h
    exact ⟨i, hi, j, hj, h⟩
  · rintro ⟨i, hi, j, hj, h⟩
    exact ⟨i, hi, List.any_eq_true.mpr ⟨j, hj, h⟩⟩
def LateI (mem : Mem) (cs : List Cl) (g : Gr) (xs : List D) (s : S) : Prop := ∃ (ds rs : Gr) (g1 g2 g3 : Option W), g = ds ++ rs ∧ xs = rs.map (fun p => PyData.tuple [pT p.1, .list (NL p.2)]) ∧ s = ⟨[some (.d (.tuple (HL cs))), some (.d (.dict (kdOf g))), g1, g2, g3], mem, mem.length⟩ ∧ ∀ p ∈ ds, isN p.1.t = false → ahead cs p.2 (noneG g p.1.n) = false
theorem LateI.next {mem : Mem} {cs : List Cl} {g ds rs : Gr} {p : Cl × List Nat} (g1 g2 g3 : Option W) (e : g = ds ++ p :: rs) (hn : ∀ p ∈ ds, isN p.1.t = false → ahead cs p.2 (noneG g p.1.n) = false) (h : isN p.1.t = false → ahead cs p.2 (noneG g p.1.n) = false) :
    LateI mem cs g (rs.map fun p => PyData.tuple [pT p.1, .list (NL p.2)]) ⟨[some (.d (.tuple (HL cs))), some (.d (.dict (kdOf g))), g1, g2, g3], mem, mem.length⟩ := by
  refine ⟨ds ++ [p], rs, g1, g2, g3, by simp [e], rfl, rfl, fun q hq => ?_⟩
  rcases List.mem_append.mp hq with hq | hq
  · exact hn q hq
  · rw [List.mem_singleton.mp hq]; exact h
theorem GS.counted {cs : List Cl} {g : Gr} (h : GS cs cs.length g) {p : Cl × List Nat} (hp : p ∈ g) {i : Nat} (hi : i ∈ p.2) : ∃ c, cs[i]? = some c ∧ cntC cs c = true ∧ kEq p.1 c = true := ((h.mem p hp i).mp hi).2
theorem late_bar_ok (mem : Mem) (cs : List Cl) (hG : GH cs) : ∃ x, m_late_bar mem [.d (.tuple (HL cs))] = .ok (.d x, mem) ∧ ((x = .none ∧ Ok2 cs) ∨ IsBar cs x) := by
  have w : (m_late_bar mem [.d (.tuple (HL cs))]).wp (fun q => ∃ x, q = (.d x, mem) ∧ ((x = .none ∧ Ok2 cs) ∨ IsBar cs x)) fun _ => False := by
    obtain ⟨g, eg, hS⟩ := groups_ok mem cs hG
    have gp := hS.gp hG
    have hnd := ndOk_kd g
    have hcl := hG.len
    unfold m_late_bar b_late_bar
    simp [eg, dG, hnd]
    rw [Res.wp_bind]
    refine forGo_wp (LateI mem cs g) ?_ ?_ _ _ ?_
    · rintro d r s ⟨ds, rs, g1, g2, g3, e, hx, rfl, hn⟩
      cases rs with
      | nil => cases hx
      | cons p rs =>
        cases hx
        have hp : p ∈ g := by rw [e]; simp
        have hc : GC p.1 := gp p hp
        have gn := nC_gc hc.ns
        have hk : keyD (.tuple [.str p.1.n, .none]) = some (kT (nC p.1.n)) := keyD_pT gn
        have hlk := lookD_kd (g := g) (c := nC p.1.n) gp gn
        have hnl := noneG_len hS p.1.n
        have hpl := hS.lens p hp
        have hval : Val cs (noneG g p.1.n) := fun i hi => ((noneG_mem hG hS hc.ns).mp hi).1
        have nxt := fun (g1 g2 g3 : Option W) h => LateI.next (mem := mem) g1 g2 g3 e hn h
        have hmem := fun i => noneG_mem hG hS hc.ns (i := i)
        have hget : (lookD (kdOf g) (kT (nC p.1.n)) = some (.list (NL (noneG g p.1.n)))) ∨ (noneG g p.1.n = [] ∧ lookD (kdOf g) (kT (nC p.1.n)) = none) := by
          rw [hlk]
          unfold noneG
          cases q : g.find? fun p' => kEq p'.1 (nC p.1.n) with
          | none => exact .inr ⟨rfl, rfl⟩
          | some p' => exact .inl rfl
        generalize noneG g p.1.n = zs at hnl hval nxt hmem hget
        cases hN : isN p.1.t with
        | true =>
          rcases hget with hl | ⟨hz, hl⟩ <;>
          · simp [-gIsN_mk, gIsN_d, hnd, hk, hl, hN, pT]
            exact nxt _ _ _ fun z => by rw [hN] at z; cases z
        | false =>
          rcases hget with hl | ⟨hz, hl⟩
          · cases zs with
            | nil =>
              simp [-gIsN_mk, gIsN_d, hnd, hk, hl, hN, pT]
              refine nxt _ _ _ fun _ => ?_
              simp [ahead]
            | cons z zs =>
              have h0 : (0 : Int) < (zs.length : Int) + 1 := by omega
              have ia := is_ahead_eq mem cs p.2 (z :: zs) (hS.val hp) (by omega) hval (by omega) (by simp)
              simp only [List.map_cons] at ia
              simp [-gIsN_mk, gIsN_d, hnd, hk, hl, hN, pT, h0, ia]
              cases ha : ahead cs p.2 (z :: zs) with
              | false =>
                simp
                exact nxt _ _ _ fun _ => ha
              | true =>
                obtain ⟨r, e1, h1⟩ := first_end_ok mem cs p.2 (hS.val hp) (by omega)
                obtain ⟨l, e2, h2⟩ := last_begin_ok mem cs (z :: zs) hval (by omega) (by simp)
                simp only [List.map_cons] at e2
                have hal := ahead_of h1 h2
                rw [ha] at hal
                cases r with
                | none => cases hal
                | some i =>
                  simp [e1, e2]
                  obtain ⟨ci, k1, k2, k3⟩ := hS.counted hp h1.1
                  obtain ⟨_, cl, k4, k5, k6, k7⟩ := (hmem l).mp h2.1
                  have gci := hG.c ci (List.mem_of_getElem? k1)
                  have ee := (kEq_iff hc gci).mp k3
                  have tl := cnt_tells k5
                  have wl : cl.w = false := by
                    cases q : cl.w with
                    | false => rfl
                    | true => rw [(hG.c cl (List.mem_of_getElem? k4)).wn q] at k7; cases k7
                  refine .late k1 k4 (by rw [k6, ee.1]) (by rw [← ee.2]; exact hN) wl ?_ k7 hal.symm
                  unfold tellsC at tl
                  rw [wl] at tl
                  exact tl
          · subst hz
            simp [-gIsN_mk, gIsN_d, hnd, hk, hl, hN, pT]
            refine nxt _ _ _ fun _ => ?_
            simp [ahead]
    · rintro s ⟨ds, rs, g1, g2, g3, e, hx, rfl, hn⟩
      have : rs = [] := by simpa using hx.symm
      subst this
      have : g = ds := by simpa using e
      subst this
      simp
      refine .inl fun a b ca cb h1 h2 h3 h4 h5 h6 h7 => ?_
      obtain ⟨p, hp, hk⟩ := hS.all a ca (List.getElem?_eq_some_iff.mp h1).1 h1 h3
      have hca := hG.c ca (List.mem_of_getElem? h1)
      have hcb := hG.c cb (List.mem_of_getElem? h2)
      have e1 := (kEq_iff (gp p hp) hca).mp hk
      have ha := hn p hp (by rw [e1.2]; exact h6)
      cases q : endLt cs a b with
      | false => rfl
      | true =>
        have ia : a ∈ p.2 := (hS.mem p hp a).mpr ⟨(List.getElem?_eq_some_iff.mp h1).1, ca, h1, h3, hk⟩
        have ib : b ∈ noneG g p.1.n := (noneG_mem hG hS (gp p hp).ns).mpr ⟨(List.getElem?_eq_some_iff.mp h2).1, cb, h2, h4, by rw [e1.1, h5], h7⟩
        rw [ahead_ex.mpr ⟨a, ia, b, ib, q⟩] at ha
        cases ha
    · exact ⟨[], g, none, none, none, rfl, rfl, rfl, fun p h => by cases h⟩
  obtain ⟨q, e, x, rfl, hr⟩ := Res.ok_of_wp w
  exact ⟨x, e, hr⟩
end K49

set_option Elab.async false
set_option linter.all false
set_option maxRecDepth 100000
set_option maxHeartbeats 4000000
namespace K49
open PySem PySem.Spec PyProof.Rows L2 PD
theorem crossed_ok (mem : Mem) (cs : List Cl) (is js : List Nat) (hv : Val cs is) (hl : is.length ≤ 1000) (hv2 : Val cs js) (hl2 : js.length ≤ 1000) (h1 : ahead cs is js = true) (h2 : ahead cs js is = true) :
    ∃ a b c d : Nat, m_crossed mem [.d (.tuple (HL cs)), .d (.list (NL is)), .d (.list (NL js))] = .ok (.d (.tuple [.str "crossed", .int (a : Nat), .int (b : Nat), .int (c : Nat), .int (d : Nat)]), mem) ∧ a ∈ is ∧ b ∈ is ∧ c ∈ js ∧ d ∈ js ∧ endLt cs a c = true ∧ endLt cs d b = true := by
  obtain ⟨i, hi, j, hj, _⟩ := ahead_ex.mp h1
  have n1 : is ≠ [] := List.ne_nil_of_mem hi
  have n2 : js ≠ [] := List.ne_nil_of_mem hj
  obtain ⟨r1, e1, f1⟩ := first_end_ok mem cs is hv hl
  obtain ⟨r2, e2, f2⟩ := first_end_ok mem cs js hv2 hl2
  obtain ⟨l1, e3, f3⟩ := last_begin_ok mem cs is hv hl n1
  obtain ⟨l2, e4, f4⟩ := last_begin_ok mem cs js hv2 hl2 n2
  have a1 := ahead_of f1 f4
  have a2 := ahead_of f2 f3
  rw [h1] at a1
  rw [h2] at a2
  cases r1 with
  | none => cases a1
  | some r1 =>
    cases r2 with
    | none => cases a2
    | some r2 =>
      refine ⟨r1, l1, l2, r2, ?_, f1.1, f3.1, f4.1, f2.1, a1.symm, a2.symm⟩
      unfold m_crossed b_crossed
      simp [e1, e2, e3, e4]
def NX (cs : List Cl) (p q : Cl × List Nat) : Prop := ¬ (p.1.n = q.1.n ∧ ahead cs p.2 q.2 = true ∧ ahead cs q.2 p.2 = true)
def someG (g : Gr) : Gr := g.filter fun p => !isN p.1.t
def OutI (mem : Mem) (cs : List Cl) (g : Gr) (xs : List D) (s : S) : Prop := ∃ (ds rs : Gr) (g1 g2 g3 : Option W), someG g = ds ++ rs ∧ xs = enumFrom ds.length (rs.map fun p => pT p.1) ∧ s = ⟨[some (.d (.tuple (HL cs))), some (.d (.dict (kdOf g))), some (.d (.list ((someG g).map fun p => pT p.1))), g1, g2, g3, none], mem, mem.length⟩ ∧ ds.Pairwise fun p q => NX cs q p
def InI (mem : Mem) (cs : List Cl) (g ds : Gr) (p : Cl × List Nat) (xs : List D) (s : S) : Prop := ∃ (es fs : Gr) (g3 : Option W), ds = es ++ fs ∧ xs = fs.map (fun p => pT p.1) ∧ s = ⟨[some (.d (.tuple (HL cs))), some (.d (.dict (kdOf g))), some (.d (.list ((someG g).map fun p => pT p.1))), some (.d (.int (ds.length : Nat))), some (.d (pT p.1)), g3, none], mem, mem.length⟩ ∧ ∀ q ∈ es, NX cs p q
def Ok3 (cs : List Cl) : Prop := ∀ (a b c d : Nat) (ca cb cc cd : Cl), cs[a]? = some ca → cs[b]? = some cb → cs[c]? = some cc → cs[d]? = some cd → cntC cs ca = true → cntC cs cb = true → cntC cs cc = true → cntC cs cd = true → kEq ca cb = true → kEq cc cd = true → ca.n = cc.n → kEq ca cc = false → isN ca.t = false → isN cc.t = false → endLt cs a c = true → endLt cs d b = true → False
theorem pairwise_ex {α : Type} {R : α → α → Prop} : ∀ {l : List α} {p q : α}, l.Pairwise R → p ∈ l → q ∈ l → p = q ∨ R p q ∨ R q p
  | x :: l, p, q, h, hp, hq => by
    obtain ⟨h1, h2⟩ := List.pairwise_cons.mp h
    rcases List.mem_cons.mp hp with e | hp'
    · rcases List.mem_cons.mp hq with e2 | hq'
      · exact .inl (e.trans e2.symm)
      · rw [e]; exact .inr (.inl (h1 q hq'))
    · rcases List.mem_cons.mp hq with e2 | hq'
      · rw [e2]; exact .inr (.inr (h1 p hp'))
      · exact pairwise_ex h2 hp' hq'
theorem crossed_bar_ok (mem : Mem) (cs : List Cl) (hG : GH cs) : ∃ x, m_crossed_bar mem [.d (.tuple (HL cs))] = .ok (.d x, mem) ∧ ((x = .none ∧ Ok3 cs) ∨ IsBar cs x) := by
  have w : (m_crossed_bar mem [.d (.tuple (HL cs))]).wp (fun q => ∃ x, q = (.d x, mem) ∧ ((x = .none ∧ Ok3 cs) ∨ IsBar cs x)) fun _ => False := by
    obtain ⟨g, eg, hS⟩ := groups_ok mem cs hG
    have gp := hS.gp hG
    have hnd := ndOk_kd g
    have hcl := hG.len
    have hgl := hS.len
    have hsub : ∀ p ∈ someG g, p ∈ g ∧ isN p.1.t = false := fun p hp => by
      have := List.mem_filter.mp hp
      exact ⟨this.1, by simpa using this.2⟩
    have hkey : (someG g).Pairwise fun p q => kEq p.1 q.1 = false := hS.key.filter _
    unfold m_crossed_bar b_crossed_bar
    simp [eg, dG, hnd]
    rw [lcGo_l (f := (fun x : D × D => x.1) ∘ fun p : Cl × List Nat => (pT p.1, PyData.list (NL p.2))) (fun p => if isN p.1.t = true then none else some (pT p.1)) g ?_ (by omega)]
    · have e1 : g.filterMap (fun p => if isN p.1.t = true then none else some (pT p.1)) = (someG g).map fun p => pT p.1 := by
        unfold someG
        clear hS gp hnd hgl hsub hkey eg
        induction g with
        | nil => rfl
        | cons p g ih =>
          rw [List.filterMap_cons, List.filter_cons]
          cases isN p.1.t <;> simp [ih]
      rw [e1]
      simp
      rw [Res.wp_bind]
      refine forGo_wp (OutI mem cs g) ?_ ?_ _ _ ?_
      · rintro d r s ⟨ds, rs, g1, g2, g3, e, hx, rfl, hn⟩
        cases rs with
        | nil => cases hx
        | cons p rs =>
          cases hx
          have c1 := cutD_to (xs := (someG g).map fun p => pT p.1) (h := ((ds.length : Nat) : Int)) (by omega)
          simp only [Int.toNat_natCast] at c1
          have c2 : ((someG g).map fun p => pT p.1).take ds.length = ds.map fun p => pT p.1 := by
            rw [e, List.map_append, List.take_append_of_le_length (by simp), List.take_of_length_le (by simp)]
          rw [c2] at c1
          simp [c1]
          refine forGo_wp (InI mem cs g ds p) ?_ ?_ _ _ ?_
          · rintro d r s ⟨es, fs, g4, e2, hx, rfl, hn2⟩
            cases fs with
            | nil => cases hx
            | cons q fs =>
              cases hx
              have pm : p ∈ someG g := by rw [e]; simp
              have qm : q ∈ someG g := by rw [e, e2]; simp
              obtain ⟨hp, np⟩ := hsub p pm
              obtain ⟨hq, nq⟩ := hsub q qm
              have nxt : ∀ g4, NX cs p q → InI mem cs g ds p (fs.map fun p => pT p.1) ⟨[some (.d (.tuple (HL cs))), some (.d (.dict (kdOf g))), some (.d (.list ((someG g).map fun p => pT p.1))), some (.d (.int (ds.length : Nat))), some (.d (pT p.1)), g4, none], mem, mem.length⟩ := fun g4 hh => by
                refine ⟨es ++ [q], fs, g4, by simp [e2], rfl, rfl, fun r hr => ?_⟩
                rcases List.mem_append.mp hr with hr | hr
                · exact hn2 r hr
                · rw [List.mem_singleton.mp hr]; exact hh
              have kp := keyD_pT (gp p hp)
              have kq := keyD_pT (gp q hq)
              unfold pT at kp kq
              have lp : lookD (kdOf g) (kT p.1) = some (.list (NL p.2)) := by rw [lookD_kd gp (gp p hp), hS.find hG hp (gp p hp) (kEq_refl (gp p hp))]; rfl
              have lq : lookD (kdOf g) (kT q.1) = some (.list (NL q.2)) := by rw [lookD_kd gp (gp q hq), hS.find hG hq (gp q hq) (kEq_refl (gp q hq))]; rfl
              have l1 := hS.lens p hp
              have l2 := hS.lens q hq
              have ia := is_ahead_eq mem cs p.2 q.2 (hS.val hp) (by omega) (hS.val hq) (by omega) (hS.ne q hq)
              have ib := is_ahead_eq mem cs q.2 p.2 (hS.val hq) (by omega) (hS.val hp) (by omega) (hS.ne p hp)
              by_cases hnm : p.1.n = q.1.n
              · have hnm' := eq_true hnm
                cases ha : ahead cs p.2 q.2 with
                | false =>
                  rw [ha] at ia
                  simp [pT, hnm']
                  simp [hnd, kp, kq, lp, lq, ia]
                  exact nxt _ fun z => by rw [ha] at z; cases z.2.1
                | true =>
                  rw [ha] at ia
                  cases hb : ahead cs q.2 p.2 with
                  | false =>
                    rw [hb] at ib
                    simp [pT, hnm']
                    simp [hnd, kp, kq, lp, lq, ia, ib]
                    exact nxt _ fun z => by rw [hb] at z; cases z.2.2
                  | true =>
                    rw [hb] at ib
                    obtain ⟨a, b, c, d, e5, i1, i2, i3, i4, x1, x2⟩ := crossed_ok mem cs p.2 q.2 (hS.val hp) (by omega) (hS.val hq) (by omega) ha hb
                    simp [pT, hnm']
                    simp [hnd, kp, kq, lp, lq, ia, ib, e5]
                    obtain ⟨ca, k1, k2, k3⟩ := hS.counted hp i1
                    obtain ⟨cb, k4, k5, k6⟩ := hS.counted hp i2
                    obtain ⟨cc, k7, k8, k9⟩ := hS.counted hq i3
                    obtain ⟨cd, k10, k11, k12⟩ := hS.counted hq i4
                    have ga := hG.c ca (List.mem_of_getElem? k1)
                    have gb := hG.c cb (List.mem_of_getElem? k4)
                    have gcc := hG.c cc (List.mem_of_getElem? k7)
                    have gd := hG.c cd (List.mem_of_getElem? k10)
                    have e1 := (kEq_iff (gp p hp) ga).mp k3
                    have e3 := (kEq_iff (gp q hq) gcc).mp k9
                    have hpq : kEq q.1 p.1 = false := by
                      have hk2 := hkey
                      rw [e, List.pairwise_append] at hk2
                      exact hk2.2.2 q (by rw [e2]; simp) p (by simp)
                    refine .crossed k1 k4 k7 k10 (cnt_tells k5) (cnt_tells k8) (kEq_trans ga (gp p hp) gb (kEq_symm (gp p hp) ga k3) k6) (kEq_trans gcc (gp q hq) gd (kEq_symm (gp q hq) gcc k9) k12) (by rw [← e1.1, ← e3.1]; exact hnm) ?_ (by rw [← e1.2]; exact np) (by rw [← e3.2]; exact nq) x1 x2
                    cases z : kEq ca cc with
                    | false => rfl
                    | true =>
                      rw [kEq_trans (gp q hq) ga (gp p hp) (kEq_trans (gp q hq) gcc ga k9 (kEq_symm ga gcc z)) (kEq_symm (gp p hp) ga k3)] at hpq
                      cases hpq
              · simp [pT, hnm]
                exact nxt _ fun z => hnm z.1
          · rintro s ⟨es, fs, g4, e2, hx, rfl, hn2⟩
            have : fs = [] := by simpa using hx.symm
            subst this
            have : ds = es := by simpa using e2
            subst this
            refine ⟨ds ++ [p], rs, _, _, g4, by simp [e], by simp, rfl, ?_⟩
            rw [List.pairwise_append]
            exact ⟨hn, List.pairwise_singleton _ _, fun a ha b hb => by rw [List.mem_singleton.mp hb]; exact hn2 a ha⟩
          · exact ⟨[], ds, g3, rfl, rfl, rfl, fun q h => by cases h⟩
      · rintro s ⟨ds, rs, g1, g2, g3, e, hx, rfl, hn⟩
        have : rs = [] := by cases rs with
          | nil => rfl
          | cons o rs => cases hx
        subst this
        have : someG g = ds := by simpa using e
        rw [← this] at hn
        simp
        refine .inl fun a b c d ca cb cc cd h1 h2 h3 h4 k1 k2 k3 k4 k5 k6 k7 k8 k9 k10 k11 k12 => ?_
        have ga := hG.c ca (List.mem_of_getElem? h1)
        have gb := hG.c cb (List.mem_of_getElem? h2)
        have gcc := hG.c cc (List.mem_of_getElem? h3)
        have gd := hG.c cd (List.mem_of_getElem? h4)
        obtain ⟨p, hp, ep⟩ := hS.all a ca (List.getElem?_eq_some_iff.mp h1).1 h1 k1
        obtain ⟨q, hq, eq⟩ := hS.all c cc (List.getElem?_eq_some_iff.mp h3).1 h3 k3
        have ia : a ∈ p.2 := (hS.mem p hp a).mpr ⟨(List.getElem?_eq_some_iff.mp h1).1, ca, h1, k1, ep⟩
        have ib : b ∈ p.2 := (hS.mem p hp b).mpr ⟨(List.getElem?_eq_some_iff.mp h2).1, cb, h2, k2, kEq_trans (gp p hp) ga gb ep k5⟩
        have ic : c ∈ q.2 := (hS.mem q hq c).mpr ⟨(List.getElem?_eq_some_iff.mp h3).1, cc, h3, k3, eq⟩
        have id : d ∈ q.2 := (hS.mem q hq d).mpr ⟨(List.getElem?_eq_some_iff.mp h4).1, cd, h4, k4, kEq_trans (gp q hq) gcc gd eq k6⟩
        have np : p ∈ someG g := List.mem_filter.mpr ⟨hp, by rw [isN_kEq (gp p hp) ga ep, k9]; rfl⟩
        have nq : q ∈ someG g := List.mem_filter.mpr ⟨hq, by rw [isN_kEq (gp q hq) gcc eq, k10]; rfl⟩
        have e1 := (kEq_iff (gp p hp) ga).mp ep
        have e2 := (kEq_iff (gp q hq) gcc).mp eq
        have x1 : ahead cs p.2 q.2 = true := ahead_ex.mpr ⟨a, ia, c, ic, k11⟩
        have x2 : ahead cs q.2 p.2 = true := ahead_ex.mpr ⟨d, id, b, ib, k12⟩
        have x3 : p.1.n = q.1.n := by rw [e1.1, e2.1, k7]
        rcases pairwise_ex hn np nq with z | z | z
        · rw [z] at ep
          rw [kEq_trans ga (gp q hq) gcc (kEq_symm (gp q hq) ga ep) eq] at k8
          cases k8
        · exact z ⟨x3.symm, x2, x1⟩
        · exact z ⟨x3, x1, x2⟩
      · exact ⟨[], someG g, none, none, none, rfl, rfl, rfl, .nil⟩
    · intro p hp
      cases hN : isN p.1.t with
      | true => simp [-gIsN_mk, gIsN_d, Look, pT, hN]
      | false => simp [-gIsN_mk, gIsN_d, Look, pT, hN]
  obtain ⟨q, e, x, rfl, hr⟩ := Res.ok_of_wp w
  exact ⟨x, e, hr⟩
/-- no bar -/
structure NoBar (cs : List Cl) : Prop where
  o1 : Ok1 cs
  o2 : Ok2 cs
  o3 : Ok3 cs
theorem bar_nn {cs : List Cl} {x : D} (h : IsBar cs x) : isN x = false := by cases h <;> rfl
theorem raw_bar_ok (mem : Mem) (cs : List Cl) (hG : GH cs) : ∃ x, m_raw_bar mem [.d (.tuple (HL cs))] = .ok (.d x, mem) ∧ ((x = .none ∧ NoBar cs) ∨ IsBar cs x) := by
  obtain ⟨x, e1, h1⟩ := single_bar_ok mem cs hG
  obtain ⟨y, e2, h2⟩ := late_bar_ok mem cs hG
  obtain ⟨z, e3, h3⟩ := crossed_bar_ok mem cs hG
  unfold m_raw_bar b_raw_bar
  simp [-gIsN_mk, gIsN_d, e1, e2, e3, forGo]
  rcases h1 with ⟨rfl, h1⟩ | h1
  · simp [-gIsN_mk, gIsN_d, e1, e2, e3, forGo]
    rcases h2 with ⟨rfl, h2⟩ | h2
    · simp [-gIsN_mk, gIsN_d, e1, e2, e3, forGo]
      rcases h3 with ⟨rfl, h3⟩ | h3
      · simp [-gIsN_mk, gIsN_d, e1, e2, e3, forGo]
        exact .inl ⟨h1, h2, h3⟩
      · have := bar_nn h3
        simp [-gIsN_mk, gIsN_d, e1, e2, e3, forGo, this, h3]
    · have := bar_nn h2
      simp [-gIsN_mk, gIsN_d, e1, e2, e3, forGo, this, h2]
  · have := bar_nn h1
    simp [-gIsN_mk, gIsN_d, e1, e2, e3, forGo, this, h1]
end K49

set_option Elab.async false
set_option linter.all false
set_option maxRecDepth 100000
set_option maxHeartbeats 4000000
namespace K49
open PySem PySem.Spec PyProof.Rows L2 PD
theorem lcGoC_list {α : Type} {n : Nat} {own : List Nat} {env0 : List (Option W)} {m : List (Option Cell)} {b : Nat} {tgt : GM} {t : TM} {fe : EM} {f : α → D} (k : α → Option D) {l : List α} (hm : m[n]? = some (some (.l (l.map f)))) : ∀ (fuel i : Nat) (acc : List D),
    (∀ a ∈ l, Look own tgt t fe env0 m b (f a) (k a)) → l.length ≤ 16777216 → l.length ≤ i + fuel → i ≤ l.length → acc.length ≤ i →
    lcGoC n own tgt t fe env0 fuel i ⟨env0, m, b⟩ acc = .ok (acc ++ (l.drop i).filterMap k, ⟨env0, m, b⟩)
  | 0, i, acc, h, hl, hf, hi, ha => by
    have : (l.map f)[i]? = none := List.getElem?_eq_none (by simp; omega)
    unfold lcGoC
    dsimp only
    rw [hm]
    dsimp only
    rw [this, List.drop_of_length_le (by omega)]
    simp
  | fuel + 1, i, acc, h, hl, hf, hi, ha => by
    unfold lcGoC
    dsimp only
    rw [hm]
    dsimp only
    by_cases hi2 : i < l.length
    · have e0 : (l.map f)[i]? = some (f l[i]) := by rw [List.getElem?_map, List.getElem?_eq_getElem hi2]; rfl
      rw [e0, List.drop_eq_getElem_cons hi2]
      dsimp only
      obtain ⟨s1, e1, h1⟩ := look_of (k := fun _ => k l[i]) (h l[i] (List.getElem_mem hi2))
      rw [e1]
      dsimp only
      rcases h1 with ⟨kd, e2, ht⟩ | ⟨x, e2, w, e3, e4, kd, ht, hf', hd⟩
      · rw [ht, nox_ok, Res.bind_ok]
        dsimp only
        rw [if_neg Bool.false_ne_true, lcGoC_list k hm fuel (i + 1) acc h hl (by omega) (by omega) (by omega), List.filterMap_cons, kd]
      · rw [ht, nox_ok, Res.bind_ok]
        dsimp only
        rw [if_pos rfl, hf', nox_ok, Res.bind_ok]
        dsimp only
        rw [hd]
        dsimp only
        rw [if_pos (sl_lt (by omega)), lcGoC_list k hm fuel (i + 1) (acc ++ [x]) h hl (by omega) (by omega) (by simp; omega), List.filterMap_cons, kd]
        simp
    · have : (l.map f)[i]? = none := List.getElem?_eq_none (by simp; omega)
      rw [this, List.drop_of_length_le (by omega)]
      simp
theorem lcGoC_l {α : Type} {n : Nat} {own : List Nat} {env0 : List (Option W)} {m : List (Option Cell)} {b : Nat} {tgt : GM} {t : TM} {fe : EM} {f : α → D} (k : α → Option D) {l : List α} (hm : m[n]? = some (some (.l (l.map f)))) (h : ∀ a ∈ l, Look own tgt t fe env0 m b (f a) (k a)) (hl : l.length ≤ 16777216) :
    lcGoC n own tgt t fe env0 l.length 0 ⟨env0, m, b⟩ [] = .ok (l.filterMap k, ⟨env0, m, b⟩) := by
  rw [lcGoC_list k hm l.length 0 [] h hl (by omega) (by omega) (by simp)]
  rfl
theorem fm_not {α β : Type} (P : α → Bool) (f : α → β) : ∀ l : List α, l.filterMap (fun a => if P a = true then none else some (f a)) = (l.filter fun a => !P a).map f
  | [] => rfl
  | a :: l => by
    rw [List.filterMap_cons, List.filter_cons, fm_not P f l]
    cases P a <;> simp
theorem fm_yes {α β : Type} (P : α → Bool) (f : α → β) : ∀ l : List α, l.filterMap (fun a => if P a = true then some (f a) else none) = (l.filter P).map f
  | [] => rfl
  | a :: l => by
    rw [List.filterMap_cons, List.filter_cons, fm_yes P f l]
    cases P a <;> simp
/-! ### the tail of a group -/
def isWr (cs : List Cl) (i : Nat) : Bool := match cs[i]? with
  | some c => c.w
  | none => false
def lePr (p q : Int × Nat) : Bool := leD (prD p) (prD q)
def readsL (cs : List Cl) (is : List Nat) : List (Int × Nat) := ((is.filter fun i => !isWr cs i).map fun i => (begAt cs i, i)).mergeSort lePr
def tailL (cs : List Cl) (is : List Nat) : List Nat := is.filter (isWr cs) ++ (readsL cs is).map (·.2)
theorem sort_pr (ps : List (Int × Nat)) : sortD (ps.map prD) = (ps.mergeSort lePr).map prD := (List.map_mergeSort (r := lePr) (s := leD) fun _ _ _ _ => rfl).symm
theorem readsL_len (cs : List Cl) (is : List Nat) : (readsL cs is).length = (is.filter fun i => !isWr cs i).length := by
  unfold readsL
  rw [List.length_mergeSort, List.length_map]
theorem srtOk_pr (ps : List (Int × Nat)) : srtOk (ps.map prD) = true := by
  unfold srtOk
  rw [isIP_pr]
  rfl
theorem tail_eq (mem : Mem) (cs : List Cl) (is : List Nat) (hv : Val cs is) (hl : is.length ≤ 1000) : m_tail mem [.d (.tuple (HL cs)), .d (.list (NL is))] = .ok (.f (NL (tailL cs is)), mem) := by
  have hk : ∀ i ∈ is, ∃ c, cs[i]? = some c ∧ isWr cs i = c.w ∧ begAt cs i = c.b := fun i hi => by
    have e := List.getElem?_eq_getElem (hv i hi)
    exact ⟨_, e, by unfold isWr; rw [e], by unfold begAt; rw [e]⟩
  unfold m_tail b_tail
  simp
  rw [lcGo_l (f := fun i => PyData.int (i : Nat)) (fun i => if isWr cs i = true then none else some (prD (begAt cs i, i))) is ?_ (by omega)]
  · have e1 : is.filterMap (fun i => if isWr cs i = true then none else some (prD (begAt cs i, i))) = ((is.filter fun i => !isWr cs i).map fun i => (begAt cs i, i)).map prD := by
      rw [fm_not (isWr cs) (fun i => prD (begAt cs i, i)), List.map_map]
      rfl
    rw [e1]
    have hs := srtOk_pr ((is.filter fun i => !isWr cs i).map fun i => (begAt cs i, i))
    have hs2 := sort_pr ((is.filter fun i => !isWr cs i).map fun i => (begAt cs i, i))
    have e3 : ((is.filter fun i => !isWr cs i).map fun i => (begAt cs i, i)).mergeSort lePr = readsL cs is := rfl
    rw [e3] at hs2
    generalize ((is.filter fun i => !isWr cs i).map fun i => (begAt cs i, i)).map prD = X at hs hs2
    simp [hs, hs2]
    rw [lcGo_l (f := fun i => PyData.int (i : Nat)) (fun i => if isWr cs i = true then some (.int (i : Nat)) else none) is ?_ (by omega)]
    · have e2 : is.filterMap (fun i => if isWr cs i = true then some (PyData.int (i : Nat)) else none) = NL (is.filter (isWr cs)) := fm_yes (isWr cs) (fun i => PyData.int (i : Nat)) is
      rw [e2]
      simp
      have hl2 := readsL_len cs is
      have hl3 : (is.filter fun i => !isWr cs i).length ≤ is.length := List.length_filter_le _ _
      have hl4 : (is.filter (isWr cs)).length ≤ is.length := List.length_filter_le _ _
      rw [lcGo_l (f := prD) (fun p => some (.int (p.2 : Nat))) (readsL cs is) ?_ (by omega)]
      · have hk1 : (is.filter (isWr cs)).length + (readsL cs is).length ≤ SL.1 := SL_le (by omega)
        simp [hk1, tailL, Function.comp_def]
      · intro p hp
        simp [Look, prD]
    · intro i hi
      obtain ⟨c, k1, k2, k3⟩ := hk i hi
      cases hw : c.w with
      | true => simp [Look, k1, k2, dC, hw]
      | false => simp [Look, k1, k2, dC, hw]
  · intro i hi
    obtain ⟨c, k1, k2, k3⟩ := hk i hi
    cases hw : c.w with
    | true => simp [Look, k1, k2, dC, hw]
    | false => simp [Look, k1, k2, k3, dC, hw, prD]
theorem tailL_len (cs : List Cl) (is : List Nat) : (tailL cs is).length = is.length := by
  unfold tailL
  rw [List.length_append, List.length_map, readsL_len]
  induction is with
  | nil => rfl
  | cons i is ih =>
    rw [List.filter_cons, List.filter_cons]
    cases isWr cs i <;> simp <;> omega
/-! ### the order of a name -/
abbrev LG (gs : List (List Nat)) : List D := gs.map fun is => PyData.list (NL is)
theorem eqv_NL : ∀ (a b : List Nat), PyData.eqvAll (NL a) (NL b) = decide (a = b)
  | [], [] => by simp
  | [], y :: b => by simp
  | x :: a, [] => by simp
  | x :: a, y :: b => by
    have := eqv_NL a b
    rw [show NL (x :: a) = PyData.int (x : Nat) :: NL a from rfl, show NL (y :: b) = PyData.int (y : Nat) :: NL b from rfl, eqvAll_cons', this, eqv_ii]
    by_cases h : x = y
    · subst h; simp
    · have : ¬ ((x : Int) = (y : Int)) := by omega
      simp [h, this]
theorem lay_NL : ∀ (a : List Nat), PyData.canLayAll0 (NL a) = true ∧ PyData.depthAll (NL a) = 0
  | [] => by simp
  | x :: a => by
    have := lay_NL a
    simp [this.1, this.2]
theorem lay_LG : ∀ (gs : List (List Nat)), PyData.canLayAll0 (LG gs) = true
  | [] => by simp
  | x :: gs => by
    have := lay_LG gs
    simp [this, (lay_NL x).1]
theorem place_LG {gs : List (List Nat)} {x : List Nat} (h : x ∈ gs) : ∃ j, SeqAt.dataPlace (LG gs) (.list (NL x)) = some j ∧ gs[j]? = some x := by
  induction gs with
  | nil => cases h
  | cons y gs ih =>
    unfold SeqAt.dataPlace at ih ⊢
    rw [show LG (y :: gs) = PyData.list (NL y) :: LG gs from rfl, List.findIdx?_cons]
    have e : PyData.eqv (.list (NL y)) (.list (NL x)) = decide (y = x) := by rw [eqv_ll, eqv_NL]
    rw [e]
    by_cases hy : y = x
    · subst hy
      exact ⟨0, by simp, rfl⟩
    · rcases List.mem_cons.mp h with z | z
      · exact absurd z.symm hy
      · obtain ⟨j, h1, h2⟩ := ih z
        refine ⟨j + 1, ?_, h2⟩
        rw [h1]
        simp [hy]
def freeL (cs : List Cl) (left : List (List Nat)) : List (List Nat) := left.filter fun one => !(left.any fun o => decide (o ≠ one) && ahead cs o one)
theorem min_of {α : Type} (f : α → Int) : ∀ (l : List α), l ≠ [] → ∃ x ∈ l, ∀ y ∈ l, f x ≤ f y
  | [], h => absurd rfl h
  | [x], _ => ⟨x, List.mem_cons_self .., fun y hy => by rw [List.mem_singleton.mp hy]; exact Int.le_refl _⟩
  | x :: z :: l, _ => by
    obtain ⟨m, h1, h2⟩ := min_of f (z :: l) (by simp)
    by_cases h : f x ≤ f m
    · refine ⟨x, List.mem_cons_self .., fun y hy => ?_⟩
      rcases List.mem_cons.mp hy with rfl | hy
      · exact Int.le_refl _
      · have := h2 y hy; omega
    · refine ⟨m, List.mem_cons_of_mem _ h1, fun y hy => ?_⟩
      rcases List.mem_cons.mp hy with rfl | hy
      · omega
      · exact h2 y hy
/-- groups of which no two are ahead of each other: some is free -/
theorem free_ex (mem : Mem) {cs : List Cl} {left : List (List Nat)} (hne : left ≠ []) (hv : ∀ a ∈ left, Val cs a ∧ a.length ≤ 1000 ∧ a ≠ []) (hx : ∀ a ∈ left, ∀ b ∈ left, a ≠ b → ahead cs a b = true → ahead cs b a = false) : freeL cs left ≠ [] := by
  have hb : ∀ a ∈ left, ∃ l : Nat, LB cs a l := fun a ha => by
    obtain ⟨r, _, h⟩ := last_begin_ok mem cs a (hv a ha).1 (hv a ha).2.1 (hv a ha).2.2
    exact ⟨r, h⟩
  have hlb : ∃ lb : List Nat → Nat, ∀ a ∈ left, LB cs a (lb a) := by
    classical
    refine ⟨fun a => if h : ∃ l : Nat, LB cs a l then h.choose else 0, fun a ha => ?_⟩
    have h := hb a ha
    show LB cs a (if h : ∃ l : Nat, LB cs a l then h.choose else 0)
    rw [dif_pos h]
    exact h.choose_spec
  obtain ⟨lb, hlb⟩ := hlb
  obtain ⟨a, ha, hmin⟩ := min_of (fun a => begAt cs (lb a)) left hne
  by_cases hf : (left.any fun o => decide (o ≠ a) && ahead cs o a) = true
  · obtain ⟨o, ho, h⟩ := List.any_eq_true.mp hf
    rw [Bool.and_eq_true, decide_eq_true_eq] at h
    obtain ⟨i, hi, j, hj, hlt⟩ := ahead_ex.mp h.2
    have hfree : o ∈ freeL cs left := by
      refine List.mem_filter.mpr ⟨ho, ?_⟩
      rw [Bool.not_eq_true', List.any_eq_false]
      intro k hk
      rw [Bool.not_eq_true, Bool.and_eq_false_iff]
      by_cases hko : k = o
      · exact .inl (by simp [hko])
      · refine .inr ?_
        have : ahead cs o k = true := by
          refine ahead_ex.mpr ⟨i, hi, lb k, (hlb k hk).1, ?_⟩
          have h1 := (hlb a ha).2 j hj
          have h2 := hmin k hk
          unfold endLt at hlt ⊢
          cases e : endAt cs i with
          | none => rw [e] at hlt; cases hlt
          | some x =>
            rw [e] at hlt
            have := of_decide_eq_true hlt
            exact decide_eq_true (by omega)
        exact hx o ho k hk (fun z => hko z.symm) this
    exact List.ne_nil_of_mem hfree
  · exact List.ne_nil_of_mem (List.mem_filter.mpr ⟨ha, by simpa using hf⟩)
/-- an order of groups in which nobody stands behind whom it is ahead of -/
def Ordered (cs : List Cl) (gs od : List (List Nat)) : Prop := od.Perm gs ∧ od.Pairwise fun a b => ahead cs b a = false
structure NOI (mem : Mem) (cs : List Cl) (gs : List (List Nat)) (s : S) : Prop where
  ex : ∃ (od left : List (List Nat)) (g1 : Option W), s = ⟨[some (.d (.tuple (HL cs))), some (.d (.list (LG gs))), some (.c mem.length), some (.c (mem.length + 1)), g1, none, none], mem ++ [some (.l (LG left)), some (.l (NL (od.flatMap (tailL cs))))], mem.length⟩ ∧ (od ++ left).Perm gs ∧ od.Pairwise (fun a b => ahead cs b a = false) ∧ ∀ a ∈ od, ∀ b ∈ left, ahead cs b a = false
def leftN (n : Nat) (s : S) : Nat := match s.mem[n]? with
  | some (some (.l xs)) => xs.length
  | _ => 0
theorem erase_map {α β : Type} (f : α → β) : ∀ (l : List α) (i : Nat), (l.map f).eraseIdx i = (l.eraseIdx i).map f
  | [], _ => by simp
  | a :: l, 0 => rfl
  | a :: l, i + 1 => by
    show f a :: (l.map f).eraseIdx i = _
    rw [erase_map f l i]
    rfl
theorem erase_perm {α : Type} : ∀ {l : List α} {i : Nat} {x : α}, l[i]? = some x → (x :: l.eraseIdx i).Perm l
  | a :: l, 0, x, h => by
    cases h
    exact .refl _
  | a :: l, i + 1, x, h => by
    show (x :: a :: l.eraseIdx i).Perm (a :: l)
    exact (List.Perm.swap a x _).trans ((erase_perm (l := l) (i := i) (by simpa using h)).cons a)
theorem flat_len (cs : List Cl) : ∀ (od : List (List Nat)), (∀ a ∈ od, a.length ≤ 20) → (od.flatMap (tailL cs)).length ≤ 20 * od.length
  | [], _ => by simp
  | a :: od, h => by
    have h1 := h a (List.mem_cons_self ..)
    have h2 := flat_len cs od fun b hb => h b (List.mem_cons_of_mem _ hb)
    rw [List.flatMap_cons, List.length_append, tailL_len, List.length_cons]
    omega
theorem name_order_ok (mem : Mem) (cs : List Cl) (gs : List (List Nat)) (hl : gs.length ≤ 20) (hv : ∀ a ∈ gs, Val cs a ∧ a.length ≤ 20 ∧ a ≠ []) (hnd : gs.Nodup) (hx : ∀ a ∈ gs, ∀ b ∈ gs, a ≠ b → ahead cs a b = true → ahead cs b a = false) :
    ∃ od, m_name_order mem [.d (.tuple (HL cs)), .d (.list (LG gs))] = .ok (.f (NL (od.flatMap (tailL cs))), mem) ∧ Ordered cs gs od := by
  have w : (m_name_order mem [.d (.tuple (HL cs)), .d (.list (LG gs))]).wp (fun q => ∃ od, q = (.f (NL (od.flatMap (tailL cs))), mem) ∧ Ordered cs gs od) fun _ => False := by
    unfold m_name_order b_name_order
    simp
    rw [Res.wp_bind]
    refine whGo_wp (NOI mem cs gs) (leftN mem.length) ?_ _ _ ?_ ?_
    · rintro s ⟨od, left, g1, rfl, hp, ho, hb⟩
      have hlen : od.length + left.length ≤ 20 := by
        have := hp.length_eq
        rw [List.length_append] at this
        omega
      have hm : ∀ a, a ∈ od ∨ a ∈ left → a ∈ gs := fun a ha => hp.mem_iff.mp (List.mem_append.mpr ha)
      have hnl : left.Nodup := by
        have := hp.nodup_iff.mpr hnd
        exact (List.nodup_append.mp this).2.1
      have hfl := flat_len cs od fun a ha => (hv a (hm a (.inl ha))).2.1
      by_cases h0 : left = []
      · subst h0
        have : ¬ mem.length + 1 < mem.length := by omega
        simp [this]
        exact ⟨od, rfl, by simpa using hp, ho⟩
      · have hlt : 0 < left.length := List.length_pos_iff.mpr h0
        have hlt' : (0 : Int) < (left.length : Int) := by omega
        have hne := free_ex mem h0 (fun a ha => ⟨(hv a (hm a (.inr ha))).1, by have := (hv a (hm a (.inr ha))).2.1; omega, (hv a (hm a (.inr ha))).2.2⟩) fun a ha b hb => hx a (hm a (.inr ha)) b (hm b (.inr hb))
        simp [hlt, hlt']
        rw [lcGoC_l (f := fun is : List Nat => PyData.list (NL is)) (l := left) (fun one => if (left.any fun o => decide (o ≠ one) && ahead cs o one) = true then none else some (.list (NL one))) (by simp) ?_ (by omega)]
        · have e1 : left.filterMap (fun one => if (left.any fun o => decide (o ≠ one) && ahead cs o one) = true then none else some (PyData.list (NL one))) = LG (freeL cs left) := fm_not (fun one => left.any fun o => decide (o ≠ one) && ahead cs o one) (fun one => PyData.list (NL one)) left
          rw [e1]
          cases hf : freeL cs left with
          | nil => exact absurd hf hne
          | cons f fr =>
            have hfm : f ∈ freeL cs left := by rw [hf]; exact List.mem_cons_self ..
            obtain ⟨fl, ff⟩ := List.mem_filter.mp hfm
            obtain ⟨j, e2, e3⟩ := place_LG fl
            have e4 := tail_eq (mem ++ [some (.l (LG left)), some (.l (NL (od.flatMap (tailL cs))))]) cs f (hv f (hm f (.inr fl))).1 (by have := (hv f (hm f (.inr fl))).2.1; omega)
            have k1 : (od.flatMap (tailL cs)).length + (tailL cs f).length ≤ SL.1 := SL_le (by rw [tailL_len]; have := (hv f (hm f (.inr fl))).2.1; omega)
            have k2 := lay_LG left
            have k3 := lay_NL f
            obtain ⟨hj, ej⟩ := List.getElem?_eq_some_iff.mp e3
            have pj : (f :: left.eraseIdx j).Perm left := erase_perm e3
            generalize hfo : od.flatMap (tailL cs) = fo at e4 k1 ⊢
            simp [e4, k1, e2, k2, k3, erase_map]
            refine ⟨⟨od ++ [f], left.eraseIdx j, _, by rw [List.flatMap_append, hfo]; simp; rfl, ?_, ?_, fun a ha b hb' => ?_⟩, ?_⟩
            · rw [List.append_assoc]
              exact (List.Perm.append_left od pj).trans hp
            · rw [List.pairwise_append]
              exact ⟨ho, List.pairwise_singleton _ _, fun a ha b hb2 => by rw [List.mem_singleton.mp hb2]; exact hb a ha f fl⟩
            · have hbl : b ∈ left := List.mem_of_mem_eraseIdx hb'
              rcases List.mem_append.mp ha with ha | ha
              · exact hb a ha b hbl
              · rw [List.mem_singleton.mp ha]
                have hne2 : b ≠ f := fun z => by
                  have := pj.nodup_iff.mpr hnl
                  rw [List.nodup_cons] at this
                  exact this.1 (by rw [← z]; exact hb')
                rw [Bool.not_eq_true', List.any_eq_false] at ff
                have := ff b hbl
                rw [Bool.not_eq_true, Bool.and_eq_false_iff] at this
                rcases this with z | z
                · exact absurd hne2 (by simpa using z)
                · exact z
            · simp [leftN, List.length_eraseIdx, hj]
              omega
        · intro one hone
          simp [Look]
          rw [lcGoC_l (f := fun is : List Nat => PyData.list (NL is)) (l := left) (fun o => if decide (o ≠ one) = true then some (.bool (ahead cs o one)) else none) (by simp) ?_ (by omega), fm_yes (fun o => decide (o ≠ one)) (fun o => PyData.bool (ahead cs o one)) left]
          · simp
            rw [boolsOf_of (fun o => ahead cs o one) fun _ _ => rfl]
            simp
          · intro o hoL
            have ia := is_ahead_eq (mem ++ [some (.l (LG left)), some (.l (NL (od.flatMap (tailL cs))))]) cs o one (hv o (hm o (.inr hoL))).1 (by have := (hv o (hm o (.inr hoL))).2.1; omega) (hv one (hm one (.inr hone))).1 (by have := (hv one (hm one (.inr hone))).2.1; omega) (hv one (hm one (.inr hone))).2.2
            have l1 := lay_NL o
            have l2 := lay_NL one
            by_cases hq : o = one
            · subst hq
              simp [Look, l1, eqv_NL]
            · simp [Look, l1, l2, eqv_NL, hq, ia]
    · exact ⟨[], gs, none, by simp, by simp, .nil, fun a h => by cases h⟩
    · rw [rounds.2]
      simp [leftN]
      omega
  obtain ⟨q, e, od, rfl, hr⟩ := Res.ok_of_wp w
  exact ⟨od, e, hr⟩
end K49

set_option Elab.async false
set_option linter.all false
set_option maxRecDepth 100000
set_option maxHeartbeats 4000000
namespace K49
open PySem PySem.Spec PyProof.Rows L2 PD
/-! ### names -/
theorem distS_go : ∀ (zs acc : List Str), acc.Nodup → (zs.foldl (fun acc z => if z ∈ acc then acc else acc ++ [z]) acc).Nodup ∧ (∀ z, z ∈ zs.foldl (fun acc z => if z ∈ acc then acc else acc ++ [z]) acc ↔ z ∈ acc ∨ z ∈ zs) ∧ (zs.foldl (fun acc z => if z ∈ acc then acc else acc ++ [z]) acc).length ≤ acc.length + zs.length
  | [], acc, h => ⟨h, fun z => by simp, by simp⟩
  | x :: zs, acc, h => by
    rw [List.foldl_cons]
    by_cases hx : x ∈ acc
    · rw [if_pos hx]
      obtain ⟨h1, h2, h3⟩ := distS_go zs acc h
      refine ⟨h1, fun z => ?_, by rw [List.length_cons]; omega⟩
      rw [h2, List.mem_cons]
      constructor
      · rintro (z1 | z1)
        · exact .inl z1
        · exact .inr (.inr z1)
      · rintro (z1 | rfl | z1)
        · exact .inl z1
        · exact .inl hx
        · exact .inr z1
    · rw [if_neg hx]
      have hn : (acc ++ [x]).Nodup := by
        rw [List.nodup_append]
        exact ⟨h, by simp, fun a ha b hb => by rw [List.mem_singleton.mp hb]; exact fun e => hx (e ▸ ha)⟩
      obtain ⟨h1, h2, h3⟩ := distS_go zs (acc ++ [x]) hn
      refine ⟨h1, fun z => ?_, by rw [List.length_cons]; simp at h3; omega⟩
      rw [h2]
      simp only [List.mem_append, List.mem_cons, List.not_mem_nil, or_false, or_assoc]
theorem namesD_kd : ∀ g : Gr, namesD (kdOf g) = some (g.map fun p => p.1.n)
  | [] => rfl
  | p :: g => by
    rw [show kdOf (p :: g) = (pT p.1, PyData.list (NL p.2)) :: kdOf g from rfl]
    unfold pT
    rw [namesD]
    dsimp only
    rw [namesD_kd g]
    rfl
def leS (a b : Str) : Bool := leD (.str a) (.str b)
def namesOf (g : Gr) : List Str := (distS (g.map fun p => p.1.n)).mergeSort leS
theorem sort_str (zs : List Str) : sortD (zs.map PyData.str) = (zs.mergeSort leS).map PyData.str := (List.map_mergeSort (r := leS) (s := leD) fun _ _ _ _ => rfl).symm
theorem names_spec (g : Gr) : (namesOf g).Nodup ∧ (∀ n, n ∈ namesOf g ↔ ∃ p ∈ g, p.1.n = n) ∧ (namesOf g).length ≤ g.length := by
  obtain ⟨h1, h2, h3⟩ := distS_go (g.map fun p => p.1.n) [] List.nodup_nil
  have hp := List.mergeSort_perm (distS (g.map fun p => p.1.n)) leS
  refine ⟨hp.nodup_iff.mpr h1, fun n => ?_, ?_⟩
  · rw [namesOf, hp.mem_iff]
    have := h2 n
    rw [show (n ∈ distS (g.map fun p => p.1.n)) ↔ _ from this, List.mem_map]
    simp
  · rw [namesOf, List.length_mergeSort]
    have : (distS (g.map fun p => p.1.n)).length ≤ _ := h3
    simpa using this
/-! ### the order of all -/
def grpsN (g : Gr) (n : Str) : List (List Nat) := (g.filter fun p => decide (p.1.n = n) && !isN p.1.t).map (·.2)
def Block (cs : List Cl) (g : Gr) (b : Str × List Nat) : Prop := ∃ od, b.2 = tailL cs (noneG g b.1) ++ od.flatMap (tailL cs) ∧ Ordered cs (grpsN g b.1) od
theorem grpsN_mem {g : Gr} {n : Str} {a : List Nat} : a ∈ grpsN g n ↔ ∃ p ∈ g, p.1.n = n ∧ isN p.1.t = false ∧ p.2 = a := by
  unfold grpsN
  rw [List.mem_map]
  constructor
  · rintro ⟨p, hp, e⟩
    obtain ⟨h1, h2⟩ := List.mem_filter.mp hp
    rw [Bool.and_eq_true, decide_eq_true_eq] at h2
    exact ⟨p, h1, h2.1, by simpa using h2.2, e⟩
  · rintro ⟨p, hp, h1, h2, e⟩
    exact ⟨p, List.mem_filter.mpr ⟨hp, by simp [h1, h2]⟩, e⟩
theorem grpsN_nd {cs : List Cl} (hG : GH cs) {g : Gr} (h : GS cs cs.length g) (n : Str) : (grpsN g n).Nodup := by
  unfold grpsN List.Nodup
  rw [List.pairwise_map]
  refine (h.key.filter _).imp_of_mem fun {p q} hp hq e => ?_
  have hp := (List.mem_filter.mp hp).1
  have hq := (List.mem_filter.mp hq).1
  intro z
  obtain ⟨i, hi⟩ := List.exists_mem_of_ne_nil _ (h.ne p hp)
  obtain ⟨c, h1, h2, h3⟩ := h.counted hp hi
  rw [z] at hi
  obtain ⟨c', h4, h5, h6⟩ := h.counted hq hi
  rw [h1] at h4
  cases h4
  have gc := hG.c c (List.mem_of_getElem? h1)
  rw [kEq_trans (h.gp hG p hp) gc (h.gp hG q hq) h3 (kEq_symm (h.gp hG q hq) gc h6)] at e
  cases e
theorem grps_nx {cs : List Cl} (hG : GH cs) {g : Gr} (h : GS cs cs.length g) (h3 : Ok3 cs) {n : Str} : ∀ a ∈ grpsN g n, ∀ b ∈ grpsN g n, a ≠ b → ahead cs a b = true → ahead cs b a = false := by
  intro a ha b hb hne h1
  obtain ⟨p, hp, p1, p2, rfl⟩ := grpsN_mem.mp ha
  obtain ⟨q, hq, q1, q2, rfl⟩ := grpsN_mem.mp hb
  cases h2 : ahead cs q.2 p.2 with
  | false => rfl
  | true =>
    exfalso
    obtain ⟨i, hi, j, hj, x1⟩ := ahead_ex.mp h1
    obtain ⟨k, hk, l, hl, x2⟩ := ahead_ex.mp h2
    obtain ⟨ci, i1, i2, i3⟩ := h.counted hp hi
    obtain ⟨cj, j1, j2, j3⟩ := h.counted hq hj
    obtain ⟨ck, k1, k2, k3⟩ := h.counted hq hk
    obtain ⟨cl, l1, l2, l3⟩ := h.counted hp hl
    have gi := hG.c ci (List.mem_of_getElem? i1)
    have gj := hG.c cj (List.mem_of_getElem? j1)
    have gk := hG.c ck (List.mem_of_getElem? k1)
    have gl := hG.c cl (List.mem_of_getElem? l1)
    have gp := h.gp hG p hp
    have gq := h.gp hG q hq
    have e1 := (kEq_iff gp gi).mp i3
    have e2 := (kEq_iff gq gj).mp j3
    refine h3 i l j k ci cl cj ck i1 l1 j1 k1 i2 l2 j2 k2 (kEq_trans gi gp gl (kEq_symm gp gi i3) l3) (kEq_trans gj gq gk (kEq_symm gq gj j3) k3) (by rw [← e1.1, ← e2.1, p1, q1]) ?_ (by rw [← e1.2]; exact p2) (by rw [← e2.2]; exact q2) x1 x2
    cases z : kEq ci cj with
    | false => rfl
    | true => exact absurd (congrArg (·.2) (h.uniq hG hp hq (kEq_trans gp gi gq i3 (kEq_trans gi gj gq z (kEq_symm gq gj j3))))) hne
/-- behind some names -/
structure ROI (mem : Mem) (cs : List Cl) (g : Gr) (xs : List D) (s : S) : Prop where
  ex : ∃ (bs : List (Str × List Nat)) (rs : List Str) (g1 g2 : Option W), namesOf g = bs.map (·.1) ++ rs ∧ xs = rs.map PyData.str ∧ s = ⟨[some (.d (.tuple (HL cs))), some (.d (.dict (kdOf g))), some (.d (.list ((namesOf g).map PyData.str))), some (.c mem.length), g1, g2, none], mem ++ [some (.l (NL (bs.flatMap (·.2))))], mem.length⟩ ∧ (∀ b ∈ bs, Block cs g b) ∧ (bs.flatMap (·.2)).length ≤ 420 * bs.length
/-- what right_order tells -/
def ROut (cs : List Cl) (g : Gr) (r : List Nat) : Prop := ∃ bs : List (Str × List Nat), bs.map (·.1) = namesOf g ∧ (∀ b ∈ bs, Block cs g b) ∧ r = bs.flatMap (·.2)
theorem ordered_len {cs : List Cl} {gs od : List (List Nat)} (h : Ordered cs gs od) (hl : gs.length ≤ 20) (hv : ∀ a ∈ gs, a.length ≤ 20) : (od.flatMap (tailL cs)).length ≤ 400 := by
  have h1 := h.1.length_eq
  have h2 := flat_len cs od fun a ha => hv a (h.1.mem_iff.mp ha)
  omega
theorem right_order_in (mem : Mem) (cs : List Cl) (hG : GH cs) (g : Gr) (hS : GS cs cs.length g) (h3 : Ok3 cs) (n : Str) (hn : gd (.str n) = true) : ∃ od, m_name_order mem [.d (.tuple (HL cs)), .d (.list (LG (grpsN g n)))] = .ok (.f (NL (od.flatMap (tailL cs))), mem) ∧ Ordered cs (grpsN g n) od ∧ (od.flatMap (tailL cs)).length ≤ 400 := by
  have hcl := hG.len
  have hlen : (grpsN g n).length ≤ 20 := by
    unfold grpsN
    rw [List.length_map]
    have := List.length_filter_le (fun p : Cl × List Nat => decide (p.1.n = n) && !isN p.1.t) g
    have := hS.len
    omega
  have hv : ∀ a ∈ grpsN g n, Val cs a ∧ a.length ≤ 20 ∧ a ≠ [] := fun a ha => by
    obtain ⟨p, hp, _, _, rfl⟩ := grpsN_mem.mp ha
    exact ⟨hS.val hp, by have := hS.lens p hp; omega, hS.ne p hp⟩
  obtain ⟨od, e, h⟩ := name_order_ok mem cs (grpsN g n) hlen hv (grpsN_nd hG hS n) (grps_nx hG hS h3)
  exact ⟨od, e, h, ordered_len h hlen fun a ha => (hv a ha).2.1⟩
theorem right_order_c (mem : Mem) (cs : List Cl) (hG : GH cs) (hH : m_check_history mem [.d (.tuple (HL cs))] = .ok (.d .none, mem)) : ∃ w x, m_right_order mem [.d (.tuple (HL cs))] = .ok (w, mem) ∧ ((w = .d .none ∧ IsBar cs x) ∨ ∃ g r, w = .f (NL r) ∧ NoBar cs ∧ GS cs cs.length g ∧ ROut cs g r) := by
  have w : (m_right_order mem [.d (.tuple (HL cs))]).wp (fun q => ∃ w x, q = (w, mem) ∧ ((w = .d .none ∧ IsBar cs x) ∨ ∃ g r, w = .f (NL r) ∧ NoBar cs ∧ GS cs cs.length g ∧ ROut cs g r)) fun _ => False := by
    obtain ⟨x, e1, h1⟩ := raw_bar_ok mem cs hG
    unfold m_right_order b_right_order
    simp [-gIsN_mk, gIsN_d, hH, e1]
    rcases h1 with ⟨rfl, hN⟩ | hB
    · obtain ⟨g, eg, hS⟩ := groups_ok mem cs hG
      have gp := hS.gp hG
      have hnd := ndOk_kd g
      have hcl := hG.len
      have hgl := hS.len
      obtain ⟨n1, n2, n3⟩ := names_spec g
      have nd := namesD_kd g
      have k1 : (g.map fun p => p.1.n).length < SL.1 := SL_lt (by rw [List.length_map]; omega)
      have ss := sort_str (distS (g.map fun p => p.1.n))
      rw [show (distS (g.map fun p => p.1.n)).mergeSort leS = namesOf g from rfl] at ss
      simp at k1
      simp [-gIsN_mk, gIsN_d, eg, dG, hnd, nd, k1, ss]
      rw [Res.wp_bind]
      refine forGo_wp (ROI mem cs g) ?_ ?_ _ _ ?_
      · rintro d r s ⟨bs, rs, g1, g2, e, hx, rfl, hb, hl⟩
        cases rs with
        | nil => cases hx
        | cons n rs =>
          cases hx
          have hnm : n ∈ namesOf g := by rw [e]; simp
          obtain ⟨p0, hp0, ep0⟩ := (n2 n).mp hnm
          have hns : gd (.str n) = true := by rw [← ep0]; exact (gp p0 hp0).ns
          have hbl : bs.length ≤ 20 := by
            have := congrArg List.length e
            simp at this
            omega
          have gn := nC_gc hns
          have hk : keyD (.tuple [.str n, .none]) = some (kT (nC n)) := keyD_pT gn
          have hlk := lookD_kd (g := g) (c := nC n) gp gn
          have hnl := noneG_len hS n
          have hval : Val cs (noneG g n) := fun i hi => ((noneG_mem hG hS hns).mp hi).1
          have hget : (lookD (kdOf g) (kT (nC n)) = some (.list (NL (noneG g n)))) ∨ (noneG g n = [] ∧ lookD (kdOf g) (kT (nC n)) = none) := by
            rw [hlk]
            unfold noneG
            cases q : g.find? fun p' => kEq p'.1 (nC n) with
            | none => exact .inr ⟨rfl, rfl⟩
            | some p' => exact .inl rfl
          generalize hfo : bs.flatMap (·.2) = fo at hl
          have t1 := tail_eq (mem ++ [some (.l (NL fo))]) cs (noneG g n) hval (by omega)
          have kf1 : fo.length + (tailL cs (noneG g n)).length ≤ SL.1 := SL_le (by rw [tailL_len]; omega)
          obtain ⟨od, t2, ho, ho2⟩ := right_order_in (mem ++ [some (.l (NL (fo ++ tailL cs (noneG g n))))]) cs hG g hS hN.o3 n hns
          have kf2 : fo.length + (tailL cs (noneG g n)).length + (od.flatMap (tailL cs)).length ≤ SL.1 := SL_le (by rw [tailL_len]; omega)
          have t3 : lcGo [6] (gT1 6) (tAnd_ (tOf (eEq (eIx (eVar 6) (eC (.int 0))) (eVar 4))) (tOf (eNotN (eIx (eVar 6) (eC (.int 1))) (eC .none)))) (eVar 6) [some (.d (.tuple (HL cs))), some (.d (.dict (kdOf g))), some (.d (.list ((namesOf g).map PyData.str))), some (.c mem.length), some (.d (.str n)), g2, none] (g.map ((fun x : D × D => x.1) ∘ fun p : Cl × List Nat => (pT p.1, PyData.list (NL p.2)))) ⟨[some (.d (.tuple (HL cs))), some (.d (.dict (kdOf g))), some (.d (.list ((namesOf g).map PyData.str))), some (.c mem.length), some (.d (.str n)), g2, none], mem ++ [some (.l (NL (fo ++ tailL cs (noneG g n))))], mem.length⟩ [] = .ok ((g.filter fun p => decide (p.1.n = n) && !isN p.1.t).map fun p => pT p.1, ⟨[some (.d (.tuple (HL cs))), some (.d (.dict (kdOf g))), some (.d (.list ((namesOf g).map PyData.str))), some (.c mem.length), some (.d (.str n)), g2, none], mem ++ [some (.l (NL (fo ++ tailL cs (noneG g n))))], mem.length⟩) := by
            rw [lcGo_l (f := (fun x : D × D => x.1) ∘ fun p : Cl × List Nat => (pT p.1, PyData.list (NL p.2))) (fun p => if (decide (p.1.n = n) && !isN p.1.t) = true then some (pT p.1) else none) g ?_ (by omega), fm_yes (fun p : Cl × List Nat => decide (p.1.n = n) && !isN p.1.t) (fun p => pT p.1) g]
            intro p hp
            by_cases hnp : p.1.n = n
            · cases hN2 : isN p.1.t with
              | true => simp [-gIsN_mk, gIsN_d, Look, pT, hN2, hnp]
              | false => simp [-gIsN_mk, gIsN_d, Look, pT, hN2, hnp]
            · simp [-gIsN_mk, gIsN_d, Look, pT, hnp]
          have t4 : lcGo [6] (gT1 6) tYes_ (eBin gDGet (eVar 1) (eVar 6)) [some (.d (.tuple (HL cs))), some (.d (.dict (kdOf g))), some (.d (.list ((namesOf g).map PyData.str))), some (.c mem.length), some (.d (.str n)), some (.d (.list ((g.filter fun p => decide (p.1.n = n) && !isN p.1.t).map fun p => pT p.1))), none] ((g.filter fun p => decide (p.1.n = n) && !isN p.1.t).map fun p => pT p.1) ⟨[some (.d (.tuple (HL cs))), some (.d (.dict (kdOf g))), some (.d (.list ((namesOf g).map PyData.str))), some (.c mem.length), some (.d (.str n)), some (.d (.list ((g.filter fun p => decide (p.1.n = n) && !isN p.1.t).map fun p => pT p.1))), none], mem ++ [some (.l (NL (fo ++ tailL cs (noneG g n))))], mem.length⟩ [] = .ok (LG (grpsN g n), ⟨[some (.d (.tuple (HL cs))), some (.d (.dict (kdOf g))), some (.d (.list ((namesOf g).map PyData.str))), some (.c mem.length), some (.d (.str n)), some (.d (.list ((g.filter fun p => decide (p.1.n = n) && !isN p.1.t).map fun p => pT p.1))), none], mem ++ [some (.l (NL (fo ++ tailL cs (noneG g n))))], mem.length⟩) := by
            rw [lcGo_l (f := fun p : Cl × List Nat => pT p.1) (fun p => some (.list (NL p.2))) _ ?_ (by have := List.length_filter_le (fun p : Cl × List Nat => decide (p.1.n = n) && !isN p.1.t) g; omega)]
            · unfold grpsN
              simp [Function.comp_def]
            · intro p hp
              have hp := (List.mem_filter.mp hp).1
              have kp := keyD_pT (gp p hp)
              have lp : lookD (kdOf g) (kT p.1) = some (.list (NL p.2)) := by rw [lookD_kd gp (gp p hp), hS.find hG hp (gp p hp) (kEq_refl (gp p hp))]; rfl
              simp [Look, hnd, kp, lp]
          have fin : ROI mem cs g (rs.map PyData.str) ⟨[some (.d (.tuple (HL cs))), some (.d (.dict (kdOf g))), some (.d (.list ((namesOf g).map PyData.str))), some (.c mem.length), some (.d (.str n)), some (.d (.list ((g.filter fun p => decide (p.1.n = n) && !isN p.1.t).map fun p => pT p.1))), none], mem ++ [some (.l (NL (fo ++ tailL cs (noneG g n) ++ od.flatMap (tailL cs))))], mem.length⟩ := by
            refine ⟨bs ++ [(n, tailL cs (noneG g n) ++ od.flatMap (tailL cs))], rs, _, _, by simp [e], rfl, by rw [List.flatMap_append, hfo]; simp; exact ⟨rfl, rfl⟩, fun b hb' => ?_, ?_⟩
            · rcases List.mem_append.mp hb' with hb' | hb'
              · exact hb b hb'
              · rw [List.mem_singleton.mp hb']
                exact ⟨od, rfl, ho⟩
            · rw [List.flatMap_append, hfo]
              simp only [List.length_append, List.flatMap_cons, List.flatMap_nil, List.length_cons, List.length_nil, tailL_len]
              omega
          generalize hpo : od.flatMap (tailL cs) = po at t2 ho2 kf2 fin
          generalize htl : tailL cs (noneG g n) = tl at t1 kf1 t2 kf2 t3 t4 fin
          simp only [List.map_append] at t2 t3 t4 fin
          rcases hget with hgl | ⟨hz, hgl⟩
          · simp [hnd, hk, hgl, t1, kf1]
            rw [t3]
            simp
            rw [t4]
            simp [t2, kf2]
            rw [← List.append_assoc]
            exact fin
          · rw [hz] at t1
            simp only [List.map_nil] at t1
            simp [hnd, hk, hgl, t1, kf1]
            rw [t3]
            simp
            rw [t4]
            simp [t2, kf2]
            rw [← List.append_assoc]
            exact fin
      · rintro s ⟨bs, rs, g1, g2, e, hx, rfl, hb, hl⟩
        have : rs = [] := by simpa using hx.symm
        subst this
        generalize hfo : bs.flatMap (·.2) = fo
        simp
        exact ⟨.none, g, fo, rfl, hN, hS, bs, by simpa using e.symm, hb, hfo.symm⟩
      · exact ⟨[], namesOf g, none, none, rfl, rfl, by simp, fun b h => (by cases h), by simp⟩
    · have := bar_nn hB
      simp [-gIsN_mk, gIsN_d, this]
      exact ⟨x, hB⟩
  obtain ⟨⟨w0, m0⟩, e, w1, x, hq, h⟩ := Res.ok_of_wp w
  cases hq
  exact ⟨_, x, e, h⟩
end K49

set_option Elab.async false
set_option linter.all false
set_option maxRecDepth 100000
set_option maxHeartbeats 4000000
namespace K49
open PySem PySem.Spec PyProof.Rows L2 PD
/-- refused or let -/
def Judged (x : D) (r : Res (W × Mem)) (mem : Mem) : Prop := if isHist x = true then ∃ w, r = .ok (w, mem) else r = .exc "NoHistory"
theorem right_order_j (mem : Mem) (x : D) (hg : gd x = true) (hl : ∀ xs, x = .tuple xs → xs.length ≤ 20) : Judged x (m_right_order mem [.d x]) mem := by
  have hc := check_history_eq mem x hg hl
  unfold Judged
  cases h : isHist x with
  | true =>
    rw [h, if_pos rfl] at hc
    rw [if_pos rfl]
    obtain ⟨cs, rfl, hG, _⟩ := hist_calls h hg hl
    obtain ⟨w, _, e, _⟩ := right_order_c mem cs hG hc
    exact ⟨w, e⟩
  | false =>
    rw [h, if_neg Bool.false_ne_true] at hc
    rw [if_neg Bool.false_ne_true]
    unfold m_right_order b_right_order
    simp [hc]
theorem bar_j (mem : Mem) (x : D) (hg : gd x = true) (hl : ∀ xs, x = .tuple xs → xs.length ≤ 20) : Judged x (m_bar mem [.d x]) mem := by
  have hc := check_history_eq mem x hg hl
  unfold Judged
  cases h : isHist x with
  | true =>
    rw [h, if_pos rfl] at hc
    rw [if_pos rfl]
    obtain ⟨cs, rfl, hG, _⟩ := hist_calls h hg hl
    obtain ⟨y, e, _⟩ := raw_bar_ok mem cs hG
    refine ⟨.d y, ?_⟩
    unfold m_bar b_bar
    simp [hc, e]
  | false =>
    rw [h, if_neg Bool.false_ne_true] at hc
    rw [if_neg Bool.false_ne_true]
    unfold m_bar b_bar
    simp [hc]
theorem is_right_order_j (mem : Mem) (x : D) (hg : gd x = true) (hl : ∀ xs, x = .tuple xs → xs.length ≤ 20) : Judged x (m_is_right_order mem [.d x, .d .none]) mem := by
  have hc := check_history_eq mem x hg hl
  unfold Judged
  cases h : isHist x with
  | true =>
    rw [h, if_pos rfl] at hc
    rw [if_pos rfl]
    obtain ⟨cs, rfl, hG, _⟩ := hist_calls h hg hl
    refine ⟨.d (.bool false), ?_⟩
    unfold m_is_right_order b_is_right_order
    simp [hc]
  | false =>
    rw [h, if_neg Bool.false_ne_true] at hc
    rw [if_neg Bool.false_ne_true]
    unfold m_is_right_order b_is_right_order
    simp [hc]
theorem is_bar_j (mem : Mem) (x : D) (hg : gd x = true) (hl : ∀ xs, x = .tuple xs → xs.length ≤ 20) : Judged x (m_is_bar mem [.d x, .d (.tuple [])]) mem := by
  have hc := check_history_eq mem x hg hl
  unfold Judged
  cases h : isHist x with
  | true =>
    rw [h, if_pos rfl] at hc
    rw [if_pos rfl]
    obtain ⟨cs, rfl, hG, _⟩ := hist_calls h hg hl
    refine ⟨.d (.bool false), ?_⟩
    unfold m_is_bar b_is_bar
    simp [hc]
  | false =>
    rw [h, if_neg Bool.false_ne_true] at hc
    rw [if_neg Bool.false_ne_true]
    unfold m_is_bar b_is_bar
    simp [hc]
end K49

set_option Elab.async false
set_option linter.all false
set_option maxRecDepth 100000
set_option maxHeartbeats 4000000
set_option exponentiation.threshold 4000
namespace K49
open PySem PySem.Spec PyProof.Rows L2 PD
/-! ### draws -/
structure HS where
  cs : List Int
  i : Nat
  d : Int
  m : Int
  c : Int
def hatC (h : HS) : Option Cell := some (.l [.list (IL h.cs), .int (h.i : Nat), .int h.d, .int h.m, .int h.c])
structure Hat (k : Nat) (h : HS) : Prop where
  c0 : ∀ x ∈ h.cs, 0 ≤ x
  i0 : h.i ≤ h.cs.length
  cl : h.cs.length ≤ 63
  d0 : 0 ≤ h.d
  m0 : 0 ≤ h.m
  m1 : h.m < 2147483648
  n0 : 0 ≤ h.c
  n1 : h.c ≤ k
theorem Hat.mono {k j : Nat} {h : HS} (hh : Hat k h) (le : k ≤ j) : Hat j h := ⟨hh.c0, hh.i0, hh.cl, hh.d0, hh.m0, hh.m1, hh.n0, by have := hh.n1; omega⟩
@[simp] theorem ix5_0 : ixN 5 0 = some 0 := by unfold ixN; decide
@[simp] theorem ix5_1 : ixN 5 1 = some 1 := by unfold ixN; decide
@[simp] theorem ix5_2 : ixN 5 2 = some 2 := by unfold ixN; decide
@[simp] theorem ix5_3 : ixN 5 3 = some 3 := by unfold ixN; decide
@[simp] theorem ix5_4 : ixN 5 4 = some 4 := by unfold ixN; decide
theorem draw_ok (T : Option Cell) (mem : Mem) (h : HS) (k : Nat) (m : Int) (hh : Hat k h) (hm : 0 < m) (hm2 : m ≤ 1000) (hk : k ≤ 1000000) : (m_w_draw (T :: hatC h :: mem) [.c 1, .d (.int m)]).wp (fun q => ∃ d h', q = (.d (.int d), T :: hatC h' :: mem) ∧ 0 ≤ d ∧ d < m ∧ Hat (k + 1) h') fun _ => False := by
  unfold m_w_draw b_w_draw
  simp [hatC]
  generalize hF : sCons (sIf (tOf (eBin gGt (eIx (eVar 0) (eC (PyData.int 2))) (eC (PyData.int 0)))) _ _) _ = F
  have rest : ∀ (h1 : HS) (g3 : Option W), Hat k h1 → (fin (T :: hatC h :: mem) (F ⟨[some (.c 1), some (.d (.int m)), none, g3, none], T :: hatC h1 :: mem, mem.length + 1 + 1⟩)).wp (fun q => ∃ d h', q = (W.d (PyData.int d), T :: hatC h' :: mem) ∧ 0 ≤ d ∧ d < m ∧ Hat (k + 1) h') fun _ => False := by
    intro h1 g3 hh1
    rw [← hF]
    obtain ⟨c0, i0, cl, d0, m0, m1, n0, n1⟩ := hh1
    by_cases hd : 0 < h1.d
    · have cd : cDiv h1.d m = true := cDiv_pow 200 hm (by omega) (by decide)
      simp [hd, hm, cd, hatC]
      exact ⟨_, { h1 with d := h1.d / m }, ⟨rfl, rfl, rfl, rfl, rfl, rfl⟩, Int.emod_nonneg _ (by omega), Int.emod_lt_of_pos _ hm, ⟨c0, i0, cl, Int.ediv_nonneg d0 (by omega), m0, m1, n0, by show h1.c ≤ _; omega⟩⟩
    · have q1 : cMul 7919 (h1.c + 1) = true := mulA (by decide) (by omega)
      have q2 : cMul (h1.m + 7919 * (h1.c + 1)) 48271 = true := mulA (by omega) (by decide)
      generalize hA : (h1.m + 7919 * (h1.c + 1)) * 48271 % 2147483647 = A
      have a0 : 0 ≤ A ∧ A < 2147483647 := by rw [← hA]; exact ⟨Int.emod_nonneg _ (by decide), Int.emod_lt_of_pos _ (by decide)⟩
      have q3 : cDiv A 1009 = true := cDiv_pow 20 (by decide) (by decide) (by decide)
      have q4 : cMul A (A / 1009 + 69621) = true := mulA (by omega) (by omega)
      generalize hB : A * (A / 1009 + 69621) % 2147483647 = B
      have b0 : 0 ≤ B ∧ B < 2147483647 := by rw [← hB]; exact ⟨Int.emod_nonneg _ (by decide), Int.emod_lt_of_pos _ (by decide)⟩
      have q5 : cDiv B 2003 = true := cDiv_pow 20 (by decide) (by decide) (by decide)
      have q6 : cMul B (B / 2003 + 40692) = true := mulA (by omega) (by omega)
      generalize hC : B * (B / 2003 + 40692) % 2147483399 = C
      have q7 : cDiv C 16 = true := cDiv_pow 20 (by decide) (by decide) (by decide)
      simp [hatC, hd, q1, q2, hA, q3, q4, hB, q5, q6, hC, q7, hm]
      exact ⟨_, { h1 with c := h1.c + 1 }, ⟨rfl, rfl, rfl, rfl, rfl, rfl⟩, Int.emod_nonneg _ (by omega), Int.emod_lt_of_pos _ hm, ⟨c0, i0, cl, d0, m0, m1, by show 0 ≤ h1.c + 1; omega, by show h1.c + 1 ≤ _; omega⟩⟩
  obtain ⟨xs, ix, hd0, hm0, hc0⟩ := h
  dsimp only at *
  by_cases hd : hd0 = 0
  · subst hd
    by_cases hi : ix < xs.length
    · obtain ⟨c0, i0, cl, d0, m0, m1, n0, n1⟩ := hh
      dsimp only at c0 i0 cl d0 m0 m1 n0 n1
      have e1 : xs[ix]? = some xs[ix] := List.getElem?_eq_getElem hi
      have x0 : 0 ≤ xs[ix] := c0 _ (List.getElem_mem hi)
      have q1 : cMul hm0 69621 = true := mulA (by omega) (by decide)
      have q2 : cPow 10 18 = true := by decide
      have b0 : 0 ≤ (hm0 * 69621 + xs[ix] + 11) % 2147483629 ∧ (hm0 * 69621 + xs[ix] + 11) % 2147483629 < 2147483648 := ⟨Int.emod_nonneg _ (by decide), by have := Int.emod_lt_of_pos (hm0 * 69621 + xs[ix] + 11) (show (0 : Int) < 2147483629 by decide); omega⟩
      generalize hB : (hm0 * 69621 + xs[ix] + 11) % 2147483629 = B at b0
      by_cases hx : (1000000000000000000 : Int) ≤ xs[ix]
      · simp [hatC, hi, e1, q1, q2, hB, hx]
        exact rest ⟨xs, ((ix + 1 : Nat)), xs[ix], B, hc0⟩ _ ⟨c0, hi, cl, x0, b0.1, b0.2, n0, n1⟩
      · simp [hatC, hi, e1, q1, q2, hB, hx]
        exact rest ⟨xs, ix + 1, 0, B, hc0⟩ _ ⟨c0, hi, cl, Int.le_refl _, b0.1, b0.2, n0, n1⟩
    · simp [hatC, hi]
      exact rest _ _ hh
  · simp [hatC, hd]
    exact rest _ _ hh
end K49

set_option Elab.async false
set_option linter.all false
set_option maxRecDepth 100000
set_option maxHeartbeats 4000000
set_option exponentiation.threshold 4000
namespace K49
open PySem PySem.Spec PyProof.Rows L2 PD
theorem hand_eq (mem : Mem) (ns : List Int) (hl : ns.length ≤ 63) : ∃ h, Hat 0 h ∧ m_w_hand mem [.d (.list (IL ns))] = .ok (.f [.list (IL h.cs), .int (h.i : Nat), .int h.d, .int h.m, .int h.c], mem) := by
  refine ⟨⟨ns.map fun n => if n < 0 then -n else n, 0, 0, 1 + ns.length, 0⟩, ⟨fun x hx => ?_, Nat.zero_le _, by simpa using hl, Int.le_refl _, by show (0 : Int) ≤ 1 + _; omega, by show (1 : Int) + _ < _; omega, Int.le_refl _, Int.le_refl _⟩, ?_⟩
  · obtain ⟨n, _, rfl⟩ := List.mem_map.mp hx
    split <;> omega
  · unfold m_w_hand b_w_hand
    have c1 := cutD_to (xs := IL ns) (h := 63) (by decide)
    have c2 : (IL ns).take (63 : Int).toNat = IL ns := List.take_of_length_le (by simp; omega)
    rw [c2] at c1
    simp [c1]
    rw [lcGo_l (f := PyData.int) (fun n => some (.int (if n < 0 then -n else n))) ns ?_ (by omega)]
    · simp [Function.comp_def]
    · intro n _
      simp [Look]
@[simp] theorem app_take {α : Type} {l r : List α} : (l ++ r).take l.length = l := by simp
@[simp] theorem mid_take {α : Type} {l r : List α} {x : α} : (l ++ x :: r).take (l.length + (r.length + 1)) = l ++ x :: r := List.take_of_length_le (by simp)
theorem lay_IL : ∀ (a : List Int), PyData.canLayAll0 (IL a) = true ∧ PyData.depthAll (IL a) = 0
  | [] => by simp
  | x :: a => by
    have := lay_IL a
    simp [this.1, this.2]
theorem place_IL {gs : List Int} {x : Int} (h : x ∈ gs) : ∃ j, SeqAt.dataPlace (IL gs) (.int x) = some j ∧ gs[j]? = some x := by
  induction gs with
  | nil => cases h
  | cons y gs ih =>
    unfold SeqAt.dataPlace at ih ⊢
    rw [show IL (y :: gs) = PyData.int y :: IL gs from rfl, List.findIdx?_cons]
    rw [eqv_ii]
    by_cases hy : y = x
    · subst hy
      exact ⟨0, by simp, rfl⟩
    · rcases List.mem_cons.mp h with z | z
      · exact absurd z.symm hy
      · obtain ⟨j, h1, h2⟩ := ih z
        refine ⟨j + 1, ?_, h2⟩
        rw [h1]
        simp [hy]
def eL : Option Int → List Int
  | none => []
  | some i => [i]
theorem call_ok (T : Option Cell) (mem r : Mem) (h : HS) (k : Nat) (ms : List Int) (hh : Hat k h) (hk : k ≤ 100000) (hm : ms.length ≤ 40) (hne : ms ≠ []) :
    (m_w_call (T :: hatC h :: (mem ++ some (.l (IL ms)) :: r)) [.c 1, .c (mem.length + 1 + 1), .d .none]).wp (fun q => ∃ (b : Int) (e : Option Int) (h' : HS) (ms' : List Int), q = (.d (.tuple [.int b, dE e]), T :: hatC h' :: (mem ++ some (.l (IL ms')) :: r)) ∧ Hat (k + 3) h' ∧ (b :: eL e ++ ms').Perm ms ∧ (∀ i, e = some i → b < i)) fun _ => False := by
  unfold m_w_call b_w_call
  have hpos : 0 < ms.length := List.length_pos_iff.mpr hne
  simp
  refine Res.wp_then (draw_ok T _ h k ms.length hh (by omega) (by omega) (by omega)) (fun q hq => ?_) fun _ h => h
  obtain ⟨d, h1, rfl, d0, d1, hh1⟩ := hq
  obtain ⟨i, rfl⟩ := Int.eq_ofNat_of_zero_le d0
  have hi : i < ms.length := by omega
  have e0 : ms[i]? = some ms[i] := List.getElem?_eq_getElem hi
  have e1 : (IL ms)[i]? = some (.int ms[i]) := by simp [hi]
  have p1 := popAt_ok e1 (by omega)
  have pm := erase_perm e0
  have hl1 : (ms.eraseIdx i).length ≤ ms.length := List.length_eraseIdx_le _ _
  generalize ms[i] = b at e0 e1 p1 pm
  rw [erase_map] at p1
  generalize ms.eraseIdx i = m1 at p1 pm hl1
  simp [p1]
  rw [lcGoC_l (f := PyData.int) (l := m1) (fun x => if decide (b < x) = true then some (.int x) else none) (by simp) ?_ (by omega), fm_yes (fun x => decide (b < x)) PyData.int m1]
  · have hlat : ∀ x ∈ m1.filter (fun x => decide (b < x)), x ∈ m1 ∧ b < x := fun x hx => by
      have := List.mem_filter.mp hx
      exact ⟨this.1, of_decide_eq_true this.2⟩
    have hll : (m1.filter fun x => decide (b < x)).length ≤ m1.length := List.length_filter_le _ _
    generalize m1.filter (fun x => decide (b < x)) = l at hlat hll
    cases l with
    | nil =>
      simp
      exact ⟨b, none, h1, m1, ⟨⟨rfl, rfl⟩, rfl, rfl⟩, hh1.mono (by omega), by simpa [eL] using pm, fun i z => (by cases z)⟩
    | cons x l =>
      have y1 := lay_IL l
      simp [y1]
      refine Res.wp_then (draw_ok T _ h1 (k + 1) 8 hh1 (by decide) (by decide) (by omega)) (fun q hq => ?_) fun _ h => h
      obtain ⟨d, h2, rfl, d0, d1, hh2⟩ := hq
      by_cases hd : 0 < d
      · simp [hd]
        have hk4 : ∃ f : Int, (if (4 : Int) < (l.length : Int) + 1 then (4 : Int) else (l.length : Int) + 1) = f ∧ 0 < f ∧ f ≤ (l.length : Int) + 1 ∧ f ≤ 4 := ⟨_, rfl, by split <;> omega, by split <;> omega, by split <;> omega⟩
        obtain ⟨f, ef, f0, f1, f2⟩ := hk4
        rw [ef]
        refine Res.wp_then (draw_ok T _ h2 (k + 1 + 1) f hh2 f0 (by omega) (by omega)) (fun q hq => ?_) fun _ h => h
        obtain ⟨d2, h3, rfl, d20, d21, hh3⟩ := hq
        have hd2 : d2.toNat < (x :: l).length := by rw [List.length_cons]; omega
        have ea : atI (PyData.int x :: IL l) d2 = some (.int (x :: l)[d2.toNat]) := by
          rw [atI_pos d20]
          have : (IL (x :: l))[d2.toNat]? = some (.int (x :: l)[d2.toNat]) := by rw [List.getElem?_map, List.getElem?_eq_getElem hd2]; rfl
          exact this
        obtain ⟨g1, g2⟩ := hlat _ (List.getElem_mem hd2)
        generalize (x :: l)[d2.toNat] = y at ea g1 g2
        obtain ⟨j, j1, j2⟩ := place_IL g1
        have y2 := lay_IL m1
        have pj := erase_perm j2
        simp [ea, j1, y2, erase_map]
        exact ⟨b, some y, h3, m1.eraseIdx j, ⟨⟨rfl, rfl⟩, rfl, rfl⟩, hh3.mono (by omega), (List.Perm.cons b pj).trans pm, fun i z => (by cases z; exact g2)⟩
      · simp [hd]
        exact ⟨b, none, h2, m1, ⟨⟨rfl, rfl⟩, rfl, rfl⟩, hh2.mono (by omega), by simpa [eL] using pm, fun i z => (by cases z)⟩
  · intro x _
    by_cases hx : b < x <;> simp [Look, hx]
end K49

set_option Elab.async false
set_option linter.all false
set_option maxRecDepth 100000
set_option maxHeartbeats 4000000
set_option exponentiation.threshold 4000
namespace K49
open PySem PySem.Spec PyProof.Rows L2 PD
def wD (p : Str × Int) : D := .tuple [.str p.1, .int p.2]
theorem lay_wD : ∀ (l : List (Str × Int)), (∀ p ∈ l, PyData.strOk p.1 = true) → PyData.canLayAll0 (l.map wD) = true ∧ PyData.depthAll (l.map wD) ≤ 1
  | [], _ => by simp
  | x :: l, h => by
    have := lay_wD l fun p hp => h p (List.mem_cons_of_mem _ hp)
    have h1 := h x (List.mem_cons_self ..)
    have e1 : PyData.canLay0 (wD x) = true ∧ PyData.depth (wD x) = 1 := by simp [wD, h1]
    rw [List.map_cons, canLayAll0_cons, depthAll_cons, e1.1, e1.2, this.1]
    exact ⟨rfl, by omega⟩
structure ReadQ (T : Option Cell) (M : Mem) (k : Nat) (c : Cl) (ws : List (Str × Int)) (q : W × Mem) : Prop where
  ex : ∃ c' h', q = (.d (dC c'), T :: hatC h' :: M) ∧ Hat (k + 3) h' ∧ (c.w = true → c' = c) ∧ (c.w = false → c' = { c with t := c'.t } ∧ (c'.t = .none ∨ c'.t = .str "strange" ∨ ∃ p ∈ ws, p.1 = c.n ∧ c'.t = wD p))
theorem read_ok (T : Option Cell) (M : Mem) (n : Nat) (h : HS) (k : Nat) (c : Cl) (ws : List (Str × Int)) (hM : M[n]? = some (some (.l (ws.map wD)))) (hl : ws.length ≤ 40) (hw : ∀ p ∈ ws, PyData.strOk p.1 = true) (hh : Hat k h) (hk : k ≤ 100000) :
    (m_w_read (T :: hatC h :: M) [.c 1, .d (dC c), .c (n + 1 + 1)]).wp (ReadQ T M k c ws) fun _ => False := by
  unfold m_w_read b_w_read
  cases hcw : c.w with
  | true =>
    simp [dC, hcw]
    exact ⟨c, h, by simp [dC, hcw], hh.mono (by omega), fun _ => rfl, fun z => by rw [hcw] at z; cases z⟩
  | false =>
    have c1 := cutD_to (xs := [PyData.str (kS c.w), .str c.n, c.t, .int c.b, dE c.e]) (h := 2) (by decide)
    have c2 := cutD_from (xs := [PyData.str (kS c.w), .str c.n, c.t, .int c.b, dE c.e]) (h := 3) (by decide)
    simp [hcw] at c1 c2
    simp [dC, hcw, hM]
    generalize hF : sCons (sIf (tOf (eEq _ (eC (PyData.int 0)))) (sSet false 4 (eC (PyData.str "strange"))) sNil) _ = F
    rw [lcGoC_l (f := wD) (l := ws) (fun p => if decide (p.1 = c.n) = true then some (wD p) else none) (by simp [hM]) ?_ (by omega), fm_yes (fun p : Str × Int => decide (p.1 = c.n)) wD ws]
    · have hlat : ∀ x ∈ ws.filter (fun p => decide (p.1 = c.n)), x ∈ ws ∧ x.1 = c.n := fun x hx => by
        have := List.mem_filter.mp hx
        exact ⟨this.1, of_decide_eq_true this.2⟩
      have hll : (ws.filter fun p => decide (p.1 = c.n)).length ≤ ws.length := List.length_filter_le _ _
      generalize ws.filter (fun p => decide (p.1 = c.n)) = l at hlat hll
      have yl := lay_wD l fun p hp => hw p (hlat p hp).1
      have fin : ∀ (t : D) (h1 : HS) (k1 : Nat), Hat k1 h1 → k1 + 1 ≤ k + 3 → (t = .none ∨ ∃ p ∈ ws, p.1 = c.n ∧ t = wD p) → ∀ g3, (PD.fin (T :: hatC h :: M) (F ⟨[some (.c 1), some (.d (.tuple [.str (kS false), .str c.n, c.t, .int c.b, dE c.e])), some (.c (n + 1 + 1)), g3, some (.d t)], T :: hatC h1 :: M, M.length + 1 + 1⟩)).wp (ReadQ T M k c ws) fun _ => False := by
        intro t h1 k1 hh1 hk1 ht g3
        rw [← hF]
        simp
        refine Res.wp_then (draw_ok T _ h1 k1 20 hh1 (by decide) (by decide) (by omega)) (fun q hq => ?_) fun _ h => h
        obtain ⟨d, h2, rfl, d0, d1, hh2⟩ := hq
        by_cases hd : d = 0
        · simp [hd, c1, c2]
          exact ⟨{ c with t := .str "strange" }, h2, by simp [dC, hcw], hh2.mono (by omega), fun z => (by rw [hcw] at z; cases z), fun _ => ⟨rfl, .inr (.inl rfl)⟩⟩
        · simp [hd, c1, c2]
          refine ⟨{ c with t := t }, h2, by simp [dC, hcw], hh2.mono (by omega), fun z => (by rw [hcw] at z; cases z), fun _ => ⟨rfl, ?_⟩⟩
          rcases ht with ht | ht
          · exact .inl ht
          · exact .inr (.inr ht)
      cases l with
      | nil =>
        simp
        exact fin .none h k hh (by omega) (.inl rfl) _
      | cons x l =>
        have hx := hlat x (List.mem_cons_self ..)
        have e1 : PyData.canLay0 (wD x) = true ∧ PyData.depth (wD x) = 1 := by simp [wD, hw x hx.1]
        have y2 := lay_wD l fun p hp => hw p (hlat p (List.mem_cons_of_mem _ hp)).1
        have y3 : max (PyData.depth (wD x)) (PyData.depthAll (l.map wD)) ≤ 63 := by rw [e1.2]; omega
        simp [e1.1, y2.1, y3]
        refine Res.wp_then (draw_ok T _ h k 4 hh (by decide) (by decide) (by omega)) (fun q hq => ?_) fun _ h => h
        obtain ⟨d, h2, rfl, d0, d1, hh2⟩ := hq
        by_cases hd : 0 < d
        · rw [List.length_cons] at hll
          simp [hd]
          refine Res.wp_then (draw_ok T _ h2 (k + 1) (l.length + 1) hh2 (by omega) (by omega) (by omega)) (fun q hq => ?_) fun _ h => h
          obtain ⟨d2, h3, rfl, d20, d21, hh3⟩ := hq
          have hd2 : d2.toNat < (x :: l).length := by rw [List.length_cons]; omega
          have ea : atI (wD x :: l.map wD) d2 = some (wD (x :: l)[d2.toNat]) := by
            rw [atI_pos d20]
            have : ((x :: l).map wD)[d2.toNat]? = some (wD (x :: l)[d2.toNat]) := by rw [List.getElem?_map, List.getElem?_eq_getElem hd2]; rfl
            exact this
          have g1 := hlat _ (List.getElem_mem hd2)
          generalize (x :: l)[d2.toNat] = y at ea g1
          simp [ea]
          exact fin (wD y) h3 (k + 1 + 1) hh3 (by omega) (.inr ⟨y, g1.1, g1.2, rfl⟩) _
        · simp [hd]
          exact fin .none h2 (k + 1) hh2 (by omega) (.inl rfl) _
    · intro p hp
      by_cases hx : p.1 = c.n <;> simp [Look, wD, hx]
end K49

set_option Elab.async false
set_option linter.all false
set_option maxRecDepth 100000
set_option maxHeartbeats 4000000
set_option exponentiation.threshold 4000
namespace K49
open PySem PySem.Spec PyProof.Rows L2 PD
@[simp] theorem app_get2 {α : Type} {l r : List α} {x y z : α} : (l ++ x :: y :: z :: r)[l.length + 1 + 1]? = some z := by
  rw [List.getElem?_append_right (by omega), show l.length + 1 + 1 - l.length = 2 by omega]
  rfl
@[simp] theorem app_set2 {α : Type} {l r : List α} {x y z w : α} : (l ++ x :: y :: z :: r).set (l.length + 1 + 1) w = l ++ x :: y :: w :: r := by
  rw [List.set_append_right _ _ (by omega), show l.length + 1 + 1 - l.length = 2 by omega]
  rfl
theorem rng_cons {i n : Nat} (h : i < n) : (List.range' i (n - i)).map (fun (j : Nat) => PyData.int (j : Nat)) = PyData.int (i : Nat) :: (List.range' (i + 1) (n - (i + 1))).map (fun (j : Nat) => PyData.int (j : Nat)) := by
  rw [show n - i = (n - (i + 1)) + 1 by omega, List.range'_succ, List.map_cons]
def usedC (c : Cl) : List Int := c.b :: eL c.e
def AB (n : Str) : Prop := n = "a" ∨ n = "b"
/-- the calls as they are found first -/
structure Skel (cs : List Cl) (ws : List (Str × Int)) (ms : List Int) (j : Nat) : Prop where
  nm : ∀ c ∈ cs, AB c.n
  bd : ∀ x ∈ cs.flatMap usedC ++ ms, -100 ≤ x ∧ x ≤ 100
  nd : (cs.flatMap usedC ++ ms).Nodup
  be : ∀ c ∈ cs, ∀ i, c.e = some i → c.b < i
  wr : ∀ c ∈ cs, c.w = true → ∃ i : Int, 0 ≤ i ∧ i < j ∧ c.t = wD (c.n, i)
  rd : ∀ c ∈ cs, c.w = false → c.t = .none
  wp : (wris cs).Pairwise fun c d => c.t ≠ d.t
  ws : ∀ p ∈ ws, AB p.1 ∧ 0 ≤ p.2 ∧ p.2 < j
theorem Skel.add {cs : List Cl} {ws : List (Str × Int)} {ms ms' : List Int} {j : Nat} (h : Skel cs ws ms j) {n : Str} (hn : AB n) {b : Int} {e : Option Int} (hp : (b :: eL e ++ ms').Perm ms) (hbe : ∀ i, e = some i → b < i) :
    Skel (cs ++ [⟨true, n, wD (n, j), b, e⟩]) (ws ++ [(n, (j : Int))]) ms' (j + 1) ∧ Skel (cs ++ [⟨false, n, .none, b, e⟩]) ws ms' (j + 1) := by
  have hu : ∀ c : Cl, c.b = b → c.e = e → ((cs ++ [c]).flatMap usedC ++ ms').Perm (cs.flatMap usedC ++ ms) := fun c e1 e2 => by
    rw [List.flatMap_append, List.append_assoc]
    refine List.Perm.append_left _ ?_
    have : [c].flatMap usedC ++ ms' = b :: eL e ++ ms' := by simp [usedC, e1, e2]
    rw [this]
    exact hp
  have bd : ∀ c : Cl, c.b = b → c.e = e → ∀ x ∈ (cs ++ [c]).flatMap usedC ++ ms', -100 ≤ x ∧ x ≤ 100 := fun c e1 e2 x hx => h.bd x ((hu c e1 e2).mem_iff.mp hx)
  have nd : ∀ c : Cl, c.b = b → c.e = e → ((cs ++ [c]).flatMap usedC ++ ms').Nodup := fun c e1 e2 => (hu c e1 e2).nodup_iff.mpr h.nd
  have one : ∀ {P : Cl → Prop} {c : Cl}, (∀ x ∈ cs, P x) → P c → ∀ x ∈ cs ++ [c], P x := fun h1 h2 x hx => by
    rcases List.mem_append.mp hx with z | z
    · exact h1 x z
    · rw [List.mem_singleton.mp z]; exact h2
  have wold : ∀ x ∈ cs, x.w = true → ∃ i : Int, 0 ≤ i ∧ i < ((j + 1 : Nat) : Int) ∧ x.t = wD (x.n, i) := fun x hx hw => by
    obtain ⟨i, i0, i1, e1⟩ := h.wr x hx hw
    exact ⟨i, i0, by omega, e1⟩
  have wsold : ∀ p ∈ ws, AB p.1 ∧ 0 ≤ p.2 ∧ p.2 < ((j + 1 : Nat) : Int) := fun p hp => by
    obtain ⟨h1, h2, h3⟩ := h.ws p hp
    exact ⟨h1, h2, by omega⟩
  refine ⟨⟨one h.nm hn, bd _ rfl rfl, nd _ rfl rfl, one h.be hbe, one wold fun _ => ⟨j, by omega, by omega, rfl⟩, one h.rd fun z => (by cases z), ?_, fun p hp => ?_⟩, ⟨one h.nm hn, bd _ rfl rfl, nd _ rfl rfl, one h.be hbe, one wold fun z => (by cases z), one h.rd fun _ => rfl, ?_, wsold⟩⟩
  · have e1 : wris (cs ++ [⟨true, n, wD (n, j), b, e⟩]) = wris cs ++ [⟨true, n, wD (n, j), b, e⟩] := by simp [wris]
    rw [e1, List.pairwise_append]
    refine ⟨h.wp, List.pairwise_singleton _ _, fun c hc d hd => ?_⟩
    rw [List.mem_singleton.mp hd]
    obtain ⟨h1, h2⟩ := List.mem_filter.mp hc
    obtain ⟨i, i0, i1, e2⟩ := h.wr c h1 h2
    rw [e2]
    intro z
    simp [wD] at z
    omega
  · rcases List.mem_append.mp hp with z | z
    · exact wsold p z
    · rw [List.mem_singleton.mp z]
      exact ⟨hn, by show (0 : Int) ≤ (j : Int); omega, by show (j : Int) < _; omega⟩
  · have e1 : wris (cs ++ [⟨false, n, .none, b, e⟩]) = wris cs := by simp [wris]
    rw [e1]
    exact h.wp
structure HI (T : Option Cell) (mem : Mem) (k0 n' : Nat) (most : Int) (names : List Str) (xs : List D) (s : S) : Prop where
  ex : ∃ (j : Nat) (cs : List Cl) (ws : List (Str × Int)) (ms : List Int) (h : HS) (g5 g8 g9 g10 g11 : Option W), j ≤ n' + 1 ∧ xs = (List.range' j (n' + 1 - j)).map (fun (i : Nat) => PyData.int (i : Nat)) ∧
    s = ⟨[some (.c 1), some (.d (.int most)), some (.d (.list (names.map PyData.str))), some (.d (.int (1 + (n' : Int)))), some (.c (mem.length + 1 + 1)), g5, some (.c (mem.length + 1 + 1 + 1)), some (.c (mem.length + 1 + 1 + 1 + 1)), g8, g9, g10, g11, none], T :: hatC h :: (mem ++ [some (.l (IL ms)), some (.l (HL cs)), some (.l (ws.map wD))]), mem.length + 1 + 1⟩ ∧
    Hat (k0 + 5 * j) h ∧ cs.length = j ∧ ws.length ≤ j ∧ 2 * (n' + 1 - j) ≤ ms.length ∧ ms.length ≤ 40 ∧ Skel cs ws ms j
def sk (c : Cl) : Cl := { c with t := if c.w then c.t else .none }
/-- a drawn history -/
structure Drawn (most : Nat) (cs : List Cl) : Prop where
  l1 : 1 ≤ cs.length
  l2 : cs.length ≤ most
  ex : ∃ (ws : List (Str × Int)) (ms : List Int), Skel (cs.map sk) ws ms cs.length ∧ ∀ c ∈ cs, c.w = false → (c.t = .none ∨ c.t = .str "strange" ∨ ∃ p ∈ ws, p.1 = c.n ∧ c.t = wD p)
structure HistQ (T : Option Cell) (mem : Mem) (k most : Nat) (q : W × Mem) : Prop where
  ex : ∃ cs h', q = (.d (.tuple (HL cs)), T :: hatC h' :: mem) ∧ Hat (k + 100) h' ∧ Drawn most cs
/-- the reads' turn -/
structure RI (T : Option Cell) (M : Mem) (k0 : Nat) (cs0 : List Cl) (ws : List (Str × Int)) (xs : List D) (m : Mem) (b : Nat) (acc : List D) : Prop where
  ex : ∃ (ds rs cs' : List Cl) (h : HS), cs0 = ds ++ rs ∧ xs = HL rs ∧ m = T :: hatC h :: M ∧ b = M.length - 1 ∧ acc = HL cs' ∧ cs'.map sk = ds ∧ Hat (k0 + 3 * ds.length) h ∧ ∀ c ∈ cs', c.w = false → (c.t = .none ∨ c.t = .str "strange" ∨ ∃ p ∈ ws, p.1 = c.n ∧ c.t = wD p)
theorem nox_wp {α : Type} {r : Res α} {Q : α → Prop} (h : r.wp Q fun _ => False) : (nox r).wp Q fun _ => False := by
  cases r with
  | ok a => exact h
  | exc c => exact h.elim
  | bad => exact h.elim
theorem history_ok (T : Option Cell) (mem : Mem) (h : HS) (k : Nat) (most : Nat) (names : List Str) (hh : Hat k h) (hk : k ≤ 10000) (hm : 1 ≤ most ∧ most ≤ 6) (hn : 1 ≤ names.length ∧ names.length ≤ 2 ∧ ∀ n ∈ names, AB n) :
    (m_w_history (T :: hatC h :: mem) [.c 1, .d (.int (most : Nat)), .d (.list (names.map PyData.str))]).wp (HistQ T mem k most) fun _ => False := by
  unfold m_w_history b_w_history
  simp
  refine Res.wp_then (draw_ok T _ h k most hh (by omega) (by omega) (by omega)) (fun q hq => ?_) fun _ h => h
  obtain ⟨d, h1, rfl, d0, d1, hh1⟩ := hq
  obtain ⟨n', rfl⟩ := Int.eq_ofNat_of_zero_le d0
  have q1 : cMul 2 (1 + (n' : Int)) = true := mulA (by decide) (by omega)
  simp [q1]
  refine Res.wp_then (draw_ok T _ h1 (k + 1) 4 hh1 (by decide) (by decide) (by omega)) (fun q hq => ?_) fun _ h => h
  obtain ⟨d, h2, rfl, d0', d1', hh2⟩ := hq
  obtain ⟨x', rfl⟩ := Int.eq_ofNat_of_zero_le d0'
  have i1 : inB (2 * (1 + (n' : Int)) + (x' : Int)) = true := inB_small (by omega) (by omega)
  have eN : (2 * (1 + (n' : Int)) + (x' : Int)).toNat = 2 * (n' + 1) + x' := by omega
  simp [i1, eN]
  rw [lcGo_l (f := fun i : Nat => PyData.int (i : Nat)) (fun (i : Nat) => some (.int (3 * (i : Int) - 5))) _ ?_ (by simp; omega)]
  · have eM : (List.range (2 * (n' + 1) + x')).filterMap (fun (i : Nat) => some (PyData.int (3 * (i : Int) - 5))) = IL ((List.range (2 * (n' + 1) + x')).map fun (i : Nat) => 3 * (i : Int) - 5) := by
      simp [Function.comp_def]
    have sk0 : Skel [] [] ((List.range (2 * (n' + 1) + x')).map fun (i : Nat) => 3 * (i : Int) - 5) 0 := by
      refine ⟨fun c z => (by cases z), fun x hx => ?_, ?_, fun c z => (by cases z), fun c z => (by cases z), fun c z => (by cases z), List.Pairwise.nil, fun c z => (by cases z)⟩
      · simp only [List.flatMap_nil, List.nil_append] at hx
        obtain ⟨i, hi, rfl⟩ := List.mem_map.mp hx
        have := List.mem_range.mp hi
        omega
      · simp only [List.flatMap_nil, List.nil_append]
        unfold List.Nodup
        rw [List.pairwise_map]
        exact List.nodup_range.imp fun hne z => hne (by omega)
    have lm : ((List.range (2 * (n' + 1) + x')).map fun (i : Nat) => 3 * (i : Int) - 5).length = 2 * (n' + 1) + x' := by simp
    rw [eM]
    generalize (List.range (2 * (n' + 1) + x')).map (fun (i : Nat) => 3 * (i : Int) - 5) = ms0 at sk0 lm
    have i2 : inB (1 + (n' : Int)) = true := inB_small (by omega) (by omega)
    have eN2 : (1 + (n' : Int)).toNat = n' + 1 := by omega
    simp [i2, eN2]
    rw [Res.wp_bind]
    refine forGo_wp (HI T mem (k + 1 + 1) n' most names) ?_ ?_ _ _ ?_
    · rintro d r s ⟨j, cs, ws, ms, h, g5, g8, g9, g10, g11, hj, hx, rfl, hh, hcl, hwl, hml, hml2, hs⟩
      have hjn : j < n' + 1 := by
        rcases Nat.lt_or_ge j (n' + 1) with z | z
        · exact z
        · rw [show n' + 1 - j = 0 by omega] at hx
          cases hx
      rw [rng_cons hjn] at hx
      cases hx
      simp
      refine Res.wp_then (draw_ok T _ h _ names.length hh (by omega) (by omega) (by omega)) (fun q hq => ?_) fun _ h => h
      obtain ⟨d, h3, rfl, d0, d1, hh3⟩ := hq
      obtain ⟨y, ey, nm, rfl, hnm⟩ := pick (P := fun y => ∃ nm : Str, y = .str nm ∧ AB nm) (l := names.map PyData.str) d0 (by simpa using d1) (by
        intro x hx
        obtain ⟨z, hz, rfl⟩ := List.mem_map.mp hx
        exact ⟨z, rfl, hn.2.2 z hz⟩)
      simp [ey]
      refine Res.wp_then (call_ok T mem [some (.l (HL cs)), some (.l (ws.map wD))] h3 _ ms hh3 (by omega) hml2 (by intro z; rw [z] at hml; simp at hml; omega)) (fun q hq => ?_) fun _ h => h
      obtain ⟨b, e, h4, ms', rfl, hh4, hp, hbe⟩ := hq
      have hpl := hp.length_eq
      have hel : (eL e).length ≤ 1 := by cases e <;> simp [eL]
      simp at hpl
      obtain ⟨s1, s2⟩ := hs.add hnm hp hbe
      simp
      refine Res.wp_then (draw_ok T _ h4 _ 2 hh4 (by decide) (by decide) (by omega)) (fun q hq => ?_) fun _ h => h
      obtain ⟨d2, h5, rfl, d20, d21, hh5⟩ := hq
      have k1 : ws.length < SL.1 := SL_lt (by omega)
      have k2 : cs.length < SL.1 := SL_lt (by omega)
      by_cases hd : d2 = 0
      · simp [hd, k1, k2]
        refine ⟨j + 1, cs ++ [⟨true, nm, wD (nm, j), b, e⟩], ws ++ [(nm, (j : Int))], ms', h5, _, _, _, _, _, by omega, by rw [show n' + 1 - (j + 1) = n' - j by omega], by simp [dC, kS, wD]; exact ⟨rfl, rfl, rfl, rfl, rfl⟩, hh5.mono (by omega), by simp [hcl], by simp; omega, by omega, by omega, s1⟩
      · simp [hd, k1, k2]
        refine ⟨j + 1, cs ++ [⟨false, nm, .none, b, e⟩], ws, ms', h5, _, _, _, _, _, by omega, by rw [show n' + 1 - (j + 1) = n' - j by omega], by simp [dC, kS]; exact ⟨rfl, rfl, rfl, rfl, rfl⟩, hh5.mono (by omega), by simp [hcl], by omega, by omega, by omega, s2⟩
    · rintro s ⟨j, cs, ws, ms, h, g5, g8, g9, g10, g11, hj, hx, rfl, hh, hcl, hwl, hml, hml2, hs⟩
      have ej : j = n' + 1 := by
        have := congrArg List.length hx
        simp at this
        omega
      have f1 : ¬ (1 = mem.length + 1 + 1 + 1) := by omega
      have f2 : ¬ (mem.length + 1 + 1 = mem.length + 1 + 1 + 1) := by omega
      have f3 : ¬ (mem.length + 1 + 1 + 1 + 1 = mem.length + 1 + 1 + 1) := by omega
      simp [f1, f2, f3]
      rw [Res.wp_bind]
      have hM : (mem ++ [some (Cell.l (IL ms)), none, some (Cell.l (ws.map wD))])[mem.length + 1 + 1]? = some (some (Cell.l (ws.map wD))) := app_get2
      have hML : (mem ++ [some (Cell.l (IL ms)), none, some (Cell.l (ws.map wD))]).length = mem.length + 3 := by simp
      have hMT : (mem ++ [some (Cell.l (IL ms)), none, some (Cell.l (ws.map wD))]).take mem.length = mem := by simp
      generalize mem ++ [some (Cell.l (IL ms)), none, some (Cell.l (ws.map wD))] = M at hM hML hMT
      have hwo : ∀ p ∈ ws, PyData.strOk p.1 = true := fun p hp => by
        rcases (hs.ws p hp).1 with z | z <;> rw [z] <;> decide +kernel
      refine lcGo_wp (RI T M (k + 1 + 1 + 5 * j) cs ws) ?_ ?_ _ _ _ rfl ?_
      · rintro d r m b acc ⟨ds, rs, cs', h', e, hx, rfl, rfl, rfl, hsk, hh', hg⟩
        cases rs with
        | nil => cases hx
        | cons c rs =>
          cases hx
          have hdl : ds.length ≤ 6 := by
            have := congrArg List.length e
            simp at this
            omega
          have hcs : cs'.length = ds.length := by rw [← hsk, List.length_map]
          simp
          refine nox_wp (Res.wp_then (read_ok T M (mem.length + 1 + 1) h' _ c ws hM (by omega) hwo hh' (by omega)) (fun q hq => ?_) fun _ h => h)
          obtain ⟨c', h'', rfl, hh'', r1, r2⟩ := hq
          simp
          refine ⟨_, _, ⟨rfl, rfl⟩, sl_lt (by omega), ds ++ [c], rs, cs' ++ [c'], h'', by simp [e], rfl, rfl, rfl, by simp, ?_, ?_, ?_⟩
          · rw [List.map_append, hsk]
            congr 1
            simp only [List.map_cons, List.map_nil, List.cons.injEq, and_true]
            cases hw : c.w with
            | true =>
              rw [r1 hw]
              unfold sk
              rw [hw]
              simp
              rw [← hw]
            | false =>
              have ht := hs.rd c (by rw [e]; simp) hw
              rw [(r2 hw).1]
              unfold sk
              simp [hw]
              rw [← ht, ← hw]
          · exact hh''.mono (by simp; omega)
          · intro x hx
            rcases List.mem_append.mp hx with z | z
            · exact hg x z
            · rw [List.mem_singleton.mp z]
              intro hw
              cases hw2 : c.w with
              | true => rw [r1 hw2, hw2] at hw; cases hw
              | false =>
                have h2 := (r2 hw2)
                have hn : c'.n = c.n := by rw [h2.1]
                rw [hn]
                exact h2.2
      · rintro m b acc ⟨ds, rs, cs', h', e, hx, rfl, rfl, rfl, hsk, hh', hg⟩
        have : rs = [] := by simpa using hx.symm
        subst this
        have : cs = ds := by simpa using e
        subst this
        have hcs : cs'.length = cs.length := by rw [← hsk, List.length_map]
        simp [hMT]
        refine ⟨cs', h', rfl, hh'.mono (by omega), by omega, by omega, ws, ms, ?_, hg⟩
        rw [hsk, hcs, hcl]
        exact hs
      · exact ⟨[], cs, [], h, rfl, rfl, rfl, by show mem.length + 1 + 1 = _; omega, rfl, rfl, hh, fun c z => (by cases z)⟩
    · refine ⟨0, [], [], ms0, h2, none, none, none, none, none, by omega, by rw [List.range_eq_range']; rfl, by simp, hh2, rfl, by simp, by omega, by omega, sk0⟩
  · intro i hi
    have := List.mem_range.mp hi
    have q2 : cMul 3 (i : Int) = true := mulA (by decide) (by omega)
    simp [Look, q2]
end K49

set_option Elab.async false
set_option linter.all false
set_option maxRecDepth 100000
set_option maxHeartbeats 4000000
set_option exponentiation.threshold 4000
namespace K49
open PySem PySem.Spec PyProof.Rows L2 PD
/-- a small thing -/
structure Sm (x : D) : Prop where
  g : gd x = true
  l : ∀ xs, x = .tuple xs → xs.length ≤ 20
theorem deep_ok (T : Option Cell) (mem : Mem) (h : HS) (k : Nat) (hh : Hat k h) (hk : k ≤ 10000) : (m_w_deep (T :: hatC h :: mem) [.c 1]).wp (fun q => ∃ x h', q = (.d x, T :: hatC h' :: mem) ∧ Hat (k + 30) h' ∧ Sm x) fun _ => False := by
  unfold m_w_deep b_w_deep
  simp
  refine Res.wp_then (draw_ok T _ h k 3 hh (by decide) (by decide) (by omega)) (fun q hq => ?_) fun _ h => h
  obtain ⟨d, h1, rfl, d0, d1, hh1⟩ := hq
  obtain ⟨y, ey, hy⟩ := pick (P := Sm) (l := [PyData.none, .tuple [], .int 0]) d0 d1 (by
    simp only [List.forall_mem_cons]
    exact ⟨⟨by decide, fun xs z => (by cases z)⟩, ⟨by decide, fun xs z => (by cases z; simp)⟩, ⟨by decide, fun xs z => (by cases z)⟩, fun _ h => by cases h⟩)
  simp [ey]
  refine Res.wp_then (draw_ok T _ h1 (k + 1) 8 hh1 (by decide) (by decide) (by omega)) (fun q hq => ?_) fun _ h => h
  obtain ⟨d, h2, rfl, d0, d1, hh2⟩ := hq
  have i1 : inB (14 + d) = true := inB_small (by omega) (by omega)
  simp [i1]
  rw [Res.wp_bind]
  refine forGo_wp (fun xs s => ∃ (x : D) (h' : HS) (g : Option W), s = ⟨[some (.c 1), some (.d x), g], T :: hatC h' :: mem, mem.length + 1 + 1⟩ ∧ Sm x ∧ xs.length ≤ 22 ∧ Hat (k + 2 + (22 - xs.length)) h') ?_ ?_ _ _ ?_
  · rintro d r s ⟨x, h', g, rfl, hx, hl, hh'⟩
    rw [List.length_cons] at hl hh'
    simp
    refine Res.wp_then (draw_ok T _ h' _ 3 hh' (by decide) (by decide) (by omega)) (fun q hq => ?_) fun _ h => h
    obtain ⟨d, h3, rfl, d0, d1, hh3⟩ := hq
    obtain ⟨y, ey, hy⟩ := pick (P := Sm) (l := [PyData.list [x], .tuple [x], dicS]) d0 d1 (by
      simp only [List.forall_mem_cons]
      exact ⟨⟨by simp [gd, gdAll, hx.g], fun xs z => (by cases z)⟩, ⟨by simp [gd, gdAll, hx.g], fun xs z => (by cases z; simp)⟩, ⟨by simp [gd, dicS], fun xs z => (by cases z)⟩, fun _ h => by cases h⟩)
    simp [ey]
    exact ⟨y, h3, ⟨rfl, rfl⟩, hy, by omega, hh3.mono (by omega)⟩
  · rintro s ⟨x, h', g, rfl, hx, hl, hh'⟩
    simp
    exact ⟨x, h', ⟨rfl, rfl⟩, hh'.mono (by simp at hl ⊢), hx⟩
  · refine ⟨y, h2, none, rfl, hy, by simp; omega, hh2.mono (by omega)⟩
theorem gd_t {l : List D} (h : ∀ x ∈ l, gd x = true) (hl : l.length ≤ 1000) : gd (.tuple l) = true := by
  rw [gd, Bool.and_eq_true]
  exact ⟨decide_eq_true hl, gdAll_iff.mpr h⟩
theorem gd_l {l : List D} (h : ∀ x ∈ l, gd x = true) (hl : l.length ≤ 1000) : gd (.list l) = true := by
  rw [gd, Bool.and_eq_true]
  exact ⟨decide_eq_true hl, gdAll_iff.mpr h⟩
theorem sm_t {l : List D} (h : ∀ x ∈ l, gd x = true) (hl : l.length ≤ 20) : Sm (.tuple l) := ⟨gd_t h (by omega), fun xs z => (by cases z; exact hl)⟩
theorem all_mid {l r : List D} {x : D} (h1 : ∀ x ∈ l, gd x = true) (h2 : gd x = true) (h3 : ∀ x ∈ r, gd x = true) : ∀ y ∈ l ++ x :: r, gd y = true := fun y hy => by
  rcases List.mem_append.mp hy with z | z
  · exact h1 y z
  · rcases List.mem_cons.mp z with rfl | z
    · exact h2
    · exact h3 y z
/-- a call as data -/
structure CallD (x : D) : Prop where
  ex : ∃ a nm t b e, x = .tuple [a, .str nm, t, b, e] ∧ gd a = true ∧ AB nm ∧ gd t = true ∧ gd b = true ∧ gd e = true
theorem ab_gd {n : Str} (h : AB n) : gd (.str n) = true := by
  rcases h with z | z <;> rw [z] <;> decide +kernel
theorem abz_gd {n : Str} (h : AB n) : gd (.str (n ++ "z")) = true ∧ n.length + ("z" : Str).length ≤ 16777216 := by
  rcases h with z | z <;> rw [z] <;> decide +kernel
theorem CallD.gd {x : D} (h : CallD x) : gd x = true := by
  obtain ⟨a, nm, t, b, e, rfl, h1, h2, h3, h4, h5⟩ := h
  have := ab_gd h2
  simp [K49.gd, gdAll] at this ⊢
  exact ⟨h1, this, h3, h4, h5⟩
theorem bent_ok (T : Option Cell) (mem : Mem) (h : HS) (k : Nat) (xs : List D) (hh : Hat k h) (hk : k ≤ 9000) (hl : 1 ≤ xs.length ∧ xs.length ≤ 8) (hx : ∀ x ∈ xs, CallD x) :
    (m_w_bent (T :: hatC h :: mem) [.c 1, .d (.tuple xs)]).wp (fun q => ∃ x h', q = (.d x, T :: hatC h' :: mem) ∧ Hat (k + 60) h' ∧ Sm x) fun _ => False := by
  unfold m_w_bent b_w_bent
  simp
  refine Res.wp_then (draw_ok T _ h k xs.length hh (by omega) (by omega) (by omega)) (fun q hq => ?_) fun _ h => h
  obtain ⟨d, h1, rfl, d0, d1, hh1⟩ := hq
  obtain ⟨i, rfl⟩ := Int.eq_ofNat_of_zero_le d0
  have hi : i < xs.length := by omega
  have e1 : xs[i]? = some xs[i] := List.getElem?_eq_getElem hi
  obtain ⟨a, nm, t, b, e, ec, g1, g2, g3, g4, g5⟩ := hx _ (List.getElem_mem hi)
  have e0 : xs[0]? = some xs[0] := List.getElem?_eq_getElem (by omega)
  obtain ⟨a', nm', t', b', e', ec', g1', g2', g3', g4', g5'⟩ := hx _ (List.getElem_mem (show 0 < xs.length by omega))
  rw [ec] at e1
  rw [ec'] at e0
  simp [e1]
  refine Res.wp_then (draw_ok T _ h1 _ 5 hh1 (by omega) (by omega) (by omega)) (fun q hq => ?_) fun _ h => h
  obtain ⟨p, h2, rfl, p0, p1, hh2⟩ := hq
  obtain ⟨p, rfl⟩ := Int.eq_ofNat_of_zero_le p0
  simp
  refine Res.wp_then (deep_ok T mem h2 _ hh2 (by omega)) (fun q hq => ?_) fun _ h => h
  obtain ⟨dp, h3, rfl, hh3, hdp⟩ := hq
  simp [e0]
  refine Res.wp_then (draw_ok T _ h3 _ 15 hh3 (by decide) (by decide) (by omega)) (fun q hq => ?_) fun _ h => h
  obtain ⟨f, h4, rfl, f0, f1, hh4⟩ := hq
  obtain ⟨y, ey, hy⟩ := pick (P := fun y => gd y = true) (l := [PyData.none, .bool true, .int 5, .str "read", .str "write", .str "", .tuple [.tuple [.tuple [.tuple [.tuple [.int 1]]]]], .tuple [.tuple [.tuple [.tuple [.tuple [.tuple []]]]]], .list [.int 1], dicS, dp, b', e', .int (-7), .tuple [.bool true]]) f0 f1 (by
    simp only [List.forall_mem_cons]
    exact ⟨rfl, rfl, rfl, by decide +kernel, by decide +kernel, by decide +kernel, by decide +kernel, by decide +kernel, by decide +kernel, rfl, hdp.g, g4', g5', by decide +kernel, by decide +kernel, fun _ h => by cases h⟩)
  have gcall : gd (.tuple [a, .str nm, t, b, e]) = true := CallD.gd ⟨_, _, _, _, _, rfl, g1, g2, g3, g4, g5⟩
  have gxs : ∀ x ∈ xs, gd x = true := fun x hx' => (hx x hx').gd
  have g5all : ∀ x ∈ [a, PyData.str nm, t, b, e], gd x = true := by
    simp [gd] at gcall
    exact gdAll_iff.mp gcall
  have c1 : PD.cutD [a, PyData.str nm, t, b, e] none (some (p : Int)) = [a, PyData.str nm, t, b, e].take p := cutD_to (by omega)
  have c2 : PD.cutD [a, PyData.str nm, t, b, e] (some ((p : Int) + 1)) none = [a, PyData.str nm, t, b, e].drop (p + 1) := cutD_from (by omega)
  have c3 : PD.cutD xs none (some (i : Int)) = xs.take i := cutD_to (by omega)
  have c4 : PD.cutD xs (some ((i : Int) + 1)) none = xs.drop (i + 1) := cutD_from (by omega)
  have c5 : PD.cutD [a, PyData.str nm, t, b, e] none (some 4) = [a, PyData.str nm, t, b] := cutD_to (by decide)
  have c6 : PD.cutD [a, PyData.str nm, t, b, e] none (some 1) = [a] := cutD_to (by decide)
  have c7 : PD.cutD [a, PyData.str nm, t, b, e] (some 2) none = [t, b, e] := cutD_from (by decide)
  have a1 : ∀ x ∈ [a, PyData.str nm, t, b, e].take p, gd x = true := fun x hx' => g5all x (List.mem_of_mem_take hx')
  have a2 : ∀ x ∈ [a, PyData.str nm, t, b, e].drop (p + 1), gd x = true := fun x hx' => g5all x (List.mem_of_mem_drop hx')
  have a3 : ∀ x ∈ xs.take i, gd x = true := fun x hx' => gxs x (List.mem_of_mem_take hx')
  have a4 : ∀ x ∈ xs.drop (i + 1), gd x = true := fun x hx' => gxs x (List.mem_of_mem_drop hx')
  have b1 : ([a, PyData.str nm, t, b, e].take p).length ≤ 5 := List.length_take_le' _ _
  have b2 : ([a, PyData.str nm, t, b, e].drop (p + 1)).length ≤ 5 := by rw [List.length_drop]; simp; omega
  have b3 : (xs.take i).length ≤ 8 := by rw [List.length_take]; omega
  have b4 : (xs.drop (i + 1)).length ≤ 8 := by rw [List.length_drop]; omega
  generalize [a, PyData.str nm, t, b, e].take p = X1 at c1 a1 b1
  generalize [a, PyData.str nm, t, b, e].drop (p + 1) = X2 at c2 a2 b2
  generalize xs.take i = X3 at c3 a3 b3
  generalize xs.drop (i + 1) = X4 at c4 a4 b4
  have k1 : X1.length + 1 ≤ SL.1 := SL_le (by omega)
  have k2 : X1.length + 1 + X2.length ≤ SL.1 := SL_le (by omega)
  have k3 : X3.length + 1 ≤ SL.1 := SL_le (by omega)
  have k4 : X3.length + 1 + X4.length ≤ SL.1 := SL_le (by omega)
  have k5 : xs.length + 1 ≤ SL.1 := SL_le (by omega)
  obtain ⟨z1, z2⟩ := abz_gd g2
  have k6 : nm.length + ("z" : Str).length ≤ SL.1 := SL_le z2
  simp [ey, c1, c2, c3, c4, c5, c6, c7, k1, k2, k3, k4, k5, k6]
  refine Res.wp_then (draw_ok T _ h4 _ 16 hh4 (by decide) (by decide) (by omega)) (fun q hq => ?_) fun _ h => h
  obtain ⟨f', h5, rfl, f0', f1', hh5⟩ := hq
  have s1 : Sm (.tuple (X3 ++ .tuple (X1 ++ y :: X2) :: X4)) := sm_t (all_mid a3 (gd_t (all_mid a1 hy a2) (by simp; omega)) a4) (by simp; omega)
  have s2 : Sm (.tuple xs) := sm_t gxs (by omega)
  have s3 : Sm (.list xs) := ⟨gd_l gxs (by omega), fun xs z => (by cases z)⟩
  have s4 : Sm (.tuple (xs ++ [.tuple [a, .str nm, t, b, e]])) := sm_t (all_mid gxs gcall fun x z => (by cases z)) (by simp; omega)
  have s5 : Sm (.tuple [a, .str nm, t, b, e]) := ⟨gcall, fun xs z => (by cases z; simp)⟩
  have s6 : Sm (.tuple (X3 ++ .list [a, .str nm, t, b, e] :: X4)) := sm_t (all_mid a3 (gd_l g5all (by simp)) a4) (by simp; omega)
  have s7 : Sm (.tuple (X3 ++ .tuple [a, .str nm, t, b] :: X4)) := sm_t (all_mid a3 (gd_t (fun x hx' => g5all x (by simp at hx' ⊢; rcases hx' with z | z | z | z <;> simp [z])) (by simp)) a4) (by simp; omega)
  have s8 : Sm (.tuple (xs ++ [.tuple [a, .str (nm ++ "z"), t, b, e]])) := sm_t (all_mid gxs (gd_t (by
    simp only [List.forall_mem_cons]
    exact ⟨g1, z1, g3, g4, g5, fun _ h => by cases h⟩) (by simp)) fun x z => (by cases z)) (by simp; omega)
  obtain ⟨w, ew, hw⟩ := pick (P := Sm) (l := [PyData.tuple (X3 ++ .tuple (X1 ++ y :: X2) :: X4), .tuple (X3 ++ .tuple (X1 ++ y :: X2) :: X4), .tuple (X3 ++ .tuple (X1 ++ y :: X2) :: X4), .tuple (X3 ++ .tuple (X1 ++ y :: X2) :: X4), .tuple xs, .list xs, .tuple (xs ++ [.tuple [a, .str nm, t, b, e]]), .none, .str "history", dp, .tuple [], .tuple [a, .str nm, t, b, e], dicS, .tuple (X3 ++ .list [a, .str nm, t, b, e] :: X4), .tuple (X3 ++ .tuple [a, .str nm, t, b] :: X4), .tuple (xs ++ [.tuple [a, .str (nm ++ "z"), t, b, e]])]) f0' f1' (by
    simp only [List.forall_mem_cons]
    exact ⟨s1, s1, s1, s1, s2, s3, s4, ⟨rfl, fun xs z => (by cases z)⟩, ⟨by decide +kernel, fun xs z => (by cases z)⟩, hdp, ⟨by decide, fun xs z => (by cases z; simp)⟩, s5, ⟨rfl, fun xs z => (by cases z)⟩, s6, s7, s8, fun _ h => by cases h⟩)
  simp [ew]
  exact ⟨w, h5, ⟨rfl, rfl⟩, hh5.mono (by omega), hw⟩
end K49

set_option Elab.async false
set_option linter.all false
set_option maxRecDepth 100000
set_option maxHeartbeats 4000000
set_option exponentiation.threshold 4000
namespace K49
open PySem PySem.Spec PyProof.Rows L2 PD
@[simp] theorem eWord_mk {ti : Nat} {P : Addr} {q : Str} {fb : EM} {e : List (Option W)} {m : List (Option Cell)} {b : Nat} : eWord ti P q fb ⟨e, m, b⟩ = match m[ti]? with
  | some (some (.t P' q')) => if P' = P ∧ q' = q then (match fb ⟨e, forget m, b⟩ with
    | .ok _ => .ok (.d (.str "let"), ⟨e, m, b⟩)
    | .exc c => if c = "NoHistory" then .ok (.d (.str "history"), ⟨e, m, b⟩) else .bad
    | .bad => .bad) else .bad
  | _ => .bad := id rfl
theorem drawn_call {most : Nat} {cs : List Cl} (h : Drawn most cs) (hm : most ≤ 10 := by decide) : ∀ x ∈ HL cs, CallD x := by
  obtain ⟨ws, ms, hs, hr⟩ := h.ex
  intro x hx
  obtain ⟨c, hc, rfl⟩ := List.mem_map.mp hx
  have hsk : sk c ∈ cs.map sk := List.mem_map.mpr ⟨c, hc, rfl⟩
  have nm : AB c.n := (by have := hs.nm _ hsk; exact this)
  have bd : ∀ y ∈ usedC c, -100 ≤ y ∧ y ≤ 100 := fun y hy => hs.bd y (List.mem_append_left _ (List.mem_flatMap.mpr ⟨sk c, hsk, hy⟩))
  have b1 := bd c.b (by simp [usedC])
  have e1 : gd (dE c.e) = true := by
    cases he : c.e with
    | none => rfl
    | some i =>
      have := bd i (by simp [usedC, he, eL])
      simp [gd]
      omega
  have wd : ∀ (n : Str) (i : Int), AB n → 0 ≤ i → i < 1000 → gd (wD (n, i)) = true := fun n i hn h0 h1 => by
    have := ab_gd hn
    simp [wD, gd, gdAll] at this ⊢
    exact ⟨this, by omega, by omega⟩
  have l2 := h.l2
  have t1x : gd c.t = true := by
    cases hw : c.w with
    | true =>
      obtain ⟨i, i0, i1, e⟩ := hs.wr _ hsk hw
      have : c.t = wD (c.n, i) := by
        have e' : (if c.w = true then c.t else PyData.none) = wD (c.n, i) := e
        rwa [hw, if_pos rfl] at e'
      rw [this]
      exact wd _ _ nm i0 (by omega)
    | false =>
      rcases hr c hc hw with z | z | ⟨p, hp, _, z⟩
      · rw [z]; rfl
      · rw [z]; decide +kernel
      · rw [z]
        obtain ⟨p1, p2, p3⟩ := hs.ws p hp
        exact wd _ _ p1 p2 (by omega)
  exact ⟨_, _, _, _, _, rfl, by cases c.w <;> decide +kernel, nm, t1x, by simp [gd]; omega, e1⟩
theorem law_ok (Lp : Addr) (ns : List Int) (hl : ns.length ≤ 63) : (m_law Lp [some (.t Lp "law.<locals>.<lambda>")] [.d (.list (IL ns))]).wp (fun q => q.1 = .d (.bool true)) fun _ => False := by
  unfold m_law b_law
  obtain ⟨h, hh, eh⟩ := hand_eq [some (.t Lp "law.<locals>.<lambda>")] ns hl
  generalize hT : some (Cell.t Lp "law.<locals>.<lambda>") = T at eh
  have i6 : inB 6 = true := inB_small (by decide) (by decide)
  simp [eh, i6]
  rw [Res.wp_bind]
  refine forGo_wp (fun xs s => ∃ (h : HS) (r : Mem) (g2 g3 g4 g5 g6 g7 : Option W), s = ⟨[some (.d (.list (IL ns))), some (.c 1), g2, g3, g4, g5, g6, g7], T :: hatC h :: r, 1⟩ ∧ xs.length ≤ 6 ∧ Hat (200 * (6 - xs.length)) h) ?_ ?_ _ _ ?_
  · rintro d r s ⟨h, r', g2, g3, g4, g5, g6, g7, rfl, hl, hh⟩
    rw [List.length_cons] at hl hh
    simp
    refine Res.wp_then (draw_ok T _ h _ 2 hh (by decide) (by decide) (by omega)) (fun q hq => ?_) fun _ h => h
    obtain ⟨d, h1, rfl, d0, d1, hh1⟩ := hq
    obtain ⟨y, ey, nm, rfl, hn⟩ := pick (P := fun y => ∃ nm : List Str, y = .list (nm.map PyData.str) ∧ 1 ≤ nm.length ∧ nm.length ≤ 2 ∧ ∀ n ∈ nm, AB n) (l := [PyData.list [.str "a"], .list [.str "a", .str "b"]]) d0 d1 (by
      simp only [List.forall_mem_cons]
      exact ⟨⟨["a"], rfl, by decide, by decide, fun n hn => by rw [List.mem_singleton.mp hn]; exact .inl rfl⟩, ⟨["a", "b"], rfl, by decide, by decide, fun n hn => by
        rcases List.mem_cons.mp hn with z | z
        · exact .inl z
        · exact .inr (List.mem_singleton.mp z)⟩, fun _ h => by cases h⟩)
    simp [ey]
    refine Res.wp_then (history_ok T r' h1 _ 5 nm hh1 (by omega) (by decide) hn) (fun q hq => ?_) fun _ h => h
    obtain ⟨cs, h2, rfl, hh2, hd⟩ := hq
    have l1 := hd.l1
    have l2 := hd.l2
    simp
    refine Res.wp_then (bent_ok T r' h2 _ (HL cs) hh2 (by omega) (by simp; omega) (drawn_call hd)) (fun q hq => ?_) fun _ h => h
    obtain ⟨x, h3, rfl, hh3, hx⟩ := hq
    have du := fun m => due_eq m x hx.g hx.l
    have ih := fun m => is_history_eq m x hx.g hx.l
    have j1 := fun m => right_order_j m x hx.g hx.l
    have j2 := fun m => bar_j m x hx.g hx.l
    have j3 := fun m => is_right_order_j m x hx.g hx.l
    have j4 := fun m => is_bar_j m x hx.g hx.l
    unfold Judged at j1 j2 j3 j4
    have so1 : PyData.strOk ("let" : Str) = true := by decide +kernel
    have so2 : PyData.strOk ("history" : Str) = true := by decide +kernel
    have c4 : cRep 1 4 = true := cRep_ok (by decide) (by decide) (by decide)
    cases hi : isHist x with
    | true =>
      simp only [hi, if_true] at j1 j2 j3 j4
      obtain ⟨w1, j1⟩ := Classical.skolem.mp j1
      obtain ⟨w2, j2⟩ := Classical.skolem.mp j2
      obtain ⟨w3, j3⟩ := Classical.skolem.mp j3
      obtain ⟨w4, j4⟩ := Classical.skolem.mp j4
      subst hT
      simp [du, ih, hi, j1, j2, j3, j4, c4, so1, so2]
      exact ⟨h3, rfl, by omega, hh3.mono (by omega)⟩
    | false =>
      simp only [hi, if_false, Bool.false_eq_true] at j1 j2 j3 j4
      subst hT
      simp [du, ih, hi, j1, j2, j3, j4, c4, so1, so2]
      exact ⟨h3, rfl, by omega, hh3.mono (by omega)⟩
  · rintro s ⟨h, r', g2, g3, g4, g5, g6, g7, rfl, hl, hh⟩
    simp
  · exact ⟨h, [], none, none, none, none, none, none, rfl, by simp, hh.mono (by omega)⟩
end K49

set_option Elab.async false
set_option linter.all false
set_option maxRecDepth 100000
set_option maxHeartbeats 4000000
namespace K49
open PySem PySem.Spec PyProof.Rows L2 PD LamX
theorem fun_of {K : PySem.W.Frag} {x : Str} {st : Stmt} {f : Addr} {fd : FuncData} (F : FunD K x x (defArgs st) (defBody st) (defScope st) [] [] f fd) : Fun K x x st f fd := by
  obtain ⟨oc, od, dV, kV, doc, pm, an, cdv, ct, osl, e, lk, hc, d, _⟩ := F.ex
  rcases d with ⟨_, e2⟩ | ⟨h, _⟩
  · subst e2
    exact ⟨⟨oc, od, kV, doc, pm, an, cdv, ct, osl, e, lk, hc⟩, F.kp⟩
  · exact absurd rfl h
theorem exc_of {K : PySem.W.Frag} {h : Heap} {mg : Str → Option Value} {c : Str} (X : K.In h) (G : h.Ns mainGlobals mg) (h1 : (He.Fa.glo c).ok K = true) (h2 : (He.Fa.exc c).ok K = true) : PD.ExcC K mg c := by
  obtain ⟨a1, a2, a3, a4⟩ := He.exc_ok h2
  exact ⟨_, He.glo_ok X G h1, a1, a2, a3, a4⟩
theorem txt_of {K : PySem.W.Frag} {h : Heap} {mg : Str → Option Value} (X : K.In h) (G : h.Ns mainGlobals mg) (c : He.SaysD faL fnL K) : Txt K mg where
  b_ValueError := He.free_ok X G (c.fact 55 rfl)
  b_abs := He.free_ok X G (c.fact 56 rfl)
  b_all := He.free_ok X G (c.fact 57 rfl)
  b_any := He.free_ok X G (c.fact 58 rfl)
  b_bool := He.free_ok X G (c.fact 59 rfl)
  b_enumerate := He.free_ok X G (c.fact 60 rfl)
  b_int := He.free_ok X G (c.fact 61 rfl)
  b_isinstance := He.free_ok X G (c.fact 62 rfl)
  b_len := He.free_ok X G (c.fact 63 rfl)
  b_list := He.free_ok X G (c.fact 64 rfl)
  b_max := He.free_ok X G (c.fact 65 rfl)
  b_min := He.free_ok X G (c.fact 66 rfl)
  b_range := He.free_ok X G (c.fact 67 rfl)
  b_set := He.free_ok X G (c.fact 68 rfl)
  b_sorted := He.free_ok X G (c.fact 69 rfl)
  b_str := He.free_ok X G (c.fact 70 rfl)
  b_tuple := He.free_ok X G (c.fact 71 rfl)
  x_HomeError := exc_of X G (c.fact 47 rfl) (c.fact 48 rfl)
  x_NoHistory := exc_of X G (c.fact 49 rfl) (c.fact 50 rfl)
  c_GREATEST := He.int_ok X G (c.fact 51 rfl)
  c_READ := He.str_ok X G (c.fact 52 rfl)
  c_WRITE := He.str_ok X G (c.fact 53 rfl)
  c_MOST_TOLD := He.int_ok X G (c.fact 54 rfl)
  f_is_integer := (c.def_ 0 (d := dd_is_integer) rfl).elim fun fd F => ⟨_, fd, fun_of F, He.glo_ok X G (c.fact 0 rfl)⟩
  f_is_between := (c.def_ 1 (d := dd_is_between) rfl).elim fun fd F => ⟨_, fd, fun_of F, He.glo_ok X G (c.fact 1 rfl)⟩
  f_is_index := (c.def_ 2 (d := dd_is_index) rfl).elim fun fd F => ⟨_, fd, fun_of F, He.glo_ok X G (c.fact 2 rfl)⟩
  f_is_tuple_of := (c.def_ 3 (d := dd_is_tuple_of) rfl).elim fun fd F => ⟨_, fd, fun_of F, He.glo_ok X G (c.fact 3 rfl)⟩
  f_is_sign := (c.def_ 4 (d := dd_is_sign) rfl).elim fun fd F => ⟨_, fd, fun_of F, He.glo_ok X G (c.fact 4 rfl)⟩
  f_is_signs := (c.def_ 5 (d := dd_is_signs) rfl).elim fun fd F => ⟨_, fd, fun_of F, He.glo_ok X G (c.fact 5 rfl)⟩
  f_is_thing := (c.def_ 6 (d := dd_is_thing) rfl).elim fun fd F => ⟨_, fd, fun_of F, He.glo_ok X G (c.fact 6 rfl)⟩
  f_is_call := (c.def_ 7 (d := dd_is_call) rfl).elim fun fd F => ⟨_, fd, fun_of F, He.glo_ok X G (c.fact 7 rfl)⟩
  f_moments_of := (c.def_ 8 (d := dd_moments_of) rfl).elim fun fd F => ⟨_, fd, fun_of F, He.glo_ok X G (c.fact 8 rfl)⟩
  f_is_history := (c.def_ 9 (d := dd_is_history) rfl).elim fun fd F => ⟨_, fd, fun_of F, He.glo_ok X G (c.fact 9 rfl)⟩
  f_check_history := (c.def_ 10 (d := dd_check_history) rfl).elim fun fd F => ⟨_, fd, fun_of F, He.glo_ok X G (c.fact 10 rfl)⟩
  f_writer_of := (c.def_ 11 (d := dd_writer_of) rfl).elim fun fd F => ⟨_, fd, fun_of F, He.glo_ok X G (c.fact 11 rfl)⟩
  f_counts := (c.def_ 12 (d := dd_counts) rfl).elim fun fd F => ⟨_, fd, fun_of F, He.glo_ok X G (c.fact 12 rfl)⟩
  f_groups_of := (c.def_ 13 (d := dd_groups_of) rfl).elim fun fd F => ⟨_, fd, fun_of F, He.glo_ok X G (c.fact 13 rfl)⟩
  f_first_end := (c.def_ 14 (d := dd_first_end) rfl).elim fun fd F => ⟨_, fd, fun_of F, He.glo_ok X G (c.fact 14 rfl)⟩
  f_last_begin := (c.def_ 15 (d := dd_last_begin) rfl).elim fun fd F => ⟨_, fd, fun_of F, He.glo_ok X G (c.fact 15 rfl)⟩
  f_is_ahead := (c.def_ 16 (d := dd_is_ahead) rfl).elim fun fd F => ⟨_, fd, fun_of F, He.glo_ok X G (c.fact 16 rfl)⟩
  f_single_bar := (c.def_ 17 (d := dd_single_bar) rfl).elim fun fd F => ⟨_, fd, fun_of F, He.glo_ok X G (c.fact 17 rfl)⟩
  f_late_bar := (c.def_ 18 (d := dd_late_bar) rfl).elim fun fd F => ⟨_, fd, fun_of F, He.glo_ok X G (c.fact 18 rfl)⟩
  f_crossed_bar := (c.def_ 19 (d := dd_crossed_bar) rfl).elim fun fd F => ⟨_, fd, fun_of F, He.glo_ok X G (c.fact 19 rfl)⟩
  f_crossed := (c.def_ 20 (d := dd_crossed) rfl).elim fun fd F => ⟨_, fd, fun_of F, He.glo_ok X G (c.fact 20 rfl)⟩
  f_raw_bar := (c.def_ 21 (d := dd_raw_bar) rfl).elim fun fd F => ⟨_, fd, fun_of F, He.glo_ok X G (c.fact 21 rfl)⟩
  f_bar := (c.def_ 22 (d := dd_bar) rfl).elim fun fd F => ⟨_, fd, fun_of F, He.glo_ok X G (c.fact 22 rfl)⟩
  f_tail := (c.def_ 23 (d := dd_tail) rfl).elim fun fd F => ⟨_, fd, fun_of F, He.glo_ok X G (c.fact 23 rfl)⟩
  f_name_order := (c.def_ 24 (d := dd_name_order) rfl).elim fun fd F => ⟨_, fd, fun_of F, He.glo_ok X G (c.fact 24 rfl)⟩
  f_right_order := (c.def_ 25 (d := dd_right_order) rfl).elim fun fd F => ⟨_, fd, fun_of F, He.glo_ok X G (c.fact 25 rfl)⟩
  f_is_right_order := (c.def_ 26 (d := dd_is_right_order) rfl).elim fun fd F => ⟨_, fd, fun_of F, He.glo_ok X G (c.fact 26 rfl)⟩
  f_are_behind := (c.def_ 27 (d := dd_are_behind) rfl).elim fun fd F => ⟨_, fd, fun_of F, He.glo_ok X G (c.fact 27 rfl)⟩
  f_are_told := (c.def_ 28 (d := dd_are_told) rfl).elim fun fd F => ⟨_, fd, fun_of F, He.glo_ok X G (c.fact 28 rfl)⟩
  f_is_bar := (c.def_ 29 (d := dd_is_bar) rfl).elim fun fd F => ⟨_, fd, fun_of F, He.glo_ok X G (c.fact 29 rfl)⟩
  f_is_single := (c.def_ 30 (d := dd_is_single) rfl).elim fun fd F => ⟨_, fd, fun_of F, He.glo_ok X G (c.fact 30 rfl)⟩
  f_tells := (c.def_ 31 (d := dd_tells) rfl).elim fun fd F => ⟨_, fd, fun_of F, He.glo_ok X G (c.fact 31 rfl)⟩
  f_is_late := (c.def_ 32 (d := dd_is_late) rfl).elim fun fd F => ⟨_, fd, fun_of F, He.glo_ok X G (c.fact 32 rfl)⟩
  f_is_crossed := (c.def_ 33 (d := dd_is_crossed) rfl).elim fun fd F => ⟨_, fd, fun_of F, He.glo_ok X G (c.fact 33 rfl)⟩
  f_w_hand := (c.def_ 34 (d := dd_w_hand) rfl).elim fun fd F => ⟨_, fd, fun_of F, He.glo_ok X G (c.fact 34 rfl)⟩
  f_w_draw := (c.def_ 35 (d := dd_w_draw) rfl).elim fun fd F => ⟨_, fd, fun_of F, He.glo_ok X G (c.fact 35 rfl)⟩
  f_w_call := (c.def_ 36 (d := dd_w_call) rfl).elim fun fd F => ⟨_, fd, fun_of F, He.glo_ok X G (c.fact 36 rfl)⟩
  f_w_history := (c.def_ 37 (d := dd_w_history) rfl).elim fun fd F => ⟨_, fd, fun_of F, He.glo_ok X G (c.fact 37 rfl)⟩
  f_w_read := (c.def_ 38 (d := dd_w_read) rfl).elim fun fd F => ⟨_, fd, fun_of F, He.glo_ok X G (c.fact 38 rfl)⟩
  f_w_is_int := (c.def_ 39 (d := dd_w_is_int) rfl).elim fun fd F => ⟨_, fd, fun_of F, He.glo_ok X G (c.fact 39 rfl)⟩
  f_w_deep := (c.def_ 40 (d := dd_w_deep) rfl).elim fun fd F => ⟨_, fd, fun_of F, He.glo_ok X G (c.fact 40 rfl)⟩
  f_w_is_thing := (c.def_ 41 (d := dd_w_is_thing) rfl).elim fun fd F => ⟨_, fd, fun_of F, He.glo_ok X G (c.fact 41 rfl)⟩
  f_w_is_call := (c.def_ 42 (d := dd_w_is_call) rfl).elim fun fd F => ⟨_, fd, fun_of F, He.glo_ok X G (c.fact 42 rfl)⟩
  f_w_due := (c.def_ 43 (d := dd_w_due) rfl).elim fun fd F => ⟨_, fd, fun_of F, He.glo_ok X G (c.fact 43 rfl)⟩
  f_w_word := (c.def_ 44 (d := dd_w_word) rfl).elim fun fd F => ⟨_, fd, fun_of F, He.glo_ok X G (c.fact 44 rfl)⟩
  f_w_bent := (c.def_ 45 (d := dd_w_bent) rfl).elim fun fd F => ⟨_, fd, fun_of F, He.glo_ok X G (c.fact 45 rfl)⟩
  f_law := (c.def_ 46 (d := dd_law) rfl).elim fun fd F => ⟨_, fd, fun_of F, He.glo_ok X G (c.fact 46 rfl)⟩
theorem law_df {P : Program} {w : World} {K : PySem.W.Frag} {mg : Str → Option Value} {base : Heap} (T : Txt K mg) : Df P w K mg base 1 "_law_hand" ["_law_script"] m_w_hand ∧ Df P w K mg base 3 "_law_history" ["_law_hand_here", "_law_most", "_law_names"] m_w_history ∧ Df P w K mg base 1 "_law_draw" ["_law_hand_here", "_law_many"] m_w_draw ∧ Df P w K mg base 3 "_law_bent" ["_law_hand_here", "_law_history_here"] m_w_bent ∧ Df P w K mg base 10 "_law_due" ["_law_thing"] m_w_due ∧ Df P w K mg base 11 "is_history" ["thing"] m_is_history ∧ Df P w K mg base 13 "right_order" ["history"] m_right_order ∧ Df P w K mg base 13 "bar" ["history"] m_bar ∧ Df P w K mg base 13 "is_right_order" ["history", "thing"] m_is_right_order ∧ Df P w K mg base 13 "is_bar" ["history", "thing"] m_is_bar := by
  have c_is_integer := df_is_integer (P := P) (w := w) (base := base) T 
  have c_is_between := df_is_between (P := P) (w := w) (base := base) T c_is_integer
  have c_is_index := df_is_index (P := P) (w := w) (base := base) T c_is_between
  have c_is_tuple_of := df_is_tuple_of (P := P) (w := w) (base := base) T 
  have c_is_sign := df_is_sign (P := P) (w := w) (base := base) T 
  have c_is_signs := df_is_signs (P := P) (w := w) (base := base) T c_is_sign
  have c_is_thing := df_is_thing (P := P) (w := w) (base := base) T c_is_integer c_is_signs 7
  have c_is_call := df_is_call (P := P) (w := w) (base := base) T c_is_tuple_of c_is_integer c_is_thing
  have c_moments_of := df_moments_of (P := P) (w := w) (base := base) T 
  have c_is_history := df_is_history (P := P) (w := w) (base := base) T c_is_call c_moments_of
  have c_check_history := df_check_history (P := P) (w := w) (base := base) T c_is_history
  have c_writer_of := df_writer_of (P := P) (w := w) (base := base) T 
  have c_counts := df_counts (P := P) (w := w) (base := base) T 
  have c_groups_of := df_groups_of (P := P) (w := w) (base := base) T c_counts
  have c_first_end := df_first_end (P := P) (w := w) (base := base) T 
  have c_last_begin := df_last_begin (P := P) (w := w) (base := base) T 
  have c_is_ahead := df_is_ahead (P := P) (w := w) (base := base) T c_first_end c_last_begin
  have c_single_bar := df_single_bar (P := P) (w := w) (base := base) T c_writer_of
  have c_late_bar := df_late_bar (P := P) (w := w) (base := base) T c_groups_of c_is_ahead c_last_begin c_first_end
  have c_crossed := df_crossed (P := P) (w := w) (base := base) T c_first_end c_last_begin
  have c_crossed_bar := df_crossed_bar (P := P) (w := w) (base := base) T c_groups_of c_is_ahead c_crossed
  have c_raw_bar := df_raw_bar (P := P) (w := w) (base := base) T c_crossed_bar c_late_bar c_single_bar
  have c_bar := df_bar (P := P) (w := w) (base := base) T c_check_history c_raw_bar
  have c_tail := df_tail (P := P) (w := w) (base := base) T 
  have c_name_order := df_name_order (P := P) (w := w) (base := base) T c_is_ahead c_tail
  have c_right_order := df_right_order (P := P) (w := w) (base := base) T c_check_history c_raw_bar c_groups_of c_tail c_name_order
  have c_are_behind := df_are_behind (P := P) (w := w) (base := base) T
  have c_are_told := df_are_told (P := P) (w := w) (base := base) T
  have c_is_right_order := df_is_right_order (P := P) (w := w) (base := base) T c_check_history c_is_index c_are_told c_are_behind
  have c_tells := df_tells (P := P) (w := w) (base := base) T 
  have c_is_crossed := df_is_crossed (P := P) (w := w) (base := base) T
  have c_is_single := df_is_single (P := P) (w := w) (base := base) T
  have c_is_late := df_is_late (P := P) (w := w) (base := base) T
  have c_is_bar := df_is_bar (P := P) (w := w) (base := base) T c_check_history c_is_index c_is_single c_is_tuple_of c_is_late c_is_crossed
  have c_w_hand := df_w_hand (P := P) (w := w) (base := base) T 
  have c_w_draw := df_w_draw (P := P) (w := w) (base := base) T 
  have c_w_call := df_w_call (P := P) (w := w) (base := base) T c_w_draw
  have c_w_read := df_w_read (P := P) (w := w) (base := base) T c_w_draw
  have c_w_history := df_w_history (P := P) (w := w) (base := base) T c_w_draw c_w_call c_w_read
  have c_w_is_int := df_w_is_int (P := P) (w := w) (base := base) T 
  have c_w_deep := df_w_deep (P := P) (w := w) (base := base) T c_w_draw
  have c_w_is_thing := df_w_is_thing (P := P) (w := w) (base := base) T c_w_is_int 7
  have c_w_is_call := df_w_is_call (P := P) (w := w) (base := base) T c_w_is_thing c_w_is_int
  have c_w_due := df_w_due (P := P) (w := w) (base := base) T c_w_is_call
  have c_w_bent := df_w_bent (P := P) (w := w) (base := base) T c_w_draw c_w_deep
  exact ⟨c_w_hand, c_w_history, c_w_draw, c_w_bent, c_w_due, c_is_history, c_right_order, c_bar, c_is_right_order, c_is_bar⟩
abbrev FunL (K : PySem.W.Frag) (f : Addr) (fd : FuncData) : Prop := Fun K "law" "law" st_law f fd
/-- the law's promise -/
def spLaw (K : PySem.W.Frag) (Lp : Addr) : Sp := fun vs H Q _ => ∃ (a : Addr) (ns : List Int), vs = [.ref a] ∧ SqL K H a (ns.map V.int) ∧ ns.length ≤ 63 ∧ H Lp = some (.tbl #[]) ∧ ∀ H', Q (.bl true) H'
theorem law_fn {P : Program} {w : World} {K : PySem.W.Frag} {mg : Str → Option Value} {base : Heap} {f c Lp : Addr} {kV doc pm ct oc : Value} {an od : Option Addr} {osl : Array (Option Value)} (T : Txt K mg) (WT : WordT K mg base c Lp)
    (lk : K.lookup f = some ⟨oc, od, .func (PySem.W.fnOf "law" "law" (defArgs st_law) (defBody st_law) (defScope st_law) .none kV doc pm an (.ref c) ct), osl⟩) (hcd : PySem.W.codeIn K (.ref c) "law" = true) :
    FnOk P w K mg base (L2.CX P w) 25 f (PySem.W.fnOf "law" "law" (defArgs st_law) (defBody st_law) (defScope st_law) .none kV doc pm an (.ref c) ct) ["_law_script"] (spLaw K Lp) := by
  obtain ⟨c_w_hand, c_w_history, c_w_draw, c_w_bent, c_w_due, c_is_history, c_right_order, c_bar, c_is_right_order, c_is_bar⟩ := law_df (P := P) (w := w) (base := base) T
  refine (fn_law T c_w_hand c_w_history c_w_draw c_w_bent c_w_due c_is_history c_right_order c_bar c_is_right_order c_is_bar WT lk hcd).imp fun vs H Q E h => ?_
  obtain ⟨a, ns, rfl, hS, hl, hT, hQ⟩ := h
  have hne : a ≠ Lp ∨ True := .inr trivial
  have hS' : SqL K (fun b => if b = Lp then none else H b) a (ns.map V.int) := by
    rcases hS with hS | hS
    · have ne : a ≠ Lp := fun e => by
        subst e
        rcases hS with z | ⟨o, z⟩
        · rw [hT] at z; cases z
        · rw [hT] at z; cases z
      rcases hS with z | ⟨o, z⟩
      · exact .inl (.inl ((if_neg ne).trans z))
      · exact .inl (.inr ⟨o, (if_neg ne).trans z⟩)
    · exact .inr hS
  refine ⟨fun _ => False, fun b => if b = Lp then none else H b, [Lp], [some (.t Lp "law.<locals>.<lambda>")], [.d (.list (IL ns))], rfl, ⟨?_, rfl, rfl, by simp, fun b hb => ?_, fun b hb => hb.elim, fun n cl e => ?_, fun i w0 e => by simp at e⟩, .d (.lst hS' (RpA.ints ns)) .nil, ?_⟩
  · intro b o e
    dsimp only at e
    split at e
    · cases e
    · exact e
  · rw [List.mem_singleton.mp hb]
    exact ⟨_, hT⟩
  · match n with
    | 0 =>
      cases e
      refine ⟨Lp, rfl, if_pos rfl, rfl, #[], hT, ?_, fun pos cv z => ?_⟩
      · simp [TriplesOk]
      · simp [codeAmong] at z
    | n + 1 => simp at e
  · obtain ⟨p, e, hq⟩ := Res.ok_of_wp (law_ok Lp ns hl)
    obtain ⟨w0, m0⟩ := p
    dsimp only at hq
    subst hq
    rw [e]
    intro v G' H' R' X' r n
    cases r
    exact hQ H'
end K49
open PySem PySem.W PySem.Calls PyProof.Rows
set_option maxHeartbeats 0 in
theorem PySem.Challenge.cw_homeshold_k49_histories_refused_holds : PySem.Challenge.rw_homeshold_k49_histories_refused.Holds := by
  w_on; o_law
  refine HandSHeadRun.head_any (r := OpenLaw.row PySem.Challenge.rw_homeshold_k49_histories_refused) (q := view (OpenLaw.row PySem.Challenge.rw_homeshold_k49_histories_refused).prog [57]) (H := K49.hk) (ob := K49.ob) (M := 20000) (loose := K49.looseL) (d := HandSHeadRun.topDef (OpenLaw.row PySem.Challenge.rw_homeshold_k49_histories_refused).prog 57) (kwd := []) K49.ob_eq
    (by kernel_rfl) (fun s => by kernel_rfl) K49.run (by kernel_rfl) (by kernel_rfl) (by kernel_rfl) (by rfl) (by first | assumption | decide +kernel) (by decide +kernel) ⟨rfl, rfl, rfl, rfl, rfl, by decide +kernel⟩ ?hw ?hc
  case hw => w_witness2
  case hc =>
    refine LamX.walk_ofTsE (l := PySem.Challenge.rw_homeshold_k49_histories_refused) (n := 63) (k := 25) (x := "_law_script") (CX := fun w => L2.CX (PySem.Challenge.rw_homeshold_k49_histories_refused).prog w) rfl (by decide) (by kernel_rfl) ⟨rfl, by decide, by decide⟩ ?F ?X
    case X =>
      intro w H s e s' z
      obtain ⟨_, _, _, _, _, _, _, _, _, _, _, _, q⟩ := z
      exact q.elim
    case F =>
      intro w mg fa h Y G hmg0
      obtain ⟨K, KX, c⟩ := Y
      have hmg : mg ("law" : PySem.Str) = some (.ref fa) := by
        have e : (HandSHeadRun.topDef (OpenLaw.row PySem.Challenge.rw_homeshold_k49_histories_refused).prog 57).name = ("law" : PySem.Str) := by kernel_rfl
        rw [← e]
        exact hmg0
      obtain ⟨c0, P0, ht, hcd0, hP, nP⟩ := c.t
      obtain ⟨fd, F⟩ := c.d.def_ 46 (d := K49.dd_law) rfl
      have e := hmg.symm.trans (He.glo_ok KX G (c.d.fact 46 rfl))
      have e2 : fa = He.ga K "law" := Value.ref.inj (Option.some.inj e)
      subst e2
      have b := L2.FunD.bindsA (ps := ["_law_script"]) F fun _ _ _ _ _ _ us hl => match us, hl with | [_], _ => rfl
      have Fn : K49.FunL K (He.ga K "law") fd := K49.fun_of F
      obtain ⟨oc, od, kV, doc, pm, an, cdv, ct, osl, e3, lk, hc⟩ := Fn.ex
      have hcode : fd.code = .ref c0 := PySem.W.law_code KX G ht hmg (KX _ _ lk) rfl
      subst e3
      have e4 : cdv = .ref c0 := hcode
      subst e4
      have T := K49.txt_of KX G c.d
      have hex : PySem.W.exmOne K (.ref (He.ga K "NoHistory")) (.ref (He.ga K "NoHistory")) = some true := He.exm_ok (c.d.fact 72 rfl)
      refine ⟨K, KX, _, [(c0, P0)], K49.spLaw K P0, ?_, ?_, ?_, fun s v => b s [v] rfl, fun H a ns hl _ hH hS => ⟨a, ns, rfl, hS, hl, hH _ (List.mem_singleton.mpr rfl), fun _ => rfl⟩, fun base KB GB TB => K49.law_fn T ⟨⟨_, _, He.glo_ok KX G (c.d.fact 49 rfl), He.glo_ok KX G (c.d.fact 47 rfl), hex⟩, TB _ (List.mem_singleton.mpr rfl)⟩ lk hc⟩
      · intro p hp
        rw [List.mem_singleton.mp hp]
        exact hP
      · intro p hp
        rw [List.mem_singleton.mp hp]
        exact nP
      · intro p hp
        rw [List.mem_singleton.mp hp]
        exact PySem.W.codeHd_of_K KX hcd0

