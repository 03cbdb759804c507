import PyProof.Rows.All
import Wide.All
import OpenK.AllK
import Wide.FinOn
import KE.KStateDown
import HandS.ForMost
import HandS.Exc
import HandS.Defaults
import HandS.Star
import HandS.Property
import HandS.ClsMeth
import HandS.Codes
import HandS.Head0
import HandS.Head1
import HandS.Head2
import HandS.HeadEnd
import HandS.HeadHook1
import HandS.HeadHook2
import HandS.MethStar
import HandS.IsInst
import HandS.Deep
import HandS.TupLe
import HandS.TupAny
import HandS.FStr
import HandS.Strs
import HandS.Conv
import HandS.DictComp
import HandS.NoneIn
import HandS.Flow
import HandS.Style
import HandS.OwnEq
import HandS.Walk
import KE.KDictSum
import KE.GoesMore
import KE.KDictPairs
import PyProof.StrBlockL
import HandS.TupSets
import PySem.Challenge.RW_passwidth_k61_whole_lattice_of_best_keep
set_option Elab.async false
set_option linter.all false
section
set_option maxRecDepth 100000
set_option maxHeartbeats 4000000
/-! The text by places, addresses by names, what the top leaves (Tx). -/
namespace Pw
open PySem PySem.Spec PyProof.Rows L2
abbrev prg : Program := PySem.Challenge.pw_passwidth_k61_whole_lattice_of_best_keep
def top (i : Nat) : Stmt := prg.main.body.getD i (.Pass ⟨0, 0, 0, 0⟩)
abbrev s_closure : Stmt := top 2
abbrev s_is_name : Stmt := top 19
abbrev s_is_integer : Stmt := top 20
abbrev s_is_between : Stmt := top 21
abbrev s_need_room : Stmt := top 26
abbrev s_is_copy : Stmt := top 27
abbrev s_place_in : Stmt := top 29
abbrev s_is_bar : Stmt := top 30
abbrev s_copies_of : Stmt := top 31
abbrev s_row_text : Stmt := top 34
abbrev s_sheet_text : Stmt := top 35
abbrev s_copies_text : Stmt := top 36
abbrev s_need_copies : Stmt := top 38
abbrev s_links_of : Stmt := top 43
abbrev s_flow_of : Stmt := top 44
abbrev s_fewest_moves : Stmt := top 45
abbrev s_first_keep : Stmt := top 47
abbrev s_last_keep : Stmt := top 48
abbrev s_unfinished : Stmt := top 55
abbrev s_ring_in : Stmt := top 56
abbrev s_first_wrong : Stmt := top 59
abbrev s_are_needs : Stmt := top 60
abbrev s_need_rows : Stmt := top 61
abbrev s_need_needs : Stmt := top 62
abbrev s_law_pen : Stmt := top 65
abbrev s_law_draw : Stmt := top 66
abbrev s_law_shuffled : Stmt := top 67
abbrev s_law_names : Stmt := top 68
abbrev s_law_plan : Stmt := top 69
abbrev s_law_page : Stmt := top 70
abbrev s_law_below : Stmt := top 71
abbrev s_law_bars : Stmt := top 72
abbrev s_law_fits : Stmt := top 73
abbrev s_law_keeps : Stmt := top 74
abbrev s_law_best : Stmt := top 75
abbrev s_law_size : Stmt := top 76
abbrev s_law_three_right : Stmt := top 77
abbrev s_law : Stmt := top 78
abbrev s_Keep_init : Stmt := inClass (top 39) 0
abbrev s_Keep_both : Stmt := inClass (top 39) 14
abbrev s_Keep_is_under : Stmt := inClass (top 39) 17
abbrev s_Keep_earlier_than : Stmt := inClass (top 39) 18
abbrev s_Keep_len : Stmt := inClass (top 39) 10
abbrev s_Keep_eq : Stmt := inClass (top 39) 11
abbrev s_Keep_or : Stmt := inClass (top 39) 15
abbrev s_Keep_and : Stmt := inClass (top 39) 16
abbrev s_Keep_copies : Stmt := inClass (top 39) 4
abbrev s_Keep_of : Stmt := inClass (top 39) 1
abbrev s_Flow_init : Stmt := inClass (top 41) 0
abbrev s_Flow_push : Stmt := inClass (top 41) 1
abbrev s_Flow_turn : Stmt := inClass (top 41) 2
abbrev s_Flow_lower : Stmt := inClass (top 41) 3
abbrev s_Flow_reached_down : Stmt := inClass (top 41) 4
abbrev s_Flow_reached_up : Stmt := inClass (top 41) 5
abbrev s_Flow_first_free : Stmt := inClass (top 41) 6
abbrev s_Flow_last_free : Stmt := inClass (top 41) 7
abbrev s_Sheet_init : Stmt := inClass (top 63) 1
abbrev s_Sheet_fill : Stmt := inClass (top 63) 2
abbrev s_Sheet_contains : Stmt := inClass (top 63) 7
abbrev s_Sheet_len : Stmt := inClass (top 63) 10
abbrev s_Sheet_eq : Stmt := inClass (top 63) 11
abbrev s_Sheet_rows : Stmt := inClass (top 63) 5
abbrev s_Sheet_needs : Stmt := inClass (top 63) 6
abbrev s_Sheet_of : Stmt := inClass (top 63) 3
/-! ### addresses -/
def pgA (K : PySem.W.Frag) (C : Addr) (f : Str) : Addr := match PySem.W.recIn K (He.ma K C f) "property" with
  | some (.ref g :: _) => g
  | _ => 0
def cmA (K : PySem.W.Frag) (C : Addr) (f : Str) : Addr := match PySem.W.recIn K (He.ma K C f) "classmethod" with
  | some (.ref g :: _) => g
  | _ => 0
/-! ### looks beyond the kit's -/
def spB (K : PySem.W.Frag) (C : Addr) (m : Str) : Bool := He.eqO (PySem.W.findIn K (.ref C) m) (some (some (.ref (He.ma K C m)))) && PySem.W.isFn K (.ref (He.ma K C m))
def propB (K : PySem.W.Frag) (C : Addr) (f : Str) : Bool :=
  He.eqO (PySem.W.findIn K (.ref C) f) (some (some (.ref (He.ma K C f)))) && (He.eqO (PySem.W.specialIn K (.ref (He.ma K C f)) "__get__") (some (some (.builtin "property.__get__"))) && (decide (PySem.W.takesIn K (.ref (He.ma K C f)) = some true) &&
    (match PySem.W.recIn K (He.ma K C f) "property" with
      | some (.ref _ :: _) => true
      | _ => false)))
def cmB (K : PySem.W.Frag) (C : Addr) (m : Str) : Bool := PySem.W.readsIn K C (.type "type") && (He.eqO (PySem.W.specialIn K (.ref C) "__getattribute__") (some (some (.builtin "type.__getattribute__"))) &&
  ((match PySem.W.findCls K (.ref C) (.type "type") m with
    | some (.get (.builtin b) (.ref p) .none (.ref c)) => decide (b = "classmethod.__get__") && (decide (c = C) && decide (p = He.ma K C m))
    | _ => false) && ((match PySem.W.recIn K (He.ma K C m) "classmethod" with
      | some (.ref _ :: _) => true
      | _ => false) && PySem.W.fnIn K (cmA K C m))))
def insB (K : PySem.W.Frag) (C : Addr) : Bool := He.eqO (PySem.W.findIn K (.ref C) "__class__") (some (some (.builtin "object.__class__"))) && (He.eqO (PySem.W.specialIn K (.builtin "object.__class__") "__get__") (some (some (.builtin "getset_descriptor.__get__"))) &&
  (decide (PySem.W.takesIn K (.builtin "object.__class__") = some true) && (decide (PySem.W.mroIn K C (.type "object") = some true) && decide (PySem.W.kitOne K (.ref C) (.ref C) = some true))))
def selfB (K : PySem.W.Frag) (C : Addr) : Bool := PySem.W.selfFirst K C
def neB (K : PySem.W.Frag) (C : Addr) : Bool := He.eqO (PySem.W.findIn K (.ref C) "__ne__") (some (some (.builtin "object.__ne__")))
theorem spB_ok {K : PySem.W.Frag} {C : Addr} {m : Str} (h : spB K C m = true) : PySem.W.findIn K (.ref C) m = some (some (.ref (He.ma K C m))) ∧ PySem.W.isFn K (.ref (He.ma K C m)) = true :=
  ⟨He.eqO_ok (He.ba h).1, (He.ba h).2⟩
theorem propB_ok {K : PySem.W.Frag} {C : Addr} {f : Str} (h : propB K C f = true) : PropOf K C f (He.ma K C f) (pgA K C f) := by
  obtain ⟨h1, h⟩ := He.ba h
  obtain ⟨h2, h⟩ := He.ba h
  obtain ⟨h3, h4⟩ := He.ba h
  refine ⟨He.eqO_ok h1, He.eqO_ok h2, of_decide_eq_true h3, ?_⟩
  unfold pgA
  revert h4
  cases PySem.W.recIn K (He.ma K C f) "property" with
  | none => exact fun q => by cases q
  | some l =>
    cases l with
    | nil => exact fun q => by cases q
    | cons v r => cases v <;> first | exact fun _ => ⟨r, rfl⟩ | exact fun q => by cases q
theorem cmB_ok {K : PySem.W.Frag} {C : Addr} {m : Str} (h : cmB K C m = true) : ClX.CRead K C (.type "type") ∧ ClX.CMet K C (.type "type") m (He.ma K C m) (cmA K C m) := by
  obtain ⟨h1, h⟩ := He.ba h
  obtain ⟨h2, h⟩ := He.ba h
  obtain ⟨h3, h⟩ := He.ba h
  obtain ⟨h4, h5⟩ := He.ba h
  refine ⟨⟨h1, He.eqO_ok h2⟩, ?_, ?_, h5⟩
  · split at h3
    · rename_i e
      obtain ⟨a, q⟩ := He.ba h3
      obtain ⟨b, c⟩ := He.ba q
      rw [e, of_decide_eq_true a, of_decide_eq_true b, of_decide_eq_true c]
    · cases h3
  · unfold cmA
    revert h4
    cases PySem.W.recIn K (He.ma K C m) "classmethod" with
    | none => exact fun q => by cases q
    | some l =>
      cases l with
      | nil => exact fun q => by cases q
      | cons v r => cases v <;> first | exact fun _ => ⟨r, rfl⟩ | exact fun q => by cases q
theorem insB_ok {K : PySem.W.Frag} {C : Addr} (cl : Cls K C) (h : insB K C = true) : C8.InsC K C := by
  obtain ⟨h1, h⟩ := He.ba h
  obtain ⟨h2, h⟩ := He.ba h
  obtain ⟨h3, h⟩ := He.ba h
  obtain ⟨h4, h5⟩ := He.ba h
  exact ⟨cl, He.eqO_ok h1, He.eqO_ok h2, of_decide_eq_true h3, of_decide_eq_true h4, of_decide_eq_true h5⟩
/-! ### defs -/
structure DefA where
  ad : PySem.W.Frag → Addr
  name : Str
  qual : Str
  st : Stmt
  kwd : List (Str × V) := []
def fnA (K : PySem.W.Frag) (a : Addr) : He.FnW := match K.lookup a with
  | some ⟨_, _, .func fd, _⟩ => some (fd.name, fd.qualname, fd.params, fd.body, fd.scope, fd.globals, fd.closure, fd.builtins)
  | _ => none
def DefA.val (d : DefA) : He.FnW := some (d.name, d.qual, defArgs d.st, .stmts (defBody d.st), defScope d.st, mainGlobals, [], builtinsNs)
def DefA.ok (K : PySem.W.Frag) (d : DefA) : Bool := PySem.W.keepIn K (.ref (d.ad K)) && (match K.lookup (d.ad K) with
  | some ⟨_, _, .func fd, _⟩ => PySem.W.codeIn K fd.code d.qual && (He.dflB K fd.defaults [] && He.kwdB K fd.kwdefaults d.kwd)
  | _ => false)
/-- a def of the text, as it stands behind the top -/
abbrev FnT (K : PySem.W.Frag) (x qual : Str) (st : Stmt) (kws : List (Str × V)) (f : Addr) (fd : FuncData) : Prop := FunD K x qual (defArgs st) (defBody st) (defScope st) [] kws f fd
theorem DefA.funD {K : PySem.W.Frag} {d : DefA} (e : fnA K (d.ad K) = d.val) (c : d.ok K = true) : ∃ fd, FnT K d.name d.qual d.st d.kwd (d.ad K) fd := by
  obtain ⟨kp, c2⟩ := He.ba c
  unfold fnA at e
  cases q : K.lookup (d.ad K) with
  | none => rw [q] at c2; cases c2
  | some o =>
    obtain ⟨oc, od, dt, osl⟩ := o
    rw [q] at c2 e
    cases dt with
    | func fd =>
      obtain ⟨n1, n2, n3, n4, n5, n6, n7, n8, n9, n10, n11, n12, n13, n14, n15⟩ := fd
      have e2 : (some (n1, n2, n3, n4, n5, n6, n7, n15) : He.FnW) = some (d.name, d.qual, defArgs d.st, .stmts (defBody d.st), defScope d.st, mainGlobals, [], builtinsNs) := e
      simp only [Option.some.injEq, Prod.mk.injEq] at e2
      obtain ⟨h1, h2, h3, h4, h5, h6, h7, h8⟩ := e2
      subst h1 h2 h3 h4 h5 h6 h7 h8
      obtain ⟨k1, k2⟩ := He.ba (show (PySem.W.codeIn K n13 d.qual && (He.dflB K n8 [] && He.kwdB K n9 d.kwd)) = true from c2)
      obtain ⟨k3, k4⟩ := He.ba k2
      exact ⟨_, ⟨oc, od, n8, n9, n10, n11, n12, n13, n14, osl, rfl, q, k1, He.dflB_ok k3, He.kwdB_ok k4⟩, kp⟩
    | _ => cases c2
/-! ### what the walk asks of the top's end -/
structure Tx (K : PySem.W.Frag) (mg : Str → Option Value) : Prop where
  g_closure : mg "closure" = some (.ref (He.ga K "closure"))
  g_is_name : mg "is_name" = some (.ref (He.ga K "is_name"))
  g_is_integer : mg "is_integer" = some (.ref (He.ga K "is_integer"))
  g_is_between : mg "is_between" = some (.ref (He.ga K "is_between"))
  g_need_room : mg "need_room" = some (.ref (He.ga K "need_room"))
  g_is_copy : mg "is_copy" = some (.ref (He.ga K "is_copy"))
  g_place_in : mg "place_in" = some (.ref (He.ga K "place_in"))
  g_is_bar : mg "is_bar" = some (.ref (He.ga K "is_bar"))
  g_copies_of : mg "copies_of" = some (.ref (He.ga K "copies_of"))
  g_row_text : mg "row_text" = some (.ref (He.ga K "row_text"))
  g_sheet_text : mg "sheet_text" = some (.ref (He.ga K "sheet_text"))
  g_copies_text : mg "copies_text" = some (.ref (He.ga K "copies_text"))
  g_need_copies : mg "need_copies" = some (.ref (He.ga K "need_copies"))
  g_links_of : mg "links_of" = some (.ref (He.ga K "links_of"))
  g_flow_of : mg "flow_of" = some (.ref (He.ga K "flow_of"))
  g_fewest_moves : mg "fewest_moves" = some (.ref (He.ga K "fewest_moves"))
  g_first_keep : mg "first_keep" = some (.ref (He.ga K "first_keep"))
  g_last_keep : mg "last_keep" = some (.ref (He.ga K "last_keep"))
  g_unfinished : mg "unfinished" = some (.ref (He.ga K "unfinished"))
  g_ring_in : mg "ring_in" = some (.ref (He.ga K "ring_in"))
  g_first_wrong : mg "first_wrong" = some (.ref (He.ga K "first_wrong"))
  g_are_needs : mg "are_needs" = some (.ref (He.ga K "are_needs"))
  g_need_rows : mg "need_rows" = some (.ref (He.ga K "need_rows"))
  g_need_needs : mg "need_needs" = some (.ref (He.ga K "need_needs"))
  g_law_pen : mg "_law_pen" = some (.ref (He.ga K "_law_pen"))
  g_law_draw : mg "_law_draw" = some (.ref (He.ga K "_law_draw"))
  g_law_shuffled : mg "_law_shuffled" = some (.ref (He.ga K "_law_shuffled"))
  g_law_names : mg "_law_names" = some (.ref (He.ga K "_law_names"))
  g_law_plan : mg "_law_plan" = some (.ref (He.ga K "_law_plan"))
  g_law_page : mg "_law_page" = some (.ref (He.ga K "_law_page"))
  g_law_below : mg "_law_below" = some (.ref (He.ga K "_law_below"))
  g_law_bars : mg "_law_bars" = some (.ref (He.ga K "_law_bars"))
  g_law_fits : mg "_law_fits" = some (.ref (He.ga K "_law_fits"))
  g_law_keeps : mg "_law_keeps" = some (.ref (He.ga K "_law_keeps"))
  g_law_best : mg "_law_best" = some (.ref (He.ga K "_law_best"))
  g_law_size : mg "_law_size" = some (.ref (He.ga K "_law_size"))
  g_law_three_right : mg "_law_three_right" = some (.ref (He.ga K "_law_three_right"))
  g_law : mg "law" = some (.ref (He.ga K "law"))
  g_Keep : mg "Keep" = some (.ref (He.ga K "Keep"))
  g_Flow : mg "Flow" = some (.ref (He.ga K "Flow"))
  g_Sheet : mg "Sheet" = some (.ref (He.ga K "Sheet"))
  b_len : mg "len" = none
  b_all : mg "all" = none
  b_any : mg "any" = none
  b_isinstance : mg "isinstance" = none
  b_range : mg "range" = none
  b_enumerate : mg "enumerate" = none
  b_tuple : mg "tuple" = none
  b_list : mg "list" = none
  b_dict : mg "dict" = none
  b_sorted : mg "sorted" = none
  b_set : mg "set" = none
  b_str : mg "str" = none
  b_int : mg "int" = none
  b_bool : mg "bool" = none
  b_max : mg "max" = none
  b_min : mg "min" = none
  b_abs : mg "abs" = none
  i_LONGEST_NAME : ∃ t, mg "LONGEST_NAME" = some (.int 8 t)
  i_MOST_PASSES : ∃ t, mg "MOST_PASSES" = some (.int 60 t)
  i_MOST_COPIES : ∃ t, mg "MOST_COPIES" = some (.int 120 t)
  i_LIMIT : ∃ t, mg "LIMIT" = some (.int 60 t)
  t_LETTERS : ∃ t, mg "LETTERS" = some (.str "abcdefghijklmnopqrstuvwxyz" t)
  t_NOTHING : ∃ t, mg "NOTHING" = some (.str "-" t)
  cl_Keep : Cls K (He.ga K "Keep")
  mk_Keep : Mk K (He.ga K "Keep") (He.ma K (He.ga K "Keep") "__init__")
  na_Keep_base : NoAttr K (He.ga K "Keep") "base"
  na_Keep_many : NoAttr K (He.ga K "Keep") "many"
  na_Keep_order : NoAttr K (He.ga K "Keep") "order"
  na_Keep_below : NoAttr K (He.ga K "Keep") "below"
  na_Keep_by : NoAttr K (He.ga K "Keep") "by"
  na_Keep_key : NoAttr K (He.ga K "Keep") "key"
  na_Keep_shown : NoAttr K (He.ga K "Keep") "shown"
  mt_Keep_both : Meth K (He.ga K "Keep") "both" (He.ma K (He.ga K "Keep") "both")
  mt_Keep_is_under : Meth K (He.ga K "Keep") "is_under" (He.ma K (He.ga K "Keep") "is_under")
  mt_Keep_earlier_than : Meth K (He.ga K "Keep") "earlier_than" (He.ma K (He.ga K "Keep") "earlier_than")
  sp_Keep_len : PySem.W.findIn K (.ref (He.ga K "Keep")) "__len__" = some (some (.ref (He.ma K (He.ga K "Keep") "__len__"))) ∧ PySem.W.isFn K (.ref (He.ma K (He.ga K "Keep") "__len__")) = true
  sp_Keep_eq : PySem.W.findIn K (.ref (He.ga K "Keep")) "__eq__" = some (some (.ref (He.ma K (He.ga K "Keep") "__eq__"))) ∧ PySem.W.isFn K (.ref (He.ma K (He.ga K "Keep") "__eq__")) = true
  sp_Keep_or : PySem.W.findIn K (.ref (He.ga K "Keep")) "__or__" = some (some (.ref (He.ma K (He.ga K "Keep") "__or__"))) ∧ PySem.W.isFn K (.ref (He.ma K (He.ga K "Keep") "__or__")) = true
  sp_Keep_and : PySem.W.findIn K (.ref (He.ga K "Keep")) "__and__" = some (some (.ref (He.ma K (He.ga K "Keep") "__and__"))) ∧ PySem.W.isFn K (.ref (He.ma K (He.ga K "Keep") "__and__")) = true
  pr_Keep_copies : PropOf K (He.ga K "Keep") "copies" (He.ma K (He.ga K "Keep") "copies") (pgA K (He.ga K "Keep") "copies")
  cm_Keep_of : ClX.CRead K (He.ga K "Keep") (.type "type") ∧ ClX.CMet K (He.ga K "Keep") (.type "type") "of" (He.ma K (He.ga K "Keep") "of") (cmA K (He.ga K "Keep") "of")
  is_Keep : C8.InsC K (He.ga K "Keep")
  cl_Flow : Cls K (He.ga K "Flow")
  mk_Flow : Mk K (He.ga K "Flow") (He.ma K (He.ga K "Flow") "__init__")
  na_Flow_links : NoAttr K (He.ga K "Flow") "links"
  na_Flow_left : NoAttr K (He.ga K "Flow") "left"
  na_Flow_right : NoAttr K (He.ga K "Flow") "right"
  na_Flow_amounts : NoAttr K (He.ga K "Flow") "amounts"
  na_Flow_givers : NoAttr K (He.ga K "Flow") "givers"
  mt_Flow_push : Meth K (He.ga K "Flow") "push" (He.ma K (He.ga K "Flow") "push")
  mt_Flow_turn : Meth K (He.ga K "Flow") "turn" (He.ma K (He.ga K "Flow") "turn")
  mt_Flow_lower : Meth K (He.ga K "Flow") "lower" (He.ma K (He.ga K "Flow") "lower")
  mt_Flow_reached_down : Meth K (He.ga K "Flow") "reached_down" (He.ma K (He.ga K "Flow") "reached_down")
  mt_Flow_reached_up : Meth K (He.ga K "Flow") "reached_up" (He.ma K (He.ga K "Flow") "reached_up")
  mt_Flow_first_free : Meth K (He.ga K "Flow") "first_free" (He.ma K (He.ga K "Flow") "first_free")
  mt_Flow_last_free : Meth K (He.ga K "Flow") "last_free" (He.ma K (He.ga K "Flow") "last_free")
  cl_Sheet : Cls K (He.ga K "Sheet")
  mk_Sheet : Mk K (He.ga K "Sheet") (He.ma K (He.ga K "Sheet") "__init__")
  na_Sheet_names : NoAttr K (He.ga K "Sheet") "names"
  na_Sheet_direct : NoAttr K (He.ga K "Sheet") "direct"
  na_Sheet_order : NoAttr K (He.ga K "Sheet") "order"
  na_Sheet_shown : NoAttr K (He.ga K "Sheet") "shown"
  mt_Sheet_fill : Meth K (He.ga K "Sheet") "fill" (He.ma K (He.ga K "Sheet") "fill")
  sp_Sheet_contains : PySem.W.findIn K (.ref (He.ga K "Sheet")) "__contains__" = some (some (.ref (He.ma K (He.ga K "Sheet") "__contains__"))) ∧ PySem.W.isFn K (.ref (He.ma K (He.ga K "Sheet") "__contains__")) = true
  sp_Sheet_len : PySem.W.findIn K (.ref (He.ga K "Sheet")) "__len__" = some (some (.ref (He.ma K (He.ga K "Sheet") "__len__"))) ∧ PySem.W.isFn K (.ref (He.ma K (He.ga K "Sheet") "__len__")) = true
  sp_Sheet_eq : PySem.W.findIn K (.ref (He.ga K "Sheet")) "__eq__" = some (some (.ref (He.ma K (He.ga K "Sheet") "__eq__"))) ∧ PySem.W.isFn K (.ref (He.ma K (He.ga K "Sheet") "__eq__")) = true
  pr_Sheet_rows : PropOf K (He.ga K "Sheet") "rows" (He.ma K (He.ga K "Sheet") "rows") (pgA K (He.ga K "Sheet") "rows")
  pr_Sheet_needs : PropOf K (He.ga K "Sheet") "needs" (He.ma K (He.ga K "Sheet") "needs") (pgA K (He.ga K "Sheet") "needs")
  cm_Sheet_of : ClX.CRead K (He.ga K "Sheet") (.type "type") ∧ ClX.CMet K (He.ga K "Sheet") (.type "type") "of" (He.ma K (He.ga K "Sheet") "of") (cmA K (He.ga K "Sheet") "of")
  is_Sheet : C8.InsC K (He.ga K "Sheet")
  sf_Keep : PySem.W.selfFirst K (He.ga K "Keep") = true
  ne_Keep : PySem.W.findIn K (.ref (He.ga K "Keep")) "__ne__" = some (some (.builtin "object.__ne__"))
  f_closure : ∃ fd, FnT K "closure" "closure" s_closure [] (He.ga K "closure") fd
  f_is_name : ∃ fd, FnT K "is_name" "is_name" s_is_name [] (He.ga K "is_name") fd
  f_is_integer : ∃ fd, FnT K "is_integer" "is_integer" s_is_integer [] (He.ga K "is_integer") fd
  f_is_between : ∃ fd, FnT K "is_between" "is_between" s_is_between [] (He.ga K "is_between") fd
  f_need_room : ∃ fd, FnT K "need_room" "need_room" s_need_room [("most", V.int 120)] (He.ga K "need_room") fd
  f_is_copy : ∃ fd, FnT K "is_copy" "is_copy" s_is_copy [] (He.ga K "is_copy") fd
  f_place_in : ∃ fd, FnT K "place_in" "place_in" s_place_in [] (He.ga K "place_in") fd
  f_is_bar : ∃ fd, FnT K "is_bar" "is_bar" s_is_bar [] (He.ga K "is_bar") fd
  f_copies_of : ∃ fd, FnT K "copies_of" "copies_of" s_copies_of [] (He.ga K "copies_of") fd
  f_row_text : ∃ fd, FnT K "row_text" "row_text" s_row_text [] (He.ga K "row_text") fd
  f_sheet_text : ∃ fd, FnT K "sheet_text" "sheet_text" s_sheet_text [] (He.ga K "sheet_text") fd
  f_copies_text : ∃ fd, FnT K "copies_text" "copies_text" s_copies_text [] (He.ga K "copies_text") fd
  f_need_copies : ∃ fd, FnT K "need_copies" "need_copies" s_need_copies [] (He.ga K "need_copies") fd
  f_links_of : ∃ fd, FnT K "links_of" "links_of" s_links_of [] (He.ga K "links_of") fd
  f_flow_of : ∃ fd, FnT K "flow_of" "flow_of" s_flow_of [] (He.ga K "flow_of") fd
  f_fewest_moves : ∃ fd, FnT K "fewest_moves" "fewest_moves" s_fewest_moves [] (He.ga K "fewest_moves") fd
  f_first_keep : ∃ fd, FnT K "first_keep" "first_keep" s_first_keep [] (He.ga K "first_keep") fd
  f_last_keep : ∃ fd, FnT K "last_keep" "last_keep" s_last_keep [] (He.ga K "last_keep") fd
  f_unfinished : ∃ fd, FnT K "unfinished" "unfinished" s_unfinished [] (He.ga K "unfinished") fd
  f_ring_in : ∃ fd, FnT K "ring_in" "ring_in" s_ring_in [] (He.ga K "ring_in") fd
  f_first_wrong : ∃ fd, FnT K "first_wrong" "first_wrong" s_first_wrong [] (He.ga K "first_wrong") fd
  f_are_needs : ∃ fd, FnT K "are_needs" "are_needs" s_are_needs [] (He.ga K "are_needs") fd
  f_need_rows : ∃ fd, FnT K "need_rows" "need_rows" s_need_rows [] (He.ga K "need_rows") fd
  f_need_needs : ∃ fd, FnT K "need_needs" "need_needs" s_need_needs [] (He.ga K "need_needs") fd
  f_law_pen : ∃ fd, FnT K "_law_pen" "_law_pen" s_law_pen [] (He.ga K "_law_pen") fd
  f_law_draw : ∃ fd, FnT K "_law_draw" "_law_draw" s_law_draw [] (He.ga K "_law_draw") fd
  f_law_shuffled : ∃ fd, FnT K "_law_shuffled" "_law_shuffled" s_law_shuffled [] (He.ga K "_law_shuffled") fd
  f_law_names : ∃ fd, FnT K "_law_names" "_law_names" s_law_names [] (He.ga K "_law_names") fd
  f_law_plan : ∃ fd, FnT K "_law_plan" "_law_plan" s_law_plan [] (He.ga K "_law_plan") fd
  f_law_page : ∃ fd, FnT K "_law_page" "_law_page" s_law_page [] (He.ga K "_law_page") fd
  f_law_below : ∃ fd, FnT K "_law_below" "_law_below" s_law_below [] (He.ga K "_law_below") fd
  f_law_bars : ∃ fd, FnT K "_law_bars" "_law_bars" s_law_bars [] (He.ga K "_law_bars") fd
  f_law_fits : ∃ fd, FnT K "_law_fits" "_law_fits" s_law_fits [] (He.ga K "_law_fits") fd
  f_law_keeps : ∃ fd, FnT K "_law_keeps" "_law_keeps" s_law_keeps [] (He.ga K "_law_keeps") fd
  f_law_best : ∃ fd, FnT K "_law_best" "_law_best" s_law_best [] (He.ga K "_law_best") fd
  f_law_size : ∃ fd, FnT K "_law_size" "_law_size" s_law_size [] (He.ga K "_law_size") fd
  f_law_three_right : ∃ fd, FnT K "_law_three_right" "_law_three_right" s_law_three_right [] (He.ga K "_law_three_right") fd
  f_law : ∃ fd, FnT K "law" "law" s_law [] (He.ga K "law") fd
  f_Keep_init : ∃ fd, FnT K "__init__" "Keep.__init__" s_Keep_init [] (He.ma K (He.ga K "Keep") "__init__") fd
  f_Keep_both : ∃ fd, FnT K "both" "Keep.both" s_Keep_both [] (He.ma K (He.ga K "Keep") "both") fd
  f_Keep_is_under : ∃ fd, FnT K "is_under" "Keep.is_under" s_Keep_is_under [] (He.ma K (He.ga K "Keep") "is_under") fd
  f_Keep_earlier_than : ∃ fd, FnT K "earlier_than" "Keep.earlier_than" s_Keep_earlier_than [] (He.ma K (He.ga K "Keep") "earlier_than") fd
  f_Keep_len : ∃ fd, FnT K "__len__" "Keep.__len__" s_Keep_len [] (He.ma K (He.ga K "Keep") "__len__") fd
  f_Keep_eq : ∃ fd, FnT K "__eq__" "Keep.__eq__" s_Keep_eq [] (He.ma K (He.ga K "Keep") "__eq__") fd
  f_Keep_or : ∃ fd, FnT K "__or__" "Keep.__or__" s_Keep_or [] (He.ma K (He.ga K "Keep") "__or__") fd
  f_Keep_and : ∃ fd, FnT K "__and__" "Keep.__and__" s_Keep_and [] (He.ma K (He.ga K "Keep") "__and__") fd
  f_Keep_copies : ∃ fd, FnT K "copies" "Keep.copies" s_Keep_copies [] (pgA K (He.ga K "Keep") "copies") fd
  f_Keep_of : ∃ fd, FnT K "of" "Keep.of" s_Keep_of [] (cmA K (He.ga K "Keep") "of") fd
  f_Flow_init : ∃ fd, FnT K "__init__" "Flow.__init__" s_Flow_init [] (He.ma K (He.ga K "Flow") "__init__") fd
  f_Flow_push : ∃ fd, FnT K "push" "Flow.push" s_Flow_push [] (He.ma K (He.ga K "Flow") "push") fd
  f_Flow_turn : ∃ fd, FnT K "turn" "Flow.turn" s_Flow_turn [] (He.ma K (He.ga K "Flow") "turn") fd
  f_Flow_lower : ∃ fd, FnT K "lower" "Flow.lower" s_Flow_lower [] (He.ma K (He.ga K "Flow") "lower") fd
  f_Flow_reached_down : ∃ fd, FnT K "reached_down" "Flow.reached_down" s_Flow_reached_down [] (He.ma K (He.ga K "Flow") "reached_down") fd
  f_Flow_reached_up : ∃ fd, FnT K "reached_up" "Flow.reached_up" s_Flow_reached_up [] (He.ma K (He.ga K "Flow") "reached_up") fd
  f_Flow_first_free : ∃ fd, FnT K "first_free" "Flow.first_free" s_Flow_first_free [] (He.ma K (He.ga K "Flow") "first_free") fd
  f_Flow_last_free : ∃ fd, FnT K "last_free" "Flow.last_free" s_Flow_last_free [] (He.ma K (He.ga K "Flow") "last_free") fd
  f_Sheet_init : ∃ fd, FnT K "__init__" "Sheet.__init__" s_Sheet_init [] (He.ma K (He.ga K "Sheet") "__init__") fd
  f_Sheet_fill : ∃ fd, FnT K "fill" "Sheet.fill" s_Sheet_fill [] (He.ma K (He.ga K "Sheet") "fill") fd
  f_Sheet_contains : ∃ fd, FnT K "__contains__" "Sheet.__contains__" s_Sheet_contains [] (He.ma K (He.ga K "Sheet") "__contains__") fd
  f_Sheet_len : ∃ fd, FnT K "__len__" "Sheet.__len__" s_Sheet_len [] (He.ma K (He.ga K "Sheet") "__len__") fd
  f_Sheet_eq : ∃ fd, FnT K "__eq__" "Sheet.__eq__" s_Sheet_eq [] (He.ma K (He.ga K "Sheet") "__eq__") fd
  f_Sheet_rows : ∃ fd, FnT K "rows" "Sheet.rows" s_Sheet_rows [] (pgA K (He.ga K "Sheet") "rows") fd
  f_Sheet_needs : ∃ fd, FnT K "needs" "Sheet.needs" s_Sheet_needs [] (pgA K (He.ga K "Sheet") "needs") fd
  f_Sheet_of : ∃ fd, FnT K "of" "Sheet.of" s_Sheet_of [] (cmA K (He.ga K "Sheet") "of") fd
/-! ### the hook -/
def fa0 : List He.Fa := [.glo "closure", .glo "is_name", .glo "is_integer", .glo "is_between", .glo "need_room", .glo "is_copy", .glo "place_in", .glo "is_bar", .glo "copies_of", .glo "row_text", .glo "sheet_text", .glo "copies_text", .glo "need_copies", .glo "links_of", .glo "flow_of", .glo "fewest_moves", .glo "first_keep", .glo "last_keep", .glo "unfinished", .glo "ring_in", .glo "first_wrong", .glo "are_needs", .glo "need_rows", .glo "need_needs", .glo "_law_pen"]
def fa1 : List He.Fa := [.glo "_law_draw", .glo "_law_shuffled", .glo "_law_names", .glo "_law_plan", .glo "_law_page", .glo "_law_below", .glo "_law_bars", .glo "_law_fits", .glo "_law_keeps", .glo "_law_best", .glo "_law_size", .glo "_law_three_right", .glo "law", .glo "Keep", .glo "Flow", .glo "Sheet", .free "len", .free "all", .free "any", .free "isinstance", .free "range", .free "enumerate", .free "tuple", .free "list", .free "dict"]
def fa2 : List He.Fa := [.free "sorted", .free "set", .free "str", .free "int", .free "bool", .free "max", .free "min", .free "abs", .int "LONGEST_NAME" 8, .int "MOST_PASSES" 60, .int "MOST_COPIES" 120, .int "LIMIT" 60, .str "LETTERS" "abcdefghijklmnopqrstuvwxyz", .str "NOTHING" "-", .cls "Keep", .mkr "Keep", .noat "Keep" "base", .noat "Keep" "many", .noat "Keep" "order", .noat "Keep" "below", .noat "Keep" "by", .noat "Keep" "key", .noat "Keep" "shown", .meth "Keep" "both", .meth "Keep" "is_under"]
def fa3 : List He.Fa := [.meth "Keep" "earlier_than", .cls "Flow", .mkr "Flow", .noat "Flow" "links", .noat "Flow" "left", .noat "Flow" "right", .noat "Flow" "amounts", .noat "Flow" "givers", .meth "Flow" "push", .meth "Flow" "turn", .meth "Flow" "lower", .meth "Flow" "reached_down", .meth "Flow" "reached_up", .meth "Flow" "first_free", .meth "Flow" "last_free", .cls "Sheet", .mkr "Sheet", .noat "Sheet" "names", .noat "Sheet" "direct", .noat "Sheet" "order", .noat "Sheet" "shown", .meth "Sheet" "fill"]
def fa : List He.Fa := fa0 ++ (fa1 ++ (fa2 ++ (fa3)))
def ck : List (PySem.W.Frag → Bool) := [fun K => spB K (He.ga K "Keep") "__len__", fun K => spB K (He.ga K "Keep") "__eq__", fun K => spB K (He.ga K "Keep") "__or__", fun K => spB K (He.ga K "Keep") "__and__", fun K => propB K (He.ga K "Keep") "copies", fun K => cmB K (He.ga K "Keep") "of", fun K => insB K (He.ga K "Keep"), fun K => spB K (He.ga K "Sheet") "__contains__", fun K => spB K (He.ga K "Sheet") "__len__", fun K => spB K (He.ga K "Sheet") "__eq__", fun K => propB K (He.ga K "Sheet") "rows", fun K => propB K (He.ga K "Sheet") "needs", fun K => cmB K (He.ga K "Sheet") "of", fun K => insB K (He.ga K "Sheet"), fun K => selfB K (He.ga K "Keep"), fun K => neB K (He.ga K "Keep")]
def d_closure : DefA := ⟨fun K => (He.ga K "closure"), "closure", "closure", s_closure, []⟩
def d_is_name : DefA := ⟨fun K => (He.ga K "is_name"), "is_name", "is_name", s_is_name, []⟩
def d_is_integer : DefA := ⟨fun K => (He.ga K "is_integer"), "is_integer", "is_integer", s_is_integer, []⟩
def d_is_between : DefA := ⟨fun K => (He.ga K "is_between"), "is_between", "is_between", s_is_between, []⟩
def d_need_room : DefA := ⟨fun K => (He.ga K "need_room"), "need_room", "need_room", s_need_room, [("most", V.int 120)]⟩
def d_is_copy : DefA := ⟨fun K => (He.ga K "is_copy"), "is_copy", "is_copy", s_is_copy, []⟩
def d_place_in : DefA := ⟨fun K => (He.ga K "place_in"), "place_in", "place_in", s_place_in, []⟩
def d_is_bar : DefA := ⟨fun K => (He.ga K "is_bar"), "is_bar", "is_bar", s_is_bar, []⟩
def d_copies_of : DefA := ⟨fun K => (He.ga K "copies_of"), "copies_of", "copies_of", s_copies_of, []⟩
def d_row_text : DefA := ⟨fun K => (He.ga K "row_text"), "row_text", "row_text", s_row_text, []⟩
def d_sheet_text : DefA := ⟨fun K => (He.ga K "sheet_text"), "sheet_text", "sheet_text", s_sheet_text, []⟩
def d_copies_text : DefA := ⟨fun K => (He.ga K "copies_text"), "copies_text", "copies_text", s_copies_text, []⟩
def d_need_copies : DefA := ⟨fun K => (He.ga K "need_copies"), "need_copies", "need_copies", s_need_copies, []⟩
def d_links_of : DefA := ⟨fun K => (He.ga K "links_of"), "links_of", "links_of", s_links_of, []⟩
def d_flow_of : DefA := ⟨fun K => (He.ga K "flow_of"), "flow_of", "flow_of", s_flow_of, []⟩
def d_fewest_moves : DefA := ⟨fun K => (He.ga K "fewest_moves"), "fewest_moves", "fewest_moves", s_fewest_moves, []⟩
def d_first_keep : DefA := ⟨fun K => (He.ga K "first_keep"), "first_keep", "first_keep", s_first_keep, []⟩
def d_last_keep : DefA := ⟨fun K => (He.ga K "last_keep"), "last_keep", "last_keep", s_last_keep, []⟩
def d_unfinished : DefA := ⟨fun K => (He.ga K "unfinished"), "unfinished", "unfinished", s_unfinished, []⟩
def d_ring_in : DefA := ⟨fun K => (He.ga K "ring_in"), "ring_in", "ring_in", s_ring_in, []⟩
def d_first_wrong : DefA := ⟨fun K => (He.ga K "first_wrong"), "first_wrong", "first_wrong", s_first_wrong, []⟩
def d_are_needs : DefA := ⟨fun K => (He.ga K "are_needs"), "are_needs", "are_needs", s_are_needs, []⟩
def d_need_rows : DefA := ⟨fun K => (He.ga K "need_rows"), "need_rows", "need_rows", s_need_rows, []⟩
def d_need_needs : DefA := ⟨fun K => (He.ga K "need_needs"), "need_needs", "need_needs", s_need_needs, []⟩
def d_law_pen : DefA := ⟨fun K => (He.ga K "_law_pen"), "_law_pen", "_law_pen", s_law_pen, []⟩
def d_law_draw : DefA := ⟨fun K => (He.ga K "_law_draw"), "_law_draw", "_law_draw", s_law_draw, []⟩
def d_law_shuffled : DefA := ⟨fun K => (He.ga K "_law_shuffled"), "_law_shuffled", "_law_shuffled", s_law_shuffled, []⟩
def d_law_names : DefA := ⟨fun K => (He.ga K "_law_names"), "_law_names", "_law_names", s_law_names, []⟩
def d_law_plan : DefA := ⟨fun K => (He.ga K "_law_plan"), "_law_plan", "_law_plan", s_law_plan, []⟩
def d_law_page : DefA := ⟨fun K => (He.ga K "_law_page"), "_law_page", "_law_page", s_law_page, []⟩
def d_law_below : DefA := ⟨fun K => (He.ga K "_law_below"), "_law_below", "_law_below", s_law_below, []⟩
def d_law_bars : DefA := ⟨fun K => (He.ga K "_law_bars"), "_law_bars", "_law_bars", s_law_bars, []⟩
def d_law_fits : DefA := ⟨fun K => (He.ga K "_law_fits"), "_law_fits", "_law_fits", s_law_fits, []⟩
def d_law_keeps : DefA := ⟨fun K => (He.ga K "_law_keeps"), "_law_keeps", "_law_keeps", s_law_keeps, []⟩
def d_law_best : DefA := ⟨fun K => (He.ga K "_law_best"), "_law_best", "_law_best", s_law_best, []⟩
def d_law_size : DefA := ⟨fun K => (He.ga K "_law_size"), "_law_size", "_law_size", s_law_size, []⟩
def d_law_three_right : DefA := ⟨fun K => (He.ga K "_law_three_right"), "_law_three_right", "_law_three_right", s_law_three_right, []⟩
def d_law : DefA := ⟨fun K => (He.ga K "law"), "law", "law", s_law, []⟩
def d_Keep_init : DefA := ⟨fun K => (He.ma K (He.ga K "Keep") "__init__"), "__init__", "Keep.__init__", s_Keep_init, []⟩
def d_Keep_both : DefA := ⟨fun K => (He.ma K (He.ga K "Keep") "both"), "both", "Keep.both", s_Keep_both, []⟩
def d_Keep_is_under : DefA := ⟨fun K => (He.ma K (He.ga K "Keep") "is_under"), "is_under", "Keep.is_under", s_Keep_is_under, []⟩
def d_Keep_earlier_than : DefA := ⟨fun K => (He.ma K (He.ga K "Keep") "earlier_than"), "earlier_than", "Keep.earlier_than", s_Keep_earlier_than, []⟩
def d_Keep_len : DefA := ⟨fun K => (He.ma K (He.ga K "Keep") "__len__"), "__len__", "Keep.__len__", s_Keep_len, []⟩
def d_Keep_eq : DefA := ⟨fun K => (He.ma K (He.ga K "Keep") "__eq__"), "__eq__", "Keep.__eq__", s_Keep_eq, []⟩
def d_Keep_or : DefA := ⟨fun K => (He.ma K (He.ga K "Keep") "__or__"), "__or__", "Keep.__or__", s_Keep_or, []⟩
def d_Keep_and : DefA := ⟨fun K => (He.ma K (He.ga K "Keep") "__and__"), "__and__", "Keep.__and__", s_Keep_and, []⟩
def d_Keep_copies : DefA := ⟨fun K => (pgA K (He.ga K "Keep") "copies"), "copies", "Keep.copies", s_Keep_copies, []⟩
def d_Keep_of : DefA := ⟨fun K => (cmA K (He.ga K "Keep") "of"), "of", "Keep.of", s_Keep_of, []⟩
def d_Flow_init : DefA := ⟨fun K => (He.ma K (He.ga K "Flow") "__init__"), "__init__", "Flow.__init__", s_Flow_init, []⟩
def d_Flow_push : DefA := ⟨fun K => (He.ma K (He.ga K "Flow") "push"), "push", "Flow.push", s_Flow_push, []⟩
def d_Flow_turn : DefA := ⟨fun K => (He.ma K (He.ga K "Flow") "turn"), "turn", "Flow.turn", s_Flow_turn, []⟩
def d_Flow_lower : DefA := ⟨fun K => (He.ma K (He.ga K "Flow") "lower"), "lower", "Flow.lower", s_Flow_lower, []⟩
def d_Flow_reached_down : DefA := ⟨fun K => (He.ma K (He.ga K "Flow") "reached_down"), "reached_down", "Flow.reached_down", s_Flow_reached_down, []⟩
def d_Flow_reached_up : DefA := ⟨fun K => (He.ma K (He.ga K "Flow") "reached_up"), "reached_up", "Flow.reached_up", s_Flow_reached_up, []⟩
def d_Flow_first_free : DefA := ⟨fun K => (He.ma K (He.ga K "Flow") "first_free"), "first_free", "Flow.first_free", s_Flow_first_free, []⟩
def d_Flow_last_free : DefA := ⟨fun K => (He.ma K (He.ga K "Flow") "last_free"), "last_free", "Flow.last_free", s_Flow_last_free, []⟩
def d_Sheet_init : DefA := ⟨fun K => (He.ma K (He.ga K "Sheet") "__init__"), "__init__", "Sheet.__init__", s_Sheet_init, []⟩
def d_Sheet_fill : DefA := ⟨fun K => (He.ma K (He.ga K "Sheet") "fill"), "fill", "Sheet.fill", s_Sheet_fill, []⟩
def d_Sheet_contains : DefA := ⟨fun K => (He.ma K (He.ga K "Sheet") "__contains__"), "__contains__", "Sheet.__contains__", s_Sheet_contains, []⟩
def d_Sheet_len : DefA := ⟨fun K => (He.ma K (He.ga K "Sheet") "__len__"), "__len__", "Sheet.__len__", s_Sheet_len, []⟩
def d_Sheet_eq : DefA := ⟨fun K => (He.ma K (He.ga K "Sheet") "__eq__"), "__eq__", "Sheet.__eq__", s_Sheet_eq, []⟩
def d_Sheet_rows : DefA := ⟨fun K => (pgA K (He.ga K "Sheet") "rows"), "rows", "Sheet.rows", s_Sheet_rows, []⟩
def d_Sheet_needs : DefA := ⟨fun K => (pgA K (He.ga K "Sheet") "needs"), "needs", "Sheet.needs", s_Sheet_needs, []⟩
def d_Sheet_of : DefA := ⟨fun K => (cmA K (He.ga K "Sheet") "of"), "of", "Sheet.of", s_Sheet_of, []⟩
def fn0 : List DefA := [d_closure, d_is_name, d_is_integer, d_is_between, d_need_room, d_is_copy, d_place_in, d_is_bar, d_copies_of, d_row_text, d_sheet_text, d_copies_text, d_need_copies, d_links_of, d_flow_of, d_fewest_moves, d_first_keep, d_last_keep, d_unfinished, d_ring_in, d_first_wrong, d_are_needs, d_need_rows, d_need_needs, d_law_pen]
def fn1 : List DefA := [d_law_draw, d_law_shuffled, d_law_names, d_law_plan, d_law_page, d_law_below, d_law_bars, d_law_fits, d_law_keeps, d_law_best, d_law_size, d_law_three_right, d_law, d_Keep_init, d_Keep_both, d_Keep_is_under, d_Keep_earlier_than, d_Keep_len, d_Keep_eq, d_Keep_or, d_Keep_and, d_Keep_copies, d_Keep_of, d_Flow_init, d_Flow_push]
def fn2 : List DefA := [d_Flow_turn, d_Flow_lower, d_Flow_reached_down, d_Flow_reached_up, d_Flow_first_free, d_Flow_last_free, d_Sheet_init, d_Sheet_fill, d_Sheet_contains, d_Sheet_len, d_Sheet_eq, d_Sheet_rows, d_Sheet_needs, d_Sheet_of]
def fn : List DefA := fn0 ++ (fn1 ++ (fn2))
abbrev Al : Type := Bool × List He.FnW
def obsM (K : PySem.W.Frag) : Al := ((fa.all fun f => f.ok K) && ((ck.all fun b => b K) && fn.all fun d => d.ok K), fn.map fun d => fnA K (d.ad K))
def valM : Al := (true, fn.map DefA.val)
def SaysM (K : PySem.W.Frag) : Prop := obsM K = valM
def allA (n : Nat) : List Addr := (List.range n).reverse
def hk : PySem.W.Hook where
  α := Al
  obs := fun s => obsM (He.frG s.heap.get? (allA s.heap.objs.size))
  val := fun _ => valM
  says := fun _ h => ∃ K : PySem.W.Frag, K.In h ∧ SaysM K
  of := fun _ _ e => ⟨_, He.frG_in, e⟩
  keeps := fun _ _ _ ⟨K, hK, c⟩ k => ⟨K, PySem.W.Frag.In.keeps hK k, c⟩
noncomputable def ob (s : PySem.W.SharedT) : Al := obsM (He.frG (HandSHeadRun.getT s) (allA s.n))
theorem ob_eq (s : PySem.W.SharedT) : ob s = hk.obs s.abs := by
  have e : HandSHeadRun.getT s = s.abs.heap.get? := funext (HandSHeadRun.getT_eq s)
  have n : s.n = s.abs.heap.objs.size := (PySem.W.absHeap_size s.tree s.n s.life).symm
  show obsM _ = obsM _
  rw [e, n]
section
variable {K : PySem.W.Frag}
theorem SaysM.fact (c : SaysM K) (i : Nat) {f : He.Fa} (h : fa[i]? = some f) : f.ok K = true := by
  have c1 := (He.ba (show ((fa.all fun f => f.ok K) && ((ck.all fun b => b K) && fn.all fun d => d.ok K)) = true from congrArg (fun z : Al => z.1) c)).1
  exact List.all_eq_true.mp c1 f (List.mem_of_getElem? h)
theorem SaysM.look (c : SaysM K) (i : Nat) {b : PySem.W.Frag → Bool} (h : ck[i]? = some b) : b K = true := by
  have c1 := (He.ba (show ((fa.all fun f => f.ok K) && ((ck.all fun b => b K) && fn.all fun d => d.ok K)) = true from congrArg (fun z : Al => z.1) c)).2
  exact List.all_eq_true.mp (He.ba c1).1 b (List.mem_of_getElem? h)
theorem SaysM.def_ (c : SaysM K) (i : Nat) {d : DefA} (h : fn[i]? = some d) : ∃ fd, FnT K d.name d.qual d.st d.kwd (d.ad K) fd := by
  have c1 := (He.ba (show ((fa.all fun f => f.ok K) && ((ck.all fun b => b K) && fn.all fun d => d.ok K)) = true from congrArg (fun z : Al => z.1) c)).2
  have e : fn.map (fun d => fnA K (d.ad K)) = fn.map DefA.val := congrArg (fun z : Al => z.2) c
  have e2 : (fn.map fun d => fnA K (d.ad K))[i]? = (fn.map DefA.val)[i]? := by rw [e]
  rw [List.getElem?_map, List.getElem?_map, h] at e2
  exact DefA.funD (Option.some.inj e2) (List.all_eq_true.mp (He.ba c1).2 d (List.mem_of_getElem? h))
theorem tx_of {h : Heap} {mg : Str → Option Value} (X : K.In h) (N : h.Ns mainGlobals mg) (c : SaysM K) : Tx K mg where
  g_closure := He.glo_ok X N (c.fact 0 (f := .glo "closure") rfl)
  g_is_name := He.glo_ok X N (c.fact 1 (f := .glo "is_name") rfl)
  g_is_integer := He.glo_ok X N (c.fact 2 (f := .glo "is_integer") rfl)
  g_is_between := He.glo_ok X N (c.fact 3 (f := .glo "is_between") rfl)
  g_need_room := He.glo_ok X N (c.fact 4 (f := .glo "need_room") rfl)
  g_is_copy := He.glo_ok X N (c.fact 5 (f := .glo "is_copy") rfl)
  g_place_in := He.glo_ok X N (c.fact 6 (f := .glo "place_in") rfl)
  g_is_bar := He.glo_ok X N (c.fact 7 (f := .glo "is_bar") rfl)
  g_copies_of := He.glo_ok X N (c.fact 8 (f := .glo "copies_of") rfl)
  g_row_text := He.glo_ok X N (c.fact 9 (f := .glo "row_text") rfl)
  g_sheet_text := He.glo_ok X N (c.fact 10 (f := .glo "sheet_text") rfl)
  g_copies_text := He.glo_ok X N (c.fact 11 (f := .glo "copies_text") rfl)
  g_need_copies := He.glo_ok X N (c.fact 12 (f := .glo "need_copies") rfl)
  g_links_of := He.glo_ok X N (c.fact 13 (f := .glo "links_of") rfl)
  g_flow_of := He.glo_ok X N (c.fact 14 (f := .glo "flow_of") rfl)
  g_fewest_moves := He.glo_ok X N (c.fact 15 (f := .glo "fewest_moves") rfl)
  g_first_keep := He.glo_ok X N (c.fact 16 (f := .glo "first_keep") rfl)
  g_last_keep := He.glo_ok X N (c.fact 17 (f := .glo "last_keep") rfl)
  g_unfinished := He.glo_ok X N (c.fact 18 (f := .glo "unfinished") rfl)
  g_ring_in := He.glo_ok X N (c.fact 19 (f := .glo "ring_in") rfl)
  g_first_wrong := He.glo_ok X N (c.fact 20 (f := .glo "first_wrong") rfl)
  g_are_needs := He.glo_ok X N (c.fact 21 (f := .glo "are_needs") rfl)
  g_need_rows := He.glo_ok X N (c.fact 22 (f := .glo "need_rows") rfl)
  g_need_needs := He.glo_ok X N (c.fact 23 (f := .glo "need_needs") rfl)
  g_law_pen := He.glo_ok X N (c.fact 24 (f := .glo "_law_pen") rfl)
  g_law_draw := He.glo_ok X N (c.fact 25 (f := .glo "_law_draw") rfl)
  g_law_shuffled := He.glo_ok X N (c.fact 26 (f := .glo "_law_shuffled") rfl)
  g_law_names := He.glo_ok X N (c.fact 27 (f := .glo "_law_names") rfl)
  g_law_plan := He.glo_ok X N (c.fact 28 (f := .glo "_law_plan") rfl)
  g_law_page := He.glo_ok X N (c.fact 29 (f := .glo "_law_page") rfl)
  g_law_below := He.glo_ok X N (c.fact 30 (f := .glo "_law_below") rfl)
  g_law_bars := He.glo_ok X N (c.fact 31 (f := .glo "_law_bars") rfl)
  g_law_fits := He.glo_ok X N (c.fact 32 (f := .glo "_law_fits") rfl)
  g_law_keeps := He.glo_ok X N (c.fact 33 (f := .glo "_law_keeps") rfl)
  g_law_best := He.glo_ok X N (c.fact 34 (f := .glo "_law_best") rfl)
  g_law_size := He.glo_ok X N (c.fact 35 (f := .glo "_law_size") rfl)
  g_law_three_right := He.glo_ok X N (c.fact 36 (f := .glo "_law_three_right") rfl)
  g_law := He.glo_ok X N (c.fact 37 (f := .glo "law") rfl)
  g_Keep := He.glo_ok X N (c.fact 38 (f := .glo "Keep") rfl)
  g_Flow := He.glo_ok X N (c.fact 39 (f := .glo "Flow") rfl)
  g_Sheet := He.glo_ok X N (c.fact 40 (f := .glo "Sheet") rfl)
  b_len := He.free_ok X N (c.fact 41 (f := .free "len") rfl)
  b_all := He.free_ok X N (c.fact 42 (f := .free "all") rfl)
  b_any := He.free_ok X N (c.fact 43 (f := .free "any") rfl)
  b_isinstance := He.free_ok X N (c.fact 44 (f := .free "isinstance") rfl)
  b_range := He.free_ok X N (c.fact 45 (f := .free "range") rfl)
  b_enumerate := He.free_ok X N (c.fact 46 (f := .free "enumerate") rfl)
  b_tuple := He.free_ok X N (c.fact 47 (f := .free "tuple") rfl)
  b_list := He.free_ok X N (c.fact 48 (f := .free "list") rfl)
  b_dict := He.free_ok X N (c.fact 49 (f := .free "dict") rfl)
  b_sorted := He.free_ok X N (c.fact 50 (f := .free "sorted") rfl)
  b_set := He.free_ok X N (c.fact 51 (f := .free "set") rfl)
  b_str := He.free_ok X N (c.fact 52 (f := .free "str") rfl)
  b_int := He.free_ok X N (c.fact 53 (f := .free "int") rfl)
  b_bool := He.free_ok X N (c.fact 54 (f := .free "bool") rfl)
  b_max := He.free_ok X N (c.fact 55 (f := .free "max") rfl)
  b_min := He.free_ok X N (c.fact 56 (f := .free "min") rfl)
  b_abs := He.free_ok X N (c.fact 57 (f := .free "abs") rfl)
  i_LONGEST_NAME := He.int_ok X N (c.fact 58 (f := .int "LONGEST_NAME" 8) rfl)
  i_MOST_PASSES := He.int_ok X N (c.fact 59 (f := .int "MOST_PASSES" 60) rfl)
  i_MOST_COPIES := He.int_ok X N (c.fact 60 (f := .int "MOST_COPIES" 120) rfl)
  i_LIMIT := He.int_ok X N (c.fact 61 (f := .int "LIMIT" 60) rfl)
  t_LETTERS := He.str_ok X N (c.fact 62 (f := .str "LETTERS" "abcdefghijklmnopqrstuvwxyz") rfl)
  t_NOTHING := He.str_ok X N (c.fact 63 (f := .str "NOTHING" "-") rfl)
  cl_Keep := He.cls_ok (c.fact 64 (f := .cls "Keep") rfl)
  mk_Keep := He.mkr_ok (c.fact 65 (f := .mkr "Keep") rfl)
  na_Keep_base := He.noat_ok (c.fact 66 (f := .noat "Keep" "base") rfl)
  na_Keep_many := He.noat_ok (c.fact 67 (f := .noat "Keep" "many") rfl)
  na_Keep_order := He.noat_ok (c.fact 68 (f := .noat "Keep" "order") rfl)
  na_Keep_below := He.noat_ok (c.fact 69 (f := .noat "Keep" "below") rfl)
  na_Keep_by := He.noat_ok (c.fact 70 (f := .noat "Keep" "by") rfl)
  na_Keep_key := He.noat_ok (c.fact 71 (f := .noat "Keep" "key") rfl)
  na_Keep_shown := He.noat_ok (c.fact 72 (f := .noat "Keep" "shown") rfl)
  mt_Keep_both := He.meth_ok (c.fact 73 (f := .meth "Keep" "both") rfl)
  mt_Keep_is_under := He.meth_ok (c.fact 74 (f := .meth "Keep" "is_under") rfl)
  mt_Keep_earlier_than := He.meth_ok (c.fact 75 (f := .meth "Keep" "earlier_than") rfl)
  sp_Keep_len := spB_ok (c.look 0 (b := fun K => spB K (He.ga K "Keep") "__len__") rfl)
  sp_Keep_eq := spB_ok (c.look 1 (b := fun K => spB K (He.ga K "Keep") "__eq__") rfl)
  sp_Keep_or := spB_ok (c.look 2 (b := fun K => spB K (He.ga K "Keep") "__or__") rfl)
  sp_Keep_and := spB_ok (c.look 3 (b := fun K => spB K (He.ga K "Keep") "__and__") rfl)
  pr_Keep_copies := propB_ok (c.look 4 (b := fun K => propB K (He.ga K "Keep") "copies") rfl)
  cm_Keep_of := cmB_ok (c.look 5 (b := fun K => cmB K (He.ga K "Keep") "of") rfl)
  is_Keep := insB_ok (He.cls_ok (c.fact 64 (f := .cls "Keep") rfl)) (c.look 6 (b := fun K => insB K (He.ga K "Keep")) rfl)
  cl_Flow := He.cls_ok (c.fact 76 (f := .cls "Flow") rfl)
  mk_Flow := He.mkr_ok (c.fact 77 (f := .mkr "Flow") rfl)
  na_Flow_links := He.noat_ok (c.fact 78 (f := .noat "Flow" "links") rfl)
  na_Flow_left := He.noat_ok (c.fact 79 (f := .noat "Flow" "left") rfl)
  na_Flow_right := He.noat_ok (c.fact 80 (f := .noat "Flow" "right") rfl)
  na_Flow_amounts := He.noat_ok (c.fact 81 (f := .noat "Flow" "amounts") rfl)
  na_Flow_givers := He.noat_ok (c.fact 82 (f := .noat "Flow" "givers") rfl)
  mt_Flow_push := He.meth_ok (c.fact 83 (f := .meth "Flow" "push") rfl)
  mt_Flow_turn := He.meth_ok (c.fact 84 (f := .meth "Flow" "turn") rfl)
  mt_Flow_lower := He.meth_ok (c.fact 85 (f := .meth "Flow" "lower") rfl)
  mt_Flow_reached_down := He.meth_ok (c.fact 86 (f := .meth "Flow" "reached_down") rfl)
  mt_Flow_reached_up := He.meth_ok (c.fact 87 (f := .meth "Flow" "reached_up") rfl)
  mt_Flow_first_free := He.meth_ok (c.fact 88 (f := .meth "Flow" "first_free") rfl)
  mt_Flow_last_free := He.meth_ok (c.fact 89 (f := .meth "Flow" "last_free") rfl)
  cl_Sheet := He.cls_ok (c.fact 90 (f := .cls "Sheet") rfl)
  mk_Sheet := He.mkr_ok (c.fact 91 (f := .mkr "Sheet") rfl)
  na_Sheet_names := He.noat_ok (c.fact 92 (f := .noat "Sheet" "names") rfl)
  na_Sheet_direct := He.noat_ok (c.fact 93 (f := .noat "Sheet" "direct") rfl)
  na_Sheet_order := He.noat_ok (c.fact 94 (f := .noat "Sheet" "order") rfl)
  na_Sheet_shown := He.noat_ok (c.fact 95 (f := .noat "Sheet" "shown") rfl)
  mt_Sheet_fill := He.meth_ok (c.fact 96 (f := .meth "Sheet" "fill") rfl)
  sp_Sheet_contains := spB_ok (c.look 7 (b := fun K => spB K (He.ga K "Sheet") "__contains__") rfl)
  sp_Sheet_len := spB_ok (c.look 8 (b := fun K => spB K (He.ga K "Sheet") "__len__") rfl)
  sp_Sheet_eq := spB_ok (c.look 9 (b := fun K => spB K (He.ga K "Sheet") "__eq__") rfl)
  pr_Sheet_rows := propB_ok (c.look 10 (b := fun K => propB K (He.ga K "Sheet") "rows") rfl)
  pr_Sheet_needs := propB_ok (c.look 11 (b := fun K => propB K (He.ga K "Sheet") "needs") rfl)
  cm_Sheet_of := cmB_ok (c.look 12 (b := fun K => cmB K (He.ga K "Sheet") "of") rfl)
  is_Sheet := insB_ok (He.cls_ok (c.fact 90 (f := .cls "Sheet") rfl)) (c.look 13 (b := fun K => insB K (He.ga K "Sheet")) rfl)
  sf_Keep := (c.look 14 (b := fun K => selfB K (He.ga K "Keep")) rfl)
  ne_Keep := He.eqO_ok (c.look 15 (b := fun K => neB K (He.ga K "Keep")) rfl)
  f_closure := c.def_ 0 (d := d_closure) rfl
  f_is_name := c.def_ 1 (d := d_is_name) rfl
  f_is_integer := c.def_ 2 (d := d_is_integer) rfl
  f_is_between := c.def_ 3 (d := d_is_between) rfl
  f_need_room := c.def_ 4 (d := d_need_room) rfl
  f_is_copy := c.def_ 5 (d := d_is_copy) rfl
  f_place_in := c.def_ 6 (d := d_place_in) rfl
  f_is_bar := c.def_ 7 (d := d_is_bar) rfl
  f_copies_of := c.def_ 8 (d := d_copies_of) rfl
  f_row_text := c.def_ 9 (d := d_row_text) rfl
  f_sheet_text := c.def_ 10 (d := d_sheet_text) rfl
  f_copies_text := c.def_ 11 (d := d_copies_text) rfl
  f_need_copies := c.def_ 12 (d := d_need_copies) rfl
  f_links_of := c.def_ 13 (d := d_links_of) rfl
  f_flow_of := c.def_ 14 (d := d_flow_of) rfl
  f_fewest_moves := c.def_ 15 (d := d_fewest_moves) rfl
  f_first_keep := c.def_ 16 (d := d_first_keep) rfl
  f_last_keep := c.def_ 17 (d := d_last_keep) rfl
  f_unfinished := c.def_ 18 (d := d_unfinished) rfl
  f_ring_in := c.def_ 19 (d := d_ring_in) rfl
  f_first_wrong := c.def_ 20 (d := d_first_wrong) rfl
  f_are_needs := c.def_ 21 (d := d_are_needs) rfl
  f_need_rows := c.def_ 22 (d := d_need_rows) rfl
  f_need_needs := c.def_ 23 (d := d_need_needs) rfl
  f_law_pen := c.def_ 24 (d := d_law_pen) rfl
  f_law_draw := c.def_ 25 (d := d_law_draw) rfl
  f_law_shuffled := c.def_ 26 (d := d_law_shuffled) rfl
  f_law_names := c.def_ 27 (d := d_law_names) rfl
  f_law_plan := c.def_ 28 (d := d_law_plan) rfl
  f_law_page := c.def_ 29 (d := d_law_page) rfl
  f_law_below := c.def_ 30 (d := d_law_below) rfl
  f_law_bars := c.def_ 31 (d := d_law_bars) rfl
  f_law_fits := c.def_ 32 (d := d_law_fits) rfl
  f_law_keeps := c.def_ 33 (d := d_law_keeps) rfl
  f_law_best := c.def_ 34 (d := d_law_best) rfl
  f_law_size := c.def_ 35 (d := d_law_size) rfl
  f_law_three_right := c.def_ 36 (d := d_law_three_right) rfl
  f_law := c.def_ 37 (d := d_law) rfl
  f_Keep_init := c.def_ 38 (d := d_Keep_init) rfl
  f_Keep_both := c.def_ 39 (d := d_Keep_both) rfl
  f_Keep_is_under := c.def_ 40 (d := d_Keep_is_under) rfl
  f_Keep_earlier_than := c.def_ 41 (d := d_Keep_earlier_than) rfl
  f_Keep_len := c.def_ 42 (d := d_Keep_len) rfl
  f_Keep_eq := c.def_ 43 (d := d_Keep_eq) rfl
  f_Keep_or := c.def_ 44 (d := d_Keep_or) rfl
  f_Keep_and := c.def_ 45 (d := d_Keep_and) rfl
  f_Keep_copies := c.def_ 46 (d := d_Keep_copies) rfl
  f_Keep_of := c.def_ 47 (d := d_Keep_of) rfl
  f_Flow_init := c.def_ 48 (d := d_Flow_init) rfl
  f_Flow_push := c.def_ 49 (d := d_Flow_push) rfl
  f_Flow_turn := c.def_ 50 (d := d_Flow_turn) rfl
  f_Flow_lower := c.def_ 51 (d := d_Flow_lower) rfl
  f_Flow_reached_down := c.def_ 52 (d := d_Flow_reached_down) rfl
  f_Flow_reached_up := c.def_ 53 (d := d_Flow_reached_up) rfl
  f_Flow_first_free := c.def_ 54 (d := d_Flow_first_free) rfl
  f_Flow_last_free := c.def_ 55 (d := d_Flow_last_free) rfl
  f_Sheet_init := c.def_ 56 (d := d_Sheet_init) rfl
  f_Sheet_fill := c.def_ 57 (d := d_Sheet_fill) rfl
  f_Sheet_contains := c.def_ 58 (d := d_Sheet_contains) rfl
  f_Sheet_len := c.def_ 59 (d := d_Sheet_len) rfl
  f_Sheet_eq := c.def_ 60 (d := d_Sheet_eq) rfl
  f_Sheet_rows := c.def_ 61 (d := d_Sheet_rows) rfl
  f_Sheet_needs := c.def_ 62 (d := d_Sheet_needs) rfl
  f_Sheet_of := c.def_ 63 (d := d_Sheet_of) rfl
end
end Pw
end
section
set_option maxRecDepth 100000
set_option maxHeartbeats 0
namespace PwH
open Pw
open PySem PySem.Spec PyProof.Rows L2
abbrev R : PySem.W.OpenRow := PySem.W.OpenLaw.row PySem.Challenge.rw_passwidth_k61_whole_lattice_of_best_keep
def nm1 : List PySem.Str := [("_wall" : PySem.Str), ("__name__" : PySem.Str), ("closure" : PySem.Str), ("PassError" : PySem.Str), ("InvalidRow" : PySem.Str), ("InvalidNeeds" : PySem.Str), ("HasRing" : PySem.Str), ("InvalidPasses" : PySem.Str), ("InvalidCopy" : PySem.Str), ("Barred" : PySem.Str), ("DifferentSheets" : PySem.Str), ("InvalidText" : PySem.Str)]
def nm2 : List PySem.Str := [("NoRow" : PySem.Str), ("NoPosition" : PySem.Str), ("TooMany" : PySem.Str), ("LETTERS" : PySem.Str), ("LONGEST_NAME" : PySem.Str), ("is_name" : PySem.Str), ("is_integer" : PySem.Str), ("is_between" : PySem.Str), ("is_index" : PySem.Str), ("MOST_PASSES" : PySem.Str), ("MOST_COPIES" : PySem.Str), ("need_room" : PySem.Str)]
def nm3 : List PySem.Str := [("is_copy" : PySem.Str), ("place_in" : PySem.Str), ("is_bar" : PySem.Str), ("copies_of" : PySem.Str), ("NOTHING" : PySem.Str), ("row_text" : PySem.Str), ("sheet_text" : PySem.Str), ("copies_text" : PySem.Str), ("need_copies" : PySem.Str), ("Keep" : PySem.Str), ("Flow" : PySem.Str), ("links_of" : PySem.Str)]
def nm4 : List PySem.Str := [("flow_of" : PySem.Str), ("fewest_moves" : PySem.Str), ("first_keep" : PySem.Str), ("last_keep" : PySem.Str), ("MOST_ROWS" : PySem.Str), ("lines_in" : PySem.Str), ("row_in" : PySem.Str), ("sheet_in" : PySem.Str), ("unfinished" : PySem.Str), ("ring_in" : PySem.Str), ("LIMIT" : PySem.Str), ("first_wrong" : PySem.Str)]
def nm5 : List PySem.Str := [("are_needs" : PySem.Str), ("need_rows" : PySem.Str), ("need_needs" : PySem.Str), ("Sheet" : PySem.Str), ("_law_pen" : PySem.Str), ("_law_draw" : PySem.Str), ("_law_shuffled" : PySem.Str), ("_law_names" : PySem.Str), ("_law_plan" : PySem.Str), ("_law_page" : PySem.Str), ("_law_below" : PySem.Str), ("_law_bars" : PySem.Str)]
def nm6 : List PySem.Str := [("_law_fits" : PySem.Str), ("_law_keeps" : PySem.Str), ("_law_best" : PySem.Str), ("_law_size" : PySem.Str), ("_law_three_right" : PySem.Str)]
def nm : List PySem.Str := nm1 ++ nm2 ++ nm3 ++ nm4 ++ nm5 ++ nm6
noncomputable section
open HandSHeadRun in
abbrev eF (w : World) (os : PySem.OsState) : Option PySem.W.SharedT := endF (stepQ (denQ tabQ) R.prog w) 8000 R.prog w os
abbrev qv : Program := PySem.W.view R.prog [78]
theorem run1 (w : World) (os : PySem.OsState) : (eF w os).map (fun s => HandSHeadRun.looksF R.prog (PySem.W.boot_heap w.params) s.abs) = some true := by kernel_rfl
theorem run2 (w : World) (os : PySem.OsState) : (eF w os).map (fun s => HandSHeadRun.seenQ qv nm (importedModules R.prog.main.body) (fun s => PySem.W.xlAt qv [] s && PySem.W.recOk R.toRowW.records s) s.abs) = some (PySem.W.openGood qv nm) := by kernel_rfl
theorem run3 (w : World) (os : PySem.OsState) : (eF w os).map ob = some (hk.val w) := by kernel_rfl
theorem run (w : World) : HandSHeadRun.RunEq R qv hk ob 8000 nm w := by
  intro os
  have a := run1 w os
  have b := run2 w os
  have c := run3 w os
  show (eF w os).map _ = _
  generalize eF w os = e at a b c
  cases e with
  | none => cases a
  | some s =>
    have a' := Option.some.inj a
    have b' := Option.some.inj b
    have c' := Option.some.inj c
    exact congrArg some (Prod.ext a' (Prod.ext b' c'))
end
end PwH
end
section
set_option autoImplicit false
/-! Plain mathematics: greatest antichains of a finite strict order, Koenig's cover, their lattice. -/
namespace Lat


/-! ### counting -/
theorem count_le {α : Type} {l : List α} {p q : α → Bool} (h : ∀ x ∈ l, p x = true → q x = true) : l.countP p ≤ l.countP q :=
  List.countP_mono_left h
theorem count_eq {α : Type} {l : List α} {p q : α → Bool} (h : ∀ x ∈ l, p x = q x) : l.countP p = l.countP q :=
  List.countP_congr fun x hx => by rw [h x hx]
theorem count_add {α : Type} {a b c d : α → Bool} : ∀ {l : List α}, (∀ x ∈ l, (a x).toNat + (b x).toNat ≤ (c x).toNat + (d x).toNat) → l.countP a + l.countP b ≤ l.countP c + l.countP d
  | [], _ => Nat.le_refl _
  | x :: r, h => by
    have ih := count_add (l := r) fun y hy => h y (List.mem_cons_of_mem _ hy)
    have hx := h x List.mem_cons_self
    rw [List.countP_cons, List.countP_cons, List.countP_cons, List.countP_cons]
    cases ea : a x <;> cases eb : b x <;> cases ec : c x <;> cases ed : d x <;> rw [ea, eb, ec, ed] at hx <;> simp at hx ⊢ <;> omega
theorem count_split {α : Type} {a b c : α → Bool} {l : List α} (h : ∀ x ∈ l, (a x).toNat + (b x).toNat = (c x).toNat) : l.countP a + l.countP b = l.countP c := by
  have h1 := count_add (l := l) (a := a) (b := b) (c := c) (d := fun _ => false) fun x hx => by rw [h x hx]; exact Nat.le_add_right _ _
  have h2 := count_add (l := l) (a := c) (b := fun _ => false) (c := a) (d := b) fun x hx => by rw [h x hx]; exact Nat.le_refl _
  simp at h1 h2
  omega
theorem count_not {α : Type} (a : α → Bool) (l : List α) : l.countP a + l.countP (fun x => !a x) = l.length := by
  have h := count_split (a := a) (b := fun x => !a x) (c := fun _ => true) (l := l) fun x _ => by cases a x <;> rfl
  rw [h]
  simp
theorem len_sub {α : Type} [DecidableEq α] : ∀ {l l' : List α}, l.Nodup → (∀ x ∈ l, x ∈ l') → l.length ≤ l'.length
  | [], _, _, _ => Nat.zero_le _
  | x :: r, l', hn, hs => by
    obtain ⟨h1, h2⟩ := List.nodup_cons.mp hn
    have hx : x ∈ l' := hs x List.mem_cons_self
    have ih := len_sub (l := r) (l' := l'.erase x) h2 fun y hy => by
      have : y ≠ x := fun e => h1 (e ▸ hy)
      exact (List.mem_erase_of_ne this).mpr (hs y (List.mem_cons_of_mem _ hy))
    rw [List.length_erase_of_mem hx] at ih
    have : 0 < l'.length := List.length_pos_of_mem hx
    rw [List.length_cons]
    omega
theorem nodup_map {α β : Type} {f : α → β} : ∀ {l : List α}, l.Nodup → (∀ x ∈ l, ∀ y ∈ l, f x = f y → x = y) → (l.map f).Nodup
  | [], _, _ => List.nodup_nil
  | x :: r, hn, h => by
    obtain ⟨h1, h2⟩ := List.nodup_cons.mp hn
    rw [List.map_cons]
    refine List.nodup_cons.mpr ⟨fun hm => ?_, nodup_map h2 fun a ha b hb => h a (List.mem_cons_of_mem _ ha) b (List.mem_cons_of_mem _ hb)⟩
    obtain ⟨y, hy, e⟩ := List.mem_map.mp hm
    exact h1 (h x List.mem_cons_self y (List.mem_cons_of_mem _ hy) e.symm ▸ hy)
/-- along a partial injection -/
theorem count_inj {α : Type} [DecidableEq α] {l : List α} (hn : l.Nodup) {p q : α → Bool} (f : α → Option α) (h : ∀ x ∈ l, p x = true → ∃ y ∈ l, f x = some y ∧ q y = true)
    (inj : ∀ x ∈ l, ∀ y ∈ l, ∀ z, f x = some z → f y = some z → x = y) : l.countP p ≤ l.countP q := by
  rw [List.countP_eq_length_filter, List.countP_eq_length_filter]
  have e : ((l.filter p).map f).length ≤ ((l.filter q).map some).length := by
    refine len_sub (nodup_map (hn.sublist List.filter_sublist) fun x hx y hy e => ?_) fun z hz => ?_
    · obtain ⟨hx1, hx2⟩ := List.mem_filter.mp hx
      obtain ⟨w, _, ew, _⟩ := h x hx1 hx2
      exact inj x hx1 y (List.mem_filter.mp hy).1 w ew (e ▸ ew)
    · obtain ⟨x, hx, rfl⟩ := List.mem_map.mp hz
      obtain ⟨hx1, hx2⟩ := List.mem_filter.mp hx
      obtain ⟨w, hw, ew, hq⟩ := h x hx1 hx2
      rw [ew]
      exact List.mem_map.mpr ⟨w, List.mem_filter.mpr ⟨hw, hq⟩, rfl⟩
  simpa using e

/-! ### a finite strict order -/
section
variable {α : Type} [DecidableEq α]
structure Ord (all : List α) (bar : α → α → Bool) : Prop where
  nd : all.Nodup
  irr : ∀ a ∈ all, bar a a = false
  tr : ∀ a ∈ all, ∀ b ∈ all, ∀ c ∈ all, bar a b = true → bar b c = true → bar a c = true
variable (all : List α) (bar : α → α → Bool)
def Anti (S : α → Bool) : Prop := ∀ a ∈ all, ∀ b ∈ all, S a = true → S b = true → bar a b = false
structure Best (S : α → Bool) : Prop where
  anti : Anti all bar S
  most : ∀ T : α → Bool, Anti all bar T → all.countP T ≤ all.countP S
/-- strictly above, strictly below a set -/
def above (S : α → Bool) (x : α) : Bool := all.any fun y => S y && bar x y
def below (S : α → Bool) (x : α) : Bool := all.any fun y => S y && bar y x
def down (S : α → Bool) (x : α) : Bool := S x || below all bar S x
def or2 (S T : α → Bool) (x : α) : Bool := S x || T x
def join (S T : α → Bool) (x : α) : Bool := or2 S T x && !below all bar (or2 S T) x
def meet (S T : α → Bool) (x : α) : Bool := or2 S T x && !above all bar (or2 S T) x
def Earlier (S T : α → Bool) : Prop := ∀ x ∈ all, S x = true → down all bar T x = true
def Eqv (S T : α → Bool) : Prop := ∀ x ∈ all, S x = T x
variable {all bar}
theorem above_iff {S : α → Bool} {x : α} : above all bar S x = true ↔ ∃ y ∈ all, S y = true ∧ bar x y = true := by
  unfold above; simp [List.any_eq_true]
theorem below_iff {S : α → Bool} {x : α} : below all bar S x = true ↔ ∃ y ∈ all, S y = true ∧ bar y x = true := by
  unfold below; simp [List.any_eq_true]
theorem down_iff {S : α → Bool} {x : α} : down all bar S x = true ↔ S x = true ∨ ∃ y ∈ all, S y = true ∧ bar y x = true := by
  unfold down; rw [Bool.or_eq_true, below_iff]
theorem or2_iff {S T : α → Bool} {x : α} : or2 S T x = true ↔ S x = true ∨ T x = true := by unfold or2; rw [Bool.or_eq_true]
theorem join_iff {S T : α → Bool} {x : α} : join all bar S T x = true ↔ or2 S T x = true ∧ ∀ y ∈ all, or2 S T y = true → bar y x = false := by
  unfold join
  rw [Bool.and_eq_true, Bool.not_eq_true', ← Bool.not_eq_true, below_iff]
  refine and_congr Iff.rfl ⟨fun h y hy e => ?_, fun h ⟨y, hy, e, b⟩ => ?_⟩
  · cases q : bar y x with
    | false => rfl
    | true => exact absurd ⟨y, hy, e, q⟩ h
  · rw [h y hy e] at b; cases b
theorem meet_iff {S T : α → Bool} {x : α} : meet all bar S T x = true ↔ or2 S T x = true ∧ ∀ y ∈ all, or2 S T y = true → bar x y = false := by
  unfold meet
  rw [Bool.and_eq_true, Bool.not_eq_true', ← Bool.not_eq_true, above_iff]
  refine and_congr Iff.rfl ⟨fun h y hy e => ?_, fun h ⟨y, hy, e, b⟩ => ?_⟩
  · cases q : bar x y with
    | false => rfl
    | true => exact absurd ⟨y, hy, e, q⟩ h
  · rw [h y hy e] at b; cases b

theorem Best.eqv {S T : α → Bool} (h : Best all bar S) (e : Eqv all S T) : Best all bar T :=
  ⟨fun a ha b hb x y => h.anti a ha b hb ((e a ha).trans x) ((e b hb).trans y), fun U hU => by rw [← count_eq e]; exact h.most U hU⟩
theorem Best.same {S T : α → Bool} (h : Best all bar S) (k : Best all bar T) : all.countP S = all.countP T :=
  Nat.le_antisymm (k.most S h.anti) (h.most T k.anti)
theorem best_of {S T : α → Bool} (h : Best all bar S) (a : Anti all bar T) (le : all.countP S ≤ all.countP T) : Best all bar T :=
  ⟨a, fun U hU => Nat.le_trans (h.most U hU) le⟩
/-- a greatest one cannot be made larger -/
theorem Best.max (O : Ord all bar) {S : α → Bool} (h : Best all bar S) {x : α} (hx : x ∈ all) : S x = true ∨ above all bar S x = true ∨ below all bar S x = true := by
  cases e1 : S x with
  | true => exact .inl rfl
  | false =>
    cases e2 : above all bar S x with
    | true => exact .inr (.inl rfl)
    | false =>
      cases e3 : below all bar S x with
      | true => exact .inr (.inr rfl)
      | false =>
        exfalso
        have ha : Anti all bar (fun y => S y || decide (y = x)) := by
          intro a ha b hb h1 h2
          rw [Bool.or_eq_true, decide_eq_true_eq] at h1 h2
          rcases h1 with h1 | rfl
          · rcases h2 with h2 | rfl
            · exact h.anti a ha b hb h1 h2
            · cases q : bar a b with
              | false => rfl
              | true => rw [below_iff.mpr ⟨a, ha, h1, q⟩] at e3; cases e3
          · rcases h2 with h2 | rfl
            · cases q : bar a b with
              | false => rfl
              | true => rw [above_iff.mpr ⟨b, hb, h2, q⟩] at e2; cases e2
            · exact O.irr _ ha
        have h1 := h.most _ ha
        have h2 := count_split (l := all) (a := S) (b := fun y => decide (y = x)) (c := fun y => S y || decide (y = x)) fun y _ => by
          by_cases q : y = x
          · subst q; rw [e1]; simp
          · simp [q]
        have h3 : 0 < all.countP (fun y => decide (y = x)) := List.countP_pos_iff.mpr ⟨x, hx, by simp⟩
        omega
theorem down_mono {S T : α → Bool} (O : Ord all bar) (h : Earlier all bar S T) {x : α} (hx : x ∈ all) (d : down all bar S x = true) : down all bar T x = true := by
  rcases down_iff.mp d with d | ⟨y, hy, e, b⟩
  · exact h x hx d
  · rcases down_iff.mp (h y hy e) with q | ⟨z, hz, e', b'⟩
    · exact down_iff.mpr (.inr ⟨y, hy, q, b⟩)
    · exact down_iff.mpr (.inr ⟨z, hz, e', O.tr z hz y hy x hx b' b⟩)
theorem earlier_of {S T : α → Bool} (h : ∀ x ∈ all, down all bar S x = true → down all bar T x = true) : Earlier all bar S T := fun x hx e => h x hx (down_iff.mpr (.inl e))
/-- an antichain by what is under it -/
theorem anti_down {S : α → Bool} (O : Ord all bar) (h : Anti all bar S) {x : α} (hx : x ∈ all) : S x = true ↔ down all bar S x = true ∧ ∀ y ∈ all, down all bar S y = true → bar y x = false := by
  constructor
  · intro e
    refine ⟨down_iff.mpr (.inl e), fun y hy d => ?_⟩
    cases q : bar y x with
    | false => rfl
    | true =>
      rcases down_iff.mp d with d | ⟨z, hz, e', b⟩
      · rw [h y hy x hx d e] at q; cases q
      · have := h z hz x hx e' e
        rw [O.tr z hz y hy x hx b q] at this; cases this
  · rintro ⟨d, h2⟩
    rcases down_iff.mp d with d | ⟨z, hz, e, b⟩
    · exact d
    · have := h2 z hz (down_iff.mpr (.inl e))
      rw [this] at b; cases b
theorem eqv_of_down {S T : α → Bool} (O : Ord all bar) (hS : Anti all bar S) (hT : Anti all bar T) (h : ∀ x ∈ all, down all bar S x = down all bar T x) : Eqv all S T := by
  intro x hx
  rw [Bool.eq_iff_iff, anti_down O hS hx, anti_down O hT hx, h x hx]
  refine and_congr Iff.rfl ⟨fun k y hy d => k y hy (by rw [h y hy]; exact d), fun k y hy d => k y hy (by rw [← h y hy]; exact d)⟩
theorem earlier_antisymm {S T : α → Bool} (O : Ord all bar) (hS : Anti all bar S) (hT : Anti all bar T) (h : Earlier all bar S T) (k : Earlier all bar T S) : Eqv all S T :=
  eqv_of_down O hS hT fun x hx => Bool.eq_iff_iff.mpr ⟨down_mono O h hx, down_mono O k hx⟩

theorem join_anti {S T : α → Bool} : Anti all bar (join all bar S T) := fun a ha b _ h1 h2 => (join_iff.mp h2).2 a ha (join_iff.mp h1).1
theorem meet_anti {S T : α → Bool} : Anti all bar (meet all bar S T) := fun a _ b hb h1 h2 => (meet_iff.mp h1).2 b hb (meet_iff.mp h2).1
theorem not_join {S T : α → Bool} {x : α} (h : or2 S T x = true) (j : join all bar S T x = false) : ∃ y ∈ all, or2 S T y = true ∧ bar y x = true := Classical.byContradiction fun q => by
  have : join all bar S T x = true := join_iff.mpr ⟨h, fun y hy e => by
    cases z : bar y x with
    | false => rfl
    | true => exact absurd ⟨y, hy, e, z⟩ q⟩
  rw [j] at this; cases this
theorem not_meet {S T : α → Bool} {x : α} (h : or2 S T x = true) (j : meet all bar S T x = false) : ∃ y ∈ all, or2 S T y = true ∧ bar x y = true := Classical.byContradiction fun q => by
  have : meet all bar S T x = true := meet_iff.mpr ⟨h, fun y hy e => by
    cases z : bar x y with
    | false => rfl
    | true => exact absurd ⟨y, hy, e, z⟩ q⟩
  rw [j] at this; cases this
theorem or2_comm (S T : α → Bool) : or2 S T = or2 T S := funext fun x => by unfold or2; exact Bool.or_comm _ _
theorem join_comm (S T : α → Bool) : join all bar S T = join all bar T S := by unfold join; rw [or2_comm]
theorem meet_comm (S T : α → Bool) : meet all bar S T = meet all bar T S := by unfold meet; rw [or2_comm]
theorem one_of {S T : α → Bool} (O : Ord all bar) (hS : Anti all bar S) (hT : Anti all bar T) {x : α} (hx : x ∈ all) (a : S x = true) : join all bar S T x = true ∨ meet all bar S T x = true := by
  cases j : join all bar S T x with
  | true => exact .inl rfl
  | false =>
    cases m : meet all bar S T x with
    | true => exact .inr rfl
    | false =>
      exfalso
      obtain ⟨y, hy, ey, b1⟩ := not_join (or2_iff.mpr (.inl a)) j
      obtain ⟨z, hz, ez, b2⟩ := not_meet (or2_iff.mpr (.inl a)) m
      have ty : T y = true := by
        rcases or2_iff.mp ey with e | e
        · rw [hS y hy x hx e a] at b1; cases b1
        · exact e
      have tz : T z = true := by
        rcases or2_iff.mp ez with e | e
        · rw [hS x hx z hz a e] at b2; cases b2
        · exact e
      have q := hT y hy z hz ty tz
      rw [O.tr y hy x hx z hz b1 b2] at q
      cases q
theorem pair_count {S T : α → Bool} (O : Ord all bar) (hS : Anti all bar S) (hT : Anti all bar T) : all.countP S + all.countP T ≤ all.countP (join all bar S T) + all.countP (meet all bar S T) := by
  refine count_add fun x hx => ?_
  have nj : S x = true → T x = true → join all bar S T x = true := fun a b => join_iff.mpr ⟨or2_iff.mpr (.inl a), fun y hy e => by
    rcases or2_iff.mp e with e | e
    · exact hS y hy x hx e a
    · exact hT y hy x hx e b⟩
  have nm : S x = true → T x = true → meet all bar S T x = true := fun a b => meet_iff.mpr ⟨or2_iff.mpr (.inl a), fun y hy e => by
    rcases or2_iff.mp e with e | e
    · exact hS x hx y hy a e
    · exact hT x hx y hy b e⟩
  cases eS : S x with
  | false =>
    cases eT : T x with
    | false => exact Nat.zero_le _
    | true =>
      rcases one_of O hT hS hx eT with h | h
      · rw [join_comm] at h; rw [h]; exact Nat.le_add_right _ _
      · rw [meet_comm] at h; rw [h]; exact Nat.le_add_left _ _
  | true =>
    cases eT : T x with
    | false =>
      rcases one_of O hS hT hx eS with h | h
      · rw [h]; exact Nat.le_add_right _ _
      · rw [h]; exact Nat.le_add_left _ _
    | true => rw [nj eS eT, nm eS eT]; exact Nat.le_refl _
theorem join_best {S T : α → Bool} (O : Ord all bar) (hS : Best all bar S) (hT : Best all bar T) : Best all bar (join all bar S T) := by
  refine best_of hS join_anti ?_
  have h1 := pair_count O hS.anti hT.anti
  have h2 := hT.most _ (meet_anti (all := all) (bar := bar) (S := S) (T := T))
  omega
theorem meet_best {S T : α → Bool} (O : Ord all bar) (hS : Best all bar S) (hT : Best all bar T) : Best all bar (meet all bar S T) := by
  refine best_of hS meet_anti ?_
  have h1 := pair_count O hS.anti hT.anti
  have h2 := hT.most _ (join_anti (all := all) (bar := bar) (S := S) (T := T))
  omega
/-! ### what is under a join, a meet -/
theorem down_join {S T : α → Bool} (O : Ord all bar) (hS : Anti all bar S) (hT : Anti all bar T) {x : α} (hx : x ∈ all) : down all bar (join all bar S T) x = (down all bar S x || down all bar T x) := by
  -- each element of the two is under one of the join
  have up : ∀ {U W : α → Bool}, Anti all bar U → Anti all bar W → ∀ y ∈ all, U y = true → down all bar (join all bar U W) y = true := by
    intro U W hU hW y hy e
    cases j : join all bar U W y with
    | true => exact down_iff.mpr (.inl j)
    | false =>
      obtain ⟨z, hz, ez, b⟩ := not_join (or2_iff.mpr (.inl e)) j
      have wz : W z = true := by
        rcases or2_iff.mp ez with q | q
        · rw [hU z hz y hy q e] at b; cases b
        · exact q
      refine down_iff.mpr (.inr ⟨z, hz, join_iff.mpr ⟨ez, fun v hv ev => ?_⟩, b⟩)
      cases q : bar v z with
      | false => rfl
      | true =>
        rcases or2_iff.mp ev with e2 | e2
        · have := hU v hv y hy e2 e
          rw [O.tr v hv z hz y hy q b] at this; cases this
        · rw [hW v hv z hz e2 wz] at q; cases q
  have sub : ∀ {U W : α → Bool}, Anti all bar U → Anti all bar W → down all bar U x = true → down all bar (join all bar U W) x = true := fun hU hW d => down_mono O (fun y hy e => up hU hW y hy e) hx d
  rw [Bool.eq_iff_iff, Bool.or_eq_true]
  constructor
  · intro d
    rcases down_iff.mp d with d | ⟨y, hy, e, b⟩
    · rcases or2_iff.mp (join_iff.mp d).1 with q | q
      · exact .inl (down_iff.mpr (.inl q))
      · exact .inr (down_iff.mpr (.inl q))
    · rcases or2_iff.mp (join_iff.mp e).1 with q | q
      · exact .inl (down_iff.mpr (.inr ⟨y, hy, q, b⟩))
      · exact .inr (down_iff.mpr (.inr ⟨y, hy, q, b⟩))
  · rintro (d | d)
    · exact sub hS hT d
    · rw [join_comm]; exact sub hT hS d
theorem down_meet {S T : α → Bool} (O : Ord all bar) (hS : Best all bar S) (hT : Best all bar T) {x : α} (hx : x ∈ all) : down all bar (meet all bar S T) x = (down all bar S x && down all bar T x) := by
  have part : ∀ {U W : α → Bool}, Best all bar U → Best all bar W → ∀ y ∈ all, meet all bar U W y = true → down all bar U y = true := by
    intro U W hU hW y hy e
    obtain ⟨o, m⟩ := meet_iff.mp e
    rcases hU.max O hy with q | q | q
    · exact down_iff.mpr (.inl q)
    · obtain ⟨z, hz, ez, b⟩ := above_iff.mp q
      rw [m z hz (or2_iff.mpr (.inl ez))] at b; cases b
    · exact down_iff.mpr (.inr (below_iff.mp q))
  rw [Bool.eq_iff_iff, Bool.and_eq_true]
  constructor
  · intro d
    exact ⟨down_mono O (fun y hy e => part hS hT y hy e) hx d, down_mono O (fun y hy e => part hT hS y hy (by rw [meet_comm]; exact e)) hx d⟩
  · rintro ⟨d1, d2⟩
    rcases (meet_best O hS hT).max O hx with q | q | q
    · exact down_iff.mpr (.inl q)
    · exfalso
      obtain ⟨z, hz, ez, b⟩ := above_iff.mp q
      have no : ∀ {U : α → Bool}, Anti all bar U → down all bar U x = true → U z = true → False := by
        intro U hU d e
        rcases down_iff.mp d with d | ⟨v, hv, ev, bv⟩
        · rw [hU x hx z hz d e] at b; cases b
        · have := hU v hv z hz ev e
          rw [O.tr v hv x hx z hz bv b] at this; cases this
      rcases or2_iff.mp (meet_iff.mp ez).1 with e | e
      · exact no hS.anti d1 e
      · exact no hT.anti d2 e
    · exact down_iff.mpr (.inr (below_iff.mp q))
/-! ### the laws of the lattice -/
section
variable {A B C : α → Bool} (O : Ord all bar) (hA : Best all bar A) (hB : Best all bar B) (hC : Best all bar C)
include O hA hB
theorem meet_earlier : Earlier all bar (meet all bar A B) A := earlier_of fun x hx d => by
  rw [down_meet O hA hB hx, Bool.and_eq_true] at d
  exact d.1
theorem meet_earlier' : Earlier all bar (meet all bar A B) B := earlier_of fun x hx d => by
  rw [down_meet O hA hB hx, Bool.and_eq_true] at d
  exact d.2
theorem earlier_join : Earlier all bar A (join all bar A B) := earlier_of fun x hx d => by
  rw [down_join O hA.anti hB.anti hx, d, Bool.true_or]
theorem earlier_join' : Earlier all bar B (join all bar A B) := earlier_of fun x hx d => by
  rw [down_join O hA.anti hB.anti hx, d, Bool.or_true]
theorem absorb_join : Eqv all (join all bar A (meet all bar A B)) A := eqv_of_down O join_anti hA.anti fun x hx => by
  rw [down_join O hA.anti meet_anti hx, down_meet O hA hB hx]
  cases down all bar A x <;> simp
theorem absorb_meet : Eqv all (meet all bar A (join all bar A B)) A := eqv_of_down O meet_anti hA.anti fun x hx => by
  rw [down_meet O hA (join_best O hA hB) hx, down_join O hA.anti hB.anti hx]
  cases down all bar A x <;> simp
/-- of an earlier one and a later one -/
theorem join_of_earlier (h : Earlier all bar A B) : Eqv all (join all bar A B) B := eqv_of_down O join_anti hB.anti fun x hx => by
  rw [down_join O hA.anti hB.anti hx]
  cases e : down all bar A x with
  | false => rfl
  | true => rw [down_mono O h hx e]; rfl
theorem meet_of_later (h : Earlier all bar B A) : Eqv all (meet all bar A B) B := eqv_of_down O meet_anti hB.anti fun x hx => by
  rw [down_meet O hA hB hx]
  cases e : down all bar B x with
  | false => rw [Bool.and_false]
  | true => rw [down_mono O h hx e]; rfl
include hC
theorem distrib_meet : Eqv all (meet all bar A (join all bar B C)) (join all bar (meet all bar A B) (meet all bar A C)) := eqv_of_down O meet_anti join_anti fun x hx => by
  rw [down_meet O hA (join_best O hB hC) hx, down_join O hB.anti hC.anti hx, down_join O meet_anti meet_anti hx, down_meet O hA hB hx, down_meet O hA hC hx, Bool.and_or_distrib_left]
theorem distrib_join : Eqv all (join all bar A (meet all bar B C)) (meet all bar (join all bar A B) (join all bar A C)) := eqv_of_down O join_anti meet_anti fun x hx => by
  rw [down_join O hA.anti meet_anti hx, down_meet O hB hC hx, down_meet O (join_best O hA hB) (join_best O hA hC) hx, down_join O hA.anti hB.anti hx, down_join O hA.anti hC.anti hx, Bool.or_and_distrib_left]
end
/-! ### lists in place of predicates -/
theorem join_congr {S S' T T' : α → Bool} (h : Eqv all S S') (k : Eqv all T T') : Eqv all (join all bar S T) (join all bar S' T') := by
  have o : ∀ x ∈ all, or2 S T x = or2 S' T' x := fun x hx => by unfold or2; rw [h x hx, k x hx]
  intro x hx
  rw [Bool.eq_iff_iff, join_iff, join_iff, o x hx]
  exact and_congr Iff.rfl ⟨fun q y hy e => q y hy (by rw [o y hy]; exact e), fun q y hy e => q y hy (by rw [← o y hy]; exact e)⟩
theorem meet_congr {S S' T T' : α → Bool} (h : Eqv all S S') (k : Eqv all T T') : Eqv all (meet all bar S T) (meet all bar S' T') := by
  have o : ∀ x ∈ all, or2 S T x = or2 S' T' x := fun x hx => by unfold or2; rw [h x hx, k x hx]
  intro x hx
  rw [Bool.eq_iff_iff, meet_iff, meet_iff, o x hx]
  exact and_congr Iff.rfl ⟨fun q y hy e => q y hy (by rw [o y hy]; exact e), fun q y hy e => q y hy (by rw [← o y hy]; exact e)⟩
end
end Lat
end
section
set_option autoImplicit false
/-! Plain mathematics: a greatest matching along a strict order, what is reached from its free items, the first and the last greatest antichain. -/
namespace Lat
section
variable {α : Type} [DecidableEq α]
theorem count_tight {p q : α → Bool} : ∀ {l : List α}, (∀ x ∈ l, p x = true → q x = true) → l.countP q ≤ l.countP p → ∀ x ∈ l, q x = true → p x = true
  | [], _, _, x, hx, _ => by cases hx
  | y :: r, h, le, x, hx, e => by
    have hr : ∀ z ∈ r, p z = true → q z = true := fun z hz => h z (List.mem_cons_of_mem _ hz)
    have l1 := count_le hr
    rw [List.countP_cons, List.countP_cons] at le
    have hy := h y List.mem_cons_self
    cases ep : p y <;> cases eq : q y <;> rw [ep, eq] at le <;> simp at le
    · have ih := count_tight hr le
      rcases List.mem_cons.mp hx with rfl | hx
      · rw [eq] at e; cases e
      · exact ih x hx e
    · omega
    · rw [hy ep] at eq; cases eq
    · have ih := count_tight hr le
      rcases List.mem_cons.mp hx with rfl | hx
      · exact ep
      · exact ih x hx e

/-- a partial matching along bar: m from an item to one that it bars, g back -/
structure Match (all : List α) (bar : α → α → Bool) (m g : α → Option α) : Prop where
  to_ : ∀ i ∈ all, ∀ j, m i = some j → j ∈ all ∧ bar i j = true ∧ g j = some i
  back : ∀ j ∈ all, ∀ i, g j = some i → i ∈ all ∧ m i = some j
/-- a closed pair of sets of lefts and rights -/
structure Closed (all : List α) (bar : α → α → Bool) (g : α → Option α) (L R : α → Prop) : Prop where
  link : ∀ i ∈ all, L i → ∀ j ∈ all, bar i j = true → R j
  give : ∀ j ∈ all, R j → ∃ i, g j = some i ∧ L i
/-- what is reached from the free lefts: the least pair -/
structure Reach (all : List α) (bar : α → α → Bool) (m g : α → Option α) (D E : α → Bool) : Prop where
  free : ∀ i ∈ all, m i = none → D i = true
  link : ∀ i ∈ all, D i = true → ∀ j ∈ all, bar i j = true → E j = true
  give : ∀ j ∈ all, E j = true → ∀ i, g j = some i → D i = true
  least : ∀ D' E' : α → Prop, (∀ i ∈ all, m i = none → D' i) → (∀ i ∈ all, D' i → ∀ j ∈ all, bar i j = true → E' j) → (∀ j ∈ all, E' j → ∀ i, g j = some i → D' i) →
    (∀ i ∈ all, D i = true → D' i) ∧ ∀ j ∈ all, E j = true → E' j
variable {all : List α} {bar : α → α → Bool} {m g : α → Option α}
def un (m : α → Option α) (i : α) : Bool := (m i).isNone
theorem un_iff {i : α} : un m i = true ↔ m i = none := by unfold un; rw [Option.isNone_iff_eq_none]
theorem Match.inj (M : Match all bar m g) : ∀ x ∈ all, ∀ y ∈ all, ∀ z, m x = some z → m y = some z → x = y := fun x hx y hy z e1 e2 => by
  have a := (M.to_ x hx z e1).2.2
  have b := (M.to_ y hy z e2).2.2
  rw [a] at b
  exact Option.some.inj b
theorem Match.injg (M : Match all bar m g) : ∀ x ∈ all, ∀ y ∈ all, ∀ z, g x = some z → g y = some z → x = y := fun x hx y hy z e1 e2 => by
  have a := (M.back x hx z e1).2
  have b := (M.back y hy z e2).2
  rw [a] at b
  exact Option.some.inj b
/-- the rights outside of A and what is above it -/
def out (all : List α) (bar : α → α → Bool) (A : α → Bool) (j : α) : Bool := !(above all bar A j || A j)
theorem out_iff {A : α → Bool} {j : α} : out all bar A j = true ↔ above all bar A j = false ∧ A j = false := by
  unfold out; rw [Bool.not_eq_true', Bool.or_eq_false_iff]
theorem out_of (O : Ord all bar) {A : α → Bool} {i j : α} (hi : i ∈ all) (hj : j ∈ all) (b : bar i j = true) (n : above all bar A i = false) : out all bar A j = true := by
  refine out_iff.mpr ⟨?_, ?_⟩
  · cases e : above all bar A j with
    | false => rfl
    | true =>
      obtain ⟨y, hy, e2, b2⟩ := above_iff.mp e
      rw [above_iff.mpr ⟨y, hy, e2, O.tr i hi j hj y hy b b2⟩] at n; cases n
  · cases e : A j with
    | false => rfl
    | true => rw [above_iff.mpr ⟨j, hj, e, b⟩] at n; cases n
theorem above_anti {A : α → Bool} (hA : Anti all bar A) {i : α} (hi : i ∈ all) (e : above all bar A i = true) : A i = false := by
  cases q : A i with
  | false => rfl
  | true =>
    obtain ⟨y, hy, e2, b⟩ := above_iff.mp e
    rw [hA i hi y hy q e2] at b; cases b
/-- the right j is matched from a left that is not above A -/
def hit (all : List α) (bar : α → α → Bool) (g : α → Option α) (A : α → Bool) (j : α) : Bool := out all bar A j && match g j with
  | some i => !above all bar A i
  | none => false
theorem counts (O : Ord all bar) (M : Match all bar m g) {A : α → Bool} (hA : Anti all bar A) :
    all.countP (fun i => !un m i && above all bar A i) ≤ all.countP (above all bar A) ∧ all.countP (fun i => !un m i && !above all bar A i) ≤ all.countP (hit all bar g A) ∧ all.countP (hit all bar g A) ≤ all.countP (out all bar A) ∧
    all.countP (above all bar A) + all.countP A + all.countP (out all bar A) = all.length ∧ all.countP (fun i => !un m i && above all bar A i) + all.countP (fun i => !un m i && !above all bar A i) + all.countP (un m) = all.length := by
  refine ⟨count_le fun x _ e => (Bool.and_eq_true_iff.mp e).2, count_inj O.nd m (fun i hi e => ?_) M.inj, count_le fun x _ e => (Bool.and_eq_true_iff.mp e).1, ?_, ?_⟩
  · obtain ⟨e1, e2⟩ := Bool.and_eq_true_iff.mp e
    rw [Bool.not_eq_true'] at e1 e2
    cases q : m i with
    | none => rw [un_iff.mpr q] at e1; cases e1
    | some j =>
      obtain ⟨hj, b, gj⟩ := M.to_ i hi j q
      refine ⟨j, hj, rfl, ?_⟩
      unfold hit
      rw [gj, Bool.and_eq_true]
      exact ⟨out_of O hi hj b e2, by show (!above all bar A i) = true; rw [e2]; rfl⟩
  · rw [count_split (c := fun j => above all bar A j || A j) fun j hj => ?_]
    · exact count_not _ _
    · cases e : above all bar A j with
      | false => cases A j <;> rfl
      | true => rw [above_anti hA hj e]; rfl
  · rw [count_split (c := fun i => !un m i) fun i _ => ?_]
    · have := count_not (un m) all
      omega
    · cases un m i <;> cases above all bar A i <;> rfl
theorem weak (O : Ord all bar) (M : Match all bar m g) {A : α → Bool} (hA : Anti all bar A) : all.countP A ≤ all.countP (un m) := by
  obtain ⟨h1, h2, h3, h4, h5⟩ := counts O M hA
  omega
/-- a greatest antichain is met exactly by the matching -/
theorem tight (O : Ord all bar) (M : Match all bar m g) {A : α → Bool} (hA : Anti all bar A) (e : all.countP (un m) ≤ all.countP A) :
    (∀ i ∈ all, m i = none → above all bar A i = false) ∧ ∀ j ∈ all, out all bar A j = true → ∀ i, g j = some i → above all bar A i = false := by
  obtain ⟨h1, h2, h3, h4, h5⟩ := counts O M hA
  constructor
  · intro i hi q
    cases z : above all bar A i with
    | false => rfl
    | true =>
      have t := count_tight (l := all) (p := fun i => !un m i && above all bar A i) (q := above all bar A) (fun x _ e => (Bool.and_eq_true_iff.mp e).2) (by omega) i hi z
      rw [un_iff.mpr q] at t
      cases t
  · intro j hj q i gi
    have t := count_tight (l := all) (p := hit all bar g A) (q := out all bar A) (fun x _ e => (Bool.and_eq_true_iff.mp e).1) (by omega) j hj q
    unfold hit at t
    rw [gi, Bool.and_eq_true, Bool.not_eq_true'] at t
    exact t.2
/-- THE FIRST greatest antichain -/
def firstOf (D E : α → Bool) (x : α) : Bool := D x && !E x
theorem first_iff {D E : α → Bool} {x : α} : firstOf D E x = true ↔ D x = true ∧ E x = false := by unfold firstOf; rw [Bool.and_eq_true, Bool.not_eq_true']
theorem first_best (O : Ord all bar) (M : Match all bar m g) {L R : α → Prop} (C : Closed all bar g L R) (hL : ∀ i ∈ all, m i = none → L i) {D E : α → Bool} (Q : Reach all bar m g D E) :
    Best all bar (firstOf D E) ∧ all.countP (firstOf D E) = all.countP (un m) ∧ ∀ A, Best all bar A → Earlier all bar (firstOf D E) A := by
  have hE : ∀ j ∈ all, E j = true → R j := (Q.least L R hL C.link fun j hj r i gi => by
    obtain ⟨i', e, l⟩ := C.give j hj r
    rw [gi] at e
    cases e
    exact l).2
  have anti : Anti all bar (firstOf D E) := fun a ha b hb h1 h2 => by
    cases q : bar a b with
    | false => rfl
    | true =>
      have := Q.link a ha (first_iff.mp h1).1 b hb q
      rw [(first_iff.mp h2).2] at this; cases this
  have c1 : all.countP (un m) + all.countP (fun i => !un m i && D i) = all.countP D := count_split fun i hi => by
    cases e : un m i with
    | false => cases D i <;> rfl
    | true => rw [Q.free i hi (un_iff.mp e)]; rfl
  have c2 : all.countP E ≤ all.countP (fun i => !un m i && D i) := count_inj O.nd g (fun j hj e => by
    obtain ⟨i, gi, _⟩ := C.give j hj (hE j hj e)
    obtain ⟨hi, mi⟩ := M.back j hj i gi
    refine ⟨i, hi, gi, ?_⟩
    rw [Bool.and_eq_true, Bool.not_eq_true']
    refine ⟨?_, Q.give j hj e i gi⟩
    cases q : un m i with
    | false => rfl
    | true => rw [un_iff.mp q] at mi; cases mi) M.injg
  have c3 : all.countP D + all.countP (fun _ => false) ≤ all.countP (firstOf D E) + all.countP E := count_add fun x _ => by
    unfold firstOf
    cases D x <;> cases E x <;> decide
  have c4 : all.countP (fun _ : α => false) = 0 := by simp
  have w := weak O M anti
  have best : Best all bar (firstOf D E) := ⟨anti, fun T hT => by have := weak O M hT; omega⟩
  refine ⟨best, by omega, fun A hA => ?_⟩
  have eA : all.countP (un m) ≤ all.countP A := by rw [hA.same best]; omega
  obtain ⟨t1, t2⟩ := tight O M hA.anti eA
  have l := (Q.least (fun i => above all bar A i = false) (fun j => out all bar A j = true) t1 (fun i hi n j hj b => out_of O hi hj b n) t2).1
  intro x hx e
  rcases hA.max O hx with q | q | q
  · exact down_iff.mpr (.inl q)
  · rw [l x hx (first_iff.mp e).1] at q; cases q
  · exact down_iff.mpr (.inr (below_iff.mp q))
/-! ### the other way round -/
def flip (bar : α → α → Bool) (a b : α) : Bool := bar b a
theorem Ord.flip (O : Ord all bar) : Ord all (flip bar) := ⟨O.nd, O.irr, fun a ha b hb c hc h1 h2 => O.tr c hc b hb a ha h2 h1⟩
theorem Match.flip (M : Match all bar m g) : Match all (flip bar) g m where
  to_ := fun j hj i e => by
    obtain ⟨h1, h2⟩ := M.back j hj i e
    exact ⟨h1, (M.to_ i h1 j h2).2.1, h2⟩
  back := fun i hi j e => by
    obtain ⟨h1, _, h2⟩ := M.to_ i hi j e
    exact ⟨h1, h2⟩
theorem anti_flip {S : α → Bool} : Anti all (flip bar) S ↔ Anti all bar S := ⟨fun h a ha b hb x y => h b hb a ha y x, fun h a ha b hb x y => h b hb a ha y x⟩
theorem best_flip {S : α → Bool} : Best all (flip bar) S ↔ Best all bar S := ⟨fun h => ⟨anti_flip.mp h.anti, fun T hT => h.most T (anti_flip.mpr hT)⟩, fun h => ⟨anti_flip.mpr h.anti, fun T hT => h.most T (anti_flip.mp hT)⟩⟩
/-- THE LAST one -/
theorem last_best (O : Ord all bar) (M : Match all bar m g) {L R : α → Prop} (C : Closed all bar g L R) (hL : ∀ i ∈ all, m i = none → L i) {D E : α → Bool} (Q : Reach all (flip bar) g m D E) :
    Best all bar (firstOf D E) ∧ ∀ A, Best all bar A → Earlier all bar A (firstOf D E) := by
  have C' : Closed all (flip bar) m (fun j => ¬ R j) (fun i => ¬ L i) := ⟨fun j hj n i hi b l => n (C.link i hi l j hj b), fun i hi n => by
    cases e : m i with
    | none => exact absurd (hL i hi e) n
    | some j =>
      obtain ⟨hj, _, gj⟩ := M.to_ i hi j e
      refine ⟨j, rfl, fun r => ?_⟩
      obtain ⟨i', e', l⟩ := C.give j hj r
      rw [gj] at e'
      cases e'
      exact n l⟩
  obtain ⟨b, _, ea⟩ := first_best O.flip M.flip C' (fun j hj e r => by
    obtain ⟨i, e', _⟩ := C.give j hj r
    rw [e] at e'; cases e') Q
  have bb := best_flip.mp b
  refine ⟨bb, fun A hA x hx e => ?_⟩
  rcases bb.max O hx with q | q | q
  · exact down_iff.mpr (.inl q)
  · exfalso
    obtain ⟨y, hy, ey, by_⟩ := above_iff.mp q
    rcases down_iff.mp (ea A (best_flip.mpr hA) y hy ey) with z | ⟨z, hz, ez, bz⟩
    · rw [hA.anti x hx y hy e z] at by_; cases by_
    · have bz' : bar y z = true := bz
      have := hA.anti x hx z hz e ez
      rw [O.tr x hx y hy z hz by_ bz'] at this; cases this
  · exact down_iff.mpr (.inr (below_iff.mp q))
end
end Lat
end
section
set_option autoImplicit false
/-! Plain mathematics: a search for a free item and the turning of the way that it found. -/
namespace Lat
section
variable {α : Type} [DecidableEq α]
def setF {β : Type} (f : α → Option β) (a : α) (v : Option β) (x : α) : Option β := if x = a then v else f x
theorem setF_same {β : Type} {f : α → Option β} {a : α} {v : Option β} : setF f a v a = v := by unfold setF; rw [if_pos rfl]
theorem setF_ne {β : Type} {f : α → Option β} {a x : α} {v : Option β} (h : x ≠ a) : setF f a v x = f x := by unfold setF; rw [if_neg h]

/-- the way from the root to a left, the left first -/
inductive Good (bar : α → α → Bool) (m : α → Option α) (co : α → Option α) (og : α → Option (Option α)) : α → List α → Prop
  | root {h : α} : og h = some none → m h = none → Good bar m co og h [h]
  | step {h o h' : α} {q : List α} : og h = some (some o) → m h = some o → co o = some h' → bar h' o = true → h ∉ q → Good bar m co og h' q → Good bar m co og h (h :: q)
variable {all : List α} {bar : α → α → Bool} {m m' g co co' : α → Option α} {og og' : α → Option (Option α)}
theorem Good.mono {h : α} {p : List α} (G : Good bar m co og h p) (hm : ∀ x ∈ p, m' x = m x) (hc : ∀ x v, co x = some v → co' x = some v) (ho : ∀ x v, og x = some v → og' x = some v) : Good bar m' co' og' h p := by
  induction G with
  | root e1 e2 => exact .root (ho _ _ e1) (by rw [hm _ List.mem_cons_self]; exact e2)
  | step e1 e2 e3 b n G ih => exact .step (ho _ _ e1) (by rw [hm _ List.mem_cons_self]; exact e2) (hc _ _ e3) b n (ih fun x hx => hm x (List.mem_cons_of_mem _ hx))
theorem Good.here {h : α} {p : List α} (G : Good bar m co og h p) : h ∈ p := by
  cases G with
  | root _ _ => exact List.mem_cons_self
  | step _ _ _ _ _ _ => exact List.mem_cons_self

/-- while a way is turned: the right `other` has lost its left -/
structure Turn (all : List α) (bar : α → α → Bool) (m0 g0 : α → Option α) (rgt : α → Bool) (co : α → Option α) (og : α → Option (Option α)) (m1 g1 : α → Option α) (other h : α) (p : List α) : Prop where
  mt : Match all bar m1 g1
  ot : other ∈ all
  co_ : co other = some h
  bar_ : bar h other = true
  good : Good bar m1 co og h p
  sub : ∀ x ∈ p, x ∈ all
  gn : ∀ j ∈ all, g1 j = none ↔ rgt j = true ∨ j = other
  ro : rgt other = false
  um : ∀ i ∈ all, m1 i = none ↔ m0 i = none
  av : ∀ L R : α → Prop, Closed all bar g0 L R → ¬ R other ∧ ∀ j ∈ all, R j → g1 j = g0 j
/-- .. and when it is turned -/
structure Turned (all : List α) (bar : α → α → Bool) (m0 g0 : α → Option α) (rgt : α → Bool) (item : α) (m1 g1 : α → Option α) : Prop where
  mt : Match all bar m1 g1
  gn : ∀ j ∈ all, g1 j = none ↔ rgt j = true
  um : ∀ i ∈ all, m1 i = none ↔ m0 i = none ∧ i ≠ item
  av : ∀ L R : α → Prop, Closed all bar g0 L R → ∀ j ∈ all, R j → g1 j = g0 j
variable {m0 g0 m1 g1 : α → Option α} {rgt : α → Bool} {other h item : α} {p : List α}
theorem Turn.other_ne (T : Turn all bar m0 g0 rgt co og m1 g1 other h p) : g1 other = none := (T.gn other T.ot).mpr (.inr rfl)
theorem Turn.h_in (T : Turn all bar m0 g0 rgt co og m1 g1 other h p) : h ∈ all := T.sub h T.good.here
/-- the root is met -/
theorem Turn.last (T : Turn all bar m0 g0 rgt co og m1 g1 other h p) (e : og h = some none) (hi : h = item) : Turned all bar m0 g0 rgt item (setF m1 h (some other)) (setF g1 other (some h)) ∧ m1 h = none := by
  have mh : m1 h = none := by
    cases T.good with
    | root _ e2 => exact e2
    | step e1 _ _ _ _ _ => rw [e] at e1; cases e1
  have go := T.other_ne
  refine ⟨⟨⟨fun i hi' j q => ?_, fun j hj i q => ?_⟩, fun j hj => ?_, fun i hi' => ?_, fun L R C j hj r => ?_⟩, mh⟩
  · by_cases z : i = h
    · subst z
      rw [setF_same] at q
      cases q
      exact ⟨T.ot, T.bar_, setF_same⟩
    · rw [setF_ne z] at q
      obtain ⟨a, b, c⟩ := T.mt.to_ i hi' j q
      exact ⟨a, b, by rw [setF_ne (fun w => by (rw [w, go] at c; cases c))]; exact c⟩
  · by_cases z : j = other
    · subst z
      rw [setF_same] at q
      cases q
      exact ⟨T.h_in, setF_same⟩
    · rw [setF_ne z] at q
      obtain ⟨a, b⟩ := T.mt.back j hj i q
      exact ⟨a, by rw [setF_ne (fun w => by rw [w, mh] at b; cases b)]; exact b⟩
  · by_cases z : j = other
    · subst z
      rw [setF_same, T.ro]
      exact ⟨nofun, nofun⟩
    · rw [setF_ne z, T.gn j hj]
      exact ⟨fun w => w.resolve_right z, .inl⟩
  · by_cases z : i = h
    · subst z
      rw [setF_same]
      exact ⟨nofun, fun w => absurd hi w.2⟩
    · rw [setF_ne z, T.um i hi']
      exact ⟨fun w => ⟨w, fun y => z (y.trans hi.symm)⟩, fun w => w.1⟩
  · obtain ⟨n, k⟩ := T.av L R C
    have jn : j ≠ other := fun w => n (by rw [← w]; exact r)
    rw [setF_ne jn]
    exact k j hj r
/-- one more step -/
theorem Turn.next (T : Turn all bar m0 g0 rgt co og m1 g1 other h p) {o : α} (e : og h = some (some o)) :
    m1 h = some o ∧ g1 o = some h ∧ o ≠ other ∧ o ∈ all ∧ ∃ h' q, p.length = q.length + 1 ∧ Turn all bar m0 g0 rgt co og (setF m1 h (some other)) (setF (setF g1 other (some h)) o none) o h' q := by
  cases hG : T.good with
  | root e1 _ => rw [e] at e1; cases e1
  | @step _ o' h' q e1 e2 e3 b n G =>
    rw [e] at e1
    cases e1
    have hh := T.h_in
    obtain ⟨oa, _, go⟩ := T.mt.to_ h hh o e2
    have g1o := T.other_ne
    have ne : o ≠ other := fun w => by rw [w, g1o] at go; cases go
    refine ⟨e2, go, ne, oa, h', q, rfl, ⟨fun i hi j w => ?_, fun j hj i w => ?_⟩, oa, e3, b, G.mono (fun x hx => setF_ne (fun w => n (w ▸ hx))) (fun _ _ w => w) fun _ _ w => w, fun x hx => T.sub x (List.mem_cons_of_mem _ hx), fun j hj => ?_, ?_, fun i hi => ?_, fun L R C => ?_⟩
    · by_cases z : i = h
      · subst z
        rw [setF_same] at w
        cases w
        exact ⟨T.ot, T.bar_, by rw [setF_ne (Ne.symm ne), setF_same]⟩
      · rw [setF_ne z] at w
        obtain ⟨a, b', c⟩ := T.mt.to_ i hi j w
        refine ⟨a, b', ?_⟩
        rw [setF_ne (fun y => by rw [y, go] at c; exact z (Option.some.inj c).symm), setF_ne (fun y => by rw [y, g1o] at c; cases c)]
        exact c
    · by_cases z : j = o
      · subst z
        rw [setF_same] at w
        cases w
      · rw [setF_ne z] at w
        by_cases y : j = other
        · subst y
          rw [setF_same] at w
          cases w
          exact ⟨hh, setF_same⟩
        · rw [setF_ne y] at w
          obtain ⟨a, b'⟩ := T.mt.back j hj i w
          exact ⟨a, by rw [setF_ne (fun x => by rw [x, e2] at b'; exact z (Option.some.inj b').symm)]; exact b'⟩
    · by_cases z : j = o
      · subst z
        rw [setF_same]
        exact ⟨fun _ => .inr rfl, fun _ => rfl⟩
      · rw [setF_ne z]
        by_cases y : j = other
        · subst y
          rw [setF_same, T.ro]
          exact ⟨nofun, fun x => x.elim nofun fun x => absurd x z⟩
        · rw [setF_ne y, T.gn j hj]
          exact ⟨fun x => .inl (x.resolve_right y), fun x => .inl (x.resolve_right z)⟩
    · cases r : rgt o with
      | false => rfl
      | true =>
        have := (T.gn o oa).mpr (.inl r)
        rw [go] at this; cases this
    · by_cases z : i = h
      · subst z
        rw [setF_same, ← T.um i hi, e2]
        exact ⟨nofun, nofun⟩
      · rw [setF_ne z, T.um i hi]
    · obtain ⟨k1, k2⟩ := T.av L R C
      have nL : ¬ L h := fun l => k1 (C.link h hh l other T.ot T.bar_)
      have nR : ¬ R o := fun r => by
        obtain ⟨i, gi, li⟩ := C.give o oa r
        rw [← k2 o oa r, go] at gi
        cases gi
        exact nL li
      refine ⟨nR, fun j hj r => ?_⟩
      have jo : j ≠ o := fun y => nR (by rw [← y]; exact r)
      have jt : j ≠ other := fun y => k1 (by rw [← y]; exact r)
      rw [setF_ne jo, setF_ne jt]
      exact k2 j hj r

/-! ### the search -/
/-- what holds while items are searched: ws wait, at `here` the links in done are through -/
structure Push (all : List α) (bar : α → α → Bool) (m g : α → Option α) (item : α) (co : α → Option α) (og : α → Option (Option α)) (wait : α → Prop) : Prop where
  ia : item ∈ all
  im : m item = none
  root : og item = some none
  only : ∀ h, og h = some none → h = item
  good : ∀ h v, og h = some v → h ∈ all ∧ ∃ p, Good bar m co og h p ∧ ∀ x ∈ p, x ∈ all ∧ ∃ w, og x = some w
  comes : ∀ o h, co o = some h → o ∈ all ∧ bar h o = true ∧ (∃ v, og h = some v) ∧ ∃ i, g o = some i ∧ ∃ v, og i = some v
  link : ∀ h v, og h = some v → wait h ∨ ∀ j ∈ all, bar h j = true → ∃ i, co j = some i
theorem Push.start {m g : α → Option α} {item : α} (ia : item ∈ all) (im : m item = none) : Push all bar m g item (fun _ => none) (setF (fun _ => none) item (some none)) (fun h => h = item) where
  ia := ia
  im := im
  root := setF_same
  only := fun h e => Classical.byContradiction fun n => by rw [setF_ne n] at e; cases e
  good := fun h v e => by
    have : h = item := Classical.byContradiction fun n => by rw [setF_ne n] at e; cases e
    subst this
    refine ⟨ia, [h], .root setF_same im, fun x hx => ?_⟩
    rw [List.mem_singleton] at hx
    subst hx
    exact ⟨ia, _, setF_same⟩
  comes := fun o h e => by cases e
  link := fun h v e => .inl (Classical.byContradiction fun n => by rw [setF_ne n] at e; cases e)
theorem Push.weaken {m g : α → Option α} {item : α} {w w' : α → Prop} (P : Push all bar m g item co og w) (h : ∀ x v, og x = some v → w x → w' x ∨ ∀ j ∈ all, bar x j = true → ∃ i, co j = some i) : Push all bar m g item co og w' :=
  { P with link := fun x v e => (P.link x v e).elim (h x v e) .inr }
/-- a right is met that is matched from i -/
theorem Push.meet {m g : α → Option α} {item : α} {w w' : α → Prop} (P : Push all bar m g item co og w) (M : Match all bar m g) {here o i : α} {v : Option α} (eh : og here = some v) (oa : o ∈ all) (b : bar here o = true) (no : co o = none) (gi : g o = some i)
    (hog : (og i = none ∧ og' = setF og i (some (some o)) ∧ ∀ x, w x ∨ x = i → w' x) ∨ ((∃ u, og i = some u) ∧ og' = og ∧ ∀ x, w x → w' x)) : Push all bar m g item (setF co o (some here)) og' w' := by
  obtain ⟨ia, mi⟩ := M.back o oa i gi
  have hc : ∀ x u, co x = some u → setF co o (some here) x = some u := fun x u e => by rw [setF_ne (fun y => by rw [y, no] at e; cases e)]; exact e
  have ho : ∀ x u, og x = some u → og' x = some u := fun x u e => by
    rcases hog with ⟨n, rfl, _⟩ | ⟨_, rfl, _⟩
    · rw [setF_ne (fun y => by rw [y, n] at e; cases e)]; exact e
    · exact e
  have hw : ∀ x, w x → w' x := fun x y => by
    rcases hog with ⟨_, _, k⟩ | ⟨_, _, k⟩
    · exact k x (.inl y)
    · exact k x y
  have oi : ∃ u, og' i = some u := by
    rcases hog with ⟨_, rfl, _⟩ | ⟨k, rfl, _⟩
    · exact ⟨_, setF_same⟩
    · exact k
  have old : ∀ h u, og h = some u → h ∈ all ∧ ∃ p, Good bar m (setF co o (some here)) og' h p ∧ ∀ x ∈ p, x ∈ all ∧ ∃ w, og' x = some w := fun h u e => by
    obtain ⟨ha, p, G, q⟩ := P.good h u e
    refine ⟨ha, p, G.mono (fun _ _ => rfl) hc ho, fun x hx => ?_⟩
    obtain ⟨xa, y, ey⟩ := q x hx
    exact ⟨xa, y, ho x y ey⟩
  have old' : ∀ h u, og' h = some u → (∃ u, og h = some u) ∨ (h = i ∧ og i = none ∧ og' i = some (some o)) := fun h u e => by
    rcases hog with ⟨n, rfl, _⟩ | ⟨_, rfl, _⟩
    · by_cases z : h = i
      · exact .inr ⟨z, n, setF_same⟩
      · rw [setF_ne z] at e
        exact .inl ⟨u, e⟩
    · exact .inl ⟨u, e⟩
  refine ⟨P.ia, P.im, ho _ _ P.root, fun h e => ?_, fun h u e => ?_, fun o' h e => ?_, fun h u e => ?_⟩
  · rcases old' h _ e with ⟨u, e2⟩ | ⟨rfl, n, e2⟩
    · have := ho h u e2
      rw [e] at this
      cases this
      exact P.only h e2
    · rw [e] at e2; cases e2
  · rcases old' h u e with ⟨u', e2⟩ | ⟨rfl, n, e2⟩
    · exact old h u' e2
    · obtain ⟨_, p, G, q⟩ := old here v eh
      refine ⟨ia, h :: p, .step e2 mi setF_same b (fun hx => ?_) G, fun x hx => ?_⟩
      · obtain ⟨_, p0, G0, q0⟩ := P.good here v eh
        -- the way to `here` holds old lefts alone
        have : ∀ {a : α} {p p' : List α}, Good bar m co og a p → Good bar m (setF co o (some here)) og' a p' → p = p' := by
          intro a p p' G1
          induction G1 generalizing p' with
          | root a1 a2 =>
            intro G2
            cases G2 with
            | root _ _ => rfl
            | step b1 _ _ _ _ _ =>
              rw [ho _ _ a1] at b1; cases b1
          | step a1 a2 a3 a4 a5 a6 ih =>
            intro G2
            cases G2 with
            | root b1 _ => rw [ho _ _ a1] at b1; cases b1
            | step b1 _ b3 _ _ b6 =>
              rw [ho _ _ a1] at b1
              cases b1
              rw [hc _ _ a3] at b3
              cases b3
              rw [ih b6]
        have e3 := this G0 G
        rw [← e3] at hx
        obtain ⟨_, y, ey⟩ := q0 h hx
        rw [n] at ey; cases ey
      · rcases List.mem_cons.mp hx with rfl | hx
        · exact ⟨ia, oi⟩
        · exact q x hx
  · by_cases z : o' = o
    · subst z
      rw [setF_same] at e
      cases e
      exact ⟨oa, b, ⟨v, ho _ _ eh⟩, i, gi, oi⟩
    · rw [setF_ne z] at e
      obtain ⟨a1, a2, ⟨u1, a3⟩, i', a4, u2, a5⟩ := P.comes o' h e
      exact ⟨a1, a2, ⟨u1, ho _ _ a3⟩, i', a4, u2, ho _ _ a5⟩
  · rcases old' h u e with ⟨u', e2⟩ | ⟨rfl, n, e2⟩
    · rcases P.link h u' e2 with k | k
      · exact .inl (hw h k)
      · refine .inr fun j hj bj => ?_
        obtain ⟨i', ei⟩ := k j hj bj
        exact ⟨i', hc _ _ ei⟩
    · rcases hog with ⟨_, _, k⟩ | ⟨⟨u', k⟩, _, _⟩
      · exact .inl (k h (.inr rfl))
      · rw [n] at k; cases k
/-- a free right is met: the way can be turned -/
theorem Push.found {m g : α → Option α} {item : α} {w : α → Prop} (P : Push all bar m g item co og w) (M : Match all bar m g) {here o : α} {v : Option α} (eh : og here = some v) (oa : o ∈ all) (b : bar here o = true) (no : co o = none) (go : g o = none) :
    ∃ p, Turn all bar m g (fun j => un g j && decide (j ≠ o)) (setF co o (some here)) og m g o here p := by
  obtain ⟨ha, p, G, q⟩ := P.good here v eh
  refine ⟨p, M, oa, setF_same, b, G.mono (fun _ _ => rfl) (fun x u e => by rw [setF_ne (fun y => by rw [y, no] at e; cases e)]; exact e) fun _ _ e => e, fun x hx => (q x hx).1, fun j _ => ?_, ?_, fun i _ => Iff.rfl, fun L R C => ⟨fun r => ?_, fun _ _ _ => rfl⟩⟩
  · rw [Bool.and_eq_true, un_iff, decide_eq_true_eq]
    by_cases z : j = o
    · subst z
      exact ⟨fun _ => .inr rfl, fun _ => go⟩
    · exact ⟨fun e => .inl ⟨e, z⟩, fun e => e.elim (fun e => e.1) fun e => absurd e z⟩
  · show (un g o && decide (o ≠ o)) = false
    simp
  · obtain ⟨i, gi, _⟩ := C.give o oa r
    rw [go] at gi; cases gi
/-- nothing waits: no way -/
theorem Push.none_ {m g : α → Option α} {item : α} {w : α → Prop} (P : Push all bar m g item co og w) (hw : ∀ x, ¬ w x) : Closed all bar g (fun h => ∃ v, og h = some v) (fun o => ∃ i, co o = some i) where
  link := fun i hi ⟨v, e⟩ j hj b => (P.link i v e).resolve_left (hw i) j hj b
  give := fun j hj ⟨h, e⟩ => by
    obtain ⟨_, _, _, i, gi, u, ei⟩ := P.comes j h e
    exact ⟨i, gi, u, ei⟩
/-! ### all items through -/
/-- how far Flow has come: the items below are matched or held by a closed pair -/
structure Sofar (all : List α) (bar : α → α → Bool) (m g : α → Option α) (done : α → Prop) : Prop where
  mt : Match all bar m g
  cov : ∃ L R : α → Prop, Closed all bar g L R ∧ ∀ i ∈ all, done i → m i = none → L i
theorem Sofar.start {done : α → Prop} (h : ∀ i ∈ all, ¬ done i) : Sofar all bar (fun _ => none) (fun _ => none) done :=
  ⟨⟨nofun, nofun⟩, fun _ => False, fun _ => False, ⟨fun _ _ f => f.elim, fun _ _ f => f.elim⟩, fun i hi d => (h i hi d).elim⟩
theorem Sofar.free {m g : α → Option α} {done done' : α → Prop} (S : Sofar all bar m g done) {item : α} {L R : α → Prop} (C : Closed all bar g L R) (l : L item) (hd : ∀ i, done' i → done i ∨ i = item) : Sofar all bar m g done' := by
  obtain ⟨L0, R0, C0, h0⟩ := S.cov
  refine ⟨S.mt, fun i => L0 i ∨ L i, fun j => R0 j ∨ R j, ⟨fun i hi a j hj b => a.imp (fun a => C0.link i hi a j hj b) fun a => C.link i hi a j hj b, fun j hj a => ?_⟩, fun i hi d e => ?_⟩
  · rcases a with a | a
    · obtain ⟨i, gi, k⟩ := C0.give j hj a
      exact ⟨i, gi, .inl k⟩
    · obtain ⟨i, gi, k⟩ := C.give j hj a
      exact ⟨i, gi, .inr k⟩
  · rcases hd i d with d | rfl
    · exact .inl (h0 i hi d e)
    · exact .inr l
theorem Sofar.turned {m g m1 g1 : α → Option α} {done done' : α → Prop} {rgt : α → Bool} {item : α} (S : Sofar all bar m g done) (T : Turned all bar m g rgt item m1 g1) (hd : ∀ i, done' i → done i ∨ i = item) : Sofar all bar m1 g1 done' := by
  obtain ⟨L, R, C, h⟩ := S.cov
  refine ⟨T.mt, L, R, ⟨C.link, fun j hj r => by rw [T.av L R C j hj r]; exact C.give j hj r⟩, fun i hi d e => ?_⟩
  obtain ⟨e1, e2⟩ := (T.um i hi).mp e
  exact h i hi ((hd i d).resolve_right e2) e1
end
end Lat
end
section
set_option autoImplicit false
/-! Plain mathematics: copies of rows, their order, keys (keeps as lists in the order of the rows), all keeps found one by one. -/
namespace Lat
theorem eq_of_mem_iff_sub {α : Type} {p q : α → Bool} {l : List α} (h : ∀ x ∈ l, p x = q x) : l.filter p = l.filter q := List.filter_congr h

section
variable {ν : Type} [DecidableEq ν]
abbrev Cp (ν : Type) := ν × Int
/-- place a < place b -/
def plt (rows : List ν) (a b : Cp ν) : Bool := decide (a.2 < b.2) || (decide (a.2 = b.2) && decide (rows.idxOf a.1 < rows.idxOf b.1))
def barC (rows : List ν) (dep : ν → ν → Bool) (a b : Cp ν) : Bool := (decide (a.1 = b.1) || dep a.1 b.1) && plt rows b a
def cps (k : Nat) (r : ν) : List (Cp ν) := (List.range k).map fun i => (r, ((i : Nat) : Int) + 1)
/-- row by row -/
def allC (rows : List ν) (k : Nat) : List (Cp ν) := rows.flatMap (cps k)
/-- by places -/
def allP (rows : List ν) (k : Nat) : List (Cp ν) := (List.range k).flatMap fun i => rows.map fun r => (r, ((i : Nat) : Int) + 1)
theorem allP_succ (rows : List ν) (k : Nat) : allP rows (k + 1) = allP rows k ++ rows.map fun r => (r, ((k : Nat) : Int) + 1) := by
  unfold allP
  rw [List.range_succ, List.flatMap_append, List.flatMap_cons, List.flatMap_nil, List.append_nil]
theorem allP_len (rows : List ν) : ∀ k : Nat, (allP rows k).length = rows.length * k
  | 0 => rfl
  | k + 1 => by rw [allP_succ, List.length_append, List.length_map, allP_len rows k, Nat.mul_succ]
theorem mem_cps {k : Nat} {r : ν} {c : Cp ν} : c ∈ cps k r ↔ c.1 = r ∧ 1 ≤ c.2 ∧ c.2 ≤ k := by
  unfold cps
  rw [List.mem_map]
  constructor
  · rintro ⟨i, hi, rfl⟩
    rw [List.mem_range] at hi
    exact ⟨rfl, by show (1 : Int) ≤ i + 1; omega, by show (i : Int) + 1 ≤ k; omega⟩
  · rintro ⟨h1, h2, h3⟩
    refine ⟨(c.2 - 1).toNat, List.mem_range.mpr (by omega), ?_⟩
    rw [← h1]
    show (c.1, (((c.2 - 1).toNat : Nat) : Int) + 1) = c
    rw [show (((c.2 - 1).toNat : Nat) : Int) + 1 = c.2 by omega]
theorem mem_allC {rows : List ν} {k : Nat} {c : Cp ν} : c ∈ allC rows k ↔ c.1 ∈ rows ∧ 1 ≤ c.2 ∧ c.2 ≤ k := by
  unfold allC
  rw [List.mem_flatMap]
  constructor
  · rintro ⟨r, hr, hc⟩
    obtain ⟨rfl, h⟩ := mem_cps.mp hc
    exact ⟨hr, h⟩
  · rintro ⟨h1, h2⟩
    exact ⟨c.1, h1, mem_cps.mpr ⟨rfl, h2⟩⟩
theorem mem_allP {rows : List ν} {k : Nat} {c : Cp ν} : c ∈ allP rows k ↔ c.1 ∈ rows ∧ 1 ≤ c.2 ∧ c.2 ≤ k := by
  unfold allP
  rw [List.mem_flatMap]
  constructor
  · rintro ⟨i, hi, hc⟩
    obtain ⟨r, hr, rfl⟩ := List.mem_map.mp hc
    rw [List.mem_range] at hi
    exact ⟨hr, by show (1 : Int) ≤ i + 1; omega, by show (i : Int) + 1 ≤ k; omega⟩
  · rintro ⟨h1, h2, h3⟩
    refine ⟨(c.2 - 1).toNat, List.mem_range.mpr (by omega), List.mem_map.mpr ⟨c.1, h1, ?_⟩⟩
    rw [show (((c.2 - 1).toNat : Nat) : Int) + 1 = c.2 by omega]
theorem cps_nodup (k : Nat) (r : ν) : (cps k r).Nodup := nodup_map List.nodup_range fun x _ y _ e => by
  have : ((x : Nat) : Int) + 1 = (y : Int) + 1 := congrArg Prod.snd e
  omega
theorem allC_nodup {rows : List ν} (h : rows.Nodup) (k : Nat) : (allC rows k).Nodup := by
  unfold allC
  induction rows with
  | nil => exact List.nodup_nil
  | cons r rs ih =>
    obtain ⟨h1, h2⟩ := List.nodup_cons.mp h
    rw [List.flatMap_cons]
    refine List.nodup_append.mpr ⟨cps_nodup k r, ih h2, fun a ha b hb e => ?_⟩
    subst e
    obtain ⟨r', hr', hc⟩ := List.mem_flatMap.mp hb
    exact h1 ((mem_cps.mp ha).1 ▸ (mem_cps.mp hc).1 ▸ hr')
theorem plt_irr (rows : List ν) (a : Cp ν) : plt rows a a = false := by unfold plt; simp
theorem plt_tr {rows : List ν} {a b c : Cp ν} (h1 : plt rows a b = true) (h2 : plt rows b c = true) : plt rows a c = true := by
  unfold plt at *
  simp only [Bool.or_eq_true, Bool.and_eq_true, decide_eq_true_eq] at *
  omega
theorem plt_asym {rows : List ν} {a b : Cp ν} (h1 : plt rows a b = true) : plt rows b a = false := by
  cases e : plt rows b a with
  | false => rfl
  | true => have := plt_tr h1 e; rw [plt_irr] at this; cases this
theorem allP_sorted {rows : List ν} (h : rows.Nodup) (k : Nat) : (allP rows k).Pairwise fun a b => plt rows a b = true := by
  unfold allP
  refine List.pairwise_flatMap.mpr ⟨fun i _ => ?_, ?_⟩
  · rw [List.pairwise_map]
    have : rows.Pairwise fun a b => rows.idxOf a < rows.idxOf b := by
      rw [List.pairwise_iff_getElem]
      intro i j hi hj lt
      rw [h.idxOf_getElem i hi, h.idxOf_getElem j hj]
      exact lt
    refine this.imp fun {a b} lt => ?_
    unfold plt
    simp [lt]
  · refine (List.pairwise_lt_range).imp fun {i j} lt => ?_
    intro a ha b hb
    obtain ⟨r, _, rfl⟩ := List.mem_map.mp ha
    obtain ⟨r', _, rfl⟩ := List.mem_map.mp hb
    unfold plt
    simp [show (i : Int) + 1 < (j : Int) + 1 by omega]
theorem allP_nodup {rows : List ν} (h : rows.Nodup) (k : Nat) : (allP rows k).Nodup := (allP_sorted h k).imp fun {a b} e q => by
  subst q
  rw [plt_irr] at e
  cases e
/-- a dependence on the rows that goes on -/
structure Dp (rows : List ν) (dep : ν → ν → Bool) : Prop where
  nd : rows.Nodup
  tr : ∀ a ∈ rows, ∀ b ∈ rows, ∀ c ∈ rows, dep a b = true → dep b c = true → dep a c = true
variable {rows : List ν} {dep : ν → ν → Bool} {k : Nat}
theorem barC_iff {a b : Cp ν} : barC rows dep a b = true ↔ (a.1 = b.1 ∨ dep a.1 b.1 = true) ∧ plt rows b a = true := by
  unfold barC; rw [Bool.and_eq_true, Bool.or_eq_true, decide_eq_true_eq]
theorem ordC (D : Dp rows dep) : Ord (allC rows k) (barC rows dep) where
  nd := allC_nodup D.nd k
  irr := fun a _ => by unfold barC; rw [plt_irr, Bool.and_false]
  tr := fun a ha b hb c hc h1 h2 => by
    obtain ⟨e1, p1⟩ := barC_iff.mp h1
    obtain ⟨e2, p2⟩ := barC_iff.mp h2
    refine barC_iff.mpr ⟨?_, plt_tr p2 p1⟩
    rcases e1 with e1 | e1
    · rw [e1]; exact e2
    · rcases e2 with e2 | e2
      · rw [← e2]; exact .inr e1
      · exact .inr (D.tr _ (mem_allC.mp ha).1 _ (mem_allC.mp hb).1 _ (mem_allC.mp hc).1 e1 e2)
/-! ### from one list to another with the same members -/
theorem mem_CP {c : Cp ν} : c ∈ allC rows k ↔ c ∈ allP rows k := by rw [mem_allC, mem_allP]
theorem anti_of {α : Type} {l l' : List α} {bar : α → α → Bool} {S : α → Bool} (h : ∀ x, x ∈ l' → x ∈ l) (a : Anti l bar S) : Anti l' bar S := fun x hx y hy => a x (h x hx) y (h y hy)
theorem count_perm {α : Type} [DecidableEq α] {l l' : List α} (h1 : l.Nodup) (h2 : l'.Nodup) (h : ∀ x, x ∈ l ↔ x ∈ l') (p : α → Bool) : l.countP p = l'.countP p := by
  rw [List.countP_eq_length_filter, List.countP_eq_length_filter]
  refine Nat.le_antisymm (len_sub (h1.sublist List.filter_sublist) fun x hx => ?_) (len_sub (h2.sublist List.filter_sublist) fun x hx => ?_)
  · obtain ⟨a, b⟩ := List.mem_filter.mp hx
    exact List.mem_filter.mpr ⟨(h x).mp a, b⟩
  · obtain ⟨a, b⟩ := List.mem_filter.mp hx
    exact List.mem_filter.mpr ⟨(h x).mpr a, b⟩
theorem best_perm {α : Type} [DecidableEq α] {l l' : List α} {bar : α → α → Bool} (h1 : l.Nodup) (h2 : l'.Nodup) (h : ∀ x, x ∈ l ↔ x ∈ l') {S : α → Bool} (b : Best l bar S) : Best l' bar S :=
  ⟨anti_of (fun x => (h x).mpr) b.anti, fun T hT => by rw [← count_perm h1 h2 h, ← count_perm h1 h2 h]; exact b.most T (anti_of (fun x => (h x).mp) hT)⟩
theorem earlier_perm {α : Type} [DecidableEq α] {l l' : List α} {bar : α → α → Bool} (h : ∀ x, x ∈ l ↔ x ∈ l') {S T : α → Bool} (e : Earlier l bar S T) : Earlier l' bar S T := fun x hx s => by
  rcases down_iff.mp (e x ((h x).mpr hx) s) with d | ⟨y, hy, a, b⟩
  · exact down_iff.mpr (.inl d)
  · exact down_iff.mpr (.inr ⟨y, (h y).mp hy, a, b⟩)
/-! ### keys -/
/-- the members of a list as a predicate -/
def mems {α : Type} [DecidableEq α] (l : List α) (x : α) : Bool := decide (x ∈ l)
theorem mems_iff {α : Type} [DecidableEq α] {l : List α} {x : α} : mems l x = true ↔ x ∈ l := by unfold mems; exact decide_eq_true_iff
structure IsKey (rows : List ν) (dep : ν → ν → Bool) (k : Nat) (ks : List (Cp ν)) : Prop where
  can : ks = (allC rows k).filter (mems ks)
  anti : Anti (allC rows k) (barC rows dep) (mems ks)
structure BestKey (rows : List ν) (dep : ν → ν → Bool) (k : Nat) (ks : List (Cp ν)) : Prop where
  can : ks = (allC rows k).filter (mems ks)
  best : Best (allC rows k) (barC rows dep) (mems ks)
theorem BestKey.key {ks : List (Cp ν)} (h : BestKey rows dep k ks) : IsKey rows dep k ks := ⟨h.can, h.best.anti⟩
theorem mems_filter {α : Type} [DecidableEq α] {l : List α} {S : α → Bool} : Eqv l (mems (l.filter S)) S := fun x hx => by
  rw [Bool.eq_iff_iff, mems_iff, List.mem_filter]
  exact ⟨fun h => h.2, fun h => ⟨hx, h⟩⟩
theorem filter_can {α : Type} [DecidableEq α] {l : List α} {S : α → Bool} : l.filter S = l.filter (mems (l.filter S)) := List.filter_congr fun x hx => (mems_filter x hx).symm
theorem bestKey_of {S : Cp ν → Bool} (h : Best (allC rows k) (barC rows dep) S) : BestKey rows dep k ((allC rows k).filter S) := ⟨filter_can, h.eqv fun x hx => (mems_filter x hx).symm⟩
theorem isKey_of {S : Cp ν → Bool} (h : Anti (allC rows k) (barC rows dep) S) : IsKey rows dep k ((allC rows k).filter S) :=
  ⟨filter_can, fun a ha b hb x y => h a ha b hb ((mems_filter (S := S) a ha).symm.trans x) ((mems_filter (S := S) b hb).symm.trans y)⟩
theorem IsKey.mem {ks : List (Cp ν)} (h : IsKey rows dep k ks) {c : Cp ν} (hc : c ∈ ks) : c ∈ allC rows k := by
  rw [h.can] at hc
  exact (List.mem_filter.mp hc).1
theorem IsKey.bar {ks : List (Cp ν)} (h : IsKey rows dep k ks) {a b : Cp ν} (ha : a ∈ ks) (hb : b ∈ ks) : barC rows dep a b = false := h.anti a (h.mem ha) b (h.mem hb) (mems_iff.mpr ha) (mems_iff.mpr hb)
theorem key_len {ks : List (Cp ν)} (h : ks = (allC rows k).filter (mems ks)) : ks.length = (allC rows k).countP (mems ks) := by
  rw [List.countP_eq_length_filter, ← h]
def joinK (rows : List ν) (dep : ν → ν → Bool) (k : Nat) (a b : List (Cp ν)) : List (Cp ν) := (allC rows k).filter (join (allC rows k) (barC rows dep) (mems a) (mems b))
def meetK (rows : List ν) (dep : ν → ν → Bool) (k : Nat) (a b : List (Cp ν)) : List (Cp ν) := (allC rows k).filter (meet (allC rows k) (barC rows dep) (mems a) (mems b))
def EarlierK (rows : List ν) (dep : ν → ν → Bool) (k : Nat) (a b : List (Cp ν)) : Prop := Earlier (allC rows k) (barC rows dep) (mems a) (mems b)
/-! ### the laws, of keys -/
section
variable {a b c : List (Cp ν)} (D : Dp rows dep) (ha : BestKey rows dep k a) (hb : BestKey rows dep k b) (hc : BestKey rows dep k c)
include D ha hb
theorem joinK_best : BestKey rows dep k (joinK rows dep k a b) := bestKey_of (join_best (ordC D) ha.best hb.best)
theorem meetK_best : BestKey rows dep k (meetK rows dep k a b) := bestKey_of (meet_best (ordC D) ha.best hb.best)
theorem joinK_comm : joinK rows dep k a b = joinK rows dep k b a := by unfold joinK; rw [join_comm]
theorem meetK_comm : meetK rows dep k a b = meetK rows dep k b a := by unfold meetK; rw [meet_comm]
theorem mems_join : Eqv (allC rows k) (mems (joinK rows dep k a b)) (join (allC rows k) (barC rows dep) (mems a) (mems b)) := mems_filter
theorem mems_meet : Eqv (allC rows k) (mems (meetK rows dep k a b)) (meet (allC rows k) (barC rows dep) (mems a) (mems b)) := mems_filter
theorem absorb1 : joinK rows dep k a (meetK rows dep k a b) = a := by
  refine Eq.trans (List.filter_congr fun x hx => ?_) ha.can.symm
  rw [join_congr (fun _ _ => rfl) (mems_meet D ha hb) x hx]
  exact absorb_join (ordC D) ha.best hb.best x hx
theorem absorb2 : meetK rows dep k a (joinK rows dep k a b) = a := by
  refine Eq.trans (List.filter_congr fun x hx => ?_) ha.can.symm
  rw [meet_congr (fun _ _ => rfl) (mems_join D ha hb) x hx]
  exact absorb_meet (ordC D) ha.best hb.best x hx
theorem joinK_of (h : EarlierK rows dep k a b) : joinK rows dep k a b = b := by
  refine Eq.trans (List.filter_congr fun x hx => ?_) hb.can.symm
  exact join_of_earlier (ordC D) ha.best hb.best h x hx
theorem meetK_of (h : EarlierK rows dep k b a) : meetK rows dep k a b = b := by
  refine Eq.trans (List.filter_congr fun x hx => ?_) hb.can.symm
  exact meet_of_later (ordC D) ha.best hb.best h x hx
theorem meetK_earlier : EarlierK rows dep k (meetK rows dep k a b) a := fun x hx e => meet_earlier (ordC D) ha.best hb.best x hx (by rw [← mems_meet D ha hb x hx]; exact e)
theorem meetK_earlier' : EarlierK rows dep k (meetK rows dep k a b) b := by rw [meetK_comm D ha hb]; exact meetK_earlier D hb ha
theorem earlierK_join : EarlierK rows dep k a (joinK rows dep k a b) := fun x hx e => by
  rcases down_iff.mp (earlier_join (ordC D) ha.best hb.best x hx e) with d | ⟨y, hy, d, q⟩
  · exact down_iff.mpr (.inl (by rw [mems_join D ha hb x hx]; exact d))
  · exact down_iff.mpr (.inr ⟨y, hy, by rw [mems_join D ha hb y hy]; exact d, q⟩)
theorem earlierK_join' : EarlierK rows dep k b (joinK rows dep k a b) := by rw [joinK_comm D ha hb]; exact earlierK_join D hb ha
theorem earlierK_antisymm (h : EarlierK rows dep k a b) (h' : EarlierK rows dep k b a) : a = b := by
  rw [ha.can, hb.can]
  exact List.filter_congr (earlier_antisymm (ordC D) ha.best.anti hb.best.anti h h')
theorem same_len : a.length = b.length := by rw [key_len ha.can, key_len hb.can]; exact ha.best.same hb.best
include hc
theorem distrib1 : meetK rows dep k a (joinK rows dep k b c) = joinK rows dep k (meetK rows dep k a b) (meetK rows dep k a c) := by
  refine List.filter_congr fun x hx => ?_
  rw [meet_congr (fun _ _ => rfl) (mems_join D hb hc) x hx, join_congr (mems_meet D ha hb) (mems_meet D ha hc) x hx]
  exact distrib_meet (ordC D) ha.best hb.best hc.best x hx
theorem distrib2 : joinK rows dep k a (meetK rows dep k b c) = meetK rows dep k (joinK rows dep k a b) (joinK rows dep k a c) := by
  refine List.filter_congr fun x hx => ?_
  rw [join_congr (fun _ _ => rfl) (mems_meet D hb hc) x hx, meet_congr (mems_join D ha hb) (mems_join D ha hc) x hx]
  exact distrib_join (ordC D) ha.best hb.best hc.best x hx
theorem earlierK_trans (h : EarlierK rows dep k a b) (h' : EarlierK rows dep k b c) : EarlierK rows dep k a c := fun x hx e => down_mono (ordC D) h' hx (h x hx e)
end
end
end Lat
end
section
set_option autoImplicit false
/-! Plain: the copies by their places stand in the order of the places. -/
namespace Lat
section
variable {ν : Type} [DecidableEq ν] {rows : List ν}
theorem idx_ne {x y : ν} {xs : List ν} (h : x ≠ y) : (x :: xs).idxOf y = xs.idxOf y + 1 := by
  rw [List.idxOf_cons]
  have : (x == y) = false := by simp [h]
  rw [this]
  rfl
theorem rows_pw : ∀ {l : List ν}, l.Nodup → l.Pairwise fun a b => l.idxOf a < l.idxOf b
  | [], _ => .nil
  | x :: xs, h => by
    obtain ⟨h1, h2⟩ := List.nodup_cons.mp h
    refine List.pairwise_cons.mpr ⟨fun y hy => ?_, (rows_pw h2).imp_of_mem fun {a b} ha hb e => ?_⟩
    · have : x ≠ y := fun z => h1 (z ▸ hy)
      rw [List.idxOf_cons_self, idx_ne this]
      omega
    · have e1 : x ≠ a := fun z => h1 (z ▸ ha)
      have e2 : x ≠ b := fun z => h1 (z ▸ hb)
      rw [idx_ne e1, idx_ne e2]
      omega
theorem allP_pw (h : rows.Nodup) : ∀ k : Nat, (allP rows k).Pairwise fun a b => plt rows a b = true
  | 0 => .nil
  | k + 1 => by
    rw [allP_succ]
    refine List.pairwise_append.mpr ⟨allP_pw h k, List.pairwise_map.mpr ((rows_pw h).imp fun {a b} e => ?_), fun a ha b hb => ?_⟩
    · unfold plt
      simp only [decide_true, Bool.true_and, Bool.or_eq_true, decide_eq_true_eq]
      exact .inr e
    · obtain ⟨r, hr, rfl⟩ := List.mem_map.mp hb
      obtain ⟨_, _, h3⟩ := mem_allP.mp ha
      unfold plt
      rw [Bool.or_eq_true, decide_eq_true_eq]
      refine .inl ?_
      show a.2 < (k : Int) + 1
      omega
end
end Lat
end
section
set_option autoImplicit false
/-! Plain: copies by their numbers. -/
namespace Lat
section
variable {ν : Type} [DecidableEq ν] {rows : List ν} {dep : ν → ν → Bool} {k : Nat} {d : Cp ν}
theorem num_lt (h : rows.Nodup) {i j : Nat} (hi : i < (allP rows k).length) (hj : j < (allP rows k).length) (b : barC rows dep ((allP rows k).getD i d) ((allP rows k).getD j d) = true) : j < i := by
  have p := (barC_iff.mp b).2
  have pw := List.pairwise_iff_getElem.mp (allP_pw h k)
  rw [List.getD_eq_getElem?_getD, List.getD_eq_getElem?_getD, List.getElem?_eq_getElem hi, List.getElem?_eq_getElem hj] at p
  simp only [Option.getD_some] at p
  rcases Nat.lt_trichotomy j i with z | z | z
  · exact z
  · subst z
    rw [plt_irr] at p
    cases p
  · have q := plt_tr (pw i j hi hj z) p
    rw [plt_irr] at q
    cases q
end
section
variable {α : Type} [DecidableEq α] {l : List α} {d : α} {bar : α → α → Bool} {barI : Nat → Nat → Bool} {S : Nat → Bool}
theorem map_num : (List.range l.length).map (fun i => l.getD i d) = l := by
  apply List.ext_getElem
  · simp
  · intro i h1 h2
    simp [List.getD_eq_getElem?_getD, List.getElem?_eq_getElem h2]
theorem num_count (T : α → Bool) : (List.range l.length).countP (fun i => T (l.getD i d)) = l.countP T := by
  have h := congrArg (List.countP T) (map_num (l := l) (d := d))
  rw [List.countP_map] at h
  exact h
theorem num_idx {c : α} (h : c ∈ l) : l.getD (l.idxOf c) d = c := by
  have hi := List.idxOf_lt_length_of_mem h
  rw [List.getD_eq_getElem?_getD, List.getElem?_eq_getElem hi]
  exact List.getElem_idxOf hi
theorem idx_num (hn : l.Nodup) {i : Nat} (h : i < l.length) : l.idxOf (l.getD i d) = i := by
  rw [List.getD_eq_getElem?_getD, List.getElem?_eq_getElem h]
  exact (List.getElem_inj hn).mp (List.getElem_idxOf (List.idxOf_lt_length_of_mem (List.getElem_mem h)))
theorem best_num (hn : l.Nodup) (hb : ∀ i j, i < l.length → j < l.length → barI i j = bar (l.getD i d) (l.getD j d)) (B : Best (List.range l.length) barI S) : Best l bar (fun c => S (l.idxOf c)) where
  anti := fun a ha b hb' h1 h2 => by
    have hi := List.idxOf_lt_length_of_mem ha
    have hj := List.idxOf_lt_length_of_mem hb'
    have := B.anti _ (List.mem_range.mpr hi) _ (List.mem_range.mpr hj) h1 h2
    rw [hb _ _ hi hj, num_idx ha, num_idx hb'] at this
    exact this
  most := fun T hT => by
    have h := B.most (fun i => T (l.getD i d)) fun a ha b hb' h1 h2 => by
      have hi := List.mem_range.mp ha
      have hj := List.mem_range.mp hb'
      rw [hb a b hi hj]
      refine hT _ ?_ _ ?_ h1 h2
      · rw [List.getD_eq_getElem?_getD, List.getElem?_eq_getElem hi]; exact List.getElem_mem hi
      · rw [List.getD_eq_getElem?_getD, List.getElem?_eq_getElem hj]; exact List.getElem_mem hj
    rw [num_count] at h
    rw [← num_count (d := d) (fun c => S (l.idxOf c))]
    refine Nat.le_trans h (Nat.le_of_eq ?_)
    exact List.countP_congr fun i hi => by rw [idx_num hn (List.mem_range.mp hi)]
theorem getD_mem {i : Nat} (h : i < l.length) : l.getD i d ∈ l := by
  rw [List.getD_eq_getElem?_getD, List.getElem?_eq_getElem h]; exact List.getElem_mem h
theorem best_num' (hn : l.Nodup) (hb : ∀ i j, i < l.length → j < l.length → barI i j = bar (l.getD i d) (l.getD j d)) {A : α → Bool} (B : Best l bar A) : Best (List.range l.length) barI (fun i => A (l.getD i d)) where
  anti := fun a ha b hb' h1 h2 => by
    have hi := List.mem_range.mp ha
    have hj := List.mem_range.mp hb'
    rw [hb a b hi hj]
    exact B.anti _ (getD_mem hi) _ (getD_mem hj) h1 h2
  most := fun T hT => by
    rw [num_count]
    refine Nat.le_trans (Nat.le_of_eq ?_) (B.most (fun c => T (l.idxOf c)) fun a ha b hb' h1 h2 => ?_)
    · rw [← num_count (d := d) (fun c => T (l.idxOf c))]
      exact List.countP_congr fun i hi => by rw [idx_num hn (List.mem_range.mp hi)]
    · have hi := List.idxOf_lt_length_of_mem ha
      have hj := List.idxOf_lt_length_of_mem hb'
      have := hT _ (List.mem_range.mpr hi) _ (List.mem_range.mpr hj) h1 h2
      rw [hb _ _ hi hj, num_idx ha, num_idx hb'] at this
      exact this
theorem earlier_num (hn : l.Nodup) (hb : ∀ i j, i < l.length → j < l.length → barI i j = bar (l.getD i d) (l.getD j d)) {X Y : Nat → Bool} (e : Earlier (List.range l.length) barI X Y) : Earlier l bar (fun c => X (l.idxOf c)) (fun c => Y (l.idxOf c)) := fun x hx s => by
  have hi := List.idxOf_lt_length_of_mem hx
  rcases down_iff.mp (e _ (List.mem_range.mpr hi) s) with h | ⟨y, hy, a, b⟩
  · exact down_iff.mpr (.inl h)
  · have hj := List.mem_range.mp hy
    refine down_iff.mpr (.inr ⟨l.getD y d, getD_mem hj, ?_, ?_⟩)
    · show Y (l.idxOf (l.getD y d)) = true
      rw [idx_num hn hj]; exact a
    · rw [hb _ _ hj hi, num_idx hx] at b
      exact b
end
end Lat
end
section
set_option autoImplicit false
/-! Plain: the numbers are in order as the copies are. -/
namespace Lat
section
variable {ν : Type} [DecidableEq ν] {rows : List ν} {dep : ν → ν → Bool} {k : Nat} {d : Cp ν}
def numOf {α : Type} [DecidableEq α] (l : List α) (c : α) : Nat := l.idxOf c
def barI (rows : List ν) (dep : ν → ν → Bool) (k : Nat) (d : Cp ν) (i j : Nat) : Bool := decide (j < i) && barC rows dep ((allP rows k).getD i d) ((allP rows k).getD j d)
theorem barI_eq (h : rows.Nodup) (i j : Nat) (hi : i < (allP rows k).length) (hj : j < (allP rows k).length) : barI rows dep k d i j = barC rows dep ((allP rows k).getD i d) ((allP rows k).getD j d) := by
  unfold barI
  cases b : barC rows dep ((allP rows k).getD i d) ((allP rows k).getD j d) with
  | false => rw [Bool.and_false]
  | true => rw [decide_eq_true (num_lt h hi hj b)]; rfl
theorem ordI (D : Dp rows dep) : Ord (List.range (allP rows k).length) (barI rows dep k d) where
  nd := List.nodup_range
  irr := fun a _ => by unfold barI; rw [decide_eq_false (Nat.lt_irrefl a)]; rfl
  tr := fun a ha b hb c hc h1 h2 => by
    have ia := List.mem_range.mp ha
    have ib := List.mem_range.mp hb
    have ic := List.mem_range.mp hc
    rw [barI_eq D.nd _ _ ia ib] at h1
    rw [barI_eq D.nd _ _ ib ic] at h2
    rw [barI_eq D.nd _ _ ia ic]
    exact (ordC (k := k) D).tr _ (mem_CP.mpr (getD_mem ia)) _ (mem_CP.mpr (getD_mem ib)) _ (mem_CP.mpr (getD_mem ic)) h1 h2
theorem earlier_eqv {α : Type} [DecidableEq α] {l : List α} {bar : α → α → Bool} {S S' T T' : α → Bool} (h1 : ∀ x ∈ l, S x = S' x) (h2 : ∀ x ∈ l, T x = T' x) (e : Earlier l bar S T) : Earlier l bar S' T' := fun x hx s => by
  rcases down_iff.mp (e x hx (by rw [h1 x hx]; exact s)) with a | ⟨y, hy, a, b⟩
  · exact down_iff.mpr (.inl (by rw [← h2 x hx]; exact a))
  · exact down_iff.mpr (.inr ⟨y, hy, by rw [← h2 y hy]; exact a, b⟩)
variable {m g : Nat → Option Nat} {L R : Nat → Prop} {U E : Nat → Bool}
theorem first_key (D : Dp rows dep) (M : Match (List.range (allP rows k).length) (barI rows dep k d) m g) (C : Closed (List.range (allP rows k).length) (barI rows dep k d) g L R) (hL : ∀ i ∈ List.range (allP rows k).length, m i = none → L i)
    (Q : Reach (List.range (allP rows k).length) (barI rows dep k d) m g U E) :
    BestKey rows dep k ((allC rows k).filter fun c => firstOf U E (numOf (allP rows k) c)) ∧ ∀ a, BestKey rows dep k a → EarlierK rows dep k ((allC rows k).filter fun c => firstOf U E (numOf (allP rows k) c)) a := by
  have hP := allP_nodup D.nd k
  have hC := allC_nodup D.nd k
  obtain ⟨B, _, F⟩ := first_best (ordI D) M C hL Q
  refine ⟨bestKey_of (best_perm hP hC (fun x => mem_CP.symm) (best_num hP (barI_eq D.nd) B)), fun a ha => ?_⟩
  have e := earlier_perm (fun x => mem_CP.symm) (earlier_num hP (barI_eq D.nd) (F _ (best_num' hP (barI_eq D.nd) (best_perm hC hP (fun x => mem_CP) ha.best))))
  exact earlier_eqv (fun x hx => (mems_filter x hx).symm) (fun x hx => congrArg (mems a) (num_idx (mem_CP.mp hx))) e
theorem last_key (D : Dp rows dep) (M : Match (List.range (allP rows k).length) (barI rows dep k d) m g) (C : Closed (List.range (allP rows k).length) (barI rows dep k d) g L R) (hL : ∀ i ∈ List.range (allP rows k).length, m i = none → L i)
    (Q : Reach (List.range (allP rows k).length) (flip (barI rows dep k d)) g m U E) :
    BestKey rows dep k ((allC rows k).filter fun c => firstOf U E (numOf (allP rows k) c)) ∧ ∀ a, BestKey rows dep k a → EarlierK rows dep k a ((allC rows k).filter fun c => firstOf U E (numOf (allP rows k) c)) := by
  have hP := allP_nodup D.nd k
  have hC := allC_nodup D.nd k
  obtain ⟨B, F⟩ := last_best (ordI D) M C hL Q
  refine ⟨bestKey_of (best_perm hP hC (fun x => mem_CP.symm) (best_num hP (barI_eq D.nd) B)), fun a ha => ?_⟩
  have e := earlier_perm (fun x => mem_CP.symm) (earlier_num hP (barI_eq D.nd) (F _ (best_num' hP (barI_eq D.nd) (best_perm hC hP (fun x => mem_CP) ha.best))))
  exact earlier_eqv (fun x hx => congrArg (mems a) (num_idx (mem_CP.mp hx))) (fun x hx => (mems_filter x hx).symm) e
end
end Lat
end
section
set_option autoImplicit false
/-! Plain: the copies with chosen numbers. -/
namespace Lat
section
variable {α : Type} [DecidableEq α] {l : List α} {d : α} {S : Nat → Bool}
theorem sel_mem (hn : l.Nodup) {x : α} (hx : x ∈ l) : x ∈ ((List.range l.length).filter S).map (fun i => l.getD i d) ↔ S (numOf l x) = true := by
  unfold numOf
  rw [List.mem_map]
  constructor
  · rintro ⟨i, hi, rfl⟩
    obtain ⟨a, b⟩ := List.mem_filter.mp hi
    rw [idx_num hn (List.mem_range.mp a)]
    exact b
  · intro h
    exact ⟨l.idxOf x, List.mem_filter.mpr ⟨List.mem_range.mpr (List.idxOf_lt_length_of_mem hx), h⟩, num_idx hx⟩
theorem sel_sub {x : α} (h : x ∈ ((List.range l.length).filter S).map (fun i => l.getD i d)) : x ∈ l := by
  obtain ⟨i, hi, rfl⟩ := List.mem_map.mp h
  exact getD_mem (List.mem_range.mp (List.mem_filter.mp hi).1)
theorem sel_nodup (hn : l.Nodup) : (((List.range l.length).filter S).map (fun i => l.getD i d)).Nodup := by
  refine nodup_map (List.nodup_range.filter _) fun x hx y hy e => ?_
  have a := List.mem_range.mp (List.mem_filter.mp hx).1
  have b := List.mem_range.mp (List.mem_filter.mp hy).1
  rw [← idx_num (d := d) hn a, e, idx_num hn b]
end
section
variable {ν : Type} [DecidableEq ν] {rows : List ν} {dep : ν → ν → Bool} {k : Nat} {d : Cp ν} {S : Nat → Bool}
theorem sel_key (h : rows.Nodup) : (allC rows k).filter (mems (((List.range (allP rows k).length).filter S).map (fun i => (allP rows k).getD i d))) = (allC rows k).filter fun c => S (numOf (allP rows k) c) := by
  refine List.filter_congr fun x hx => ?_
  rw [Bool.eq_iff_iff, mems_iff]
  exact sel_mem (allP_nodup h k) (mem_CP.mp hx)
theorem sel_count (h : rows.Nodup) : ((List.range (allP rows k).length).filter S).length = ((allC rows k).filter fun c => S (numOf (allP rows k) c)).length := by
  have hp := allP_nodup h k
  rw [← List.countP_eq_length_filter, ← List.countP_eq_length_filter]
  rw [count_perm (allC_nodup h k) hp (fun x => mem_CP) fun c => S (numOf (allP rows k) c)]
  cases hl : allP rows k with
  | nil => rfl
  | cons a r =>
    rw [← hl, ← num_count (d := a) fun c => S (numOf (allP rows k) c)]
    refine List.countP_congr fun i hi => ?_
    show S i = true ↔ S (numOf (allP rows k) ((allP rows k).getD i a)) = true
    unfold numOf
    rw [idx_num hp (List.mem_range.mp hi)]
end
end Lat
end
section
set_option autoImplicit false
/-! Plain mathematics: what the class of keeps computes with lists. -/
namespace Lat
section
variable {ν : Type} [DecidableEq ν]
theorem filter_one {α : Type} [DecidableEq α] {x : α} : ∀ {l : List α} {p : α → Bool}, l.Nodup → x ∈ l → (∀ y ∈ l, p y = true ↔ y = x) → l.filter p = [x]
  | y :: l, p, hn, hm, hp => by
    obtain ⟨h1, h2⟩ := List.nodup_cons.mp hn
    by_cases e : y = x
    · subst e
      rw [List.filter_cons, if_pos ((hp y List.mem_cons_self).mpr rfl)]
      have : l.filter p = [] := List.filter_eq_nil_iff.mpr fun z hz hpz => h1 ((hp z (List.mem_cons_of_mem _ hz)).mp hpz ▸ hz)
      rw [this]
    · have hf : ¬ p y = true := fun z => e ((hp y List.mem_cons_self).mp z)
      rw [List.filter_cons, if_neg hf]
      exact filter_one h2 ((List.mem_cons.mp hm).resolve_left fun z => e z.symm) fun z hz => hp z (List.mem_cons_of_mem _ hz)
  | [], _, _, hm, _ => by cases hm
theorem lookup_mem {r : ν} {n : Int} : ∀ {cs : List (Cp ν)}, cs.lookup r = some n → (r, n) ∈ cs
  | c :: cs, h => by
    rw [List.lookup_cons] at h
    by_cases e : (r == c.1) = true
    · rw [e] at h
      have e1 : r = c.1 := by simpa using e
      have e2 : c.2 = n := by simpa using h
      rw [e1, ← e2]
      exact List.mem_cons_self
    · have e' : (r == c.1) = false := by simpa using e
      rw [e'] at h
      exact List.mem_cons_of_mem _ (lookup_mem h)
theorem lookup_of {r : ν} {n : Int} : ∀ {cs : List (Cp ν)}, (∀ a ∈ cs, ∀ b ∈ cs, a.1 = b.1 → a = b) → (r, n) ∈ cs → cs.lookup r = some n
  | c :: cs, hd, h => by
    rw [List.lookup_cons]
    by_cases e : (r == c.1) = true
    · rw [e]
      have e1 : r = c.1 := by simpa using e
      have := hd c List.mem_cons_self (r, n) h e1.symm
      rw [this]
    · have e' : (r == c.1) = false := by simpa using e
      rw [e']
      refine lookup_of (fun a ha b hb => hd a (List.mem_cons_of_mem _ ha) b (List.mem_cons_of_mem _ hb)) ?_
      rcases List.mem_cons.mp h with h | h
      · rw [← h] at e
        exact absurd (beq_self_eq_true r) e
      · exact h
/-- the copies in the order of their rows -/
theorem key_list {rows : List ν} {k : Nat} {cs : List (Cp ν)} (hs : ∀ c ∈ cs, c ∈ allC rows k) (hd : ∀ a ∈ cs, ∀ b ∈ cs, a.1 = b.1 → a = b) :
    (rows.filter fun r => (cs.lookup r).isSome).map (fun r => (r, (cs.lookup r).getD 0)) = (allC rows k).filter (mems cs) := by
  have one : ∀ r ∈ rows, (cps k r).filter (mems cs) = match cs.lookup r with | some n => [(r, n)] | none => [] := by
    intro r hr
    cases h : cs.lookup r with
    | none =>
      refine List.filter_eq_nil_iff.mpr fun c hc hm => ?_
      have e1 := (mem_cps.mp hc).1
      have := lookup_of hd (r := r) (n := c.2) (by rw [← e1]; exact mems_iff.mp hm)
      rw [h] at this
      cases this
    | some n =>
      have hm := lookup_mem h
      have hc : (r, n) ∈ cps k r := mem_cps.mpr ⟨rfl, (mem_allC.mp (hs _ hm)).2⟩
      refine filter_one (cps_nodup k r) hc fun y hy => ⟨fun z => ?_, fun z => by rw [z]; exact mems_iff.mpr hm⟩
      exact hd y (mems_iff.mp z) (r, n) hm (mem_cps.mp hy).1
  have gen : ∀ l : List ν, (∀ r ∈ l, r ∈ rows) → (l.filter fun r => (cs.lookup r).isSome).map (fun r => (r, (cs.lookup r).getD 0)) = (l.flatMap (cps k)).filter (mems cs) := by
    intro l
    induction l with
    | nil => intro _; rfl
    | cons r l ih =>
      intro hl
      rw [List.flatMap_cons, List.filter_append, ← ih fun x hx => hl x (List.mem_cons_of_mem _ hx), one r (hl r List.mem_cons_self), List.filter_cons]
      cases h : cs.lookup r with
      | none => simp
      | some n => simp [h]
  exact gen rows fun r hr => hr
/-- of one row, of copies that do not bar one another, there is one -/
theorem one_row {rows : List ν} {dep : ν → ν → Bool} {cs : List (Cp ν)} (h : ∀ a ∈ cs, ∀ b ∈ cs, barC rows dep a b = false) : ∀ a ∈ cs, ∀ b ∈ cs, a.1 = b.1 → a = b := by
  intro a ha b hb e
  have key : ∀ x ∈ cs, ∀ y ∈ cs, x.1 = y.1 → ¬ x.2 < y.2 := fun x hx y hy e hlt => by
    have := h y hy x hx
    have hb : barC rows dep y x = true := barC_iff.mpr ⟨.inl e.symm, by unfold plt; simp [hlt]⟩
    rw [hb] at this
    cases this
  have h1 := key a ha b hb e
  have h2 := key b hb a ha e.symm
  exact Prod.ext e (by omega)
/-- the copies of two keeps -/
def both (a b : List (Cp ν)) : List (Cp ν) := a ++ b.filter fun c => decide (c ∉ a)
theorem mem_both {a b : List (Cp ν)} {c : Cp ν} : c ∈ both a b ↔ c ∈ a ∨ c ∈ b := by
  unfold both
  rw [List.mem_append, List.mem_filter, decide_eq_true_eq]
  exact ⟨fun h => h.imp id (·.1), fun h => by
    by_cases hc : c ∈ a
    · exact .inl hc
    · exact .inr ⟨h.resolve_left hc, hc⟩⟩
theorem both_nodup {a b : List (Cp ν)} (ha : a.Nodup) (hb : b.Nodup) : (both a b).Nodup := by
  unfold both
  refine List.nodup_append.mpr ⟨ha, hb.filter _, fun x hx y hy e => ?_⟩
  subst e
  exact of_decide_eq_true (List.mem_filter.mp hy).2 hx
def joinL (bar : Cp ν → Cp ν → Bool) (l : List (Cp ν)) : List (Cp ν) := l.filter fun c => !(l.any fun x => bar x c)
def meetL (bar : Cp ν → Cp ν → Bool) (l : List (Cp ν)) : List (Cp ν) := l.filter fun c => !(l.any fun x => bar c x)
theorem mem_joinL {bar : Cp ν → Cp ν → Bool} {l : List (Cp ν)} {c : Cp ν} : c ∈ joinL bar l ↔ c ∈ l ∧ ∀ x ∈ l, bar x c = false := by
  unfold joinL
  rw [List.mem_filter, Bool.not_eq_true', List.any_eq_false]
  simp
theorem mem_meetL {bar : Cp ν → Cp ν → Bool} {l : List (Cp ν)} {c : Cp ν} : c ∈ meetL bar l ↔ c ∈ l ∧ ∀ x ∈ l, bar c x = false := by
  unfold meetL
  rw [List.mem_filter, Bool.not_eq_true', List.any_eq_false]
  simp
theorem joinL_anti {bar : Cp ν → Cp ν → Bool} {l : List (Cp ν)} : ∀ a ∈ joinL bar l, ∀ b ∈ joinL bar l, bar a b = false := fun a ha b hb => (mem_joinL.mp hb).2 a (mem_joinL.mp ha).1
theorem meetL_anti {bar : Cp ν → Cp ν → Bool} {l : List (Cp ν)} : ∀ a ∈ meetL bar l, ∀ b ∈ meetL bar l, bar a b = false := fun a ha b hb => (mem_meetL.mp ha).2 b (mem_meetL.mp hb).1
variable {rows : List ν} {dep : ν → ν → Bool} {k : Nat} {a b : List (Cp ν)}
theorem joinL_key (ha : ∀ c ∈ a, c ∈ allC rows k) (hb : ∀ c ∈ b, c ∈ allC rows k) : (allC rows k).filter (mems (joinL (barC rows dep) (both a b))) = joinK rows dep k a b := by
  unfold joinK
  refine List.filter_congr fun x hx => ?_
  rw [Bool.eq_iff_iff, mems_iff, mem_joinL, join_iff, mem_both, or2_iff, mems_iff, mems_iff]
  refine and_congr Iff.rfl ⟨fun h y _ hy => h y (mem_both.mpr ((or2_iff.mp hy).imp mems_iff.mp mems_iff.mp)), fun h y hy => ?_⟩
  have hy' := mem_both.mp hy
  exact h y (hy'.elim (ha y) (hb y)) (or2_iff.mpr (hy'.imp mems_iff.mpr mems_iff.mpr))
theorem meetL_key (ha : ∀ c ∈ a, c ∈ allC rows k) (hb : ∀ c ∈ b, c ∈ allC rows k) : (allC rows k).filter (mems (meetL (barC rows dep) (both a b))) = meetK rows dep k a b := by
  unfold meetK
  refine List.filter_congr fun x hx => ?_
  rw [Bool.eq_iff_iff, mems_iff, mem_meetL, meet_iff, mem_both, or2_iff, mems_iff, mems_iff]
  refine and_congr Iff.rfl ⟨fun h y _ hy => h y (mem_both.mpr ((or2_iff.mp hy).imp mems_iff.mp mems_iff.mp)), fun h y hy => ?_⟩
  have hy' := mem_both.mp hy
  exact h y (hy'.elim (ha y) (hb y)) (or2_iff.mpr (hy'.imp mems_iff.mpr mems_iff.mpr))
/-- one of some copies, or barred by one -/
def under (bar : Cp ν → Cp ν → Bool) (l : List (Cp ν)) (c : Cp ν) : Bool := decide (c ∈ l) || l.any fun x => bar x c
theorem earlier_all (ha : ∀ c ∈ a, c ∈ allC rows k) (hb : ∀ c ∈ b, c ∈ allC rows k) : (a.all fun c => under (barC rows dep) b c) = true ↔ EarlierK rows dep k a b := by
  unfold EarlierK
  rw [List.all_eq_true]
  constructor
  · intro h x hx hm
    have := h x (mems_iff.mp hm)
    unfold under at this
    rw [Bool.or_eq_true, decide_eq_true_eq, List.any_eq_true] at this
    refine down_iff.mpr (this.imp mems_iff.mpr ?_)
    rintro ⟨y, hy, e⟩
    exact ⟨y, hb y hy, mems_iff.mpr hy, e⟩
  · intro h c hc
    unfold under
    rw [Bool.or_eq_true, decide_eq_true_eq, List.any_eq_true]
    refine (down_iff.mp (h c (ha c hc) (mems_iff.mpr hc))).imp mems_iff.mp ?_
    rintro ⟨y, _, hy, e⟩
    exact ⟨y, mems_iff.mp hy, e⟩
theorem filter_self {cs : List (Cp ν)} (hn : rows.Nodup) (h : cs = (allC rows k).filter (mems cs)) : cs.Nodup := by
  rw [h]
  exact (allC_nodup hn k).filter _
theorem allC_len (rows : List ν) (k : Nat) : (allC rows k).length = rows.length * k := by
  unfold allC
  induction rows with
  | nil => simp
  | cons r rs ih =>
    rw [List.flatMap_cons, List.length_append, ih, List.length_cons, Nat.succ_mul]
    unfold cps
    rw [List.length_map, List.length_range]
    omega
end
end Lat
end
section
set_option maxRecDepth 100000
set_option maxHeartbeats 4000000
/-! Rules of this proof's own, over the hand layer: promises by positional values, calls with stars, operators of own classes. -/
namespace Pw
open PySem PySem.Spec PyProof.Rows L2

abbrev Pr (P : Program) (w : World) (K : PySem.W.Frag) (mg : Str → Option Value) (base : Heap) (k : Nat) (f : Addr) (sp : Sp) : Prop := FnR P w K mg base CX0 k f sp
section
variable {P : Program} {w : World} {K : PySem.W.Frag} {mg : Str → Option Value} {base : Heap}
/-- a def of the text keeps its promise: by its body -/
theorem fn_t {x qual : Str} {st : Stmt} {f : Addr} {fd : FuncData} {N ps : List Str} {k : Nat} {sp : Sp} (F : FnT K x qual st [] f fd) (S : FnScope N ps (defScope st))
    (hb : ∀ (kV doc pm : Value) (an : Option Addr) (cdv ct : Value) (us : List Value), us.length = ps.length → bindArgs (PySem.W.fnOf x qual (defArgs st) (defBody st) (defScope st) .none kV doc pm an cdv ct) ⟨us, []⟩ = pure (ps.zip us))
    (len : ∀ vs H Q E, sp vs H Q E → vs.length = ps.length)
    (hbody : ∀ (cdv : Value) (A : Around) (outer : List Env) (s : Shared) (H : Hp) (vs : List V) (Q : VK) (E : XK), Room k (A.deeper (envOfC qual (defScope st) s.heap.objs.size f cdv)) → sp vs H Q E →
      ∃ t, PSs (cxOf CX0 P w K mg base N qual (defScope st) f cdv A outer s H E).nox (defBody st) t ∧ t { nx := fun _ H' => Q .non H', rt := Q } (start N vs) H) : FnOk P w K mg base CX0 (k + 1) f fd ps sp ∧ Binds K fd ps [] :=
  ⟨F.ok S len fun cdv A outer s H vs Q E hr h => by
    obtain ⟨t, a, b⟩ := hbody cdv A outer s H vs Q E hr h
    exact ⟨t, a.nox, b⟩, F.bindsN hb⟩
theorem pr_of {fd : FuncData} {ps : List Str} {k : Nat} {f : Addr} {sp : Sp} (h : FnOk P w K mg base CX0 k f fd ps sp ∧ Binds K fd ps []) : Pr P w K mg base k f sp :=
  (h.1.raw h.2 .nil).imp fun vs H Q E z => by rw [List.append_nil]; exact z
/-- def f(a, .., *v): by its body -/
theorem fn_tS {x qual : Str} {st : Stmt} {f : Addr} {fd : FuncData} {N ps : List Str} {pv : Str} {k : Nat} {sp : Sp} (F : FnT K x qual st [] f fd) (S : FnScope N (ps ++ [pv]) (defScope st))
    (hb : ∀ (kV doc pm : Value) (an : Option Addr) (cdv ct : Value) (us rest : List Value), us.length = ps.length → bindArgs (PySem.W.fnOf x qual (defArgs st) (defBody st) (defScope st) .none kV doc pm an cdv ct) ⟨us ++ rest, []⟩ = (newTuple rest >>= fun t => pure (ps.zip us ++ [(pv, t)])))
    (hbody : ∀ (cdv : Value) (A : Around) (outer : List Env) (s : Shared) (H : Hp) (vs : List V) (Q : VK) (E : XK), Room k (A.deeper (envOfC qual (defScope st) s.heap.objs.size f cdv)) → sp vs H Q E →
      ∃ t, PSs (cxOf CX0 P w K mg base N qual (defScope st) f cdv A outer s H E).nox (defBody st) t ∧ t { nx := fun _ H' => Q .non H', rt := Q } (start N vs) H) :
    Pr P w K mg base (k + 1) f (fun vs H Q E => ∃ ws rest, vs = ws ++ rest ∧ ws.length = ps.length ∧ rest.length ≤ sizeLine ∧ ∀ p, H p = none → sp (ws ++ [V.ref p]) (upd H p (.tup rest)) Q E) := by
  obtain ⟨oc, od, dV, kV, doc, pm, an, cdv, ct, osl, rfl, lk, hcd, hD, _⟩ := F.ex
  have e : dV = .none := by
    rcases hD with ⟨_, e⟩ | ⟨e, _⟩
    · exact e
    · exact absurd rfl e
  subst e
  refine StX.fn_star lk hcd S StX.cxUp_none (hb kV doc pm an cdv ct) fun A outer s H vs Q E hr h => ?_
  obtain ⟨t, a, b⟩ := hbody cdv A outer s H vs Q E hr h
  exact ⟨t, a.nox, b⟩
/-- def f(a, .., *v, **d), called without keywords -/
theorem fn_tSK {x qual : Str} {st : Stmt} {f : Addr} {fd : FuncData} {N ps : List Str} {pv pd : Str} {k : Nat} {sp : Sp} (F : FnT K x qual st [] f fd) (S : FnScope N (ps ++ [pv, pd]) (defScope st))
    (hb : ∀ (kV doc pm : Value) (an : Option Addr) (cdv ct : Value) (us rest : List Value), us.length = ps.length → bindArgs (PySem.W.fnOf x qual (defArgs st) (defBody st) (defScope st) .none kV doc pm an cdv ct) ⟨us ++ rest, []⟩ =
      (newTuple rest >>= fun t => (alloc ({ cls := .type "dict", data := .dict #[] } : Obj) : Sem Addr) >>= fun d => pure (ps.zip us ++ [(pv, t), (pd, Value.ref d)])))
    (hbody : ∀ (cdv : Value) (A : Around) (outer : List Env) (s : Shared) (H : Hp) (vs : List V) (Q : VK) (E : XK), Room k (A.deeper (envOfC qual (defScope st) s.heap.objs.size f cdv)) → sp vs H Q E →
      ∃ t, PSs (cxOf CX0 P w K mg base N qual (defScope st) f cdv A outer s H E).nox (defBody st) t ∧ t { nx := fun _ H' => Q .non H', rt := Q } (start N vs) H) :
    Pr P w K mg base (k + 1) f (fun vs H Q E => ∃ ws rest, vs = ws ++ rest ∧ ws.length = ps.length ∧ rest.length ≤ sizeLine ∧ ∀ p d, H p = none → H d = none → d ≠ p → sp (ws ++ [V.ref p, V.ref d]) (upd (upd H p (.tup rest)) d (.dK [])) Q E) := by
  obtain ⟨oc, od, dV, kV, doc, pm, an, cdv, ct, osl, rfl, lk, hcd, hD, _⟩ := F.ex
  have e : dV = .none := by
    rcases hD with ⟨_, e⟩ | ⟨e, _⟩
    · exact e
    · exact absurd rfl e
  subst e
  refine StX.fn_starkw lk hcd S StX.cxUp_none (hb kV doc pm an cdv ct) fun A outer s H vs Q E hr h => ?_
  obtain ⟨t, a, b⟩ := hbody cdv A outer s H vs Q E hr h
  exact ⟨t, a.nox, b⟩
end

/-! ### calls -/
def tCl (sp : Sp) (t : TA) : TE := fun σ H Q => t σ H fun vs H1 => sp vs H1 Q E0
def tMt (C : Addr) (m : Str) (sp : Sp) (ta : TE) (t : TA) : TE := fun σ H Q => ta σ H fun x H1 => ∃ a dx fs, x = .ref a ∧ H1 a = some (.ins C dx fs) ∧ fs.lookup m = none ∧ t σ H1 fun vs H2 => sp (x :: vs) H2 Q E0
/-- a new instance of C; __init__'s promise -/
def tNw (C : Addr) (sp : Sp) (t : TA) : TE := fun σ H Q => t σ H fun vs H1 => ∀ x dx, H1 x = none → H1 dx = none → dx ≠ x →
  sp (V.ref x :: vs) (upd (upd H1 dx (.own x)) x (.ins C dx [])) (fun v H2 => v = .non ∧ Q (.ref x) H2) E0
section
variable {X : Cx} {k i : Nat} {f C : Addr} {sp : Sp} {x m : Str} {e o : Expr} {es : List Expr} {ta : TE} {t : TA} {p pos apos : Pos}
theorem pc (F : Pr X.prog X.w X.K X.mg X.base k f sp) (hr : Room k X.A) (hk : PySem.W.keepIn X.K (.ref f) = true) (hm : X.mg x = some (.ref f)) (ha : PA X (e :: es) t) (hg : Gl X x := by rfl) (hd : (x == ("__debug__" : Str)) = false := by decide)
    (he : starEach (e :: es) X.env = (false, eval e X.env) :: starEach es X.env := by rfl) (hpl : (backTo pos (starEach es X.env)).any (·.1) = false := by rfl) : PE X (.Call (.Name x p) (e :: es) [] pos) (tCl sp t) := by
  constructor
  intro pins s σ H Q I h
  apply wpAny_Call_Name_kw
  apply ld_glob I hg hm _ hd
  apply PySem.W.callWith_K (h₀ := X.base) I.ok.mod.kin hk _ he hpl
  refine thn (ha.run pos pins s σ H _ I h) ?_
  rintro us s1 ⟨vs, H1, I1, r, q⟩
  exact ⟨I1.kIn, wpAny_call (run_fnR F hr pass0 I1 r q)⟩
theorem pm {pl : Sem Bool} (he : PE X o ta) (c : Cls X.K C) (hm : Meth X.K C m f) (F : Pr X.prog X.w X.K X.mg X.base k f sp) (hr : Room k X.A) (ha : PA X (e :: es) t)
    (hst : starEach (e :: es) X.env = (false, eval e X.env) :: starEach es X.env := by rfl) (hpl : (backTo pos (starEach es X.env)).any (·.1) = false := by rfl)
    (ht : eval (.Call (.Attribute o m apos) (e :: es) [] pos) X.env = (do
      let ov ← eval o X.env
      standAt apos.atName
      let z ← holding [ov] (getMethod ov m pl)
      callWith pos z.1 z.2 (backTo pos (starEach (e :: es) X.env)) (backToKw pos (keywordEach [] X.env))) := by rfl) :
    PE X (.Call (.Attribute o m apos) (e :: es) [] pos) (tMt C m sp ta t) := pe_methR (CX := CX0) he c hm F hr pass0 ha hst hpl ht
theorem pm0 {pl : Sem Bool} (he : PE X o ta) (c : Cls X.K C) (hm : Meth X.K C m f) (F : Pr X.prog X.w X.K X.mg X.base k f sp) (hr : Room k X.A)
    (ht : eval (.Call (.Attribute o m apos) [] [] pos) X.env = (do
      let ov ← eval o X.env
      standAt apos.atName
      let z ← holding [ov] (getMethod ov m pl)
      callWith pos z.1 z.2 (backTo pos (starEach [] X.env)) (backToKw pos (keywordEach [] X.env))) := by rfl) :
    PE X (.Call (.Attribute o m apos) [] [] pos) (tMt C m sp ta tNil) := by
  constructor
  intro pins s σ H Q I h
  refine PySem.W.methodCall_KW (pl := pl) (thn (he.run pins s σ H _ I h) ?_) ht
  rintro u s1 ⟨x, H1, I1, rx, a, dx, fs, rfl, ea, l, q⟩
  cases rx
  apply getmeth_ok I1 ea c hm l
  exact PySem.W.callWith_K0 I1.kIn hm.kp (wpAny_call (run_fnR (us := [.ref a]) (vs := [.ref a]) F hr pass0 I1 (.cons rfl .nil) q))
/-- C(e, .., *y), C a class of the module -/
theorem pnS (M : Mk X.K C f) (F : Pr X.prog X.w X.K X.mg X.base k f sp) (hr : Room (k + 1) X.A) (hm : X.mg x = some (.ref C)) (ha : PA X (e :: es) t) (hg : Gl X x := by rfl) (hd : (x == ("__debug__" : Str)) = false := by decide)
    (he : starEach (e :: es) X.env = (false, eval e X.env) :: starEach es X.env := by rfl) (hst : (backTo pos (starEach es X.env)).any (·.1) = true := by rfl) : PE X (.Call (.Name x p) (e :: es) [] pos) (tNw C sp t) := by
  constructor
  intro pins s σ H Q I h
  apply wpAny_Call_Name_kw
  apply ld_glob I hg hm _ hd
  apply PySem.W.callWith_S2 (h₀ := X.base) I.ok.mod.kin M.kp _ he hst
  refine thn (ha.run pos pins s σ H _ I h) ?_
  rintro us s1 ⟨vs, H1, I1, r, q⟩
  exact ⟨I1.kIn, StX.run_makeR (CX := CX0) M F hr pass0 I1 r q⟩
/-- C(e, ..) -/
theorem pn (M : Mk X.K C f) (F : Pr X.prog X.w X.K X.mg X.base k f sp) (hr : Room (k + 1) X.A) (hm : X.mg x = some (.ref C)) (ha : PA X (e :: es) t) (hg : Gl X x := by rfl) (hd : (x == ("__debug__" : Str)) = false := by decide)
    (he : starEach (e :: es) X.env = (false, eval e X.env) :: starEach es X.env := by rfl) (hpl : (backTo pos (starEach es X.env)).any (·.1) = false := by rfl) : PE X (.Call (.Name x p) (e :: es) [] pos) (tNw C sp t) :=
  StX.pe_makeR (CX := CX0) M F hr hg hm pass0 ha hd he hpl
/-- c(e, .., *y), the i-th slot holds the class -/
theorem pnLS (M : Mk X.K C f) (F : Pr X.prog X.w X.K X.mg X.base k f sp) (hr : Room (k + 1) X.A) (hN : X.N[i]? = some x) (hv : Vis X.env.scope x) (ha : PA X (e :: es) t) (hd : (x == ("__debug__" : Str)) = false := by decide) (hcd : (x == ("__classdict__" : Str)) = false := by decide)
    (he : starEach (e :: es) X.env = (false, eval e X.env) :: starEach es X.env := by rfl) (hst : (backTo pos (starEach es X.env)).any (·.1) = true := by rfl) : PE X (.Call (.Name x p) (e :: es) [] pos) (fun σ H Q => σ[i]? = some (some (.ref C)) ∧ tNw C sp t σ H Q) := by
  constructor
  rintro pins s σ H Q I ⟨hs, h⟩
  apply wpAny_Call_Name_kw
  refine thn ((pe_var (pos := p) hN hv hd hcd).run pins s σ H (fun v H1 => v = .ref C ∧ H1 = H) I ⟨.ref C, hs, rfl, rfl⟩) ?_
  rintro u s1 ⟨v, H1, I1, r1, rfl, rfl⟩
  cases r1
  apply PySem.W.callWith_S2 (h₀ := X.base) I.ok.mod.kin M.kp _ he hst
  refine thn (ha.run pos pins s1 σ H1 _ I1 h) ?_
  rintro us s2 ⟨vs, H2, I2, r, q⟩
  exact ⟨I2.kIn, StX.run_makeR (CX := CX0) M F hr pass0 I2 r q⟩
/-- c(), the i-th slot holds the class -/
theorem pnL0 (M : Mk X.K C f) (F : Pr X.prog X.w X.K X.mg X.base k f sp) (hr : Room (k + 1) X.A) (hN : X.N[i]? = some x) (hv : Vis X.env.scope x) (hd : (x == ("__debug__" : Str)) = false := by decide) (hcd : (x == ("__classdict__" : Str)) = false := by decide) :
    PE X (.Call (.Name x p) [] [] pos) (fun σ H Q => σ[i]? = some (some (.ref C)) ∧ tNw C sp tNil σ H Q) := by
  constructor
  rintro pins s σ H Q I ⟨hs, h⟩
  apply wpAny_Call_Name_kw
  refine thn ((pe_var (pos := p) hN hv hd hcd).run pins s σ H (fun v H1 => v = .ref C ∧ H1 = H) I ⟨.ref C, hs, rfl, rfl⟩) ?_
  rintro u s1 ⟨v, H1, I1, r1, rfl, rfl⟩
  cases r1
  exact PySem.W.callWith_K0 I1.kIn M.kp (StX.run_makeR (CX := CX0) (us := []) (vs := []) M F hr pass0 I1 .nil h)

/-! ### operators of own classes -/
theorem ins_at {pins : List (Addr × Obj)} {σ : L2.St} {H : Hp} {s : Shared} {a C dx : Addr} {fs : List (Str × V)} (I : Inv X pins σ H s) (h : H a = some (.ins C dx fs)) : ∃ ox od, PySem.W.InstAt s.heap a ox C od := by
  obtain ⟨mA, O, _⟩ := ins_get I.hok h
  obtain ⟨od, J, _⟩ := O.look
  exact ⟨_, _, J⟩
theorem back_cmp {pins : List (Addr × Obj)} {σ : L2.St} {Q : VK} {v : Value} {s : Shared} (h : EP X pins σ Q v s) : PySem.W.CmpBack (EP X pins σ Q) v s := by
  obtain ⟨z, H, I, r, q⟩ := h
  cases z with
  | non => cases r; exact ⟨.non, H, I, rfl, q⟩
  | bl b => cases r; exact ⟨.bl b, H, I, rfl, q⟩
  | int j => obtain ⟨t, rfl⟩ := r; exact ⟨.int j, H, I, ⟨t, rfl⟩, q⟩
  | str j => obtain ⟨t, rfl⟩ := r; exact ⟨.str j, H, I, ⟨t, rfl⟩, q⟩
  | byt j => obtain ⟨t, rfl⟩ := r; exact ⟨.byt j, H, I, ⟨t, rfl⟩, q⟩
  | flt j => obtain ⟨t, rfl⟩ := r; exact ⟨.flt j, H, I, ⟨t, rfl⟩, q⟩
  | ref j => cases r; exact ⟨.ref j, H, I, rfl, q⟩
  | ty j => cases r; exact ⟨.ty j, H, I, rfl, q⟩
/-- two instances of C: the promise of its own method -/
def rTwo (C : Addr) (sp : Sp) : R2 := fun x y H Q => ∃ a b dx dy fs gs, x = .ref a ∧ y = .ref b ∧ H a = some (.ins C dx fs) ∧ H b = some (.ins C dy gs) ∧ sp [x, y] H Q E0
/-- x | y, x & y .. by C's own method -/
theorem op_bin {op : Operator} (hs : PySem.W.findIn X.K (.ref C) (PySem.dunder op.info.2) = some (some (.ref f))) (hf : PySem.W.isFn X.K (.ref f) = true) (hc : PySem.W.selfFirst X.K C = true) (F : Pr X.prog X.w X.K X.mg X.base k f sp) (hr : Room k X.A) :
    OpR X (binaryOp op) (rTwo C sp) := by
  rintro pins s σ H x y v u Q I rx ry ⟨a, b, dx, dy, fs, gs, rfl, rfl, ha, hb, q⟩
  cases rx
  cases ry
  obtain ⟨_, _, J⟩ := ins_at I ha
  obtain ⟨_, _, J'⟩ := ins_at I hb
  obtain ⟨m, hF⟩ := I.fr
  exact PySem.W.binop_K hF I.ok.mod.kin J J'.type hc hs hf (thn (wpAny_call (run_fnR (us := [.ref a, .ref b]) (vs := [.ref a, .ref b]) F hr pass0 I (.cons rfl (.cons rfl .nil)) q)) fun _ _ z => back_cmp z)
/-- x == y by C's own __eq__ -/
theorem op_eqC (hs : PySem.W.findIn X.K (.ref C) "__eq__" = some (some (.ref f))) (hf : PySem.W.isFn X.K (.ref f) = true) (F : Pr X.prog X.w X.K X.mg X.base k f sp) (hr : Room k X.A) : OpR X (compareOp .Eq) (rTwo C sp) := by
  rintro pins s σ H x y v u Q I rx ry ⟨a, b, dx, dy, fs, gs, rfl, rfl, ha, hb, q⟩
  cases rx
  cases ry
  obtain ⟨_, _, J⟩ := ins_at I ha
  obtain ⟨_, _, J'⟩ := ins_at I hb
  obtain ⟨m, hF⟩ := I.fr
  have hn : PySem.W.notFirst X.K C (.ref C) = true := by
    show ((Value.ref C == Value.ref C) || _) = true
    simp
  show wpAny (model X.prog X.w) X.A (richCompare .Eq (.ref a) (.ref b)) _ _ _
  exact PySem.W.cmp_K (op := .Eq) (tb := .ref C) hr.units0 hF I.ok.mod.kin J J'.type hn hs hf (thn (wpAny_call (run_fnR (us := [.ref a, .ref b]) (vs := [.ref a, .ref b]) F hr pass0 I (.cons rfl (.cons rfl .nil)) q)) fun _ _ z => back_cmp z)
/-- x in o by C's own __contains__, whose answer is a bool -/
theorem op_inC (hs : PySem.W.findIn X.K (.ref C) "__contains__" = some (some (.ref f))) (hf : PySem.W.isFn X.K (.ref f) = true) (F : Pr X.prog X.w X.K X.mg X.base k f sp) (hr : Room k X.A) :
    OpR X (compareOp .In) (fun x y H Q => ∃ a dx fs, y = .ref a ∧ H a = some (.ins C dx fs) ∧ sp [y, x] H (fun v H1 => ∃ b, v = .bl b ∧ Q (.bl b) H1) E0) := by
  rintro pins s σ H x y v u Q I rx ry ⟨a, dx, fs, rfl, ha, q⟩
  cases ry
  obtain ⟨_, _, J⟩ := ins_at I ha
  obtain ⟨m, hF⟩ := I.fr
  refine PySem.W.in_K hF I.ok.mod.kin J hs hf (thn (wpAny_call (run_fnR (us := [.ref a, v]) (vs := [.ref a, x]) F hr pass0 I (.cons rfl (.cons rx .nil)) q)) ?_)
  rintro r s1 ⟨z, H1, I1, rz, b, rfl, qz⟩
  cases rz
  exact wpAny_truthy_bool ⟨.bl b, H1, I1, rfl, qz⟩
/-- len(o) by C's own __len__ -/
theorem call_lenC (hs : PySem.W.findIn X.K (.ref C) "__len__" = some (some (.ref f))) (hf : PySem.W.isFn X.K (.ref f) = true) (F : Pr X.prog X.w X.K X.mg X.base k f sp) (hr : Room (k + 1) X.A) :
    CallR X (.builtin "len") (fun xs H Q => ∃ a dx fs, xs = [.ref a] ∧ H a = some (.ins C dx fs) ∧ sp [.ref a] H (fun v H1 => ∃ n : Nat, v = .int n ∧ n < 1000000 ∧ Q (.int n) H1) E0) := by
  rintro pins s σ H xs us Q I r ⟨a, dx, fs, rfl, ha, q⟩
  cases r with
  | cons r1 r2 =>
    cases r2
    cases r1
    obtain ⟨_, _, J⟩ := ins_at I ha
    obtain ⟨m, hF⟩ := I.fr
    refine PySem.W.len_K hF I.ok.mod.kin J hs hf ?_
    refine thn (wpAny_call (codeAny_mono (F X.A.in1 X.stack s H [.ref a] [.ref a] _ E0 hr.in1 I.env0.in1 (.cons rfl .nil) q) (R' := fun r s' => match r with | .ok (.ret v) => EP X pins σ (fun v H1 => ∃ n : Nat, v = .int n ∧ n < 1000000 ∧ Q (.int n) H1) v s' | .ok _ => False | .error e => X.xe e s') ?_)) ?_
    · intro r s' z
      cases r with
      | error e => exact z.elim
      | ok fl =>
        cases fl with
        | ret u => exact I.after z
        | next => exact z.elim
        | brk => exact z.elim
        | cont => exact z.elim
    · rintro r s1 ⟨z, H1, I1, rz, n, rfl, hn, qz⟩
      obtain ⟨t, rfl⟩ := rz
      refine ⟨⟨by omega, by omega⟩, ?_⟩
      exact ⟨.int n, H1, I1.tok _, ⟨_, rfl⟩, qz⟩
end
end Pw
end
section
set_option maxRecDepth 100000
set_option maxHeartbeats 4000000
/-! Words for the walk: lists that grow, comprehensions, data that stands. -/
namespace Pw
open PySem PySem.Spec PyProof.Rows L2
theorem it {c A B : Prop} [Decidable c] (hc : c) (h : A) : if c then A else B := by rw [if_pos hc]; exact h
theorem ie {c A B : Prop} [Decidable c] (hc : ¬ c) (h : B) : if c then A else B := by rw [if_neg hc]; exact h
theorem iB {b : Bool} {A B : Prop} (h1 : b = true → A) (h2 : b = false → B) : if b = true then A else B := by
  cases b with
  | true => exact iteT (h1 rfl)
  | false => exact iteF (h2 rfl)
theorem Same.new {H : Hp} {a : Addr} {o : HO} (h : H a = none) : Same H (upd H a o) := fun b x e => by rw [upd_ne (ne_of_none e h)]; exact e
/-- all but a -/
def SameX (a : Addr) (H H' : Hp) : Prop := ∀ b o, b ≠ a → H b = some o → H' b = some o
theorem Same.x {a : Addr} {H H' : Hp} (s : Same H H') : SameX a H H' := fun b o _ e => s b o e
theorem SameX.trans {a : Addr} {H H1 H2 : Hp} (s : SameX a H H1) (t : SameX a H1 H2) : SameX a H H2 := fun b o n e => t b o n (s b o n e)
theorem SameX.set {a : Addr} {H : Hp} {o : HO} : SameX a H (upd H a o) := fun b x n e => by rw [upd_ne n]; exact e
section
variable {α : Type}
def All2 (R : V → α → Prop) : List V → List α → Prop
  | [], [] => True
  | v :: vs, t :: ts => R v t ∧ All2 R vs ts
  | _, _ => False
theorem All2.mono {R S : V → α → Prop} (h : ∀ v t, R v t → S v t) : ∀ {vs : List V} {ts : List α}, All2 R vs ts → All2 S vs ts
  | [], [], _ => trivial
  | _ :: _, _ :: _, a => ⟨h _ _ a.1, All2.mono h a.2⟩
  | [], _ :: _, a => a.elim
  | _ :: _, [], a => a.elim
theorem All2.len {R : V → α → Prop} : ∀ {vs : List V} {ts : List α}, All2 R vs ts → vs.length = ts.length
  | [], [], _ => rfl
  | _ :: _, _ :: _, a => by rw [List.length_cons, List.length_cons, All2.len a.2]
  | [], _ :: _, a => a.elim
  | _ :: _, [], a => a.elim
theorem All2.snoc {R : V → α → Prop} {v : V} {t : α} (h : R v t) : ∀ {vs : List V} {ts : List α}, All2 R vs ts → All2 R (vs ++ [v]) (ts ++ [t])
  | [], [], _ => ⟨h, trivial⟩
  | _ :: _, _ :: _, a => ⟨a.1, All2.snoc h a.2⟩
  | [], _ :: _, a => a.elim
  | _ :: _, [], a => a.elim
theorem All2.get {R : V → α → Prop} {v : V} : ∀ {vs : List V} {ts : List α} {i : Nat}, All2 R vs ts → vs[i]? = some v → ∃ t, ts[i]? = some t ∧ R v t
  | [], [], _, _, e => by simp at e
  | x :: vs, t :: ts, 0, a, e => ⟨t, rfl, by cases (Option.some.inj e : x = v); exact a.1⟩
  | x :: vs, t :: ts, i + 1, a, e => All2.get (i := i) a.2 e
  | [], _ :: _, _, a, _ => a.elim
  | _ :: _, [], _, a, _ => a.elim
theorem All2.get' {R : V → α → Prop} {t : α} : ∀ {vs : List V} {ts : List α} {i : Nat}, All2 R vs ts → ts[i]? = some t → ∃ v, vs[i]? = some v ∧ R v t
  | [], [], _, _, e => by simp at e
  | x :: vs, u :: ts, 0, a, e => ⟨x, rfl, by cases (Option.some.inj e : u = t); exact a.1⟩
  | x :: vs, u :: ts, i + 1, a, e => All2.get' (i := i) a.2 e
  | [], _ :: _, _, a, _ => a.elim
  | _ :: _, [], _, a, _ => a.elim
theorem All2.eq {f : α → V} : ∀ {vs : List V} {ts : List α}, All2 (fun v t => v = f t) vs ts → vs = ts.map f
  | [], [], _ => rfl
  | _ :: _, _ :: _, a => by rw [List.map_cons, ← a.1, ← All2.eq a.2]
  | [], _ :: _, a => a.elim
  | _ :: _, [], a => a.elim
theorem All2.of_map {f : α → V} {R : V → α → Prop} (h : ∀ t, R (f t) t) : ∀ {ts : List α}, All2 R (ts.map f) ts
  | [] => trivial
  | t :: ts => ⟨h t, All2.of_map h⟩
theorem All2.append {R : V → α → Prop} : ∀ {vs ws : List V} {ts us : List α}, All2 R vs ts → All2 R ws us → All2 R (vs ++ ws) (ts ++ us)
  | [], _, [], _, _, b => b
  | _ :: _, _, _ :: _, _, a, b => ⟨a.1, All2.append a.2 b⟩
  | [], _, _ :: _, _, a, _ => a.elim
  | _ :: _, _, [], _, a, _ => a.elim
end
/-- a relation that a growing heap keeps, and a list that grows -/
structure Mono {α : Type} (R : V → α → Hp → Prop) : Prop where
  same : ∀ v t H H', Same H H' → R v t H → R v t H'
  lst : ∀ v t D xs H H', H D = some (.lst xs) → SameX D H H' → R v t H → R v t H'
theorem Mono.eq {α : Type} (f : α → V) : Mono fun v t _ => v = f t := ⟨fun _ _ _ _ _ e => e, fun _ _ _ _ _ _ _ _ e => e⟩
/-- what a comprehension's turns 0 .. n - 1 make -/
def outs {α : Type} (keep : Nat → Bool) (f : Nat → α) (n : Nat) : List α := ((List.range n).filter keep).map f
theorem outs_len {α : Type} (keep : Nat → Bool) (f : Nat → α) (n : Nat) : (outs keep f n).length ≤ n := by
  have h := List.length_filter_le keep (List.range n)
  rw [List.length_range] at h
  simpa [outs] using h
theorem outs_succ_t {α : Type} {keep : Nat → Bool} {f : Nat → α} {n : Nat} (h : keep n = true) : outs keep f (n + 1) = outs keep f n ++ [f n] := by
  unfold outs
  rw [List.range_succ, List.filter_append, List.map_append]
  simp [h]
theorem outs_succ_f {α : Type} {keep : Nat → Bool} {f : Nat → α} {n : Nat} (h : keep n = false) : outs keep f (n + 1) = outs keep f n := by
  unfold outs
  rw [List.range_succ, List.filter_append, List.map_append]
  simp [h]
theorem outs_list {α β : Type} (d : β) (p : β → Bool) (f : β → α) (xs : List β) : outs (fun i => p (xs.getD i d)) (fun i => f (xs.getD i d)) xs.length = (xs.filter p).map f := by
  have e : (List.range xs.length).map (fun i => xs.getD i d) = xs := by
    apply List.ext_getElem
    · simp
    · intro i h1 h2
      simp at h1
      simp [h1]
  have e2 : (xs.filter p).map f = (((List.range xs.length).map (fun i => xs.getD i d)).filter p).map f := by rw [e]
  rw [e2, List.filter_map, List.map_map]
  rfl
theorem outs_all {α : Type} (f : Nat → α) (n : Nat) : outs (fun _ => true) f n = (List.range n).map f := by
  unfold outs
  rw [List.filter_eq_self.mpr (fun _ _ => rfl)]
section
variable {J : It} {n : Nat} {G : Hp → Prop} {Y : Nat → Hp → V → Hp → Prop}
/-- a list comprehension that changes nothing -/
theorem lc_gr {α : Type} {R : V → α → Hp → Prop} (mono : Mono R) (w : Walk J n G Y) {g : TG} {tt : TT} {te : TE} {vs : List Nat} {σ : L2.St} {H1 : Hp} {D : Addr} {Qd : Hp → Prop} (hD : H1 D = none) (hn : n ≤ sizeLine) (keep : Nat → Bool) (f : Nat → α)
    (hG : ∀ H, Same H1 H → G H) (hY : ∀ i H x H', i < n → Y i H x H' → Same H H')
    (hs : ∀ i x H H' (A : VK) (B : Hp → Prop), i < n → Same H1 H → Same H H' → Y i H x H' → (keep i = true → ∀ y H4, Same H' H4 → R y (f i) H4 → A y H4) → (keep i = false → ∀ H4, Same H' H4 → B H4) →
      g x (wipe σ vs) H' fun σ2 H2 => wipe σ2 vs = wipe σ vs ∧ tt σ2 H2 fun b H3 => if b = true then te σ2 H3 A else B H3)
    (hd : ∀ out H, Same H1 H → H D = some (.lst out) → All2 (fun v t => R v t H) out (outs keep f n) → Qd H) :
    ∃ W : Nat → Nat → Hp → Prop, (∃ m, W 0 m (upd H1 D (.lst []))) ∧ ∀ i m H, W i m H →
      (J.stop i H ∧ Qd H) ∨ (J.go i H ∧ ∃ Nx : Hp → Prop, (∀ H', Nx H' → ∃ m', m' < m ∧ W (i + 1) m' H') ∧ ∀ x H', J.yld i H x H' → g x (wipe σ vs) H' fun σ2 H2 => wipe σ2 vs = wipe σ vs ∧ tt σ2 H2 fun b H3 =>
        if b = true then te σ2 H3 fun y H4 => ∃ acc, H4 D = some (.lst acc) ∧ acc.length < sizeLine ∧ Nx (upd H4 D (.lst (acc ++ [y]))) else Nx H3) := by
  refine lc_it w (fun i H => Same H1 H ∧ ∃ out, H D = some (.lst out) ∧ All2 (fun v t => R v t H) out (outs keep f i)) ⟨Same.new hD, [], upd_same, trivial⟩ (fun i H _ h => hG H h.1) ?_ (fun H h => ?_)
  · rintro i x H H' hi ⟨s, out, e, a⟩ y
    have sY := hY i H x H' hi y
    refine hs i x H H' _ _ hi s sY y (fun k z H4 s4 r => ?_) (fun k H4 s4 => ?_)
    · have s' : Same H1 (upd H4 D (.lst (out ++ [z]))) := fun b o q => by
        rw [upd_ne (ne_of_none q hD)]
        exact s4 _ _ (sY _ _ (s _ _ q))
      refine ⟨out, s4 _ _ (sY _ _ e), ?_, s', out ++ [z], upd_same, ?_⟩
      · have h1 := a.len
        have h2 := outs_len keep f i
        omega
      · rw [outs_succ_t k]
        have sa : SameX D H4 (upd H4 D (.lst (out ++ [z]))) := .set
        have e4 : H4 D = some (.lst out) := s4 _ _ (sY _ _ e)
        exact (a.mono fun v t q => mono.lst _ _ _ _ _ _ e4 sa (mono.same _ _ _ _ (sY.trans s4) q)).snoc (mono.lst _ _ _ _ _ _ e4 sa r)
    · refine ⟨fun b o q => s4 _ _ (sY _ _ (s _ _ q)), out, s4 _ _ (sY _ _ e), ?_⟩
      rw [outs_succ_f k]
      exact a.mono fun v t r => mono.same _ _ _ _ (sY.trans s4) r
  · obtain ⟨s, out, e, a⟩ := h
    exact hd out H s e a
/-- any walk in a comprehension: what a turn asks is met when it reaches Pv of the next turn -/
theorem walk_gen (w : Walk J n G Y) {body : (Hp → Prop) → V → Hp → Prop} {H1 : Hp} {Qd : Hp → Prop} (Pv : Nat → Hp → Prop) (h0 : Pv 0 H1) (hG : ∀ i H, i ≤ n → Pv i H → G H)
    (hs : ∀ i x H H', i < n → Pv i H → Y i H x H' → body (Pv (i + 1)) x H') (hd : ∀ H, Pv n H → Qd H) :
    ∃ W : Nat → Nat → Hp → Prop, (∃ m, W 0 m H1) ∧ ∀ i m H, W i m H → (J.stop i H ∧ Qd H) ∨ (J.go i H ∧ ∃ Nx : Hp → Prop, (∀ H', Nx H' → ∃ m', m' < m ∧ W (i + 1) m' H') ∧ ∀ x H', J.yld i H x H' → body Nx x H') := by
  refine ⟨fun i m H => m = n - i ∧ i ≤ n ∧ Pv i H, ⟨n, rfl, Nat.zero_le n, h0⟩, ?_⟩
  rintro i m H ⟨rfl, hi, p⟩
  rcases Nat.lt_or_ge i n with hlt | hge
  · exact .inr ⟨w.goes i H hlt (hG i H hi p), Pv (i + 1), fun H' p' => ⟨n - (i + 1), by omega, rfl, hlt, p'⟩, fun x H' y => hs i x H H' hlt p (w.yields i H x H' hlt (hG i H hi p) y)⟩
  · have e : i = n := Nat.le_antisymm hi hge
    subst e
    exact .inl ⟨w.stops H (hG i H hi p), hd H p⟩
/-- no test -/
theorem yes {C B : Hp → Prop} {σ : L2.St} {H : Hp} (h : C H) : tYes σ H fun b H3 => if b = true then C H3 else B H3 := h
end
/-- a list that grows at D, with what its items stand for -/
def GrR {α : Type} (R : V → α → Hp → Prop) (H1 : Hp) (D : Addr) (out : List α) (H : Hp) : Prop := Same H1 H ∧ ∃ vs, H D = some (.lst vs) ∧ All2 (fun v t => R v t H) vs out
section
variable {α : Type} {R : V → α → Hp → Prop} {H1 H H4 : Hp} {D : Addr} {out : List α} {y : V} {t : α}
theorem GrR.start (hD : H1 D = none) : GrR R H1 D [] (upd H1 D (.lst [])) := ⟨Same.new hD, [], upd_same, trivial⟩
theorem GrR.keep (m : Mono R) (g : GrR R H1 D out H) (s : Same H H4) : GrR R H1 D out H4 := let ⟨s1, vs, e, a⟩ := g; ⟨s1.trans s, vs, s _ _ e, a.mono fun v t => m.same _ _ _ _ s⟩
theorem GrR.add (m : Mono R) (hD : H1 D = none) (g : GrR R H1 D out H) (s : Same H H4) (r : R y t H4) (hz : out.length < sizeLine) :
    ∃ acc, H4 D = some (.lst acc) ∧ acc.length < sizeLine ∧ GrR R H1 D (out ++ [t]) (upd H4 D (.lst (acc ++ [y]))) := by
  obtain ⟨s1, vs, e, a⟩ := g
  have e4 : H4 D = some (.lst vs) := s _ _ e
  refine ⟨vs, e4, by rw [a.len]; exact hz, fun b o q => ?_, _, upd_same, ?_⟩
  · rw [upd_ne (ne_of_none q hD)]
    exact s _ _ (s1 _ _ q)
  · have sx : SameX D H4 (upd H4 D (.lst (vs ++ [y]))) := .set
    exact (a.mono fun v t q => m.lst _ _ _ _ _ _ e4 sx (m.same _ _ _ _ s q)).snoc (m.lst _ _ _ _ _ _ e4 sx r)
end
end Pw
end
section
set_option maxRecDepth 100000
set_option maxHeartbeats 4000000
/-! The walk, first part: names, numbers, room, copies. -/
namespace Pw
open PySem PySem.Spec PyProof.Rows L2
abbrev letters : Str := "abcdefghijklmnopqrstuvwxyz"
/-- a name: 1 to 8 letters -/
structure NameOk (z : Str) : Prop where
  pos : 1 ≤ z.length
  le : z.length ≤ 8
  abc : ∀ c ∈ z.cps.toList, c ∈ letters.cps.toList
section
variable {P : Program} {w : World} {K : PySem.W.Frag} {mg : Str → Option Value} {base : Heap}
/-! ### names.py -/
def spIsInteger : Sp := fun vs H Q _ => ∃ i : Int, vs = [.int i] ∧ Q (.bl true) H
theorem sc_is_integer : FnScope ["value"] ["value"] (defScope s_is_integer) := ⟨rfl, rfl, rfl, by decide +kernel, rfl, by decide +kernel, by decide +kernel⟩
theorem ok_is_integer (T : Tx K mg) : Pr P w K mg base 1 (He.ga K "is_integer") spIsInteger := by
  obtain ⟨fd, F⟩ := T.f_is_integer
  refine pr_of (fn_t F sc_is_integer (fun _ _ _ _ _ _ us hl => match us, hl with | [_], _ => rfl) (fun vs H Q E h => ?_) fun cdv A outer s H vs Q E hr h => ?_)
  · obtain ⟨i, rfl, _⟩ := h
    rfl
  · obtain ⟨i, rfl, q⟩ := h
    refine ⟨_, pss_one (ps_ret (pe_and (pe_callB call_isi (by rfl) T.b_isinstance (by decide +kernel) (pa_cons (pv 0) (pa_cons (pe_bltn (x := "int") (v := .ty "int") (by rfl) T.b_int (by decide +kernel) rfl) pa_nil)))
      (pe_one (pe_not (pe_callB call_isi (by rfl) T.b_isinstance (by decide +kernel) (pa_cons (pv 0) (pa_cons (pe_bltn (x := "bool") (v := .ty "bool") (by rfl) T.b_bool (by decide +kernel) rfl) pa_nil))))))), ?_⟩
    exact ⟨_, rfl, _, _, _, _, true, rfl, .ty _, .base (.int _), kit_ty (by decide +kernel), true, rfl, iteT ⟨_, rfl, _, _, _, _, false, rfl, .ty _, .base (.int _), kit_ty (by decide +kernel), false, rfl, q⟩⟩
def spIsBetween : Sp := fun vs H Q _ => ∃ v lo hi : Int, vs = [.int v, .int lo, .int hi] ∧ Q (.bl (decide (lo ≤ v ∧ v ≤ hi))) H
theorem sc_is_between : FnScope ["value", "least", "most"] ["value", "least", "most"] (defScope s_is_between) := ⟨rfl, rfl, rfl, by decide +kernel, rfl, by decide +kernel, by decide +kernel⟩
theorem ok_is_between (T : Tx K mg) : Pr P w K mg base 2 (He.ga K "is_between") spIsBetween := by
  obtain ⟨fd, F⟩ := T.f_is_between
  obtain ⟨_, FI⟩ := T.f_is_integer
  refine pr_of (fn_t F sc_is_between (fun _ _ _ _ _ _ us hl => match us, hl with | [_, _, _], _ => rfl) (fun vs H Q E h => ?_) fun cdv A outer s H vs Q E hr h => ?_)
  · obtain ⟨v, lo, hi, rfl, _⟩ := h
    rfl
  · obtain ⟨v, lo, hi, rfl, q⟩ := h
    refine ⟨_, pss_one (ps_ret (pe_and (pc (ok_is_integer T) hr FI.kp T.g_is_integer (pa_cons (pv 0) pa_nil)) (pe_one (pe_chain op_le op_le (pv 1) (pv 0) (pv 2))))), ?_⟩
    refine ⟨_, rfl, v, rfl, true, rfl, iteT ⟨_, rfl, _, rfl, lo, v, rfl, rfl, _, rfl, ?_⟩⟩
    by_cases h1 : lo ≤ v
    · refine it (decide_eq_true h1) ⟨_, rfl, v, hi, rfl, rfl, ?_⟩
      have e : decide (lo ≤ v ∧ v ≤ hi) = decide (v ≤ hi) := by rw [Bool.eq_iff_iff, decide_eq_true_eq, decide_eq_true_eq]; exact ⟨fun z => z.2, fun z => ⟨h1, z⟩⟩
      rw [e] at q
      exact q
    · refine ie (by rw [decide_eq_false h1]; exact Bool.false_ne_true) ?_
      rw [decide_eq_false (fun z => h1 z.1)] at q
      exact q
def spIsName : Sp := fun vs H Q _ => ∃ z : Str, vs = [.str z] ∧ NameOk z ∧ ∀ H', Same H H' → Q (.bl true) H'
theorem sc_is_name : FnScope ["value", "letter"] ["value"] (defScope s_is_name) := ⟨rfl, rfl, rfl, by decide +kernel, rfl, by decide +kernel, by decide +kernel⟩
theorem ok_is_name (T : Tx K mg) : Pr P w K mg base 1 (He.ga K "is_name") spIsName := by
  obtain ⟨fd, F⟩ := T.f_is_name
  obtain ⟨_, tl⟩ := T.i_LONGEST_NAME
  obtain ⟨_, tt⟩ := T.t_LETTERS
  refine pr_of (fn_t F sc_is_name (fun _ _ _ _ _ _ us hl => match us, hl with | [_], _ => rfl) (fun vs H Q E h => ?_) fun cdv A outer s H vs Q E hr h => ?_)
  · obtain ⟨z, rfl, _⟩ := h
    rfl
  · obtain ⟨z, rfl, nz, q⟩ := h
    refine ⟨_, pss_cons (ps_if (PW.pt (pw_or (pt_not (pt_val (pe_callB call_isi (by rfl) T.b_isinstance (by decide +kernel) (pa_cons (pv 0) (pa_cons (pe_bltn (x := "str") (v := .ty "str") (by rfl) T.b_str (by decide +kernel) rfl) pa_nil)))))
        (pw_or1 (pt_not (pt_chain op_le op_le pe_int (pe_callB call_len_str (by rfl) T.b_len (by decide +kernel) (pa_cons (pv 0) pa_nil)) (pe_glob (v := .int 8) (by rfl) tl ⟨_, rfl⟩)))))) pss_never pss_nil)
      (pss_one (ps_ret (pe_callB (cr_all rfl) (by rfl) T.b_all (by decide +kernel) (pa_cons (pe_lc (own := [("letter", 1)]) (g := gName 1) (tt := tYes) rfl sc_is_name.nd (pi_str (pv 0)) (blkOk_by (N := ["value", "letter"]) (sc := defScope s_is_name) (by decide +kernel))
        (fun _ _ _ _ _ => pg_name (i := 1) sc_is_name.nd rfl (Or.inl rfl)) (fun _ _ _ _ _ => pts_nil) (fun _ _ _ _ _ => pe_cmpR op_in_sign (pv 1) (pe_glob (v := .str letters) (by rfl) tt ⟨_, rfl⟩) (by rfl))) pa_nil)))), ?_⟩
    refine ⟨_, rfl, _, _, _, _, true, rfl, .ty _, .base (.str _), kit_ty (by decide +kernel), true, rfl, iteF ?_⟩
    refine ⟨_, rfl, _, rfl, Nat.le_trans nz.le (by decide), _, _, rfl, rfl, _, rfl, ?_⟩
    have h1 := nz.pos
    have h2 := nz.le
    refine it (decide_eq_true (by omega)) ?_
    refine ⟨_, _, rfl, rfl, _, rfl, ?_⟩
    rw [decide_eq_true (show ((z.length : Nat) : Int) ≤ 8 by omega)]
    refine iteF ?_
    refine ⟨_, rfl, _, rfl, fun D hD => ?_⟩
    refine lc_gr (Mono.eq V.bl) (walk_str (z := z)) hD (Nat.le_trans h2 (by decide)) (fun _ => true) (fun _ => true) (fun _ _ => trivial) (fun _ _ _ _ _ y => by rw [y.1]; exact Same.refl _) ?_ ?_
    · rintro i x H1 H2 A B hi _ _ ⟨e, c, hc, rfl⟩ hA _
      refine ⟨rfl, yes ⟨_, rfl, c, letters, rfl, rfl, ?_⟩⟩
      rw [decide_eq_true (nz.abc c (List.mem_of_getElem? (by rw [Array.getElem?_toList]; exact hc)))]
      exact hA rfl _ _ (Same.refl _) rfl
    · intro out H1 s1 e a
      rw [outs_all] at a
      rw [a.eq] at e
      refine ⟨D, (List.range z.cps.size).map fun _ => true, rfl, .inl (.inl e), ?_⟩
      rw [show ((List.range z.cps.size).map fun _ => true).all id = true by simp]
      exact q H1 s1
end
end Pw
end
section
set_option maxRecDepth 100000
set_option maxHeartbeats 4000000
/-! More rules of this proof's own: != by a class's own ==, > of pairs, data in tuples. -/
namespace Pw
open PySem PySem.Spec PyProof.Rows L2
section
variable {M : Model} {prog : Program} {w : World} {A : Around} {E : Value → Shared → Prop} {s : Shared} {K : PySem.W.Frag} {x y C f : Addr} {ox : Obj} {od : Option Obj}
/-- object.__ne__ asks the class's own __eq__ -/
theorem neEntry {Q : Fin → Shared → Prop} (KI : K.In s.heap) (J : PySem.W.InstAt s.heap x ox C od) (hs : PySem.W.findIn K (.ref C) "__eq__" = some (some (.ref f))) (hf : PySem.W.isFn K (.ref f) = true) (hu : A.units < cLine)
    (hc : wpAny (model prog w) A (call (.ref f) [.ref x, .ref y]) (fun v s' => ∃ b, v = .bool b ∧ Q (.done (.ret (.bool (!b)))) s') E s) : wpAny (model prog w) A (Builtin.«object.__ne__» ⟨[.ref x, .ref y], []⟩) Q E s := by
  unfold Builtin.«object.__ne__»
  repeat (first
    | with_reducible refine wpAny_cRoomFor hu ?_
    | (refine wpAny_bind (m := callSpecialIfBound? (.ref x) (Str.ofString "__eq__") [.ref y]) (PySem.W.ifBound_K KI J hs hf (wpAny_mono hc (fun r s' hr => by
          obtain ⟨b, e, hq⟩ := hr
          subst e
          repeat (first | exact hq | exact wpAny_pure hq | exact wpAny_truthy_bool hq | (refine wpAny_bind (m := truthy (.bool _)) (wpAny_truthy_bool ?_)) | wp_step)) fun _ _ z => z)))
    | wp_step)
theorem ifBound_ne {args : List Value} {Q : Option Value → Shared → Prop} (KI : K.In s.heap) (J : PySem.W.InstAt s.heap x ox C od) (hn : PySem.W.findIn K (.ref C) "__ne__" = some (some (.builtin "object.__ne__")))
    (h : wpAny M A (call (.builtin "object.__ne__") (.ref x :: args)) (fun v => Q (some v)) E s) : wpAny M A (callSpecialIfBound? (.ref x) "__ne__" args) Q E s := by
  have last : wpAny M A (do let v ← call (.builtin "object.__ne__") ([.ref x] ++ args); pure (some v)) Q E s := wpAny_bind (wpAny_mono h (fun v s1 q => wpAny_pure q) fun _ _ z => z)
  simp only [callSpecialIfBound?, bindSpecialIfBound?]
  refine wpAny_holding (wpAny_bind (wpAny_bind (wpAny_bind (J.type.here ((PySem.W.looks_findIn KI hn).here (wpAny_bind (wpAny_askSetting (wpAny_ite ?_))))))))
  split
  · exact wpAny_bind (wpAny_of_eq (F.cmp_object.ne.bind _) (wpAny_pure (by exact last)))
  · exact wpAny_tryCatch (wpAny_bind (wpAny_of_eq (F.cmp_object.ne.bind _) (wpAny_pure (by exact last))))
theorem ne_own {Q : Value → Shared → Prop} {tb : Value} (hu : A.units + 1 < cLine) (KI : K.In s.heap) (J : PySem.W.InstAt s.heap x ox C od) (hb : PySem.W.Looks (model prog w) s.heap (typeOf (.ref y)) (.ref C)) (hm : PySem.W.mroIn K C (.type "object") = some true)
    (hn : PySem.W.findIn K (.ref C) "__ne__" = some (some (.builtin "object.__ne__"))) (hs : PySem.W.findIn K (.ref C) "__eq__" = some (some (.ref f))) (hf : PySem.W.isFn K (.ref f) = true)
    (hc : wpAny (model prog w) A.in1 (call (.ref f) [.ref x, .ref y]) (fun v s' => ∃ b, v = .bool b ∧ Q (.bool (!b)) s') E s) : wpAny (model prog w) A (richCompare .NotEq (.ref x) (.ref y)) Q E s := by
  have one : wpAny (model prog w) A (tryCompare (.ref x) "__ne__" (.ref y)) (fun r s' => ∃ v, r = some v ∧ Q v s') E s := by
    unfold tryCompare
    refine wpAny_bind (ifBound_ne KI J hn (wpAny_call (codeAny_call_builtin F.cmp_object.ne.plain F.cmpEntry_ne (PySem.W.check_slot F.cmpKind_ne F.cmpSplit_ne (J.type.andThen (PySem.W.looks_mroIn KI hm)) (F.cmpArgs_ne _ _)
      (neEntry KI J hs hf (by show A.units + 1 < cLine; exact hu) (wpAny_mono hc (fun v s1 z => ?_) fun _ _ z => z))))))
    obtain ⟨b, rfl, q⟩ := z
    first | exact ⟨b, rfl, wpAny_pure ⟨_, rfl, q⟩⟩ | exact ⟨b, rfl, _, rfl, q⟩
  unfold richCompare
  simp only [oneThing_ref]
  refine wpAny_holding (wpAny_bind (wpAny_cRoomFor (Nat.lt_of_succ_lt hu) ?_))
  rw [cmpInfo_NotEq]
  dsimp only
  refine wpAny_bind (J.type.here (wpAny_bind (hb.here ?_)))
  rw [show (Value.ref C != Value.ref C) = false from by simp]
  simp only [Bool.false_eq_true, if_false]
  refine wpAny_bind (wpAny_pure ?_)
  simp only [Bool.false_eq_true, if_false]
  refine wpAny_bind (wpAny_mono one (fun r s1 z => ?_) fun _ _ z => z)
  obtain ⟨v, rfl, q⟩ := z
  exact wpAny_pure q
end
section
variable {X : Cx} {k : Nat} {f C : Addr} {sp : Sp}
/-- x != y, the class has its own __eq__ -/
theorem op_neC (ic : C8.InsC X.K C) (hn : PySem.W.findIn X.K (.ref C) "__ne__" = some (some (.builtin "object.__ne__"))) (hs : PySem.W.findIn X.K (.ref C) "__eq__" = some (some (.ref f))) (hf : PySem.W.isFn X.K (.ref f) = true)
    (F : Pr X.prog X.w X.K X.mg X.base k f sp) (hr : Room (k + 1) X.A) :
    OpR X (compareOp .NotEq) (fun x y H Q => ∃ a b dx dy fs gs, x = .ref a ∧ y = .ref b ∧ H a = some (.ins C dx fs) ∧ H b = some (.ins C dy gs) ∧ sp [x, y] H (fun v H1 => ∃ t, v = .bl t ∧ Q (.bl (!t)) H1) E0) := by
  rintro pins s σ H x y v u Q I rx ry ⟨a, b, dx, dy, fs, gs, rfl, rfl, ha, hb, q⟩
  cases rx
  cases ry
  obtain ⟨_, _, J⟩ := ins_at I ha
  obtain ⟨_, _, J'⟩ := ins_at I hb
  have hu : X.A.units + 1 < cLine := hu_of hr
  refine ne_own (tb := .ref C) hu I.kIn J J'.type ic.hm hn hs hf (wpAny_call (codeAny_mono (F X.A.in1 X.stack s H [.ref a, .ref b] [.ref a, .ref b] _ E0 hr.in1 I.env0.in1 (.cons rfl (.cons rfl .nil)) q)
    (R' := fun r s' => match r with | .ok (.ret v) => ∃ b, v = .bool b ∧ EP X pins σ Q (.bool (!b)) s' | .ok _ => False | .error e => X.xe e s') ?_))
  intro r s' z
  cases r with
  | error e => exact z.elim
  | ok fl =>
    cases fl with
    | ret u =>
      have z2 := I.after z
      obtain ⟨v, H1, I1, r1, t, rfl, q1⟩ := z2
      cases r1
      exact ⟨t, rfl, .bl (!t), H1, I1, rfl, q1⟩
    | next => exact z.elim
    | brk => exact z.elim
    | cont => exact z.elim
/-- (i, j) > (k, l) -/
theorem op_gtT2 (hu : X.A.units < cLine) : OpR X (compareOp .Gt) (fun x y H Q => ∃ (a b : Addr) (i j k l : Int), x = .ref a ∧ y = .ref b ∧ SqT X.K H a [.int i, .int j] ∧ SqT X.K H b [.int k, .int l] ∧ Q (.bl (decide (k < i ∨ (k = i ∧ l < j)))) H) := by
  intro pins s σ H x y v u Q I rx ry h
  obtain ⟨a, b, i, j, k, l, rfl, rfl, ha, hb, q⟩ := h
  cases rx
  cases ry
  obtain ⟨its, r1, p1, _⟩ := I.tuple ha
  obtain ⟨its2, r2, p2, _⟩ := I.tuple hb
  have i1 : IntsAre its [i, j] := Vals.ints r1
  have i2 : IntsAre its2 [k, l] := Vals.ints r2
  have e1 : its.toArray.size = 2 := by rw [List.size_toArray]; exact i1.length
  have e2 : its2.toArray.size = 2 := by rw [List.size_toArray]; exact i2.length
  have at1 : ∀ m (h1 : m < its.toArray.size), ∃ t, its.toArray[m] = .int ([i, j].getD m 0) t := fun m h1 => PyProof.Rows.IntsAre.int_at i1 _ _ (by simp at h1; simp [h1])
  have at2 : ∀ m (h1 : m < its2.toArray.size), ∃ t, its2.toArray[m] = .int ([k, l].getD m 0) t := fun m h1 => PyProof.Rows.IntsAre.int_at i2 _ _ (by simp at h1; simp [h1])
  have R := Ob.RcOp.tuples_gt (A := X.A) (s := s) (e := fun m => ([i, j].getD m 0 == [k, l].getD m 0)) (r := fun m => decide ([k, l].getD m 0 < [i, j].getD m 0)) p1 p2 hu (fun m h1 h2 => by
    obtain ⟨t, et⟩ := at1 m h1
    obtain ⟨t', et'⟩ := at2 m h2
    rw [et, et']
    exact SeqAt.EqAt.int_int _ _ _ _) (fun m h1 h2 _ => by
    obtain ⟨t, et⟩ := at1 m h1
    obtain ⟨t', et'⟩ := at2 m h2
    rw [et, et']
    exact Ob.RcOp.gt_int _ _ _ _)
  rw [e1, e2] at R
  have ans : Ob.lexAt (fun m => ([i, j].getD m 0 == [k, l].getD m 0)) (fun m => decide ([k, l].getD m 0 < [i, j].getD m 0)) (decide (2 > 2)) 0 (min 2 2) = decide (k < i ∨ (k = i ∧ l < j)) := by
    show (if (i == k) = true then (if (j == l) = true then decide (2 > 2) else decide (l < j)) else decide (k < i)) = _
    by_cases z : i = k
    · subst z
      rw [if_pos (beq_self_eq_true i)]
      by_cases z2 : j = l
      · subst z2
        rw [if_pos (beq_self_eq_true j)]
        simp
      · rw [if_neg (by simpa using z2)]
        simp
    · rw [if_neg (by simpa using z)]
      by_cases z3 : k < i
      · simp [z3]
      · simp [z3, Ne.symm z]
  rw [ans] at R
  exact R X.prog X.w X.xe (EP X pins σ Q) ⟨.bl _, H, I, rfl, q⟩
/-- data in a tuple of data -/
theorem op_inDT (hu : X.A.units + 65 < cLine) : OpR X (compareOp .In) (fun x y H Q => ∃ d ds, Dp X.K H x d ∧ Dp X.K H y (.tuple ds) ∧ SeqAt.shaped d = true ∧ SeqAt.shaped (.tuple ds) = true ∧ Q (.bl (ds.any fun z => PyData.eqv z d)) H) := by
  rintro pins s σ H x y v u Q I rx ry ⟨d, ds, hd, he, sd, se, q⟩
  obtain ⟨as, r1⟩ := Dp.reads I d x v hd rx
  obtain ⟨bs, r2⟩ := Dp.reads I (.tuple ds) y u he ry
  exact SeqAt.in_tuple_reads r2 r1 (SeqAt.canLay_of_shaped se) (SeqAt.canLay_of_shaped sd) (room_in_shaped sd hu) ⟨.bl _, H, I, rfl, q⟩
theorem op_notInDT (hu : X.A.units + 65 < cLine) : OpR X (compareOp .NotIn) (fun x y H Q => ∃ d ds, Dp X.K H x d ∧ Dp X.K H y (.tuple ds) ∧ SeqAt.shaped d = true ∧ SeqAt.shaped (.tuple ds) = true ∧ Q (.bl (!ds.any fun z => PyData.eqv z d)) H) := by
  rintro pins s σ H x y v u Q I rx ry ⟨d, ds, hd, he, sd, se, q⟩
  obtain ⟨as, r1⟩ := Dp.reads I d x v hd rx
  obtain ⟨bs, r2⟩ := Dp.reads I (.tuple ds) y u he ry
  exact SeqAt.notIn_tuple_reads r2 r1 (SeqAt.canLay_of_shaped se) (SeqAt.canLay_of_shaped sd) (room_in_shaped sd hu) ⟨.bl _, H, I, rfl, q⟩
end
end Pw
end
section
set_option maxRecDepth 100000
set_option maxHeartbeats 4000000
/-! Rules for dict displays with two stars, and for a star of a dict in a display. -/
namespace Pw
open PySem PySem.Spec PyProof.Rows L2
section
variable {prog : Program} {w : World} {κ : Type} [DecidableEq κ] {knd : KeyKind prog w κ} {A : Around} {E : Value → Shared → Prop} {s : Shared}
theorem put_pairs {d : Addr} {kvs : List (κ × Value)} {k : κ} {key v : Value} {Q : Unit → Shared → Prop} (hkey : knd.is k key = true) (hm : s.heap.DictOf knd d kvs) (hsz : kvs.length ≤ sizeLine)
    (hQ : ∀ h', h'.DictOf knd d (stored kvs k v) → Heap.SameBut d s.heap h' → Q () { s with heap := h' }) : wpAny (model prog w) A (dictPut d (knd.hash k) key v) Q E s := by
  obtain ⟨o, es, ep, ho, hc, hd, hk, hp, hn⟩ := hm
  have hes : es.size ≤ sizeLine := by
    have e1 := hp.length
    rw [Array.length_toList] at e1
    omega
  unfold dictPut
  refine wpAny_bind (wpAny_dictFind_of hkey ho hd hk ?_)
  have hidx : (es.findIdx? fun e => knd.is k e.key) = kvs.findIdx? fun kv => decide (kv.1 = k) := by rw [← hp.findIdx k]; obtain ⟨l⟩ := es; simp
  cases hi : es.findIdx? fun e => knd.is k e.key with
  | some i =>
    have ha : (kvs.any fun x => decide (x.1 = k)) = true := any_of_findIdx_some (hidx ▸ hi)
    refine wpAny_updateDict ho hd (hQ _ ⟨_, _, ep, Heap.get?_update_self _ ho (Obj.isFreed_of_dict (Obj.data_mapDict hd _)), hc.mapDict _, Obj.data_mapDict hd _, hk.modify _ _, ?_, ?_⟩ (Heap.SameBut.update ..))
    · have hl : (es.toList.findIdx? fun e => knd.is k e.key) = some i := by rw [← hi]; obtain ⟨l⟩ := es; simp
      have q := hp.modify hn hl v
      rw [stored, if_pos ha]
      obtain ⟨l⟩ := es
      simpa using q
    · rw [stored, if_pos ha, keys_map_store]; exact hn
  | none =>
    have hnot : k ∉ kvs.map (·.1) := not_mem_of_findIdx_none (hidx ▸ hi)
    have hany : ¬ (kvs.any fun x => decide (x.1 = k)) = true := fun z => by
      obtain ⟨kv, hkv, he⟩ := List.any_eq_true.mp z
      exact hnot (List.mem_map.mpr ⟨kv, hkv, of_decide_eq_true he⟩)
    refine wpAny_updateDictKeys (hz := hes) ho hd (hQ _ ⟨_, _, ep + 1, Heap.get?_update_self _ ho (Obj.isFreed_of_dict (Obj.data_mapDictKeys hd _)), hc.mapDictKeys _, Obj.data_mapDictKeys hd _, hk.push hkey _, ?_, ?_⟩ (Heap.SameBut.update ..))
    · have q := hp.append hkey (knd.hash k) v
      rw [stored, if_neg hany]
      obtain ⟨l⟩ := es
      simpa using q
    · rw [stored, if_neg hany, List.map_append, List.nodup_append]
      refine ⟨hn, by simp, fun a ha b hb e => ?_⟩
      simp only [List.map_cons, List.map_nil, List.mem_singleton] at hb
      subst hb
      exact hnot (e ▸ ha)
/-- one dict's entries put into another one (a display's two stars) -/
theorem merge_pairs {d a : Addr} {kvs more : List (κ × Value)} {Q : Unit → Shared → Prop} (hnr : ∀ k v, knd.is k v = true → ∀ r, v ≠ .ref r) (hda : d ≠ a) (hS : (a == sysModules) = false) (hd : s.heap.DictOf knd d kvs) (ha : s.heap.DictOf knd a more) (hsz : kvs.length + more.length ≤ sizeLine)
    (hQ : ∀ h', h'.DictOf knd d (merged kvs more) → Heap.SameBut d s.heap h' → Q () { s with heap := h' }) : wpAny (model prog w) A (mergeMapping d (.ref a) false) Q E s := by
  obtain ⟨od, esd, epd, hod, hcd, hdd, hkd, hpd, hnd⟩ := id hd
  obtain ⟨oo, eso, epo, hoo, hco, hdo, hko, hpo, hno⟩ := id ha
  have hlen : more.length = eso.size := by rw [← hpo.length]; simp
  have rest : wpAny (model prog w) A (do
      let size := (← dictEntries a).size
      let epoch ← dictEpoch a
      for i in List.range size do
        let some e := (← dictEntries a)[i]? | unsupported "dict.changed-during-merge"
        holding [e.key, e.val] do
          if false = true then
            if (← dictFind d e.key e.hash).isSome then rule "dict.merge.duplicate-key"; raiseNew (← newExc (.type "KeyError") [e.key])
          dictPut d e.hash e.key e.val
        if (← dictEpoch a) != epoch then unsupported "dict.changed-during-merge") Q E s := by
    refine wpAny_bind (wpAny_dictEntries hoo hdo ?_)
    refine wpAny_bind (wpAny_dictEpoch hoo hdo ?_)
    refine wpAny_bind ?_
    rw [List.range_eq_range']
    refine wpAny_forIn_list _ (fun rest _ s' => ∃ h' i, s' = { s with heap := h' } ∧ rest = List.range' i (eso.size - i) ∧ i ≤ eso.size ∧ h'.DictOf knd d (merged kvs (more.take i)) ∧ h'.get? a = some oo ∧ Heap.SameBut d s.heap h') _ ?_ ?_ _ _
      ⟨s.heap, 0, rfl, by simp, Nat.zero_le _, by simpa [merged] using hd, hoo, Heap.SameBut.refl _ _⟩
    · rintro x rest b s' ⟨h', i, rfl, hr, hi, hd', hoo', hs'⟩
      have hlt : i < eso.size := by
        rcases Nat.lt_or_ge i eso.size with h | h
        · exact h
        · rw [Nat.sub_eq_zero_of_le h] at hr; simp at hr
      have e0 : eso.size - i = (eso.size - (i + 1)) + 1 := by omega
      rw [e0, List.range'_succ] at hr
      injection hr with h1 h2
      subst h1 h2
      refine wpAny_bind (wpAny_dictEntries hoo' hdo ?_)
      rw [Array.getElem?_eq_getElem hlt]
      obtain ⟨k, v, hkv⟩ : ∃ k v, more[x]? = some (k, v) := ⟨_, _, List.getElem?_eq_getElem (by rw [hlen]; exact hlt)⟩
      obtain ⟨hkey, hval⟩ := hpo.get? (e := eso[x]) (by simp [hlt]) hkv
      obtain ⟨k', hkey', hhash⟩ := hko eso[x] (Array.getElem_mem hlt)
      obtain rfl : k' = k := knd.inj _ _ _ hkey' hkey
      have hmx : (merged kvs (more.take x)).length ≤ sizeLine := by
        have e1 := merged_length_le kvs (more.take x)
        have e2 : (more.take x).length ≤ more.length := by rw [List.length_take]; omega
        omega
      dsimp only
      rw [hhash, hval]
      refine wpAny_bind (wpAny_holding ?_)
      rw [if_neg Bool.false_ne_true]
      refine put_pairs hkey hd' hmx fun h'' hd'' hs'' => ?_
      have hoo'' : h''.get? a = some oo := (hs''.2 a (Ne.symm hda)).trans hoo'
      refine wpAny_bind (wpAny_dictEpoch hoo'' hdo ?_)
      rw [if_neg (by simp)]
      exact wpAny_pure ⟨h'', x + 1, rfl, rfl, hlt, by rw [merged_take_succ kvs more x (k', v) hkv]; exact hd'', hoo'', hs'.trans hs''⟩
    · rintro b s' ⟨h', i, rfl, hr, hi, hd', hoo', hs'⟩
      have hin : i = eso.size := by
        rcases Nat.lt_or_ge i eso.size with h | h
        · have e0 : eso.size - i = (eso.size - (i + 1)) + 1 := by omega
          rw [e0, List.range'_succ] at hr
          exact nomatch hr
        · exact Nat.le_antisymm hi h
      subst hin
      rw [← hlen, List.take_length] at hd'
      exact wpAny_pure (hQ h' hd' hs')
  unfold mergeMapping
  refine wpAny_bind (wpAny_isInstance ha.typeIs isSubtype_dict_dict ?_)
  rw [if_pos rfl]
  refine wpAny_bind (wpAny_specialOf ha.typeIs F.slot_dict_iter.lookup ?_)
  rw [beq_self_eq_true]
  refine wpAny_bind (wpAny_pure ?_)
  dsimp only
  rw [if_neg (by rw [hS]; exact Bool.false_ne_true)]
  refine wpAny_bind (wpAny_dictEntries hod hdd ?_)
  split
  · refine wpAny_bind (wpAny_dictEntries hoo hdo (wpAny_bind ?_))
    rw [← Array.forIn_toList]
    refine wpAny_forIn_list _ (fun r _ s' => s' = s ∧ ∀ e ∈ r, e ∈ eso) _ ?_ ?_ _ _ ⟨rfl, fun e he => by simpa using he⟩
    · rintro e r b s' ⟨rfl, hin⟩
      obtain ⟨k, hk, _⟩ := hko e (hin e List.mem_cons_self)
      have nr := hnr k e.key hk
      split
      · rename_i z he
        exact absurd he (nr z)
      · exact wpAny_pure ⟨rfl, fun x hx => hin x (List.mem_cons_of_mem _ hx)⟩
    · rintro b s' ⟨rfl, _⟩
      exact rest
  · exact rest
end
theorem mix_nr {P : Program} {w : World} : ∀ (k : Key) (v : Value), (mixKind P w).is k v = true → ∀ r, v ≠ .ref r := fun k v h r e => by
  subst e
  rcases keyIs_shape (show keyIs k (.ref r) = true from h) with ⟨i, t, _, z⟩ | ⟨x, t, _, z⟩
  · cases z
  · cases z
section
variable {X : Cx}
/-- d.update(b) in effect: one step of a display with two stars -/
theorem merge_inv {pins : List (Addr × Obj)} {σ : L2.St} {H : Hp} {s : Shared} {p b : Addr} {ka kb : List (Key × V)} {E : Value → Shared → Prop} {Q : Unit → Shared → Prop} (I : Inv X pins σ H s) (hp : H p = some (.dK ka)) (hb : H b = some (.dK kb)) (hne : b ≠ p) (hz : ka.length + kb.length ≤ sizeLine)
    (h : ∀ s', Inv X pins σ (upd H p (.dK (mergeK ka kb))) s' → Q () s') : wpAny (model X.prog X.w) X.A (mergeMapping p (.ref b) false) Q E s := by
  obtain ⟨z1, y1, v1, r1, d1⟩ := dk_of I.hok hp
  obtain ⟨z2, y2, v2, r2, d2⟩ := dk_of I.hok hb
  refine merge_pairs mix_nr (Ne.symm hne) y2 d1 d2 (by rw [← r1.length, ← r2.length]; exact hz) fun h' d' sb => h _ ?_
  have he : ∃ q, h'.get? p = some q := let ⟨q, _, _, hq, _⟩ := d'; ⟨q, hq⟩
  have hl := length_mergeK kb ka
  exact d_write I (by rw [hp]; exact True.intro) sb he (dk_new (by omega) y1 (r2.merge r1) d')
/-- {**a, **b} -/
def tDisp2 (ta tb : TE) : TE := fun σ H Q => ∀ p, H p = none → ta σ (upd H p (.dK [])) fun x H1 => ∃ a ka, x = .ref a ∧ a ≠ p ∧ H1 a = some (.dK ka) ∧ H1 p = some (.dK []) ∧ ka.length ≤ 100000 ∧
  tb σ (upd H1 p (.dK (mergeK [] ka))) fun y H2 => ∃ b kb, y = .ref b ∧ b ≠ p ∧ H2 b = some (.dK kb) ∧ H2 p = some (.dK (mergeK [] ka)) ∧ kb.length ≤ 100000 ∧ Q (.ref p) (upd H2 p (.dK (mergeK (mergeK [] ka) kb)))
theorem pe_disp2 {a b : Expr} {ta tb : TE} {pos : Pos} (ha : PE X a ta) (hb : PE X b tb) : PE X (.Dict [none, none] [a, b] pos) (tDisp2 ta tb) := by
  refine ⟨fun pins s σ H Q I q => ?_⟩
  rw [arm_eval_Dict]
  have hn := I.hok.fresh (Nat.le_refl s.heap.objs.size)
  have I1 := I.laid (a := s.heap.objs.size) (o := .dK []) (h' := s.heap.push { cls := .type "dict", data := .dict #[] }) (t' := s.toks) (fun _ _ q => Heap.get?_push_of_some _ q) (Nat.le_refl _) (dk_empty s.heap I.big)
  have q := q _ hn
  have hz0 : (100000 : Nat) + 100000 ≤ sizeLine := by decide
  refine wpAny_bind (wpAny_standAt ?_)
  show wpAny (model X.prog X.w) X.A (dictDisplay [(none, do let x ← eval a X.env; standAt pos; pure x), (none, do let x ← eval b X.env; standAt pos; pure x)]) _ _ s
  unfold dictDisplay
  dsimp only
  refine wpAny_bind ?_
  rw [List.forIn_cons]
  refine wpAny_bind ?_
  dsimp only
  simp only [List.isEmpty_nil, if_true]
  refine wpAny_bind (wpAny_pure ?_)
  dsimp only
  refine wpAny_bind (wpAny_alloc ?_)
  refine wpAny_bind (wpAny_holding (wpAny_bind (thn (ha.run pins _ σ _ _ I1 q) fun v s1 z1 => ?_)))
  obtain ⟨x, H1, I2, rx, a', ka, ex, hne, hka, hp1, hl, q1⟩ := z1
  subst ex
  obtain rfl : v = Value.ref a' := rx
  refine wpAny_bind (wpAny_standAt (wpAny_pure ?_))
  refine wpAny_bind (wpAny_onRaise (wpAny_tryCatch (wpAny_onRaise (wpAny_holding (merge_inv I2 hp1 hka hne (by show 0 + _ ≤ _; omega) fun s2 I3 => ?_)))))
  refine wpAny_pure ?_
  dsimp only
  rw [List.forIn_cons]
  refine wpAny_bind ?_
  dsimp only
  simp only [List.isEmpty_nil, if_true]
  refine wpAny_bind (wpAny_pure ?_)
  dsimp only
  refine wpAny_bind (wpAny_pure ?_)
  refine wpAny_bind (wpAny_holding (wpAny_bind (thn (hb.run pins _ σ _ _ I3 q1) fun v s3 z3 => ?_)))
  obtain ⟨y, H2, I4, ry, b', kb, ey, hne2, hkb, hp2, hl2, q2⟩ := z3
  subst ey
  obtain rfl : v = Value.ref b' := ry
  refine wpAny_bind (wpAny_standAt (wpAny_pure ?_))
  have hm := length_mergeK ka []
  have hm0 : ([] : List (Key × V)).length = 0 := rfl
  refine wpAny_bind (wpAny_onRaise (wpAny_tryCatch (wpAny_onRaise (wpAny_holding (merge_inv I4 hp2 hkb hne2 (by omega) fun s4 I5 => ?_)))))
  refine wpAny_pure ?_
  dsimp only
  rw [List.forIn_nil]
  refine wpAny_pure ?_
  dsimp only
  simp only [List.isEmpty_nil, if_true]
  refine wpAny_bind (wpAny_pure ?_)
  exact wpAny_pure ⟨.ref _, _, I5, rfl, q2⟩
/-- *d in a display, d a dict: its keys -/
def tStarD (te : TE) (t : TA) : TA := fun σ H Q => te σ H fun x H1 => ∃ p kvs, x = V.ref p ∧ H1 p = some (.dK kvs) ∧ t σ H1 fun ys H2 => Q (kvs.map (fun kv => kV kv.1) ++ ys) H2
theorem star_dict {pins : List (Addr × Obj)} {σ : L2.St} {H : Hp} {s : Shared} {a : Addr} {kvs : List (Key × V)} {E : Value → Shared → Prop} {Q : List Value → Shared → Prop} (hc : X.calm = true) (I : Inv X pins σ H s) (h : H a = some (.dK kvs))
    (hQ : ∀ us s', Inv X pins σ H s' → Vals (kvs.map fun kv => kV kv.1) us → Q us s') : PySem.W.StarOf (model X.prog X.w) X.A E (.ref a) Q s := by
  obtain ⟨z, lo, vs, rel, dd⟩ := dk_of I.hok h
  obtain ⟨ep, hat⟩ := dd.dictAt
  have hl : kvs.length = vs.length := Paired.length rel
  unfold PySem.W.StarOf notIterableAtAll
  refine wpAny_bind (wpAny_specialOf dd.typeIs PySem.F.slot_dict_iter.lookup (wpAny_pure ⟨rfl, ?_⟩))
  refine PySem.W.kdu_collect (PySem.W.kdl_dict (knd := mixKind X.prog X.w) (kvs := vs) (ep := ep) lo) (I.ok.hd hc) hat (by omega) fun h' tk acc hk hacc => ?_
  refine hQ _ _ (I.kept (t' := tk) hk) ?_
  have el : acc.toList.length = acc.size := by simp
  refine vals_of_at (by rw [List.length_map, el, hacc.1, hl]) fun j x u h1 h2 => ?_
  obtain ⟨k, y, hky, hi⟩ := hacc.2 j u (by rw [← Array.getElem?_toList]; exact h2)
  have e1 : (kvs.map (·.1))[j]? = some k := by rw [KV.keys rel, List.getElem?_map, hky]; rfl
  have e2 : (kvs.map fun kv => kV kv.1)[j]? = some (kV k) := by
    have e3 : (kvs.map fun kv => kV kv.1) = (kvs.map (·.1)).map kV := by rw [List.map_map]; rfl
    rw [e3, List.getElem?_map, e1]
    rfl
  rw [e2] at h1
  cases h1
  exact keyIs_rel hi
theorem pa_starD {e : Expr} {es : List Expr} {te : TE} {t : TA} {p : Pos} (hc : X.calm = true) (he : PE X e te) (hr : PA X es t) (hs : starEach (.Starred e p :: es) X.env = (true, eval e X.env) :: starEach es X.env := by rfl) : PA X (.Starred e p :: es) (tStarD te t) := by
  refine ⟨fun pos pins s σ H Q I h => PySem.W.items_star (thn (he.run pins s σ H _ I h) fun v s1 z => ?_) hs⟩
  obtain ⟨y, H1, I1, ry, a, kvs, ey, hx, q⟩ := z
  subst ey
  obtain rfl : v = Value.ref a := ry
  exact star_dict hc I1 hx fun us s2 I2 rv => thn (hr.run pos pins s2 σ H1 _ I2 q) fun ws s3 ⟨vs, H3, I3, r3, q3⟩ => ⟨_ ++ vs, H3, I3, rv.append r3, q3⟩
end
end Pw
end
section
set_option maxRecDepth 100000
set_option maxHeartbeats 4000000
/-! A dict comprehension with two for clauses (gen_rd.py prints this text, after the rule for lists with two). -/
namespace Pw
open PySem PySem.Spec PyProof.Rows L2
theorem turnD_out (kx vx t0 i0 t1 i1 : Expr) (ifs0 ifs1 : List Expr) (scp : Scope) (ps : Pos) (it : Value) (Dd : Addr) (env : Env) :
    compTurn (.DictComp kx vx [⟨t0, i0, ifs0, 0⟩, ⟨t1, i1, ifs1, 0⟩] scp ps) 0 it (.ref Dd) env = (do
      standAt i0.pos
      match ← pyNext it with
      | none => pure (.done .next)
      | some v =>
        letOwnedTupleGo t0 it v
        assign t0 env v
        let mut ok := true
        for c in ifs0 do
          if ok then ok ← isTrue c env (eval c env)
        if ok then
          let x ← eval i1 env
          standAt i1.pos
          let x ← foldedSetIterable i1 env x
          let _ ← runOwn (.compStart (.DictComp kx vx [⟨t0, i0, ifs0, 0⟩, ⟨t1, i1, ifs1, 0⟩] scp ps) 1 (← holding [x] (pyIter x)) (.ref Dd) env) env
        again (.compLoop (.DictComp kx vx [⟨t0, i0, ifs0, 0⟩, ⟨t1, i1, ifs1, 0⟩] scp ps) 0 it (.ref Dd) env)) := by rfl
theorem turnD_in (kx vx t0 i0 t1 i1 : Expr) (ifs0 ifs1 : List Expr) (scp : Scope) (ps : Pos) (it : Value) (Dd : Addr) (env : Env) :
    compTurn (.DictComp kx vx [⟨t0, i0, ifs0, 0⟩, ⟨t1, i1, ifs1, 0⟩] scp ps) 1 it (.ref Dd) env = (do
      standAt i1.pos
      match ← pyNext it with
      | none => pure (.done .next)
      | some v =>
        letOwnedTupleGo t1 it v
        assign t1 env v
        let mut ok := true
        for c in ifs1 do
          if ok then ok ← isTrue c env (eval c env)
        if ok then
          (do
            let kv ← eval kx env
            let vv ← holding [kv] (eval vx env)
            standAt { kx.pos with endLine := vx.pos.endLine, endCol := vx.pos.endCol }
            holding [kv, vv] (dictSet Dd kv vv))
        again (.compLoop (.DictComp kx vx [⟨t0, i0, ifs0, 0⟩, ⟨t1, i1, ifs1, 0⟩] scp ps) 1 it (.ref Dd) env)) := by rfl

section
variable {prog : Program} {w : World} {A : Around} {R : Result → Shared → Prop} {s : Shared} {kx vx t0 i0 t1 i1 : Expr} {ifs0 ifs1 : List Expr} {scp : Scope} {ps : Pos} {it : Value} {Dd : Addr} {env : Env}
/-- the loop of the first clause -/
theorem loopD_out (hs : ∀ x, foldedSetIterable i1 env x = pure x) (I : Nat → Shared → Prop)
    (turn : ∀ n s, I n s → wpAny (model prog w) A (pyNext it) (fun r u₁ => match r with
      | none => R (.ok .next) u₁
      | some v => wpAny (model prog w) A (letOwnedTupleGo t0 it v) (fun _ u₁' => wpAny (model prog w) A (assign t0 env v) (fun _ u₂ =>
          wpAny (model prog w) A (forIn ifs0 true fun c r => if r = true then do let ok ← isTrue c env (eval c env); pure (ForInStep.yield ok) else pure (ForInStep.yield r)) (fun ok u₃ =>
            if ok = true then wpAny (model prog w) A (eval i1 env) (fun x u₄ => wpAny (model prog w) A (pyIter x) (fun it1 u₅ =>
              codeAny (model prog w) A (.compStart (.DictComp kx vx [⟨t0, i0, ifs0, 0⟩, ⟨t1, i1, ifs1, 0⟩] scp ps) 1 it1 (.ref Dd) env) (fun r s' => match r with
                | .ok _ => ∃ m, m < n ∧ I m s'
                | .error _ => False) u₅) (notedBy (model prog w) A env fun e s' => R (.error e) s') u₄) (notedBy (model prog w) A env fun e s' => R (.error e) s') u₃
            else ∃ m, m < n ∧ I m u₃) (notedBy (model prog w) A env fun e s' => R (.error e) s') u₂) (notedBy (model prog w) A env fun e s' => R (.error e) s') u₁') (notedBy (model prog w) A env fun e s' => R (.error e) s') u₁) (notedBy (model prog w) A env fun e s' => R (.error e) s') s)
    (n : Nat) (h : I n s) :
    codeAny (model prog w) A (.compLoop (.DictComp kx vx [⟨t0, i0, ifs0, 0⟩, ⟨t1, i1, ifs1, 0⟩] scp ps) 0 it (.ref Dd) env) R s := by
  refine codeAny_loop rfl I (fun n s hI => ?_) n h
  show wpAny _ A ((compTurn (.DictComp kx vx [⟨t0, i0, ifs0, 0⟩, ⟨t1, i1, ifs1, 0⟩] scp ps) 0 it (.ref Dd) env).onRaise (fun x => do noteFrame x env; theTreesLotGoes x)) _ _ s
  refine wpAny_noted ?_
  rw [turnD_out]
  refine wpAny_bind (wpAny_standAt (wpAny_bind (wpAny_mono (turn n s hI) (fun r u₁ g₁ => ?_) fun _ _ h' => h')))
  cases r with
  | none => exact wpAny_pure g₁
  | some v =>
    refine wpAny_bind (wpAny_mono g₁ (fun _ u₁' g₁' => ?_) fun _ _ h' => h')
    refine wpAny_bind (wpAny_mono g₁' (fun _ u₂ g₂ => wpAny_bind (wpAny_mono g₂ (fun ok u₃ g₃ => ?_) fun _ _ h' => h')) fun _ _ h' => h')
    cases ok with
    | false => exact wpAny_pure ⟨rfl, g₃⟩
    | true =>
      refine wpAny_bind (wpAny_mono g₃ (fun x u₄ g₄ => ?_) fun _ _ h' => h')
      refine wpAny_bind (wpAny_standAt (wpAny_bind (wpAny_of_eq (hs x) (wpAny_bind (wpAny_holding (wpAny_mono g₄ (fun it1 u₅ g₅ => ?_) fun _ _ h' => h'))))))
      refine wpAny_bind (wpAny_runOwn ?_)
      rw [Around.mark_none]
      refine codeAny_mono g₅ fun r s' hr => ?_
      cases r with
      | ok f =>
        first
          | exact wpAny_pure ⟨rfl, hr⟩
          | exact wpAny_bind (wpAny_pure (wpAny_pure ⟨rfl, hr⟩))
      | error e => exact hr.elim
/-- the loop of the second -/
theorem loopD_in (I : Nat → Shared → Prop)
    (turn : ∀ n s, I n s → wpAny (model prog w) A (pyNext it) (fun r u₁ => match r with
      | none => R (.ok .next) u₁
      | some v => wpAny (model prog w) A (letOwnedTupleGo t1 it v) (fun _ u₁' => wpAny (model prog w) A (assign t1 env v) (fun _ u₂ =>
          wpAny (model prog w) A (forIn ifs1 true fun c r => if r = true then do let ok ← isTrue c env (eval c env); pure (ForInStep.yield ok) else pure (ForInStep.yield r)) (fun ok u₃ =>
            if ok = true then wpAny (model prog w) A (eval kx env) (fun kv u₄ => wpAny (model prog w) A (eval vx env) (fun vv u₅ =>
              wpAny (model prog w) A (dictSet Dd kv vv) (fun _ u₆ => ∃ m, m < n ∧ I m u₆) (notedBy (model prog w) A env fun e s' => R (.error e) s') u₅) (notedBy (model prog w) A env fun e s' => R (.error e) s') u₄) (notedBy (model prog w) A env fun e s' => R (.error e) s') u₃
            else ∃ m, m < n ∧ I m u₃) (notedBy (model prog w) A env fun e s' => R (.error e) s') u₂) (notedBy (model prog w) A env fun e s' => R (.error e) s') u₁') (notedBy (model prog w) A env fun e s' => R (.error e) s') u₁) (notedBy (model prog w) A env fun e s' => R (.error e) s') s)
    (n : Nat) (h : I n s) :
    codeAny (model prog w) A (.compLoop (.DictComp kx vx [⟨t0, i0, ifs0, 0⟩, ⟨t1, i1, ifs1, 0⟩] scp ps) 1 it (.ref Dd) env) R s := by
  refine codeAny_loop rfl I (fun n s hI => ?_) n h
  show wpAny _ A ((compTurn (.DictComp kx vx [⟨t0, i0, ifs0, 0⟩, ⟨t1, i1, ifs1, 0⟩] scp ps) 1 it (.ref Dd) env).onRaise (fun x => do noteFrame x env; theTreesLotGoes x)) _ _ s
  refine wpAny_noted ?_
  rw [turnD_in]
  refine wpAny_bind (wpAny_standAt (wpAny_bind (wpAny_mono (turn n s hI) (fun r u₁ g₁ => ?_) fun _ _ h' => h')))
  cases r with
  | none => exact wpAny_pure g₁
  | some v =>
    refine wpAny_bind (wpAny_mono g₁ (fun _ u₁' g₁' => ?_) fun _ _ h' => h')
    refine wpAny_bind (wpAny_mono g₁' (fun _ u₂ g₂ => wpAny_bind (wpAny_mono g₂ (fun ok u₃ g₃ => ?_) fun _ _ h' => h')) fun _ _ h' => h')
    cases ok with
    | false => exact wpAny_pure ⟨rfl, g₃⟩
    | true =>
      exact wpAny_bind (wpAny_bind (wpAny_mono g₃ (fun kv u₄ g₄ => wpAny_bind (wpAny_holding (wpAny_mono g₄ (fun vv u₅ g₅ => wpAny_bind (wpAny_standAt (wpAny_holding (wpAny_mono g₅ (fun _ u₆ g₆ => wpAny_pure ⟨rfl, g₆⟩) fun _ _ h' => h')))) fun _ _ h' => h'))) fun _ _ h' => h'))
/-- the second clause's start -/
theorem startD1 (h0 : codeAny (model prog w) A (.compLoop (.DictComp kx vx [⟨t0, i0, ifs0, 0⟩, ⟨t1, i1, ifs1, 0⟩] scp ps) 1 it (.ref Dd) env) R s)
    (h : wpAny (model prog w) A (pyIter it) (fun it' s' => codeAny (model prog w) A (.compLoop (.DictComp kx vx [⟨t0, i0, ifs0, 0⟩, ⟨t1, i1, ifs1, 0⟩] scp ps) 1 it' (.ref Dd) env) R s')
      (notedBy (model prog w) A env fun x s' => R (.error x) s') s) :
    codeAny (model prog w) A (.compStart (.DictComp kx vx [⟨t0, i0, ifs0, 0⟩, ⟨t1, i1, ifs1, 0⟩] scp ps) 1 it (.ref Dd) env) R s := by
  refine codeAny_of_tree ?_
  show wpAny _ _ ((compStart (.DictComp kx vx [⟨t0, i0, ifs0, 0⟩, ⟨t1, i1, ifs1, 0⟩] scp ps) 1 it (.ref Dd) env).onRaise (fun x => do noteFrame x env; standAt theWindowsPlace)) _ _ s
  refine wpAny_notedAt ?_
  unfold compStart
  show wpAny _ _ (ask >>= _) _ _ s
  refine wpAny_bind (wpAny_askSetting (wpAny_ite ?_))
  split
  · first
      | exact wpAny_bind (wpAny_pure (wpAny_pure (And.intro rfl h0)))
      | exact wpAny_pure (And.intro rfl h0)
  · first
      | exact wpAny_bind (wpAny_rule (wpAny_bind (wpAny_standAt (wpAny_bind (wpAny_mono h (fun it' s' h' => wpAny_pure (And.intro rfl h')) fun _ _ x => x)))))
      | (refine wpAny_bind (wpAny_rule ?_); show wpAny _ _ (standAt i1.pos >>= _) _ _ s; exact wpAny_bind (wpAny_standAt (wpAny_bind (wpAny_mono h (fun it' s' h' => wpAny_pure (And.intro rfl h')) fun _ _ x => x))))
end

section
variable {X : Cx}
/-- {k: v for tg in iter if .. for tg1 in iter1 if ..} -/
def tDc2 (wi : TI) (g : TG) (tt : TT) (wi1 : TI) (g1 : TG) (tt1 : TT) (tk tv : TE) (vs vs1 : List Nat) : TE := fun σ H Q => wi σ H fun J G1 => ∀ D, G1 D = none → ∃ W : Nat → Nat → Hp → Prop, (∃ m, W 0 m (upd G1 D (.dK []))) ∧ ∀ i m H, W i m H →
  (J.stop i H ∧ Q (.ref D) H) ∨ (J.go i H ∧ ∃ Nx : Hp → Prop, (∀ H', Nx H' → ∃ m', m' < m ∧ W (i + 1) m' H') ∧ ∀ x H', J.yld i H x H' → g x (wipe σ vs) H' fun τ2 G2 => wipe τ2 vs = wipe σ vs ∧ tt τ2 G2 fun b G3 =>
    if b = true then wi1 τ2 G3 fun Jn1 G4 => ∃ W1 : Nat → Nat → Hp → Prop, (∃ m, W1 0 m G4) ∧ ∀ j k H, W1 j k H →
      (Jn1.stop j H ∧ Nx H) ∨ (Jn1.go j H ∧ ∃ Nx1 : Hp → Prop, (∀ H', Nx1 H' → ∃ k', k' < k ∧ W1 (j + 1) k' H') ∧ ∀ x H', Jn1.yld j H x H' → g1 x (wipe τ2 vs1) H' fun τ3 G5 => wipe τ3 vs1 = wipe τ2 vs1 ∧ tt1 τ3 G5 fun b G6 =>
        if b = true then tk τ3 G6 fun y G7 => tv τ3 G7 fun z G8 => ∃ kvs k, y = kV k ∧ G8 D = some (.dK kvs) ∧ kvs.length < sizeLine ∧ Nx1 (upd G8 D (.dK (putK kvs k z))) else Nx1 G6)
    else Nx G3)
theorem dc2_core {pins : List (Addr × Obj)} {s : Shared} {σ : L2.St} {H : Hp} {Q : VK} {kx vx tg iter tg1 iter1 : Expr} {ifs ifs1 : List Expr} {scp : Scope} {own : List (Str × Nat)} {vs1 : List Nat} {ps pos' : Pos} {wi wi1 : TI} {g g1 : TG} {tt tt1 : TT} {tk tv : TE} {use : Option (Value → Sem Unit)} {Qf : Value → Shared → Prop}
    (hca : X.calm = true) (hNd : X.N.Nodup) (I : Inv X pins σ H s) (hi : PI X tg iter wi) (ok : BlkOk X.N X.env.scope scp own) (hv : ∀ i ∈ vs1, i ∈ own.map (·.2))
    (hg : ∀ (s : Shared) (H : Hp) (C : Addr) (cl : List (Str × Addr)) (fp : List Addr), PG (X.blk s H scp (compEnvC scp cl C X.env) fp) tg g) (ht : ∀ (s : Shared) (H : Hp) (C : Addr) (cl : List (Str × Addr)) (fp : List Addr), PTs (X.blk s H scp (compEnvC scp cl C X.env) fp) ifs tt)
    (hk : ∀ (s : Shared) (H : Hp) (C : Addr) (cl : List (Str × Addr)) (fp : List Addr), PE (X.blk s H scp (compEnvC scp cl C X.env) fp) kx tk)
    (he : ∀ (s : Shared) (H : Hp) (C : Addr) (cl : List (Str × Addr)) (fp : List Addr), PE (X.blk s H scp (compEnvC scp cl C X.env) fp) vx tv) (hs : ∀ x, foldedSetIterable iter X.env x = pure x)
    (hi1 : ∀ (s : Shared) (H : Hp) (C : Addr) (cl : List (Str × Addr)) (fp : List Addr), PI (X.blk s H scp (compEnvC scp cl C X.env) fp) tg1 iter1 wi1)
    (hg1 : ∀ (s : Shared) (H : Hp) (C : Addr) (cl : List (Str × Addr)) (fp : List Addr), PG (X.blk s H scp (compEnvC scp cl C X.env) fp) tg1 g1)
    (ht1 : ∀ (s : Shared) (H : Hp) (C : Addr) (cl : List (Str × Addr)) (fp : List Addr), PTs (X.blk s H scp (compEnvC scp cl C X.env) fp) ifs1 tt1)
    (hs1 : ∀ env x, foldedSetIterable iter1 env x = pure x)
    (h : tDc2 wi g tt wi1 g1 tt1 tk tv (own.map (·.2)) vs1 σ H Q)
    (hRR : ∀ D C s' m H', Inv X pins σ H' s' → Q (.ref D) H' → s'.heap.Ns C m → FpOk X pins H' C → compPost (model X.prog X.w) X.A X.xe use Qf (.ref D) C (.ok .next) s') :
    wpAny (model X.prog X.w) X.A (comprehension (.DictComp kx vx [⟨tg, iter, ifs, 0⟩, ⟨tg1, iter1, ifs1, 0⟩] scp ps) scp X.env pos' newDict false (eval iter X.env) use) Qf X.xe s := by
  have hfr : ∀ y ∈ scp.names, y.2 = .free → ∃ c, X.env.cells.lookup y.1 = some c := fun y hy e => by
    rcases ok.free y hy e with k | k
    · exact I.ok.has _ (.inl k)
    · exact I.ok.has _ (.inr k)
  refine wpAny_comprehension_free (use := use) rfl hs (closure_ok hfr) ok.kind (fun y hy e => by rw [ok.uniq y hy, e])
    (thn (hi.run pins s σ H _ I h) fun xv z1 hx => thn hx fun itv z2 h2 => ?_)
  obtain ⟨it, fp, tn, J, G2, e, J2, T, st2, f2, q⟩ := h2
  subst e
  refine wpAny_newObj_type (newEnv_comp ?_)
  generalize hD : z2.heap.objs.size = D
  have hDn : G2 D = none := J2.hok.fresh (Nat.le_of_eq hD)
  obtain ⟨W, ⟨m0, w0⟩, turn⟩ := q D hDn
  -- the new list
  generalize hs3 : ({ z2 with heap := z2.heap.push { cls := .type "dict", data := .dict #[] } } : Shared) = z3
  have J3 : Inv X pins σ (upd G2 D (.dK [])) z3 := by
    rw [← hs3]
    refine J2.laid (t' := z2.toks) (fun b o e => Heap.get?_push_of_some _ e) (Nat.le_of_eq hD) ?_
    rw [← hD]
    exact dk_empty z2.heap J2.big
  have h3 : z3.heap = z2.heap.push { cls := .type "dict", data := .dict #[] } := by rw [← hs3]
  have sz : ∀ b ∈ fp, b < z2.heap.objs.size := fun b hbm => by
    obtain ⟨o, e, _⟩ := T.obj _ _ st2 b hbm
    exact Heap.lt_size e
  have f3 : ∀ b ∈ fp, FpOk X pins (upd G2 D (.dK [])) b ∧ b < z3.heap.objs.size := fun b hbm => by
    have hlt := sz b hbm
    refine ⟨⟨?_, (f2 b hbm).2⟩, by rw [h3, Heap.size_push]; exact Nat.lt_succ_of_lt hlt⟩
    rw [upd_ne (by rw [← hD]; exact Nat.ne_of_lt hlt)]
    exact (f2 b hbm).1
  have st3 : tn 0 z3.heap := T.keep _ _ _ st2 fun b _ o e => by rw [h3]; exact Heap.get?_push_of_some _ e
  have J4 := block_start J3 ok hNd f3
  have pg := hg z3 (upd G2 D (.dK [])) z3.heap.objs.size (cellsFrom (z3.heap.objs.size + 1) scp.names (cloFrom X.env.cells scp.names [])) fp
  have pt := ht z3 (upd G2 D (.dK [])) z3.heap.objs.size (cellsFrom (z3.heap.objs.size + 1) scp.names (cloFrom X.env.cells scp.names [])) fp
  have pk := hk z3 (upd G2 D (.dK [])) z3.heap.objs.size (cellsFrom (z3.heap.objs.size + 1) scp.names (cloFrom X.env.cells scp.names [])) fp
  have pe := he z3 (upd G2 D (.dK [])) z3.heap.objs.size (cellsFrom (z3.heap.objs.size + 1) scp.names (cloFrom X.env.cells scp.names [])) fp
  have pi1 := hi1 z3 (upd G2 D (.dK [])) z3.heap.objs.size (cellsFrom (z3.heap.objs.size + 1) scp.names (cloFrom X.env.cells scp.names [])) fp
  have pg1 := hg1 z3 (upd G2 D (.dK [])) z3.heap.objs.size (cellsFrom (z3.heap.objs.size + 1) scp.names (cloFrom X.env.cells scp.names [])) fp
  have pt1 := ht1 z3 (upd G2 D (.dK [])) z3.heap.objs.size (cellsFrom (z3.heap.objs.size + 1) scp.names (cloFrom X.env.cells scp.names [])) fp
  show codeAny _ _ (.compStart (.DictComp kx vx [⟨tg, iter, ifs, 0⟩, ⟨tg1, iter1, ifs1, 0⟩] scp ps) 0 (.ref it) (.ref D) (compEnvC scp (cellsFrom (z3.heap.objs.size + 1) scp.names (cloFrom X.env.cells scp.names [])) z3.heap.objs.size X.env)) (compPost (model X.prog X.w) X.A X.xe use Qf (.ref D) z3.heap.objs.size) { z3 with heap := pushCells (z3.heap.push { cls := .type "dict", data := .dict #[] }) scp.names }
  have nfp : ∀ b ∈ fp, (upd G2 D (.dK [])) b = none := fun b hbm => (f3 b hbm).1.1
  generalize hce : compEnvC scp (cellsFrom (z3.heap.objs.size + 1) scp.names (cloFrom X.env.cells scp.names [])) z3.heap.objs.size X.env = ce at J4 pg pt pk pe pi1 pg1 pt1 ⊢
  have cL : ce.locals = z3.heap.objs.size := by subst hce; rfl
  generalize hH3 : upd G2 D (.dK []) = G3 at J3 J4 pg pt pk pe pi1 pg1 pt1 w0 nfp f3
  generalize hs4 : ({ z3 with heap := pushCells (z3.heap.push { cls := .type "dict", data := .dict #[] }) scp.names } : Shared) = z4 at J4 ⊢
  have st4 : tn 0 z4.heap := T.keep _ _ _ st3 fun b _ o e => by rw [← hs4]; exact pushCells_keeps _ _ _ _ (Heap.get?_push_of_some _ e)
  have still : ∀ {σ' : L2.St} {H' : Hp} {s' : Shared}, Inv (X.blk z3 G3 scp ce fp) [] σ' H' s' → (∀ b ∈ fp, H' b = none) → ∀ b ∈ fp, FpOk (X.blk z3 G3 scp ce fp) [] H' b := fun {σ' H' s'} I' hn b hbm =>
    ⟨hn b hbm, (I'.ok.exf b hbm).1, I'.ok.exfs b hbm, .inl hbm, fun x c e => (I'.ok.exf b hbm).2 x c e, fun p hp => absurd (show p ∈ ([] : List (Addr × Obj)) ++ [] from hp) (by simp)⟩
  have loop : codeAny (model X.prog X.w) X.A (.compLoop (.DictComp kx vx [⟨tg, iter, ifs, 0⟩, ⟨tg1, iter1, ifs1, 0⟩] scp ps) 0 (.ref it) (.ref D) ce) (compPost (model X.prog X.w) X.A X.xe use Qf (.ref D) z3.heap.objs.size) z4 := by
    refine loopD_out (hs1 ce) (fun n s' => ∃ i H', Inv (X.blk z3 G3 scp ce fp) [] (wipe σ (own.map (·.2))) H' s' ∧ tn i s'.heap ∧ (∀ b ∈ fp, H' b = none) ∧ W i n H') ?_ m0 ⟨0, G3, J4, st4, nfp, w0⟩
    rintro n z5 ⟨i, G5, J5, st5, n5, w5⟩
    rcases turn i n G5 w5 with ⟨stop, qq⟩ | ⟨go, Nx, hNx, step⟩
    · have td := T.done (X.blk z3 G3 scp ce fp) rfl rfl rfl hca i [] z5 _ G5 (fun _ _ => False) J5 (still J5 n5) st5 stop
      refine thnF td fun r z6 ⟨hr, J6⟩ => ?_
      subst hr
      -- back in the def's context
      have J7 : Inv X pins σ G5 z6 := J3.call' (ch := fp) J6.os J6.base J6.hok J6.bare fun b hbm => ⟨(f3 b hbm).1.2.2.2.1, (f3 b hbm).1.2.1, (f3 b hbm).1.2.2.2.2.1, (f3 b hbm).1.2.2.2.2.2⟩
      have nC : G5 z3.heap.objs.size = none := by
        have z : G5 ce.locals = none := J6.free
        rw [cL] at z
        exact z
      obtain ⟨m, hn, _⟩ := J6.loc
      have hn : z6.heap.Ns ce.locals m := hn
      rw [cL] at hn
      exact hRR D z3.heap.objs.size z6 m G5 J7 qq hn (J3.fpOk (Nat.le_refl _) nC)
    · have ti := T.item (X.blk z3 G3 scp ce fp) rfl rfl rfl hca i [] z5 _ G5 (fun _ _ => False) J5 (still J5 n5) st5 go
      refine thnF ti fun r z6 ⟨u, hr, h6⟩ => ?_
      subst hr
      refine thnF h6 fun _ z7 ⟨x, G7, J7, r7, y7, st7, n7⟩ => ?_
      have J7' := J7.pinned (still J7 n7) (T.obj _ _ st7)
      refine thnF (pg.run _ z7 _ G7 x u _ J7' r7 (step x G7 y7)) fun _ z8 ⟨τ8, G8, J8, hw8, q8⟩ => ?_
      refine thnF (pt.run _ z8 τ8 G8 _ J8 q8) fun b z9 ⟨G9, J9, q9⟩ => ?_
      -- the turn's end, from any slots that know what the block knew at its start
      have ended : ∀ {τ9 : L2.St} {s' : Shared} {H' : Hp}, Inv (X.blk z3 G3 scp ce fp) ([] ++ pinsAt fp z7.heap) τ9 H' s' → (wipe σ (own.map (·.2))).length = τ9.length → (∀ (j : Nat) v, (wipe σ (own.map (·.2)))[j]? = some (some v) → τ9[j]? = some (some v)) → Nx H' →
          ∃ m, m < n ∧ ∃ i H', Inv (X.blk z3 G3 scp ce fp) [] (wipe σ (own.map (·.2))) H' s' ∧ tn i s'.heap ∧ (∀ b ∈ fp, H' b = none) ∧ W i m H' := fun {τ9 s' H'} I' hl hk nx => by
        obtain ⟨m', hm, w'⟩ := hNx H' nx
        have pin' : ∀ b ∈ fp, ∀ o, z7.heap.get? b = some o → s'.heap.get? b = some o ∧ H' b = none := fun b hbm o e =>
          let z := I'.pin (b, o) (List.mem_append_right _ (List.mem_append_right _ (mem_pinsAt hbm e)))
          ⟨z.1, z.2.1⟩
        refine ⟨m', hm, i + 1, H', (I'.unpinned (pins := [])).weak hl hk, T.keep _ _ _ st7 fun b hbm o e => (pin' b hbm o e).1, fun b hbm => ?_, w'⟩
        obtain ⟨o, e, _⟩ := T.obj _ _ st7 b hbm
        exact (pin' b hbm o e).2
      have hl8 : (wipe σ (own.map (·.2))).length = τ8.length := by rw [← hw8, wipe_length]
      have hk8 : ∀ (j : Nat) v, (wipe σ (own.map (·.2)))[j]? = some (some v) → τ8[j]? = some (some v) := fun j v e => by
        rw [← hw8] at e
        exact (wipe_some e).1
      have hk9 : ∀ (j : Nat) v, (wipe σ (own.map (·.2)))[j]? = some (some v) → (wipe τ8 vs1)[j]? = some (some v) := fun j v e => by
        rw [← hw8] at e
        obtain ⟨e1, e2⟩ := wipe_some e
        rw [wipe_out fun z => e2 (hv j z)]
        exact e1
      cases b with
      | false =>
        simp only [Bool.false_eq_true, if_false] at q9 ⊢
        exact ended J9 hl8 hk8 q9
      | true =>
        simp only [if_true] at q9 ⊢
        refine thnF (pi1.run _ z9 τ8 G9 _ J9 q9) fun xv z10 hx => thnF hx fun itv z11 h11 => ?_
        obtain ⟨it1, fp1, tn1, Jn1, G11, e1, J11, T1, st11, f11, W1, ⟨m1, w1⟩, tn_1⟩ := h11
        subst e1
        -- the inner loop
        have still1 : ∀ {H' : Hp}, (∀ b ∈ fp1, H' b = none) → ∀ b ∈ fp1, FpOk (X.blk z3 G3 scp ce fp) ([] ++ pinsAt fp z7.heap) H' b := fun hn b hbm => ⟨hn b hbm, (f11 b hbm).2⟩
        have lp1 : codeAny (model X.prog X.w) X.A (.compLoop (.DictComp kx vx [⟨tg, iter, ifs, 0⟩, ⟨tg1, iter1, ifs1, 0⟩] scp ps) 1 (.ref it1) (.ref D) ce)
            (fun r s' => match r with
              | .ok _ => ∃ m, m < n ∧ ∃ i H', Inv (X.blk z3 G3 scp ce fp) [] (wipe σ (own.map (·.2))) H' s' ∧ tn i s'.heap ∧ (∀ b ∈ fp, H' b = none) ∧ W i m H'
              | .error _ => False) z11 := by
          refine loopD_in (fun k s' => ∃ j H', Inv (X.blk z3 G3 scp ce fp) ([] ++ pinsAt fp z7.heap) (wipe τ8 vs1) H' s' ∧ tn1 j s'.heap ∧ (∀ b ∈ fp1, H' b = none) ∧ W1 j k H') ?_ m1 ⟨0, G11, J11.weak (wipe_length _ _) (fun j v e => (wipe_some e).1), st11, fun b hbm => (f11 b hbm).1, w1⟩
          rintro k z12 ⟨j, G12, J12, st12, n12, w12⟩
          rcases tn_1 j k G12 w12 with ⟨stop1, nx1⟩ | ⟨go1, Nx1, hNx1, sp_1⟩
          · refine thnF (T1.done (X.blk z3 G3 scp ce fp) rfl rfl rfl hca j _ z12 (wipe τ8 vs1) G12 (fun _ _ => False) J12 (still1 n12) st12 stop1) fun r z13 ⟨hr, J13⟩ => ?_
            subst hr
            exact ended J13 (hl8.trans (wipe_length τ8 vs1).symm) hk9 nx1
          · refine thnF (T1.item (X.blk z3 G3 scp ce fp) rfl rfl rfl hca j _ z12 (wipe τ8 vs1) G12 (fun _ _ => False) J12 (still1 n12) st12 go1) fun r z13 ⟨u1, hr, h13⟩ => ?_
            subst hr
            refine thnF h13 fun _ z14 ⟨x1, G14, J14, r14, y14, st14, n14⟩ => ?_
            have J14' := J14.pinned (still1 n14) (T1.obj _ _ st14)
            refine thnF (pg1.run _ z14 (wipe τ8 vs1) G14 x1 u1 _ J14' r14 (sp_1 x1 G14 y14)) fun _ z15 ⟨τ15, G15, J15, hw15, q15⟩ => ?_
            refine thnF (pt1.run _ z15 τ15 G15 _ J15 q15) fun b1 z16 ⟨G16, J16, q16⟩ => ?_
            have end1 : ∀ {s' : Shared} {H' : Hp}, Inv (X.blk z3 G3 scp ce fp) (([] ++ pinsAt fp z7.heap) ++ pinsAt fp1 z14.heap) τ15 H' s' → Nx1 H' → ∃ m, m < k ∧ ∃ j H', Inv (X.blk z3 G3 scp ce fp) ([] ++ pinsAt fp z7.heap) (wipe τ8 vs1) H' s' ∧ tn1 j s'.heap ∧ (∀ b ∈ fp1, H' b = none) ∧ W1 j m H' := fun {s' H'} I' nx => by
              obtain ⟨m', hm, w'⟩ := hNx1 H' nx
              have pin' : ∀ b ∈ fp1, ∀ o, z14.heap.get? b = some o → s'.heap.get? b = some o ∧ H' b = none := fun b hbm o e =>
                let z := I'.pin (b, o) (List.mem_append_right _ (List.mem_append_right _ (mem_pinsAt hbm e)))
                ⟨z.1, z.2.1⟩
              refine ⟨m', hm, j + 1, H', I'.unpinned.weak (by rw [← hw15, wipe_length]) (fun j v e => by rw [← hw15] at e; exact (wipe_some e).1), T1.keep _ _ _ st14 fun b hbm o e => (pin' b hbm o e).1, fun b hbm => ?_, w'⟩
              obtain ⟨o, e, _⟩ := T1.obj _ _ st14 b hbm
              exact (pin' b hbm o e).2
            cases b1 with
            | false =>
              simp only [Bool.false_eq_true, if_false] at q16 ⊢
              exact end1 J16 q16
            | true =>
              simp only [if_true] at q16 ⊢
              refine thnF (pk.run _ z16 τ15 G16 _ J16 q16) fun z z17 ⟨yk, G17, J17, r17, q17⟩ => ?_
              refine thnF (pe.run _ z17 τ15 G17 _ J17 q17) fun z2 z18 ⟨yv, G18, J18, r18, kvs, kk, ek, hD18, hz18, nx⟩ => ?_
              subst ek
              exact d_dictSet (X := X.blk z3 G3 scp ce fp) J18 hD18 hz18 r17 r18 fun z19 J19 => end1 J19 nx
        exact startD1 lp1 (T1.self X.A 0 _ _ _ st11 lp1)
  exact codeAny_compStart_dict loop (T.self X.A 0 _ _ _ st4 loop)
/-- as an expression -/
theorem pe_dc2 {kx vx tg iter tg1 iter1 : Expr} {ifs ifs1 : List Expr} {scp : Scope} {own : List (Str × Nat)} {vs1 : List Nat} {ps : Pos} {wi wi1 : TI} {g g1 : TG} {tt tt1 : TT} {tk tv : TE} (hca : X.calm = true) (hNd : X.N.Nodup) (hi : PI X tg iter wi) (ok : BlkOk X.N X.env.scope scp own) (hv : ∀ i ∈ vs1, i ∈ own.map (·.2))
    (hg : ∀ (s : Shared) (H : Hp) (C : Addr) (cl : List (Str × Addr)) (fp : List Addr), PG (X.blk s H scp (compEnvC scp cl C X.env) fp) tg g) (ht : ∀ (s : Shared) (H : Hp) (C : Addr) (cl : List (Str × Addr)) (fp : List Addr), PTs (X.blk s H scp (compEnvC scp cl C X.env) fp) ifs tt)
    (hi1 : ∀ (s : Shared) (H : Hp) (C : Addr) (cl : List (Str × Addr)) (fp : List Addr), PI (X.blk s H scp (compEnvC scp cl C X.env) fp) tg1 iter1 wi1)
    (hg1 : ∀ (s : Shared) (H : Hp) (C : Addr) (cl : List (Str × Addr)) (fp : List Addr), PG (X.blk s H scp (compEnvC scp cl C X.env) fp) tg1 g1) (ht1 : ∀ (s : Shared) (H : Hp) (C : Addr) (cl : List (Str × Addr)) (fp : List Addr), PTs (X.blk s H scp (compEnvC scp cl C X.env) fp) ifs1 tt1)
    (hk : ∀ (s : Shared) (H : Hp) (C : Addr) (cl : List (Str × Addr)) (fp : List Addr), PE (X.blk s H scp (compEnvC scp cl C X.env) fp) kx tk)
    (he : ∀ (s : Shared) (H : Hp) (C : Addr) (cl : List (Str × Addr)) (fp : List Addr), PE (X.blk s H scp (compEnvC scp cl C X.env) fp) vx tv) (hs : ∀ x, foldedSetIterable iter X.env x = pure x := by intro _; rfl) (hs1 : ∀ env x, foldedSetIterable iter1 env x = pure x := by intro _ _; rfl) :
    PE X (.DictComp kx vx [⟨tg, iter, ifs, 0⟩, ⟨tg1, iter1, ifs1, 0⟩] scp ps) (tDc2 wi g tt wi1 g1 tt1 tk tv (own.map (·.2)) vs1) := by
  refine ⟨fun pins s σ H Q I h => ?_⟩
  rw [arm_eval_DictComp]
  refine dc2_core hca hNd I hi ok hv hg ht hk he hs hi1 hg1 ht1 hs1 h fun D C s' m H' I' q hn f => ⟨m, hn, fun h'' sb => ?_⟩
  obtain ⟨f0, f1, f2, f3, f4, f5⟩ := f
  exact ⟨.ref D, H', I'.turned (t' := s'.toks) (fun b o hbm e => (sb.2 b hbm).trans e) f0 f1 f3 f4 f5, rfl, q⟩
end
end Pw
end
section
set_option maxRecDepth 100000
set_option maxHeartbeats 4000000
/-! enumerate of a tuple. -/
namespace Pw
open PySem PySem.Spec PyProof.Rows L2
set_option maxHeartbeats 1000000 in
theorem enumT_new (l : Addr) (items : Array Value) (n : Nat) (dct : Option Addr) (sl : Array (Option Value)) :
    Meets (Builtin.«enumerate.__new__» ⟨[.type "enumerate", .ref l], []⟩) (fun _ R s => s.heap.get? l = some { cls := .type "tuple", dict := dct, data := .seq items n, slots := sl } ∧
      R (.ok (.ret (.ref (s.heap.push { cls := .type "tuple_iterator", data := .fields #[.ref l, .int 0 0] }).objs.size)))
        { s with heap := (s.heap.push { cls := .type "tuple_iterator", data := .fields #[.ref l, .int 0 0] }).push { cls := .type "enumerate", data := .fields #[.none, .bool false, .ref s.heap.objs.size, rawInt 0, .none, .none] } }) :=
  .of_wp fun prog w A R s h => by
    obtain ⟨hp, g, d, tk, os⟩ := s
    obtain ⟨hl, h⟩ := h
    have hsub := sub_enumerate
    have hL : hp.IsTuple l items := ⟨_, hl, rfl, _, rfl⟩
    wp_walk
    refine wpAny_stack_any fun st => wpAny_pure ?_
    split
    · rename_i c _ _ _ _ _
      cases (c == Value.type "enumerate")
      · wp_walk using wpAny_pyIter_tuple hL
        exact ⟨_, rfl, h⟩
      · wp_walk using wpAny_pyIter_tuple hL
        exact ⟨_, rfl, h⟩
    · wp_walk using wpAny_pyIter_tuple hL
      exact ⟨_, rfl, h⟩
section
variable {prog : Program} {w : World} {A : Around} {E : Value → Shared → Prop} {s : Shared}
theorem call_enumT {l : Addr} {items : Array Value} {Q : Value → Shared → Prop} (hL : s.heap.IsTuple l items)
    (h : ∀ h', IsEnum h' (s.heap.objs.size + 1) s.heap.objs.size 0 .none → h'.IsTupleIter s.heap.objs.size l 0 → (∀ b o, s.heap.get? b = some o → h'.get? b = some o) → Q (.ref (s.heap.objs.size + 1)) { s with heap := h' }) :
    wpAny (model prog w) A (call (.type "enumerate") [.ref l]) Q E s := by
  obtain ⟨⟨c, dct, dt, sl⟩, hl, hc, n, hd⟩ := hL
  simp only at hc hd
  subst hc hd
  refine callType_new F.called_enumerate (by decide) (F.typeCall_enumerate_1 _) (F.newCall_enumerate_1 _) (fun obj => F.args_object_init_2 obj _) F.entry_enumerate_new (enumT_new l items n dct sl) ⟨hl, ?_⟩
  generalize hh : s.heap.push { cls := .type "tuple_iterator", data := .fields #[.ref l, .int 0 0] } = h1
  have hz : h1.objs.size = s.heap.objs.size + 1 := by rw [← hh]; exact Heap.size_push ..
  have g1 : h1.get? s.heap.objs.size = some { cls := .type "tuple_iterator", data := .fields #[.ref l, .int 0 0] } := by rw [← hh]; exact Heap.get?_push_size _ rfl
  have he : IsEnum (h1.push { cls := .type "enumerate", data := .fields #[.none, .bool false, .ref s.heap.objs.size, rawInt 0, .none, .none] }) (s.heap.objs.size + 1) s.heap.objs.size 0 .none := by
    have q := Heap.get?_push_size h1 (o := { cls := .type "enumerate", data := .fields #[.none, .bool false, .ref s.heap.objs.size, rawInt 0, .none, .none] }) rfl
    rw [hz] at q
    exact q
  show _ ∧ _
  rw [hz]
  exact ⟨⟨_, he, rfl⟩, h _ he ⟨_, Heap.get?_push_of_some _ g1, rfl, rfl⟩ fun b o x => Heap.get?_push_of_some _ (by rw [← hh]; exact Heap.get?_push_of_some _ x)⟩
theorem enumT_end {e it t : Addr} {i : Nat} {k : Int} {items : Array Value} {old : Value} {Q : Option Value → Shared → Prop} (hh : A.handled = none) (he : IsEnum s.heap e it k old) (hit : s.heap.IsTupleIter it t i) (ht : s.heap.IsTuple t items) (hi : items[i]? = none)
    (hQ : ∀ h', Heap.ExtBut it s.heap h' → Q none { s with heap := h' }) : wpAny (model prog w) A (pyNext (.ref e)) Q E s := by
  have hty : s.TypeIs (.ref e) "enumerate" := ⟨_, he, rfl⟩
  unfold pyNext
  refine wpAny_bind (wpAny_attempt (wpAny_callSpecial?_slot (name := Str.ofString "__next__") hty F.slot_enumerate_next (wpAny_call_entry F.slot_enumerate_next hty F.entry_enumerate_next ?_ (F.args_enumerate_next_1 _))))
  show wpAny _ _ (field (.ref e) 2 >>= _) _ _ _
  refine wpAny_bind (wpAny_field he rfl (x := .ref it) rfl (wpAny_bind (wpAny_nextOf_tuple_end hh hit ht hi fun h' x he' hx' => ?_)))
  obtain ⟨o, ho, hc⟩ := hx'
  exact wpAny_bind (wpAny_isInstance (T := "StopIteration") (b := true) ⟨o, ho, hc⟩ isSubtype_stop (wpAny_pure (hQ _ he')))
end
/-- the tuple at a as it stands at each turn, each item in a new pair -/
def IteT (K : PySem.W.Frag) (a : Addr) : It :=
  ⟨fun i H => ∃ (xs : List V) (x : V), SqT K H a xs ∧ xs[i]? = some x, fun i H v H' => ∃ T x, v = .ref T ∧ H T = none ∧ H' = upd H T (.tup [.int (i : Nat), x]) ∧ ∀ xs, SqT K H a xs → xs[i]? = some x, fun i H => ∃ xs : List V, SqT K H a xs ∧ xs.length ≤ i⟩
theorem turn_enumT {P : Program} {w : World} {K : PySem.W.Frag} {elts : List Expr} {kk : Nat} {tpos : Pos} (a e it : Addr) :
    Turn P w K (.Tuple elts kk tpos) (IteT K a) [e, it] e (fun i h => (∃ old, IsEnum h e it ((i : Nat) : Int) old) ∧ h.IsTupleIter it a i ∧ e ≠ it) where
  mem := by simp
  obj := fun i h st b hbm => by
    obtain ⟨⟨old, he⟩, ⟨o, ho, hc, hd⟩, _⟩ := st
    rcases (by simpa using hbm : b = e ∨ b = it) with rfl | rfl
    · exact ⟨_, he, fun v q => nomatch q⟩
    · exact ⟨o, ho, fun v q => by rw [hd] at q; cases q⟩
  keep := fun i h h' st k => let ⟨⟨old, he⟩, hi, hne⟩ := st; ⟨⟨old, k e (by simp) _ he⟩, hi.at fun o q => k it (by simp) o q, hne⟩
  item := by
    intro X hP hw hK hcalm i pins s σ H E I hf st hgo
    subst hP hw hK
    obtain ⟨⟨old, he⟩, hit, hne⟩ := st
    obtain ⟨xs, x, hq, hx⟩ := hgo
    obtain ⟨its, rv, p, hz⟩ := I.tuple hq
    obtain ⟨u, hu, ru⟩ := rv.get hx
    obtain ⟨oi, hoi, hci, hdi⟩ := id hit
    have hel : e < s.heap.objs.size := Heap.lt_size he
    have hil : it < s.heap.objs.size := Heap.lt_size hoi
    have hp2 : s.heap.IsTuple a its.toArray := p
    obtain ⟨ot, hot, hct, nt, hdt⟩ := id hp2
    have hta : a ≠ it := fun z => by
      subst z
      rw [hoi] at hot
      cases hot
      rw [hdi] at hdt
      cases hdt
    have hea : e ≠ a := fun z => by
      subst z
      rw [he] at hot
      cases hot
      cases hdt
    have hli : i < its.toArray.size := by
      have := rv.length
      have hxl := (List.getElem?_eq_some_iff.mp hx).1
      simp
      omega
    refine wpAny_pyNext_enum_itemD (Draws.tuple (A := X.A.in1) (I.ok.hd hcalm) it a hta its.toArray) he ⟨hit, hp2⟩ hli hne (by simp [hne, hea]) fun y h' tk hy ho hst hT hsz hk => ?_
    obtain ⟨hit', hp'⟩ := hst
    have hyu : y = u := by
      rw [show its.toArray[i]? = some u by simpa using hu] at hy
      exact (Option.some.inj hy).symm
    subst hyu
    refine ⟨_, rfl, wpAny_letOwnedTupleGo_enum (s := { s with heap := h', toks := tk + 1 }) ho fun h'' he' sb => ?_⟩
    have hT2 : h''.get? s.heap.objs.size = some { cls := .type "tuple", data := .seq #[.int i tk, y] } := (sb.2 _ (Nat.ne_of_gt hel)).trans hT
    have new : ObjOk X.prog X.w (upd H s.heap.objs.size (.tup [.int (i : Nat), x])) h'' s.heap.objs.size (.tup [.int (i : Nat), x]) := ⟨by show 2 ≤ sizeLine; decide, [.int i tk, y], .cons ⟨_, rfl⟩ (.cons ru .nil), ⟨_, hT2, rfl, _, rfl⟩⟩
    have J : Inv X pins σ (upd H s.heap.objs.size (.tup [.int (i : Nat), x])) { s with heap := h'', toks := tk + 1 } :=
      I.turnedNew (ch := [e, it]) (fun b ob hb q => (sb.2 b (fun z => hb (by simp [z]))).trans (hk b ob (fun z => hb (by simp [z])) (fun z => hb (by simp [z])) q)) hf (Nat.le_refl _) new
    refine ⟨.ref s.heap.objs.size, _, J, rfl, ⟨_, x, rfl, I.hok.fresh (Nat.le_refl _), rfl, fun ys hy => by rw [I.tuple_inj hy hq]; exact hx⟩, ⟨⟨y, ?_⟩, hit'.at fun o q => (sb.2 it (Ne.symm hne)).trans q, hne⟩, fun b hbm => ?_⟩
    · rw [show ((i + 1 : Nat) : Int) = (i : Int) + 1 by omega]
      exact he'
    · have hb' : b ≠ s.heap.objs.size := by
        rcases (by simpa using hbm : b = e ∨ b = it) with rfl | rfl
        · exact Nat.ne_of_lt hel
        · exact Nat.ne_of_lt hil
      rw [upd_ne hb']
      exact (hf b hbm).1
  done := by
    intro X hP hw hK hcalm i pins s σ H E I hf st hgo
    subst hP hw hK
    obtain ⟨⟨old, he⟩, hit, hne⟩ := st
    obtain ⟨xs, hq, hx⟩ := hgo
    obtain ⟨its, rv, p, hz⟩ := I.tuple hq
    obtain ⟨f0, f1, f2, f3, f4, f5⟩ := hf it (by simp)
    have hl := rv.length
    exact enumT_end (I.ok.hd hcalm) he hit p (by simp; omega) fun h' eb => ⟨rfl, I.turned (t' := s.toks) (fun b o hb q => eb b o hb q) f0 f1 f3 f4 f5⟩
  self := fun A i s Q E st h => let ⟨⟨_, he⟩, _⟩ := st; wpAny_pyIter_enum he h
def iEnumT (K : PySem.W.Frag) (ta : TA) : TI := fun σ H R => ta σ H fun vs H1 => ∃ a xs, vs = [.ref a] ∧ SqT K H1 a xs ∧ R (IteT K a) H1
theorem pi_enumT {X : Cx} {e : Expr} {ta : TA} {p pos tpos : Pos} {elts : List Expr} {kk : Nat} (hg : Gl X "enumerate") (hm : X.mg "enumerate" = none) (ha : PA X [e] ta) (hs : starEach [e] X.env = [(false, eval e X.env)] := by rfl) :
    PI X (.Tuple elts kk tpos) (.Call (.Name "enumerate" p) [e] [] pos) (iEnumT X.K ta) := by
  refine ⟨fun pins s σ H R I h => Call_ (ld_blt I hg hm boot_enumerate (PyProof.Rows.callWith_type1 (thn (ha.run pos pins s σ H _ I h) fun us s1 z => ?_) hs rfl))⟩
  obtain ⟨vs, H1, I1, r1, a, xs, ex, hq, q⟩ := z
  subst ex
  obtain ⟨u, eu, rx⟩ := vals1 r1
  subst eu
  cases rx
  obtain ⟨its, rv, p', hz⟩ := I1.tuple hq
  refine call_enumT p' fun h' he hit hk => wpAny_pyIter_enum he ?_
  refine ⟨s1.heap.objs.size + 1, [s1.heap.objs.size + 1, s1.heap.objs.size], _, _, H1, rfl, I1.kept (t' := s1.toks) hk, turn_enumT a (s1.heap.objs.size + 1) s1.heap.objs.size, ⟨⟨.none, he⟩, hit, Nat.succ_ne_self _⟩, fun b hbm => ?_, q⟩
  have hle : s1.heap.objs.size ≤ b := by
    rcases (by simpa using hbm : b = s1.heap.objs.size + 1 ∨ b = s1.heap.objs.size) with z | z
    · rw [z]; exact Nat.le_add_right _ _
    · rw [z]; exact Nat.le_refl _
  exact I1.fpOk hle (I1.hok.fresh hle)
theorem walk_enumT {K : PySem.W.Frag} {a : Addr} {xs : List V} : Walk (IteT K a) xs.length (fun H => SqT K H a xs) (YPair (fun i => some (.int (i : Nat))) (fun i => xs[i]?)) := by
  refine ⟨fun i _ hi q => ⟨xs, xs[i], q, by simp [hi]⟩, fun _ q => ⟨xs, q, Nat.le_refl _⟩, fun i H v H' _ q y => ?_⟩
  obtain ⟨T, x, h1, h2, h3, h4⟩ := y
  exact ⟨T, .int (i : Nat), x, h1, h2, h3, rfl, h4 xs q⟩
end Pw
end
section
set_option maxRecDepth 100000
set_option maxHeartbeats 4000000
/-! A set of the texts of a tuple, all different, and its length (gen_rf.py prints this text, after the rules for one text). -/
namespace Pw
open PySem PySem.Spec PyProof.Rows L2 SS
section
variable {prog : Program} {w : World} {A : Around} {R : Result → Shared → Prop} {I : Addr} {fp wr : List Addr} {G : Array GenState → Array GenState → Prop} {n : Nat} {P : Nat → Value → Prop} {St : Nat → Shared → Prop}
theorem loopStrN (W : WalksS prog w A.in1 I fp wr G n P St) (S : Addr) (hSn : S ∉ fp) (xs : List Str) (hsz : xs.length = n) (hnd : xs.Nodup) (hn9 : n + 1 < scanBound)
    (hvl : ∀ i v, P i v → ∃ t, v = .str (xs.getD i Str.empty) t) :
    ∀ (k i : Nat) (s : Shared), n - i = k → i ≤ n → St i s →
      s.heap.SetOf (PySem.strKind prog w) S (fun k' => (xs.take i).any (· == k')) i →
      (∀ s', Moved (S :: wr) G s s' → s'.heap.SetOf (PySem.strKind prog w) S (fun k' => (xs.take n).any (· == k')) n → R (.ok (.ret .none)) s') →
      codeAny (model prog w) A (.builtin "set.update.loop" ⟨[.ref S, .ref I], []⟩) R s := by
  have hSu : S ∉ wr := fun h => hSn (W.sub _ h)
  have hsb0 : ∀ b ∈ wr, b ∈ S :: wr := fun b hb => List.mem_cons_of_mem _ hb
  intro k
  induction k with
  | zero =>
    intro i s hk hi hSt hS hR
    have hin : i = n := by omega
    subst hin
    refine codeAny_builtin PyProof.Rows.F.entry_set_update_loop ?_
    rw [Around.under_plainId PyProof.Rows.F.plain_set_update_loop _]
    show wpAny _ A.in1 (pyNext (.ref I) >>= _) _ _ s
    refine wpAny_bind (W.done s _ _ hSt fun s' hm => ?_)
    show wpAny _ A.in1 (ret Value.none) _ _ s'
    exact wpAny_pure (hR s' (hm.mono hsb0) (by
      obtain ⟨o, es, ep, t, ho, rest⟩ := hS
      exact ⟨o, es, ep, t, hm.heap S _ hSu ho, rest⟩))
  | succ k ih =>
    intro i s hk hi hSt hS hR
    have hlt : i < n := by omega
    refine codeAny_builtin PyProof.Rows.F.entry_set_update_loop ?_
    rw [Around.under_plainId PyProof.Rows.F.plain_set_update_loop _]
    show wpAny _ A.in1 (pyNext (.ref I) >>= _) _ _ s
    refine wpAny_bind (W.item i s _ _ hlt hSt fun v s' hP hst' hm => ?_)
    obtain ⟨t, rfl⟩ := hvl i v hP
    have hS' : s'.heap.SetOf (PySem.strKind prog w) S (fun k' => (xs.take i).any (· == k')) i := by
      obtain ⟨o, es, ep, tb, ho, rest⟩ := hS
      exact ⟨o, es, ep, tb, hm.heap S _ hSu ho, rest⟩
    show wpAny _ A.in1 (holding [Value.str (xs.getD i Str.empty) t] (setAdd S (.str (xs.getD i Str.empty) t)) >>= _) _ _ s'
    refine wpAny_bind (wpAny_holding ?_)
    unfold setAdd
    refine wpAny_holding ?_
    refine wpAny_bind ((PySem.strKind prog w).pyHash (k := xs.getD i Str.empty) (strKind_is _ _ _ _) ?_)
    refine wpAny_setAddHashed_of (knd := PySem.strKind prog w) (s := { s' with toks := s'.toks + 1 }) (strKind_is _ _ _ _) rfl hS' (by omega) fun h' hsb hS2 => ?_
    have hx0 : (xs.take i).any (· == xs.getD i Str.empty) = false := by
      rw [List.any_eq_false]
      intro z hz e
      have e' : z = xs.getD i Str.empty := by simpa using e
      have hil : i < xs.length := by omega
      obtain ⟨j, hj, ej⟩ := List.mem_iff_getElem.mp hz
      rw [List.length_take] at hj
      rw [List.getElem_take] at ej
      have e2 : xs.getD i Str.empty = xs[i] := by simp [List.getD_eq_getElem?_getD, hil]
      rw [e2] at e'
      exact absurd ((List.getElem_inj hnd).mp (ej.trans e')) (by omega)
    rw [hx0] at hS2
    have hSi : h'.SetOf (PySem.strKind prog w) S (fun k' => (xs.take (i + 1)).any (· == k')) (i + 1) := by
      refine SetOf_congr hS2 (fun k' => ?_) (by simp)
      have hil : i < xs.length := by omega
      have e2 : xs.getD i Str.empty = xs[i] := by simp [List.getD_eq_getElem?_getD, hil]
      rw [List.take_add_one, List.any_append, List.getElem?_eq_getElem hil, e2]
      by_cases e : k' = xs[i]
      · subst e; simp
      · have hb : (xs[i] == k') = false := by simpa [beq_iff_eq] using (fun h' : xs[i] = k' => e h'.symm)
        simp [hb, e]
    refine wpAny_pure ⟨plainId_quiet PyProof.Rows.F.plain_set_update_loop _, ih (i + 1) _ (by omega) hlt (W.frame _ s' _ _ hst' (Nat.le_succ _) fun b hb o e => ?_) hSi fun s'' hm'' hS'' => ?_⟩
    · rw [hsb.2 b (fun h : b = S => hSn (by rw [← h]; exact hb))]; exact e
    · refine hR s'' (Moved.trans W.gtrans ((hm.mono hsb0).then_heap (Nat.le_succ _) fun b o hb e => ?_) hm'') hS''
      rw [hsb.2 b (fun h : b = S => hb (by rw [h]; exact List.mem_cons_self))]; exact e
end
section
variable {prog : Program} {w : World} {A : Around} {E : Value → Shared → Prop} {s : Shared}
set_option maxHeartbeats 3200000 in
theorem call_set_tupN {l : Addr} {items : Array Value} {xs : List Str} {Q : Value → Shared → Prop}
    (hh : A.handled = none) (hl : s.heap.IsTuple l items) (hi : PyProof.Rows.StrsAre items.toList xs) (hnd : xs.Nodup) (hn9 : xs.length + 1 < scanBound)
    (h : ∀ (h' : Heap) (tk : Nat), h'.SetOf (PySem.strKind prog w) s.heap.objs.size (fun k' => (xs.take items.size).any (· == k')) items.size →
      (∀ b o, b < s.heap.objs.size → s.heap.get? b = some o → h'.get? b = some o) → Q (.ref s.heap.objs.size) { s with heap := h', toks := tk }) :
    wpAny (model prog w) A (call (.type "set") [.ref l]) Q E s := by
  obtain ⟨c, tl, hmr⟩ := PySem.F.called_set.mro
  have hmd := PySem.F.called_set.made
  have hsb0 := PySem.F.called_set.sub
  refine wpAny_call (codeAny_of_tree ?_)
  show wpAny _ _ (callAny (.type "set") _) _ _ _
  refine wpAny_pure ⟨Code.quiet_builtin _ (by decide +kernel), codeAny_builtin PySem.F.entry_type_call ?_⟩
  rw [Around.under_plain (weight_type_call_type "set" [.ref l] []) rfl]
  have h1 := PySem.F.called_set.notType
  have h2 := PySem.F.called_set.canCreate
  have hck := PySem.F.typeCall_set_1 (.ref l)
  repeat (any_goals (first | assumption | wp_step))

  refine codeAny_mono (code_set_new_1 (.ref l) (E := E) (Q₁ := fun obj s₁ => ∃ lg : Bool, obj = .ref s.heap.objs.size ∧ s₁ = { s with heap := s.heap.push { cls := .type "set", dict := none, data := .set #[] 0 (.fresh 0 0 lg) } }) fun lg => ⟨lg, rfl, rfl⟩) fun r s₁ hr => ?_
  cases r with
  | error e => exact hr
  | ok fl =>
    cases fl with
    | ret obj =>
      obtain ⟨lg, rfl, rfl⟩ := hr
      have hS : (s.heap.push { cls := .type "set", dict := none, data := .set #[] 0 (.fresh 0 0 lg) }).get? s.heap.objs.size = some { cls := .type "set", dict := none, data := .set #[] 0 (.fresh 0 0 lg) } := Heap.get?_push_size _ rfl
      have hT : Shared.TypeIs { s with heap := s.heap.push { cls := .type "set", dict := none, data := .set #[] 0 (.fresh 0 0 lg) } } (.ref s.heap.objs.size) "set" := ⟨_, hS, rfl⟩
      have hlk := PySem.F.called_set.init.lookup
      have hbd := PySem.F.called_set.init.bind (.ref s.heap.objs.size)
      repeat (any_goals (first | assumption | wp_step))

      refine codeAny_mono (codeAny_call_builtin (R := wants (fun r s₂ => r = .none ∧ ∃ h' tk, s₂ = { s with heap := h', toks := tk } ∧
          h'.SetOf (PySem.strKind prog w) s.heap.objs.size (fun k' => (xs.take items.size).any (· == k')) items.size ∧
          (∀ b o, b < s.heap.objs.size → s.heap.get? b = some o → h'.get? b = some o)) E) PySem.F.called_set.init.plain PySem.F.entry_set_init (check_set_init_1 hT ?_)) fun r₂ s₂ hr₂ => ?_
      · obtain ⟨ol, hlo, hcl, nl, hdl⟩ := hl
        obtain ⟨ocls, odict, odata, oslots⟩ := ol
        simp only at hcl hdl
        subst hcl; subst hdl
        have hlo' : (s.heap.push { cls := .type "set", dict := none, data := .set #[] 0 (.fresh 0 0 lg) }).get? l = some { cls := .type "tuple", dict := odict, data := .seq items nl, slots := oslots } := Heap.get?_push_of_some _ hlo
        have hs1 := PySem.F.sub_tuple_set
        have hs2 := PySem.F.sub_tuple_frozenset
        have hnq : (Value.type "tuple" == Value.type "dict") = false := by decide
        have hl1 : (s.heap.push { cls := .type "set", dict := none, data := .set #[] 0 (.fresh 0 0 lg) }).IsTuple l items := ⟨_, hlo', rfl, nl, rfl⟩
        unfold Builtin.«set.__init__» noKeywords Builtin.Frozenset.updateFrom
        generalize hPI : pyIter = PI
        wp_walk
        subst hPI

        refine wpAny_pyIter_tuple hl1 ?_
        refine wpAny_bind (wpAny_runValue ?_)
        have hltS : l < s.heap.objs.size := Heap.lt_size hlo
        have hcal3 : A.in1.in1.in1.handled = none := by simp [hh]
        have hnI : l ≠ (s.heap.push { cls := .type "set", dict := none, data := .set #[] 0 (.fresh 0 0 lg) }).objs.size := by
          rw [Heap.size_push]; exact Nat.ne_of_lt (Nat.lt_succ_of_lt hltS)
        have hSn : s.heap.objs.size ∉ [(s.heap.push { cls := .type "set", dict := none, data := .set #[] 0 (.fresh 0 0 lg) }).objs.size, l] := by
          rw [Heap.size_push]; simp only [List.mem_cons, List.mem_singleton, List.not_mem_nil, or_false, not_or]
          exact ⟨Nat.ne_of_lt (Nat.lt_succ_self _), Nat.ne_of_gt hltS⟩
        have hsz : xs.length = items.size := by rw [← StrsAre.len_eq hi, Array.length_toList]
        have hvl : ∀ (i : Nat) (v : Value), items[i]? = some v → ∃ t, v = .str (xs.getD i Str.empty) t := fun i v hv => strs_at hi i v (by rw [Array.getElem?_toList]; exact hv)
        refine loopStrN ((Walks.tuple hcal3 _ l hnI items).toS) s.heap.objs.size
          hSn xs hsz hnd (by rw [← hsz]; exact hn9) hvl (items.size - 0) 0 _ (by omega) (Nat.zero_le _)
          ⟨⟨_, Heap.get?_push_size _ rfl, rfl, rfl⟩, (hl1.push _)⟩ ?hS0 ?hR
        case hS0 =>
          have hget : ((s.heap.push { cls := .type "set", dict := none, data := .set #[] 0 (.fresh 0 0 lg) }).push { cls := .type "tuple_iterator", data := .fields #[.ref l, .int 0 0] }).get? s.heap.objs.size
              = some { cls := .type "set", dict := none, data := .set #[] 0 (.fresh 0 0 lg) } := Heap.get?_push_of_some _ hS
          exact PyProof.Rows.SetOf_congr ((PyProof.Rows.setObjOf_fresh (knd := PySem.strKind prog w) lg).setOf hget (by unfold scanBound; omega)) (fun _ => rfl) rfl
        case hR =>
          intro s' hm hS'
          obtain ⟨h', g', d', tk', os'⟩ := s'
          have eg : g' = s.gens := hm.gens
          have ed : d' = s.drawn := hm.drawn
          have eo : os' = s.os := hm.os
          subst eg; subst ed; subst eo
          show wpAny _ _ _ _ _ _
          refine wpAny_pure ?_
          show wpAny _ _ (ret Value.none) _ _ _
          refine wpAny_pure ⟨rfl, h', tk', rfl, hS', fun b o hb e => ?_⟩
          have hb1 : b ≠ s.heap.objs.size := Nat.ne_of_lt hb
          have hb2 : b ≠ (s.heap.push { cls := .type "set", dict := none, data := .set #[] 0 (.fresh 0 0 lg) }).objs.size := by
            rw [Heap.size_push]; exact Nat.ne_of_lt (Nat.lt_succ_of_lt hb)
          exact hm.heap b o (by simp only [List.mem_cons, List.mem_singleton, List.not_mem_nil, or_false, not_or]; exact ⟨hb1, hb2⟩) (Heap.get?_push_of_some _ (Heap.get?_push_of_some _ e))

      · cases r₂ with
        | error e => exact hr₂
        | ok fl₂ =>
          cases fl₂ with
          | ret r =>
            obtain ⟨rfl, h', tk, rfl, hS', hk'⟩ := hr₂
            repeat (any_goals (first | assumption | wp_step))
            exact h _ _ hS' hk'
          | _ => exact hr₂.elim
    | _ => exact hr.elim

end
end Pw
end
section
set_option maxRecDepth 100000
set_option maxHeartbeats 4000000
/-! Rules: len(set(t)), sorted(t), dict(t) of a tuple, list(text), a dict equal to itself, xs[i] -= n. -/
namespace Pw
open PySem PySem.Spec PyProof.Rows L2
section
variable {X : Cx}
/-- len(set(t)), t a tuple of different texts -/
def tLenSetN (K : PySem.W.Frag) (ta : TE) : TE := fun σ H Q => ta σ H fun x H1 => ∃ l, ∃ xs : List Str, x = .ref l ∧ SqT K H1 l (xs.map V.str) ∧ xs.Nodup ∧ xs.length ≤ 100 ∧ Q (.int xs.length) H1
theorem pe_lenSetN {a : Expr} {ta : TE} {p p2 q pos : Pos} (hcm : X.calm = true) (hg : Gl X "len") (hm : X.mg "len" = none) (hg2 : Gl X "set") (hm2 : X.mg "set" = none) (ha : PE X a ta)
    (na : starEach [a] X.env = (false, eval a X.env) :: starEach [] X.env := by rfl) : PE X (.Call (.Name "len" p) [.Call (.Name "set" p2) [a] [] q] [] pos) (tLenSetN X.K ta) := by
  refine ⟨fun pins s σ H Q I h => Call_ (ld_blt I hg hm boot_len (PyProof.Rows.callWith_builtin1 (PyProof.Rows.args_cons ?_ rfl) rfl rfl))⟩
  refine Call_ (ld_blt I hg2 hm2 boot_set (PyProof.Rows.callWith_type1 (PyProof.Rows.args_cons (thn (ha.run pins s σ H _ I h) fun v s1 z => PyProof.Rows.args_nil ?_) na) na rfl))
  obtain ⟨x, H1, I1, r1, l, xs, rfl, hq, hnd, hle, q1⟩ := z
  cases r1
  obtain ⟨its, r, pl, hz⟩ := I1.tuple hq
  have hl : its.toArray.size = xs.length := by rw [List.size_toArray, ← r.length, List.length_map]
  refine call_set_tupN (I1.ok.hd hcm) pl (by simpa using strsAre_of r) hnd (by unfold scanBound; omega) fun h' tk hS hk => PyProof.Rows.args_nil ?_
  rw [hl] at hS
  obtain ⟨o, es, ep, t, ho, hex, hd, _, _, _, hf, hn⟩ := hS
  exact call_len_set ho hex hd hf (by rw [hn]; omega) ⟨.int xs.length, H1, (I1.kept fun b o e => hk b o (Heap.lt_size e) e).tok _, ⟨_, by rw [hn]⟩, q1⟩
/-- sorted(t), t a tuple of fewer than 64 texts -/
theorem cr_sortedTS : CallR X (.builtin "sorted") (fun xs H Q => ∃ (a : Addr) (zs : List Str), xs = [.ref a] ∧ SqT X.K H a (zs.map V.str) ∧ zs.length < 64 ∧ ∀ ys p, ys.Perm zs → sortedS ys = true → H p = none → Q (.ref p) (upd H p (.lst (ys.map V.str)))) := by
  rintro pins s σ H xs us Q I r ⟨a, zs, ex, hq, h64, q⟩
  subst ex
  obtain ⟨u, eu, rx⟩ := vals1 r
  subst eu
  cases rx
  obtain ⟨its, rv, ⟨o, ho, hc, n, hd⟩, hz⟩ := I.tuple hq
  have hl : its.length = zs.length := by rw [← rv.length, List.length_map]
  refine Calls.call_function_entry PyProof.Rows.kind_sorted PyProof.Rows.plain_sorted PyProof.Rows.entry_sorted (PyProof.Rows.args_sorted1 _) ?_
  unfold Builtin.«sorted»
  refine wpAny_bind (m := checkCount "sorted" 1 1 _) (wpAny_pure (wpAny_bind (wpAny_collect_seq a (.inr rfl) ho hc hd (fun h' hk => ?_) (by rw [List.size_toArray, sizeLine_eq]; omega))))
  rw [show its.toArray.toList = its by simp]
  have hS : StrsAre its zs := strsAre_of rv
  have I1 : Inv X pins σ H { s with heap := h' } := I.kept (t' := s.toks) hk
  refine wpAny_bind (wpAny_newList ?_ (by rw [hl, sizeLine_eq]; omega))
  have hoL : (h'.push (seqObj "list" its.toArray 0)).get? h'.objs.size = some (seqObj "list" its.toArray 0) := Heap.get?_push_size _ rfl
  show wpAny _ _ _ _ _ { s with heap := h'.push (seqObj "list" its.toArray 0) }
  refine wpAny_bind (wpAny_holding (wpAny_call_entry PyProof.Rows.slot_list_sort ⟨_, hoL, rfl⟩ PyProof.Rows.entry_list_sort
    (list_sort_treeK strKind_oneLt (s := { s with heap := h'.push (seqObj "list" its.toArray 0) }) hoL hS.keysOf (fun v₁ v₂ rest e => keyKind_strs (by rw [← e]; exact hS)) (by rw [hl]; exact h64) fun st' hp hs => ⟨_, rfl, ?_⟩) (PyProof.Rows.args_list_sort _)))
  obtain ⟨ys, g1, g2, g3⟩ := sorted_out_str hS hp hs
  obtain ⟨e', he'⟩ := PyProof.Rows.sortedHeap_at (vs := its) (out := (arrOf st').map (·.2)) hoL
  have hlen : (ys.map V.str).length ≤ sizeLine := by rw [List.length_map, g2.length_eq, sizeLine_eq]; omega
  refine wpAny_pure ⟨_, rfl, .ref h'.objs.size, upd H h'.objs.size (.lst (ys.map V.str)), I1.laid (t' := s.toks) (fun b u e => ?_) (Nat.le_refl _)
    (show ObjOk X.prog X.w _ _ _ (.lst (ys.map V.str)) from ⟨hlen, ((arrOf st').map (·.2)).toList, e', vals_of_strs g1, by rw [Array.toArray_toList]; exact he'⟩), rfl, q ys _ g2 g3 (I1.hok.fresh (Nat.le_refl _))⟩
  have hb : b < h'.objs.size := Heap.lt_size e
  rw [PyProof.Rows.sortedHeap_old (Nat.ne_of_lt hb) (by rw [size_push']; exact Nat.lt_succ_of_lt hb)]
  exact Heap.get?_push_of_some _ e
/-- list(text): its signs -/
theorem call_listStr (hcm : X.calm = true) : CallR X (.type "list") (fun xs H Q => ∃ z : Str, xs = [.str z] ∧ z.cps.size ≤ sizeLine ∧ ∀ p, H p = none → Q (.ref p) (upd H p (.lst (z.cps.toList.map fun c => V.str ⟨#[c]⟩)))) := by
  rintro pins s σ H xs us Q I r ⟨z, ex, hz, q⟩
  subst ex
  obtain ⟨u, eu, rx⟩ := vals1 r
  subst eu
  obtain ⟨t, rfl⟩ := rx
  refine call_list_str (I.ok.hd hcm) z t (hn := hz) fun h' tk acc c hk hS hacc => ?_
  have hl : acc.toList.length = z.cps.toList.length := by rw [Array.length_toList, hacc.1, Array.length_toList]
  refine ⟨.ref s.heap.objs.size, _, I.laid (t' := tk) hk (Nat.le_refl _) (show ObjOk X.prog X.w _ _ _ (.lst (z.cps.toList.map fun c => V.str ⟨#[c]⟩)) from ⟨by rw [List.length_map, Array.length_toList]; exact hz, acc.toList, c, ?_, by rw [Array.toArray_toList]; exact hS⟩), rfl, q _ (I.hok.fresh (Nat.le_refl _))⟩
  refine vals_of_at (by rw [List.length_map, hl]) fun j x v h1 h2 => ?_
  obtain ⟨cc, tt, hc, hv⟩ := hacc.2 j v (by rw [← Array.getElem?_toList]; exact h2)
  rw [List.getElem?_map, Array.getElem?_toList, hc] at h1
  cases h1
  exact ⟨tt, hv⟩
/-- a dict equals itself -/
theorem op_eqSame (hu : X.A.units < cLine) : OpR X (compareOp .Eq) (fun x y H Q => ∃ a ks, x = .ref a ∧ y = .ref a ∧ H a = some (.dK ks) ∧ Q (.bl true) H) := by
  rintro pins s σ H x y v u Q I rx ry ⟨a, ks, rfl, rfl, ha, q⟩
  obtain rfl : v = Value.ref a := rx
  obtain rfl : u = Value.ref a := ry
  obtain ⟨z, ya, va, ra, da⟩ := dk_of I.hok ha
  obtain ⟨_, _, _, _, _, _, _, _, hn⟩ := id da
  have hits : ∀ (more : List (Key × Value)), (∀ p ∈ more, p ∈ va) → PySem.W.KeqHits X.A.in1 s va more true := by
    intro more
    induction more with
    | nil => exact fun _ => .nil
    | cons p r ih =>
      intro hm
      obtain ⟨k, w⟩ := p
      have hv : valueAt va k = some w := by
        obtain ⟨i, hi⟩ := List.mem_iff_getElem?.mp (hm _ List.mem_cons_self)
        exact valueAt_of_get hn hi
      exact .hit (e := true) (b := true) hv (SeqAt.EqAt.same _) (ih fun q hq => hm q (List.mem_cons_of_mem _ hq))
  exact PySem.W.keq_eq (knd := mixKind X.prog X.w) (r := true) ya ya da da hu (fun _ => hits va fun _ h => h) (fin_bl I q (by simp))
/-- xs[i] read ahead of a store -/
theorem get_list : PGet X (fun o i H Q => ∃ (a : Addr) (xs : List V) (j : Nat) (v : V), o = .ref a ∧ i = .int j ∧ SqL X.K H a xs ∧ xs[j]? = some v ∧ Q v H) := by
  rintro pins s σ H o i ov iv Q I ro ri ⟨a, xs, j, v, rfl, rfl, hq, hv, q⟩
  cases ro
  obtain ⟨t, rfl⟩ := ri
  obtain ⟨its, r, pl, hz⟩ := I.list hq
  obtain ⟨u, hu, ru⟩ := r.get hv
  have hl := r.length
  have hn := line63
  have hj : j < its.length := (List.getElem?_eq_some_iff.mp hu).1
  refine wpAny_getItem_list (x := u) pl.isList (by omega) (by omega) (by simpa using hu) ⟨v, H, I, ru, q⟩
/-- dict(t) of a tuple of pairs that came by a star -/
theorem call_dictPT (hcm : X.calm = true) : CallR X (.type "dict") (fun xs H Q => ∃ (a : Addr) (o : Obj) (ps : List Addr) (kvs : List (Key × V)), xs = [.ref a] ∧ H a = some (.frz o (.tup (ps.map V.ref))) ∧ o.dict = none ∧ Paired (fun p kv => SqT X.K H p [kV kv.1, kv.2]) ps kvs ∧
    ∀ p, H p = none → Q (.ref p) (upd H p (.dK (mergeK [] kvs)))) := by
  rintro pins s σ H xs us Q I r ⟨a, o, ps, kvs, ex, hfz, hod, hp, q⟩
  subst ex
  obtain ⟨u, eu, rx⟩ := vals1 r
  subst eu
  cases rx
  obtain ⟨ho, hz, its, rv, ⟨o2, ho2, hc, n, hd⟩⟩ := (show ObjOk X.prog X.w H s.heap a (.frz o (.tup (ps.map V.ref))) from I.hok a _ hfz)
  rw [ho] at ho2
  cases ho2
  have ei := refs_at rv
  subst ei
  rw [List.length_map] at hz
  obtain ⟨prs, rel, hl, hpr⟩ := pairs_of I hp
  -- the pairs by their keys as values
  have key : ∀ j : Nat, ∃ b : Addr, ∀ (q : Key × Value), prs[j]? = some q → ∃ u, (ps.map Value.ref)[j]? = some (.ref b) ∧ IsTup s.heap b #[u, q.2] ∧ keyIs q.1 u = true := fun j => by
    cases e : prs[j]? with
    | none => exact ⟨0, fun q z => nomatch z⟩
    | some q' =>
      obtain ⟨b, u, e1, e2, e3⟩ := hpr j q' e
      exact ⟨b, fun q z => by cases z; exact ⟨u, by rw [List.getElem?_map, e1]; rfl, e2, e3⟩⟩
  let Ts : Nat → Addr := fun j => Classical.choose (key j)
  have keyU : ∀ j : Nat, ∃ w : Value, ∀ (q : Key × Value), prs[j]? = some q → (ps.map Value.ref)[j]? = some (.ref (Ts j)) ∧ IsTup s.heap (Ts j) #[w, q.2] ∧ keyIs q.1 w = true := fun j => by
    cases e : prs[j]? with
    | none => exact ⟨.none, fun q z => nomatch z⟩
    | some q' =>
      obtain ⟨u, e1, e2, e3⟩ := Classical.choose_spec (key j) q' e
      exact ⟨u, fun q z => by cases z; exact ⟨e1, e2, e3⟩⟩
  let Us : Nat → Value := fun j => Classical.choose (keyU j)
  have hUs : ∀ (j : Nat) (q : Key × Value), prs[j]? = some q → (ps.map Value.ref)[j]? = some (.ref (Ts j)) ∧ IsTup s.heap (Ts j) #[Us j, q.2] ∧ keyIs q.1 (Us j) = true := fun j => Classical.choose_spec (keyU j)
  let vps : List (Value × Value) := prs.zipIdx.map fun z => (Us z.2, z.1.2)
  have hvl : vps.length = prs.length := by simp [vps]
  have hvp : ∀ (j : Nat) (k v : Value), vps[j]? = some (k, v) → ∃ q : Key × Value, prs[j]? = some q ∧ k = Us j ∧ v = q.2 := fun j k v e => by
    simp only [vps, List.getElem?_map, List.getElem?_zipIdx] at e
    cases e2 : prs[j]? with
    | none => rw [e2] at e; cases e
    | some q' =>
      rw [e2] at e
      simp at e
      exact ⟨q', rfl, e.1.symm, e.2.symm⟩
  have PI : PairItems s.heap (ps.map Value.ref).toArray Ts vps := by
    refine ⟨by rw [List.size_toArray, List.length_map, hvl, hl], fun j k v e => ?_⟩
    obtain ⟨q', e1, rfl, rfl⟩ := hvp j k v e
    obtain ⟨h1, ⟨oT, hT, hTc, nT, hTd⟩, _⟩ := hUs j q' e1
    exact ⟨by rw [List.getElem?_toArray]; exact h1, .inl ⟨oT, hT, hTc, nT, hTd⟩⟩
  refine PySem.call_dict_pairs (knd := mixKind X.prog X.w) (kvs := prs) (PairArg.tuple a (ps.map Value.ref).toArray Ts vps) (I.ok.hd hcm) ⟨⟨_, n, ho, hc, hod, hd⟩, PI⟩ ⟨by rw [hvl], fun i key v e => ?_⟩ (by rw [hvl, hl]; exact hz) fun h' tk hd' k => ?_
  · obtain ⟨q', e1, rfl, rfl⟩ := hvp i key v e
    exact ⟨q'.1, e1, (hUs i q' e1).2.2⟩
  · have hm : (s.heap.objs.size == sysModules) = false := beq_eq_false_iff_ne.mpr (Nat.ne_of_gt I.big)
    have hlen : (mergeK [] kvs).length ≤ sizeLine := by
      have h1 := length_mergeK kvs []
      have h2 := rel.length
      rw [List.length_nil] at h1
      omega
    exact ⟨.ref s.heap.objs.size, upd H s.heap.objs.size (.dK (mergeK [] kvs)), I.laid (t' := tk) (fun b o e => k b o (by simp) e) (Nat.le_refl _) (show ObjOk X.prog X.w _ _ _ (.dK (mergeK [] kvs)) from ⟨hlen, hm, merged [] prs, KV.merge rel .nil, hd'⟩), rfl, q _ (I.hok.fresh (Nat.le_refl _))⟩
end
section
variable {P : Program} {w : World} {K : PySem.W.Frag} {mg : Str → Option Value} {base : Heap}
/-- def f(a, .., *v): the tuple with its object -/
theorem fn_tSF {x qual : Str} {st : Stmt} {f : Addr} {fd : FuncData} {N ps : List Str} {pv : Str} {k : Nat} {sp : Sp} (F : FnT K x qual st [] f fd) (S : FnScope N (ps ++ [pv]) (defScope st))
    (hb : ∀ (kV doc pm : Value) (an : Option Addr) (cdv ct : Value) (us rest : List Value), us.length = ps.length → bindArgs (PySem.W.fnOf x qual (defArgs st) (defBody st) (defScope st) .none kV doc pm an cdv ct) ⟨us ++ rest, []⟩ = (newTuple rest >>= fun t => pure (ps.zip us ++ [(pv, t)])))
    (hbody : ∀ (cdv : Value) (A : Around) (outer : List Env) (s : Shared) (H : Hp) (vs : List V) (Q : VK) (E : XK), Room k (A.deeper (envOfC qual (defScope st) s.heap.objs.size f cdv)) → sp vs H Q E →
      ∃ t, PSs (cxOf CX0 P w K mg base N qual (defScope st) f cdv A outer s H E).nox (defBody st) t ∧ t { nx := fun _ H' => Q .non H', rt := Q } (start N vs) H) :
    Pr P w K mg base (k + 1) f (fun vs H Q E => ∃ ws rest, vs = ws ++ rest ∧ ws.length = ps.length ∧ rest.length ≤ sizeLine ∧ ∀ p o, H p = none → o.dict = none → sp (ws ++ [V.ref p]) (upd H p (.frz o (.tup rest))) Q E) := by
  obtain ⟨oc, od, dV, kV, doc, pm, an, cdv, ct, osl, rfl, lk, hcd, hD, _⟩ := F.ex
  have e : dV = .none := by
    rcases hD with ⟨_, e⟩ | ⟨e, _⟩
    · exact e
    · exact absurd rfl e
  subst e
  rintro A outer s H us vs Q E hr e0 r ⟨ws, rest, ev, hl, hz, hq⟩
  subst ev
  obtain ⟨u1, u2, eu, r1, r2⟩ := StX.vals_split r
  subst eu
  have hn : H s.heap.objs.size = none := e0.hok.fresh (Nat.le_refl _)
  have hl1 : u1.length = ps.length := by rw [← r1.length]; exact hl
  have hl2 : u2.length ≤ sizeLine := by rw [← r2.length]; exact hz
  let ob : Obj := { cls := .type "tuple", data := .seq u2.toArray }
  refine StX.run_bnd lk hcd S hr e0 (G := fun xs H2 => ∃ p, H p = none ∧ xs = ws ++ [V.ref p] ∧ H2 = upd H p (.frz ob (.tup rest))) (fun A' Ex Q' h => ?_) fun s2 H2 xs ⟨p, hp, ex, eH⟩ hr' => ?_
  · rw [hb kV doc pm an cdv ct u1 u2 hl1]
    refine wpAny_bind (wpAny_newTuple (wpAny_pure ?_) hl2)
    have gt : (s.heap.push ob).get? s.heap.objs.size = some ob := Heap.get?_push_size _ rfl
    have new : ObjOk P w (upd H s.heap.objs.size (.frz ob (.tup rest))) (s.heap.push ob) s.heap.objs.size (.frz ob (.tup rest)) := ⟨gt, hz, u2, r2, ⟨_, gt, rfl, _, rfl⟩⟩
    have un := StX.un_laid (fs := frs outer) (s := s) (o := ob) (u := .frz ob (.tup rest)) hn
    have z := h _ _ (ws ++ [V.ref s.heap.objs.size]) (u1 ++ [Value.ref s.heap.objs.size]) (StX.env0_laid e0 new) un rfl (fun e s' z => z) (r1.append (.cons rfl .nil))
      (by rw [List.length_append, List.length_append, hl] <;> rfl) ⟨_, hn, rfl, rfl⟩
    rw [List.zip_append hl1.symm] at z
    exact z
  · subst ex eH
    obtain ⟨t, a, b⟩ := hbody cdv A outer s2 _ _ Q E hr' (hq p ob hp rfl)
    exact ⟨t, a.nox, b⟩
end
end Pw
end
section
set_option maxRecDepth 100000
set_option maxHeartbeats 4000000
/-! y = {k: v for ..}, y a local name. -/
namespace Pw
open PySem PySem.Spec PyProof.Rows L2
section
variable {X : Cx}
theorem swD_true {kx vx : Expr} {gs : List Comprehension} {scope : Scope} {pos py : Pos} {y : Str} {l : Nat} {env : Env} (hk : env.scope.kind = .function) (hy : env.scope.names.lookup y = some .local) (hl : (py.line == pos.line) = true)
    (ha : (scope.names.any fun (n, k) => n == y && (k == .local || k == .cell)) = false) : swapsWith (.DictComp kx vx gs scope pos) (some (.Name y py)) l env = pure true := by
  have h1 : env.kindOf y = some .local := hy
  have h2 : env.blockKind = .function := by unfold Env.blockKind; rw [hk]; rfl
  unfold swapsWith
  simp only [h2, h1, ha, Expr.pos, hl]
  rfl
theorem ps_setDc {i : Nat} {y : Str} {py : Pos} {kx vx tg iter : Expr} {ifs : List Expr} {scope : Scope} {own : List (Str × Nat)} {pos spos : Pos} {wi : TI} {g : TG} {tt : TT} {tk tv : TE} (hcm : X.calm = true) (hNd : X.N.Nodup) (hy : X.N[i]? = some y) (hyl : X.env.scope.names.lookup y = some .local)
    (hsw : swapsWith (.DictComp kx vx [⟨tg, iter, ifs, 0⟩] scope pos) (some (.Name y py)) spos.line X.env = pure true) (hi : PI X tg iter wi) (ok : BlkOk X.N X.env.scope scope own)
    (hg : ∀ (s : Shared) (H : Hp) (C : Addr) (cl : List (Str × Addr)) (fp : List Addr), PG (X.blk s H scope (compEnvC scope cl C X.env) fp) tg g) (ht : ∀ (s : Shared) (H : Hp) (C : Addr) (cl : List (Str × Addr)) (fp : List Addr), PTs (X.blk s H scope (compEnvC scope cl C X.env) fp) ifs tt)
    (hk : ∀ (s : Shared) (H : Hp) (C : Addr) (cl : List (Str × Addr)) (fp : List Addr), PE (X.blk s H scope (compEnvC scope cl C X.env) fp) kx tk) (he : ∀ (s : Shared) (H : Hp) (C : Addr) (cl : List (Str × Addr)) (fp : List Addr), PE (X.blk s H scope (compEnvC scope cl C X.env) fp) vx tv)
    (hs : ∀ x, foldedSetIterable iter X.env x = pure x := by intro _; rfl) : PS X (.Assign [.Name y py] (.DictComp kx vx [⟨tg, iter, ifs, 0⟩] scope pos) spos) (tAsg (tDc wi g tt tk tv (own.map (·.2))) (gName i)) := by
  refine ⟨fun pins s σ H D I h => ?_⟩
  rw [exec_Assign_Name_used _ _ _ _ hsw]
  refine wpAny_bind (wpAny_standAt (wpAny_bind ?_))
  show wpAny _ X.A (do let _ ← comprehension (.DictComp kx vx [⟨tg, iter, ifs, 0⟩] scope pos) scope X.env (firstIterPos [⟨tg, iter, ifs, 0⟩] pos) newDict false (eval iter X.env) (some (assign (.Name y py) X.env))) _ _ s
  have h : tDc wi g tt tk tv (own.map (·.2)) σ H (fun x H1 => gName i x σ H1 D.nx) := h
  refine wpAny_bind (thn (dc_core (Qf := fun _ s' => SP X pins D .next s') hcm hNd I hi ok hg ht hk he hs h fun L C s' m H' I' q hn f => ?_) fun _ s' hq => wpAny_pure (wpAny_pure hq))
  show wpAny _ _ (assign (.Name y py) X.env (.ref L)) _ _ _
  refine wpAny_assign_Name (store_ok2 (v := V.ref L) I' hNd hy (.inl hyl) rfl (fun s2 J z => ?_) (.inr hyl))
  obtain ⟨a, sb, ha⟩ := z
  obtain ⟨f0, f1, f2, f3, f4, f5⟩ := f
  have hCa : C ≠ a := by
    rcases ha with e | e
    · rw [e]; exact f1
    · exact fun e2 => f4 y a e e2.symm
  exact ⟨m, hn.sameBut sb hCa, fun h3 sb3 => ⟨_, H', J.turned (t' := s2.toks) (fun b o hb e => (sb3.2 b hb).trans e) f0 f1 f3 f4 f5, q⟩⟩
end
end Pw
end
section
set_option maxRecDepth 100000
set_option maxHeartbeats 4000000
/-! The walk, second part: what a sheet is in the heap; room; copies and their bars. -/
namespace Pw
open PySem PySem.Spec PyProof.Rows L2
abbrev Cpy := Lat.Cp Str
/-! ### what stands in the heap -/
theorem Same.sqT {K : PySem.W.Frag} {H H' : Hp} {a : Addr} {xs : List V} (e : Same H H') (h : SqT K H a xs) : SqT K H' a xs := by
  rcases h with (h | ⟨o, h⟩) | h
  · exact .inl (.inl (e _ _ h))
  · exact .inl (.inr ⟨o, e _ _ h⟩)
  · exact .inr h
/-- v is a tuple (name, number) -/
def PairV (v : V) (c : Cpy) (H : Hp) : Prop := ∃ a, v = .ref a ∧ H a = some (.tup [.str c.1, .int c.2])
theorem PairV.mono : Mono PairV where
  same := fun v t H H' s ⟨a, e, h⟩ => ⟨a, e, s _ _ h⟩
  lst := fun v t D xs H H' hD s ⟨a, e, h⟩ => ⟨a, e, s _ _ (ne_of h hD (by intro z; cases z)) h⟩
theorem PairV.same {v : V} {c : Cpy} {H H' : Hp} (h : PairV v c H) (s : Same H H') : PairV v c H' := PairV.mono.same _ _ _ _ s h
/-- the positions of rows, as a dict -/
def ordK (rows : List Str) : List (Key × V) := rows.zipIdx.map fun z => (Sum.inr z.1, V.int (z.2 : Nat))
theorem valV_ordAt : ∀ (rows : List Str) (n : Nat) (r : Str), valV ((rows.zipIdx n).map fun z => ((Sum.inr z.1 : Key), V.int (z.2 : Nat))) (Sum.inr r) = if r ∈ rows then some (.int ((n + rows.idxOf r : Nat))) else none
  | [], n, r => rfl
  | x :: xs, n, r => by
    rw [List.zipIdx_cons, List.map_cons]
    by_cases e : x = r
    · subst e
      rw [valV_pos rfl]
      simp
    · rw [valV_neg (fun z => e (Sum.inr.inj z)), valV_ordAt xs (n + 1) r]
      have e' : ¬ r = x := fun z => e z.symm
      by_cases hm : r ∈ xs
      · have hb : (x == r) = false := beq_eq_false_iff_ne.mpr e
        rw [if_pos hm, if_pos (List.mem_cons_of_mem _ hm), List.idxOf_cons, hb]
        rw [show n + 1 + xs.idxOf r = n + (xs.idxOf r + 1) by omega]
        rfl
      · rw [if_neg hm, if_neg (by simp [hm, e'])]
theorem valV_ord {rows : List Str} {r : Str} (h : r ∈ rows) : valV (ordK rows) (Sum.inr r) = some (.int (rows.idxOf r : Nat)) := by
  unfold ordK
  rw [valV_ordAt, if_pos h, Nat.zero_add]
/-- a dict from the rows, in their order, to values of which R holds -/
def MapAt (R : V → Str → Hp → Prop) (H : Hp) (a : Addr) (rows : List Str) : Prop := ∃ vs : List V, H a = some (.dK (List.zipWith (fun r v => ((Sum.inr r : Key), v)) rows vs)) ∧ All2 (fun v r => R v r H) vs rows
theorem zip_val {R : V → Str → Hp → Prop} {H : Hp} : ∀ {rows : List Str} {vs : List V} {r : Str}, All2 (fun v r => R v r H) vs rows → r ∈ rows → ∃ v, valV (List.zipWith (fun r v => ((Sum.inr r : Key), v)) rows vs) (Sum.inr r) = some v ∧ R v r H
  | [], [], _, _, h => by cases h
  | x :: xs, v :: vs, r, a, h => by
    rw [List.zipWith_cons_cons]
    by_cases e : x = r
    · subst e
      exact ⟨v, valV_pos rfl, a.1⟩
    · rw [valV_neg (fun z => e (Sum.inr.inj z))]
      exact zip_val a.2 ((List.mem_cons.mp h).resolve_left fun z => e z.symm)
  | [], _ :: _, _, a, _ => a.elim
  | _ :: _, [], _, a, _ => a.elim
/-- a tuple of texts -/
def TupV (nd : Str → List Str) (v : V) (r : Str) (H : Hp) : Prop := ∃ t, v = .ref t ∧ H t = some (.tup ((nd r).map V.str))
theorem TupV.mono {nd : Str → List Str} : Mono (TupV nd) where
  same := fun v t H H' s ⟨a, e, h⟩ => ⟨a, e, s _ _ h⟩
  lst := fun v t D xs H H' hD s ⟨a, e, h⟩ => ⟨a, e, s _ _ (ne_of h hD (by intro z; cases z)) h⟩
theorem MapAt.same {R : V → Str → Hp → Prop} (m : Mono R) {H H' : Hp} {a : Addr} {rows : List Str} (h : MapAt R H a rows) (s : Same H H') : MapAt R H' a rows := let ⟨vs, e, q⟩ := h; ⟨vs, s _ _ e, q.mono fun v r => m.same _ _ _ _ s⟩
/-- rows and needs of a sheet -/
structure Sh (rows : List Str) (nd : Str → List Str) : Prop where
  nodup : rows.Nodup
  ok : ∀ r ∈ rows, NameOk r
  le : rows.length ≤ 12
  sub : ∀ r ∈ rows, ∀ o ∈ nd r, o ∈ rows
  ndd : ∀ r ∈ rows, (nd r).Nodup
  acyc : ∃ rk : Str → Nat, ∀ r ∈ rows, ∀ o ∈ nd r, rk o < rk r
/-- a sheet stands at p -/
def SheetAt (K : PySem.W.Frag) (H : Hp) (p : Addr) (rows : List Str) (nd : Str → List Str) : Prop := ∃ dx aN aD aO z, H p = some (.ins (He.ga K "Sheet") dx [("names", .ref aN), ("direct", .ref aD), ("order", .ref aO), ("shown", .str z)]) ∧
  H aN = some (.tup (rows.map V.str)) ∧ MapAt (TupV nd) H aD rows ∧ H aO = some (.dK (ordK rows))
theorem SheetAt.same {K : PySem.W.Frag} {H H' : Hp} {p : Addr} {rows : List Str} {nd : Str → List Str} (h : SheetAt K H p rows nd) (s : Same H H') : SheetAt K H' p rows nd :=
  let ⟨dx, aN, aD, aO, z, h1, h2, h3, h4⟩ := h; ⟨dx, aN, aD, aO, z, s _ _ h1, s _ _ h2, h3.same TupV.mono s, s _ _ h4⟩
/-- .. as far as its rows and needs go -/
def SheetL (K : PySem.W.Frag) (H : Hp) (p : Addr) (rows : List Str) (nd : Str → List Str) : Prop := ∃ (dx aN aD : Addr) (fs : List (Str × V)), H p = some (.ins (He.ga K "Sheet") dx fs) ∧ fs.lookup ("names" : Str) = some (.ref aN) ∧ fs.lookup ("direct" : Str) = some (.ref aD) ∧ fs.lookup ("rows" : Str) = none ∧ fs.lookup ("needs" : Str) = none ∧
  H aN = some (.tup (rows.map V.str)) ∧ MapAt (TupV nd) H aD rows
theorem SheetL.same {K : PySem.W.Frag} {H H' : Hp} {p : Addr} {rows : List Str} {nd : Str → List Str} (h : SheetL K H p rows nd) (s : Same H H') : SheetL K H' p rows nd :=
  let ⟨dx, aN, aD, fs, h1, h2, h3, h4, h5, h6, h7⟩ := h; ⟨dx, aN, aD, fs, s _ _ h1, h2, h3, h4, h5, s _ _ h6, h7.same TupV.mono s⟩
theorem SheetAt.lite {K : PySem.W.Frag} {H : Hp} {p : Addr} {rows : List Str} {nd : Str → List Str} (h : SheetAt K H p rows nd) : SheetL K H p rows nd :=
  let ⟨dx, aN, aD, _, _, h1, h2, h3, _⟩ := h; ⟨dx, aN, aD, _, h1, rfl, rfl, rfl, rfl, h2, h3⟩
/-- what a row depends on -/
inductive Dep (nd : Str → List Str) : Str → Str → Prop
  | one {r o : Str} : o ∈ nd r → Dep nd r o
  | step {r m o : Str} : m ∈ nd r → Dep nd m o → Dep nd r o
theorem Dep.trans {nd : Str → List Str} {a b c : Str} (h : Dep nd a b) (h2 : Dep nd b c) : Dep nd a c := by
  induction h with
  | one e => exact .step e h2
  | step e _ ih => exact .step e (ih h2)
theorem Sh.dep {rows : List Str} {nd : Str → List Str} (S : Sh rows nd) {r o : Str} (h : Dep nd r o) : r ∈ rows → o ∈ rows := by
  induction h with
  | one e => exact fun hr => S.sub _ hr _ e
  | step e _ ih => exact fun hr => ih (S.sub _ hr _ e)
/-- the other one depends on the first one -/
noncomputable def depB (nd : Str → List Str) (a b : Str) : Bool := @decide (Dep nd b a) (Classical.propDecidable _)
theorem depB_iff {nd : Str → List Str} {a b : Str} : depB nd a b = true ↔ Dep nd b a := by unfold depB; exact @decide_eq_true_iff _ (Classical.propDecidable _)
theorem Sh.dp {rows : List Str} {nd : Str → List Str} (S : Sh rows nd) : Lat.Dp rows (depB nd) := ⟨S.nodup, fun a _ b _ c _ h1 h2 => depB_iff.mpr ((depB_iff.mp h2).trans (depB_iff.mp h1))⟩
/-- what closure gives -/
def BelowAt (H : Hp) (a : Addr) (rows : List Str) (nd : Str → List Str) : Prop := ∃ kvs : List (Key × V), H a = some (.dK kvs) ∧ ∀ r ∈ rows, ∃ d ks, valV kvs (Sum.inr r) = some (.ref d) ∧ H d = some (.dK ks) ∧ ∀ o : Str, (valV ks (Sum.inr o)).isSome = true ↔ Dep nd r o
theorem BelowAt.same {H H' : Hp} {a : Addr} {rows : List Str} {nd : Str → List Str} (h : BelowAt H a rows nd) (s : Same H H') : BelowAt H' a rows nd := let ⟨kvs, e, q⟩ := h; ⟨kvs, s _ _ e, fun r hr => let ⟨d, ks, h1, h2, h3⟩ := q r hr; ⟨d, ks, h1, s _ _ h2, h3⟩⟩
noncomputable abbrev bars (rows : List Str) (nd : Str → List Str) : Cpy → Cpy → Bool := Lat.barC rows (depB nd)
section
variable {X : Cx} {k : Nat} {C : Addr} {sp : Sp} {g p : Addr} {f : Str} {fd : FuncData} {ps : List Str} {e : Expr} {ta : TE} {pos : Pos}
/-- o.f, f a property -/
theorem pprop (he : PE X e ta) (c : Cls X.K C) (hp : PropOf X.K C f p g) (F : FnOk X.prog X.w X.K X.mg X.base CX0 k g fd ps sp ∧ Binds X.K fd ps []) (hr : Room (k + 1) X.A) (hab : attributeBase e f X.env (eval e X.env) = eval e X.env := by rfl) :
    PE X (.Attribute e f pos) (tProp C sp [] E0 ta) := pe_prop he c hp F.1 hr F.2 .nil pass0 hab
end
section
variable {P : Program} {w : World} {K : PySem.W.Frag} {mg : Str → Option Value} {base : Heap}
/-! ### a sheet's own small methods -/
theorem sc_Sheet_rows : FnScope ["self"] ["self"] (defScope s_Sheet_rows) := ⟨rfl, rfl, rfl, by decide +kernel, rfl, by decide +kernel, by decide +kernel⟩
theorem sc_Sheet_needs : FnScope ["self"] ["self"] (defScope s_Sheet_needs) := ⟨rfl, rfl, rfl, by decide +kernel, rfl, by decide +kernel, by decide +kernel⟩
theorem sc_Sheet_len : FnScope ["self"] ["self"] (defScope s_Sheet_len) := ⟨rfl, rfl, rfl, by decide +kernel, rfl, by decide +kernel, by decide +kernel⟩
theorem sc_Sheet_contains : FnScope ["self", "name"] ["self", "name"] (defScope s_Sheet_contains) := ⟨rfl, rfl, rfl, by decide +kernel, rfl, by decide +kernel, by decide +kernel⟩
def spRows (K : PySem.W.Frag) : Sp := fun vs H Q _ => ∃ p rows nd, vs = [.ref p] ∧ SheetL K H p rows nd ∧ ∀ aN, H aN = some (.tup (rows.map V.str)) → Q (.ref aN) H
def spNeeds (K : PySem.W.Frag) : Sp := fun vs H Q _ => ∃ p rows nd, vs = [.ref p] ∧ SheetL K H p rows nd ∧ ∀ a H', Same H H' → H a = none → MapAt (TupV nd) H' a rows → Q (.ref a) H'
def spLen (K : PySem.W.Frag) : Sp := fun vs H Q _ => ∃ p rows nd, vs = [.ref p] ∧ SheetAt K H p rows nd ∧ Q (.int rows.length) H
def spHas (K : PySem.W.Frag) : Sp := fun vs H Q _ => ∃ p rows nd z, vs = [.ref p, .str z] ∧ SheetAt K H p rows nd ∧ z ∈ rows ∧ Q (.bl true) H
theorem ok_rows (T : Tx K mg) : ∃ fd, FnOk P w K mg base CX0 1 (pgA K (He.ga K "Sheet") "rows") fd ["self"] (spRows K) ∧ Binds K fd ["self"] [] := by
  obtain ⟨fd, F⟩ := T.f_Sheet_rows
  refine ⟨fd, fn_t F sc_Sheet_rows (fun _ _ _ _ _ _ us hl => match us, hl with | [_], _ => rfl) (fun vs H Q E h => ?_) fun cdv A outer s H vs Q E hr h => ?_⟩
  · obtain ⟨p, rows, nd, rfl, _⟩ := h
    rfl
  · obtain ⟨p, rows, nd, rfl, ⟨dx, aN, aD, fs, h1, h2, h3, _, _, h4, h5⟩, q⟩ := h
    exact ⟨_, pss_one (ps_ret (pe_fld (pv 0) rfl)), _, rfl, p, _, dx, _, _, rfl, h1, T.cl_Sheet, T.na_Sheet_names, h2, q _ h4⟩
theorem ok_needs (T : Tx K mg) : ∃ fd, FnOk P w K mg base CX0 1 (pgA K (He.ga K "Sheet") "needs") fd ["self"] (spNeeds K) ∧ Binds K fd ["self"] [] := by
  obtain ⟨fd, F⟩ := T.f_Sheet_needs
  refine ⟨fd, fn_t F sc_Sheet_needs (fun _ _ _ _ _ _ us hl => match us, hl with | [_], _ => rfl) (fun vs H Q E h => ?_) fun cdv A outer s H vs Q E hr h => ?_⟩
  · obtain ⟨p, rows, nd, rfl, _⟩ := h
    rfl
  · obtain ⟨p, rows, nd, rfl, ⟨dx, aN, aD, fs, h1, h2, h6, _, _, h4, ⟨vs, h3, h5⟩⟩, q⟩ := h
    refine ⟨_, pss_one (ps_ret (pe_callTy call_dictD (by rfl) T.b_dict (by decide +kernel) (pa_cons (pe_fld (pv 0) rfl) pa_nil))), _, rfl, p, _, dx, _, _, rfl, h1, T.cl_Sheet, T.na_Sheet_direct, h6, aD, _, rfl, .of h3, fun a ha => q a _ (Same.new ha) ha ⟨vs, upd_same, h5.mono fun v r => TupV.mono.same _ _ _ _ (Same.new ha)⟩⟩
theorem ok_len (T : Tx K mg) : Pr P w K mg base 1 (He.ma K (He.ga K "Sheet") "__len__") (spLen K) := by
  obtain ⟨fd, F⟩ := T.f_Sheet_len
  refine pr_of (fn_t F sc_Sheet_len (fun _ _ _ _ _ _ us hl => match us, hl with | [_], _ => rfl) (fun vs H Q E h => ?_) fun cdv A outer s H vs Q E hr h => ?_)
  · obtain ⟨p, rows, nd, rfl, _⟩ := h
    rfl
  · obtain ⟨p, rows, nd, rfl, ⟨dx, aN, aD, aO, z, h1, h2, h3, h4⟩, q⟩ := h
    refine ⟨_, pss_one (ps_ret (pe_callB call_len_seq (by rfl) T.b_len (by decide +kernel) (pa_cons (pe_fld (pv 0) rfl) pa_nil))), _, rfl, p, _, dx, _, _, rfl, h1, T.cl_Sheet, T.na_Sheet_names, rfl, aN, _, rfl, .inr (.of h2), ?_⟩
    rw [List.length_map]
    exact q
theorem ok_has (T : Tx K mg) : Pr P w K mg base 1 (He.ma K (He.ga K "Sheet") "__contains__") (spHas K) := by
  obtain ⟨fd, F⟩ := T.f_Sheet_contains
  refine pr_of (fn_t F sc_Sheet_contains (fun _ _ _ _ _ _ us hl => match us, hl with | [_, _], _ => rfl) (fun vs H Q E h => ?_) fun cdv A outer s H vs Q E hr h => ?_)
  · obtain ⟨p, rows, nd, z, rfl, _⟩ := h
    rfl
  · obtain ⟨p, rows, nd, z, rfl, ⟨dx, aN, aD, aO, zz, h1, h2, h3, h4⟩, hz, q⟩ := h
    refine ⟨_, pss_one (ps_ret (pe_and (pe_callB call_isi (by rfl) T.b_isinstance (by decide +kernel) (pa_cons (pv 1) (pa_cons (pe_bltn (x := "str") (v := .ty "str") (by rfl) T.b_str (by decide +kernel) rfl) pa_nil)))
      (pe_one (pe_cmp (pc_din (hu_of hr) (pv 1) (pe_fld (pv 0) rfl)) rfl)))), ?_⟩
    refine ⟨_, rfl, _, _, _, _, true, rfl, .ty _, .base (.str _), kit_ty (by decide +kernel), true, rfl, iteT ?_⟩
    refine ⟨_, rfl, _, rfl, p, _, dx, _, _, rfl, h1, T.cl_Sheet, T.na_Sheet_order, rfl, aO, _, rfl, DGet.k (k := Sum.inr z) h4, ?_⟩
    rw [valV_ord hz]
    exact q
end
end Pw
end
section
set_option maxRecDepth 100000
set_option maxHeartbeats 4000000
/-! Data: texts, copies, keys as Python data; their equality. -/
namespace Pw
open PySem PySem.Spec PyProof.Rows L2
section
variable {α : Type}
theorem lay_map {f : α → PyData} : ∀ {l : List α}, (∀ x ∈ l, (f x).canLay0 = true) → PyData.canLayAll0 (l.map f) = true
  | [], _ => by simp [PyData.canLayAll0]
  | x :: l, h => by simp [PyData.canLayAll0, h x List.mem_cons_self, lay_map fun y hy => h y (List.mem_cons_of_mem _ hy)]
theorem depth_map {f : α → PyData} {n : Nat} (h : ∀ x, (f x).depth ≤ n) : ∀ l : List α, PyData.depthAll (l.map f) ≤ n
  | [] => by simp [PyData.depthAll]
  | x :: l => by
    have h1 := h x
    have h2 := depth_map h l
    simp only [List.map_cons, PyData.depthAll]
    omega
theorem shaped_of {d : PyData} (h1 : d.canLay0 = true) (h2 : d.depth ≤ 64) : SeqAt.shaped d = true := Bool.and_eq_true_iff.mpr ⟨h1, decide_eq_true h2⟩
theorem eqv_map [DecidableEq α] {f : α → PyData} (h : ∀ x y, PyData.eqv (f x) (f y) = decide (x = y)) : ∀ l m : List α, PyData.eqvAll (l.map f) (m.map f) = decide (l = m)
  | [], [] => by simp [PyData.eqvAll]
  | [], _ :: _ => by simp [PyData.eqvAll]
  | _ :: _, [] => by simp [PyData.eqvAll]
  | x :: l, y :: m => by
    rw [List.map_cons, List.map_cons, PyData.eqvAll, h, eqv_map h l m]
    by_cases h1 : x = y
    · by_cases h2 : l = m <;> simp [h1, h2]
    · simp [h1]
theorem any_map [DecidableEq α] {f : α → PyData} (h : ∀ x y, PyData.eqv (f x) (f y) = decide (x = y)) (l : List α) (x : α) : ((l.map f).any fun z => PyData.eqv z (f x)) = decide (x ∈ l) := by
  rw [Bool.eq_iff_iff, List.any_eq_true, decide_eq_true_eq]
  constructor
  · rintro ⟨z, hz, e⟩
    obtain ⟨y, hy, rfl⟩ := List.mem_map.mp hz
    rw [h, decide_eq_true_eq] at e
    rw [← e]
    exact hy
  · intro hx
    exact ⟨f x, List.mem_map.mpr ⟨x, hx, rfl⟩, by rw [h]; simp⟩
end
abbrev sD (z : Str) : PyData := .str z
abbrev Ok (z : Str) : Prop := PyData.strOk z = true
theorem sD_lay {z : Str} (h : Ok z) : (sD z).canLay0 = true := by simpa [sD, PyData.canLay0] using h
theorem sD_depth (z : Str) : (sD z).depth ≤ 0 := by simp [sD, PyData.depth]
theorem sD_eqv (x y : Str) : PyData.eqv (sD x) (sD y) = decide (x = y) := by
  simp only [sD, PyData.eqv]
  rw [Bool.eq_iff_iff]
  simp
/-- a tuple, a list of texts -/
abbrev ssD (l : List Str) : PyData := .tuple (l.map sD)
theorem ssD_lay {l : List Str} (h : ∀ z ∈ l, Ok z) : (ssD l).canLay0 = true := by simp only [ssD, PyData.canLay0]; exact lay_map fun z hz => sD_lay (h z hz)
theorem ssD_depth (l : List Str) : (ssD l).depth ≤ 1 := by
  have h := depth_map sD_depth l
  simp only [ssD, PyData.depth]
  omega
theorem ssD_shaped {l : List Str} (h : ∀ z ∈ l, Ok z) : SeqAt.shaped (ssD l) = true := shaped_of (ssD_lay h) (Nat.le_trans (ssD_depth l) (by decide))
theorem ssD_eqv (l m : List Str) : PyData.eqv (ssD l) (ssD m) = decide (l = m) := by simp only [ssD, PyData.eqv]; exact eqv_map sD_eqv l m
theorem slD_eqv (l m : List Str) : PyData.eqv (.list (l.map sD)) (.list (m.map sD)) = decide (l = m) := by simp only [PyData.eqv]; exact eqv_map sD_eqv l m
theorem slD_shaped {l : List Str} (h : ∀ z ∈ l, Ok z) : SeqAt.shaped (.list (l.map sD)) = true := by
  refine shaped_of (by simp only [PyData.canLay0]; exact lay_map fun z hz => sD_lay (h z hz)) ?_
  have h := depth_map sD_depth l
  simp only [PyData.depth]
  omega
theorem sD_shaped {z : Str} (h : Ok z) : SeqAt.shaped (sD z) = true := shaped_of (sD_lay h) (Nat.le_trans (sD_depth z) (by decide))
/-- a copy -/
def cD (c : Cpy) : PyData := .tuple [.str c.1, .int c.2]
theorem cD_lay {c : Cpy} (h : Ok c.1) : (cD c).canLay0 = true := by simpa [cD, PyData.canLay0, PyData.canLayAll0] using h
theorem cD_depth (c : Cpy) : (cD c).depth ≤ 1 := by simp [cD, PyData.depth, PyData.depthAll]
theorem cD_shaped {c : Cpy} (h : Ok c.1) : SeqAt.shaped (cD c) = true := shaped_of (cD_lay h) (Nat.le_trans (cD_depth c) (by decide))
theorem cD_eqv (a b : Cpy) : PyData.eqv (cD a) (cD b) = decide (a = b) := by
  obtain ⟨x, i⟩ := a
  obtain ⟨y, j⟩ := b
  simp only [cD, PyData.eqv, PyData.eqvAll]
  rw [Bool.eq_iff_iff]
  simp [Prod.ext_iff]
/-- a keep's copies -/
def kD (l : List Cpy) : PyData := .tuple (l.map cD)
theorem kD_lay {l : List Cpy} (h : ∀ c ∈ l, Ok c.1) : (kD l).canLay0 = true := by simp only [kD, PyData.canLay0]; exact lay_map fun c hc => cD_lay (h c hc)
theorem kD_depth (l : List Cpy) : (kD l).depth ≤ 2 := by
  have h := depth_map cD_depth l
  simp only [kD, PyData.depth]
  omega
theorem kD_shaped {l : List Cpy} (h : ∀ c ∈ l, Ok c.1) : SeqAt.shaped (kD l) = true := shaped_of (kD_lay h) (Nat.le_trans (kD_depth l) (by decide))
theorem kD_eqv (l m : List Cpy) : PyData.eqv (kD l) (kD m) = decide (l = m) := by simp only [kD, PyData.eqv]; exact eqv_map cD_eqv l m
theorem clD_shaped {l : List Cpy} (h : ∀ c ∈ l, Ok c.1) : SeqAt.shaped (.list (l.map cD)) = true := by
  refine shaped_of (by simp only [PyData.canLay0]; exact lay_map fun c hc => cD_lay (h c hc)) ?_
  have h := depth_map cD_depth l
  simp only [PyData.depth]
  omega
theorem klD_shaped {l : List (List Cpy)} (h : ∀ ks ∈ l, ∀ c ∈ ks, Ok c.1) : SeqAt.shaped (.list (l.map kD)) = true := by
  refine shaped_of (by simp only [PyData.canLay0]; exact lay_map fun ks hk => kD_lay (h ks hk)) ?_
  have h := depth_map kD_depth l
  simp only [PyData.depth]
  omega
theorem NameOk.strOk {z : Str} (h : NameOk z) : Ok z := by
  show z.cps.all (· < 0x110000) = true
  rw [← Array.all_toList, List.all_eq_true]
  intro c hc
  have hl : ∀ c ∈ letters.cps.toList, decide (c < 0x110000) = true := by decide +kernel
  exact hl c (h.abc c hc)
theorem any_cD (l : List Cpy) (c : Cpy) : ((l.map cD).any fun z => PyData.eqv z (cD c)) = decide (c ∈ l) := by rw [any_map cD_eqv]; exact decide_eq_decide.mpr Iff.rfl
theorem any_kD (l : List (List Cpy)) (c : List Cpy) : ((l.map kD).any fun z => PyData.eqv z (kD c)) = decide (c ∈ l) := by rw [any_map kD_eqv]; exact decide_eq_decide.mpr Iff.rfl
section
variable {K : PySem.W.Frag} {H : Hp}
theorem dps_str : ∀ l : List Str, DpAll K H (l.map V.str) (l.map sD)
  | [] => .nil
  | x :: l => .cons (.str x) (dps_str l)
theorem dp_ss {a : Addr} {l : List Str} (h : SqT K H a (l.map V.str)) : L2.Dp K H (.ref a) (ssD l) := .tup h (dps_str l)
theorem dp_sl {a : Addr} {l : List Str} (h : SqL K H a (l.map V.str)) : L2.Dp K H (.ref a) (.list (l.map sD)) := .lst h (dps_str l)
theorem dp_c {v : V} {c : Cpy} (h : PairV v c H) : L2.Dp K H v (cD c) := by
  obtain ⟨a, rfl, e⟩ := h
  exact .tup (.of e) (.cons (.str _) (.cons (.int _) .nil))
theorem dps_c : ∀ {vs : List V} {cs : List Cpy}, All2 (fun v c => PairV v c H) vs cs → DpAll K H vs (cs.map cD)
  | [], [], _ => .nil
  | _ :: _, _ :: _, a => .cons (dp_c a.1) (dps_c a.2)
  | [], _ :: _, a => a.elim
  | _ :: _, [], a => a.elim
theorem dp_k {a : Addr} {vs : List V} {cs : List Cpy} (h : SqT K H a vs) (e : All2 (fun v c => PairV v c H) vs cs) : L2.Dp K H (.ref a) (kD cs) := .tup h (dps_c e)
end
end Pw
end
section
set_option maxRecDepth 100000
set_option maxHeartbeats 4000000
/-! The walk: rooms.py, copies.py. -/
namespace Pw
open PySem PySem.Spec PyProof.Rows L2
section
variable {P : Program} {w : World} {K : PySem.W.Frag} {mg : Str → Option Value} {base : Heap}
def spRoom (K : PySem.W.Frag) : Sp := fun vs H Q _ => ∃ p rows nd, ∃ k : Int, vs = [.ref p, .int k, .int 120] ∧ SheetAt K H p rows nd ∧ 1 ≤ k ∧ k ≤ 60 ∧ rows.length ≤ 1000 ∧ (rows.length : Int) * k ≤ 120 ∧ Q .non H
theorem sc_need_room : FnScope ["sheet", "passes", "most"] ["sheet", "passes", "most"] (defScope s_need_room) := ⟨rfl, rfl, rfl, by decide +kernel, rfl, by decide +kernel, by decide +kernel⟩
theorem ok_need_room (T : Tx K mg) : Pr P w K mg base 3 (He.ga K "need_room") (fun vs H Q E => spRoom K (vs ++ [.int 120]) H Q E) := by
  obtain ⟨fd, F⟩ := T.f_need_room
  obtain ⟨_, FI⟩ := T.f_is_between
  obtain ⟨_, tm⟩ := T.i_MOST_PASSES
  obtain ⟨ds, rds, hb⟩ := F.binds0 (ps := ["sheet", "passes", "most"]) 2 (by simp) rfl (fun D doc pm an cdv ct us ks h1 h2 => match us, ks, h1, h2 with
    | [_, _], [_], _, _ => ⟨_, _, _, _, _, _, rfl, rfl, rfl⟩)
  refine (FnOk.raw ?_ hb rds).imp fun vs H Q E z => z
  refine F.ok sc_need_room (fun vs H Q E h => ?_) fun cdv A outer s H vs Q E hr h => ?_
  · obtain ⟨p, rows, nd, k, rfl, _⟩ := h
    rfl
  · obtain ⟨p, rows, nd, k, rfl, hs, h1, h2, h3, h4, q⟩ := h
    have hs' := hs
    obtain ⟨dx, aN, aD, aO, z, e1, _⟩ := hs'
    refine ⟨_, PSs.nox (pss_cons (ps_if (pt_not (pt_val (pc (ok_is_between T) hr FI.kp T.g_is_between (pa_cons (pv 1) (pa_cons pe_int (pa_cons (pe_glob (v := .int 60) (by rfl) tm ⟨_, rfl⟩) pa_nil)))))) pss_never pss_nil)
      (pss_one (ps_if (pt_cmpR op_gt (pe_op op_mul (pe_callB (call_lenC (T.sp_Sheet_len).1 (T.sp_Sheet_len).2 (ok_len T) (hr.mono (by decide))) (by rfl) T.b_len (by decide +kernel) (pa_cons (pv 0) pa_nil)) (pv 1)) (pv 2) (nomark _)) pss_never pss_nil))), ?_⟩
    refine ⟨_, rfl, k, 1, 60, rfl, _, rfl, ?_⟩
    rw [decide_eq_true (show (1 : Int) ≤ k ∧ k ≤ 60 from ⟨h1, h2⟩)]
    refine iteF ?_
    refine ⟨_, rfl, p, dx, _, rfl, e1, ⟨p, rows, nd, rfl, hs, rows.length, rfl, by omega, ?_⟩⟩
    refine ⟨_, rfl, _, _, rfl, rfl, .inl ⟨by omega, by omega⟩, _, rfl, _, _, rfl, rfl, _, rfl, ?_⟩
    rw [decide_eq_false (show ¬ (120 : Int) < (rows.length : Int) * k by omega)]
    exact iteF q
def spIsCopy (K : PySem.W.Frag) : Sp := fun vs H Q _ => ∃ p rows nd, ∃ (k : Nat) (v : V) (c : Cpy), vs = [.ref p, .int k, v] ∧ SheetAt K H p rows nd ∧ PairV v c H ∧ c ∈ Lat.allC rows k ∧ Q (.bl true) H
theorem sc_is_copy : FnScope ["sheet", "passes", "value"] ["sheet", "passes", "value"] (defScope s_is_copy) := ⟨rfl, rfl, rfl, by decide +kernel, rfl, by decide +kernel, by decide +kernel⟩
theorem ok_is_copy (T : Tx K mg) : Pr P w K mg base 3 (He.ga K "is_copy") (spIsCopy K) := by
  obtain ⟨fd, F⟩ := T.f_is_copy
  obtain ⟨_, FI⟩ := T.f_is_between
  refine pr_of (fn_t F sc_is_copy (fun _ _ _ _ _ _ us hl => match us, hl with | [_, _, _], _ => rfl) (fun vs H Q E h => ?_) fun cdv A outer s H vs Q E hr h => ?_)
  · obtain ⟨p, rows, nd, k, v, c, rfl, _⟩ := h
    rfl
  · obtain ⟨p, rows, nd, k, v, c, rfl, hs, ⟨a, rfl, ha⟩, hc, q⟩ := h
    have hs' := hs
    obtain ⟨dx, aN, aD, aO, z, e1, _⟩ := hs'
    obtain ⟨m1, m2, m3⟩ := Lat.mem_allC.mp hc
    refine ⟨_, pss_cons (ps_if (PW.pt (pw_or (pt_not (pt_val (pe_callB call_isi (by rfl) T.b_isinstance (by decide +kernel) (pa_cons (pv 2) (pa_cons (pe_bltn (x := "tuple") (v := .ty "tuple") (by rfl) T.b_tuple (by decide +kernel) rfl) pa_nil)))))
        (pw_or (pt_cmpR op_ne (pe_callB call_len_seq (by rfl) T.b_len (by decide +kernel) (pa_cons (pv 2) pa_nil)) pe_int (nomark _))
          (pw_or1 (pt_not (pt_val (pe_callB call_isi (by rfl) T.b_isinstance (by decide +kernel) (pa_cons (pe_ix ix_tup (pv 2) pe_int (fun _ _ => rfl)) (pa_cons (pe_bltn (x := "str") (v := .ty "str") (by rfl) T.b_str (by decide +kernel) rfl) pa_nil))))))))) pss_never pss_nil)
      (pss_one (ps_ret (pe_and (pe_cmpR (op_inC (T.sp_Sheet_contains).1 (T.sp_Sheet_contains).2 (ok_has T) (hr.mono (by decide))) (pe_ix ix_tup (pv 2) pe_int (fun _ _ => rfl)) (pv 0) (by rfl))
        (pe_one (pc (ok_is_between T) hr FI.kp T.g_is_between (pa_cons (pe_ix ix_tup (pv 2) pe_int (fun _ _ => rfl)) (pa_cons pe_int (pa_cons (pv 1) pa_nil)))))))), ?_⟩
    refine ⟨_, rfl, _, _, _, _, true, rfl, .ty _, .base (.tup ha), kit_ty (by decide +kernel), true, rfl, iteF ?_⟩
    refine ⟨_, rfl, a, _, rfl, .inr (.of ha), ?_⟩
    refine ⟨rfl, _, rfl, ?_⟩
    refine iteNS rfl ?_
    refine ⟨_, rfl, a, _, _, _, rfl, rfl, .of ha, rfl, ?_⟩
    refine ⟨_, _, _, _, true, rfl, .ty _, .base (.str _), kit_ty (by decide +kernel), true, rfl, iteF ?_⟩
    refine ⟨_, rfl, a, _, _, _, rfl, rfl, .of ha, rfl, ?_⟩
    refine ⟨_, rfl, p, dx, _, rfl, e1, ⟨p, rows, nd, c.1, rfl, hs, m1, true, rfl, ?_⟩⟩
    refine ⟨true, rfl, iteT ?_⟩
    refine ⟨_, rfl, a, _, _, _, rfl, rfl, .of ha, rfl, ?_⟩
    refine ⟨_, rfl, c.2, 1, k, rfl, ?_⟩
    rw [decide_eq_true (show (1 : Int) ≤ c.2 ∧ c.2 ≤ k from ⟨m2, m3⟩)]
    exact q
def spPlace : Sp := fun vs H Q _ => ∃ (a : Addr) (v : V) (c : Cpy) (rows : List Str), vs = [.ref a, v] ∧ PairV v c H ∧ H a = some (.dK (ordK rows)) ∧ c.1 ∈ rows ∧ ∀ p H', Same H H' → H' p = some (.tup [.int c.2, .int (rows.idxOf c.1 : Nat)]) → Q (.ref p) H'
theorem sc_place_in : FnScope ["order", "copy", "name", "number"] ["order", "copy"] (defScope s_place_in) := ⟨rfl, rfl, rfl, by decide +kernel, rfl, by decide +kernel, by decide +kernel⟩
theorem ok_place_in (T : Tx K mg) : Pr P w K mg base 1 (He.ga K "place_in") spPlace := by
  obtain ⟨fd, F⟩ := T.f_place_in
  refine pr_of (fn_t F sc_place_in (fun _ _ _ _ _ _ us hl => match us, hl with | [_, _], _ => rfl) (fun vs H Q E h => ?_) fun cdv A outer s H vs Q E hr h => ?_)
  · obtain ⟨a, v, c, rows, rfl, _⟩ := h
    rfl
  · obtain ⟨a, v, c, rows, rfl, ⟨b, rfl, hb⟩, ha, hm, q⟩ := h
    refine ⟨_, pss_cons (ps_asg (pv 1) (pg_tup rfl (pgs_cons (pg_name (i := 2) sc_place_in.nd rfl (.inl rfl)) (pgs_cons (pg_name (i := 3) sc_place_in.nd rfl (.inl rfl)) pgs_nil))))
      (pss_one (ps_ret (pe_tup (pa_cons (pv 3) (pa_cons (pe_dget (hu_of hr) (pv 0) (pv 2) (fun _ _ => rfl)) pa_nil))))), ?_⟩
    refine ⟨_, rfl, b, _, rfl, .of hb, rfl, _, _, rfl, _, _, rfl, rfl, ?_⟩
    refine ⟨_, rfl, _, rfl, _, rfl, a, .int (rows.idxOf c.1 : Nat), rfl, ?_, by show 2 ≤ sizeLine; decide, fun t ht => ?_⟩
    · have z := DGet.k (k := Sum.inr c.1) ha
      rw [valV_ord hm] at z
      exact z
    · exact q t _ (Same.new ht) upd_same
theorem plt_eq {rows : List Str} {a b : Cpy} : decide (b.2 < a.2 ∨ (b.2 = a.2 ∧ ((rows.idxOf b.1 : Nat) : Int) < (rows.idxOf a.1 : Nat))) = Lat.plt rows b a := by
  unfold Lat.plt
  rw [Bool.eq_iff_iff, Bool.or_eq_true, Bool.and_eq_true, decide_eq_true_eq, decide_eq_true_eq, decide_eq_true_eq, decide_eq_true_eq]
  constructor
  · rintro (h | ⟨h1, h2⟩)
    · exact .inl h
    · exact .inr ⟨h1, by omega⟩
  · rintro (h | ⟨h1, h2⟩)
    · exact .inl h
    · exact .inr ⟨h1, by omega⟩
def spIsBar : Sp := fun vs H Q _ => ∃ (ao ab : Addr) (v1 v2 : V) (c1 c2 : Cpy) (rows : List Str) (nd : Str → List Str), vs = [.ref ao, .ref ab, v1, v2] ∧ PairV v1 c1 H ∧ PairV v2 c2 H ∧ H ao = some (.dK (ordK rows)) ∧ BelowAt H ab rows nd ∧ c1.1 ∈ rows ∧ c2.1 ∈ rows ∧
  ∀ H', Same H H' → Q (.bl (bars rows nd c1 c2)) H'
theorem sc_is_bar : FnScope ["order", "below", "one", "other"] ["order", "below", "one", "other"] (defScope s_is_bar) := ⟨rfl, rfl, rfl, by decide +kernel, rfl, by decide +kernel, by decide +kernel⟩
theorem ok_is_bar (T : Tx K mg) : Pr P w K mg base 2 (He.ga K "is_bar") spIsBar := by
  obtain ⟨fd, F⟩ := T.f_is_bar
  obtain ⟨_, FP⟩ := T.f_place_in
  refine pr_of (fn_t F sc_is_bar (fun _ _ _ _ _ _ us hl => match us, hl with | [_, _, _, _], _ => rfl) (fun vs H Q E h => ?_) fun cdv A outer s H vs Q E hr h => ?_)
  · obtain ⟨ao, ab, v1, v2, c1, c2, rows, nd, rfl, _⟩ := h
    rfl
  · obtain ⟨ao, ab, v1, v2, c1, c2, rows, nd, rfl, p1, p2, ho, hb, m1, m2, q⟩ := h
    have p1' := p1
    have p2' := p2
    obtain ⟨a1, rfl, h1⟩ := p1'
    obtain ⟨a2, rfl, h2⟩ := p2'
    obtain ⟨kvs, hk, hr2⟩ := hb
    obtain ⟨d, ks, hv, hd, hdep⟩ := hr2 c2.1 m2
    refine ⟨_, pss_cons (ps_if (PW.pt (pw_and (pt_cmpR op_ne (pe_ix ix_tup (pv 2) pe_int (fun _ _ => rfl)) (pe_ix ix_tup (pv 3) pe_int (fun _ _ => rfl)) (nomark _))
        (pw_and1 (pt_cmp (pc_dnotin (hu_of hr) (pe_ix ix_tup (pv 2) pe_int (fun _ _ => rfl)) (pe_dget (hu_of hr) (pv 1) (pe_ix ix_tup (pv 3) pe_int (fun _ _ => rfl)) (fun _ _ => rfl))))))) (pss_one (ps_ret pe_bl)) pss_nil)
      (pss_one (ps_ret (pe_cmpR (op_gtT2 (Nat.lt_of_succ_lt (hu_of hr))) (pc (ok_place_in T) hr FP.kp T.g_place_in (pa_cons (pv 0) (pa_cons (pv 2) pa_nil))) (pc (ok_place_in T) hr FP.kp T.g_place_in (pa_cons (pv 0) (pa_cons (pv 3) pa_nil))) (nomark _)))), ?_⟩
    have last : bars rows nd c1 c2 = (true && Lat.plt rows c2 c1) → tRet (tOp (fun x y H Q => ∃ (a b : Addr) (i j k l : Int), x = .ref a ∧ y = .ref b ∧ SqT K H a [.int i, .int j] ∧ SqT K H b [.int k, .int l] ∧ Q (.bl (decide (k < i ∨ (k = i ∧ l < j)))) H)
        (tCl spPlace (tCons (tVar 0) (tCons (tVar 2) tNil))) (tCl spPlace (tCons (tVar 0) (tCons (tVar 3) tNil)))) { nx := fun _ H' => Q .non H', rt := Q } (start ["order", "below", "one", "other"] [V.ref ao, V.ref ab, V.ref a1, V.ref a2]) H := fun e => by
      refine ⟨_, rfl, _, rfl, ao, _, c1, rows, rfl, p1, ho, m1, fun pA HA sA eA => ?_⟩
      refine ⟨_, rfl, _, rfl, ao, _, c2, rows, rfl, p2.same sA, sA _ _ ho, m2, fun pB HB sB eB => ?_⟩
      refine ⟨pA, pB, _, _, _, _, rfl, rfl, .of (sB _ _ eA), .of eB, ?_⟩
      have z := q HB (sA.trans sB)
      rw [e, Bool.true_and, ← plt_eq] at z
      exact z
    refine ⟨_, rfl, a1, _, _, _, rfl, rfl, .of h1, rfl, _, rfl, a2, _, _, _, rfl, rfl, .of h2, rfl, rfl, _, rfl, ?_⟩
    refine iB (fun hne => ?_) (fun he => ?_)
    · have ne : c1.1 ≠ c2.1 := by
        intro z
        rw [z] at hne
        simp at hne
      refine ⟨_, rfl, a1, _, _, _, rfl, rfl, .of h1, rfl, _, rfl, _, rfl, a2, _, _, _, rfl, rfl, .of h2, rfl, ab, .ref d, rfl, ?_, d, valV ks (Sum.inr c1.1), rfl, DGet.k (k := Sum.inr c1.1) hd, _, rfl, ?_⟩
      · have z := DGet.k (k := Sum.inr c2.1) hk
        rw [hv] at z
        exact z
      · refine iB (fun hn => ?_) (fun hy => ?_)
        · have z := q H (Same.refl H)
          have e : bars rows nd c1 c2 = false := by
            have h3 : depB nd c1.1 c2.1 = false := by
              cases h4 : depB nd c1.1 c2.1 with
              | false => rfl
              | true =>
                have h5 := (hdep c1.1).mpr (depB_iff.mp h4)
                rw [h5] at hn
                exact absurd hn (by decide)
            show ((decide (c1.1 = c2.1) || depB nd c1.1 c2.1) && _) = false
            rw [h3, decide_eq_false ne]
            rfl
          rw [e] at z
          exact z
        · have h5 : (valV ks (Sum.inr c1.1)).isSome = true := by simpa using hy
          refine last ?_
          show ((decide (c1.1 = c2.1) || depB nd c1.1 c2.1) && _) = _
          rw [depB_iff.mpr ((hdep c1.1).mp h5), Bool.or_true]
    · have e : c1.1 = c2.1 := by simpa using he
      refine last ?_
      show ((decide (c1.1 = c2.1) || depB nd c1.1 c2.1) && _) = _
      rw [decide_eq_true e, Bool.true_or]
end
end Pw
end
section
set_option maxRecDepth 100000
set_option maxHeartbeats 4000000
/-! The walk: copies_of; texts. -/
namespace Pw
open PySem PySem.Spec PyProof.Rows L2
section
variable {P : Program} {w : World} {K : PySem.W.Frag} {mg : Str → Option Value} {base : Heap}
def spCopiesOf (K : PySem.W.Frag) : Sp := fun vs H Q _ => ∃ p rows nd, ∃ k : Nat, vs = [.ref p, .int k] ∧ SheetAt K H p rows nd ∧ 1 ≤ k ∧ rows.length * k ≤ 12 ∧ k ≤ 12 ∧ rows.length ≤ 12 ∧
  ∀ D out H', Same H H' → H D = none → H' D = some (.lst out) → All2 (fun v c => PairV v c H') out (Lat.allP rows k) → Q (.ref D) H'
theorem sc_copies_of : FnScope ["sheet", "passes", "number", "name"] ["sheet", "passes"] (defScope s_copies_of) := ⟨rfl, rfl, rfl, by decide +kernel, rfl, by decide +kernel, by decide +kernel⟩
theorem ok_copies_of (T : Tx K mg) : Pr P w K mg base 4 (He.ga K "copies_of") (spCopiesOf K) := by
  obtain ⟨fd, F⟩ := T.f_copies_of
  obtain ⟨_, FR⟩ := T.f_need_room
  obtain ⟨fdr, FW⟩ := ok_rows (P := P) (w := w) (base := base) T
  refine pr_of (fn_t F sc_copies_of (fun _ _ _ _ _ _ us hl => match us, hl with | [_, _], _ => rfl) (fun vs H Q E h => ?_) fun cdv A outer s H vs Q E hr h => ?_)
  · obtain ⟨p, rows, nd, k, rfl, _⟩ := h
    rfl
  · obtain ⟨p, rows, nd, k, rfl, hs, h1, h2, h3, h4, q⟩ := h
    refine ⟨_, pss_cons (ps_expr (pc (ok_need_room T) hr FR.kp T.g_need_room (pa_cons (pv 0) (pa_cons (pv 1) pa_nil))))
      (pss_one (ps_ret (pe_lc2 (own := [("number", 2), ("name", 3)]) (vs1 := [3]) (g := gName 2) (g1 := gName 3) (tt := tYes) (tt1 := tYes) (wi1 := iTup K (tProp (He.ga K "Sheet") (spRows K) [] E0 (tVar 0))) rfl sc_copies_of.nd (pi_range2 (by rfl) T.b_range (pa_cons pe_int (pa_cons (pe_op op_add (pv 1) pe_int) pa_nil)))
        (blkOk_by (N := ["sheet", "passes", "number", "name"]) (sc := defScope s_copies_of) (by decide +kernel)) (by decide)
        (fun _ _ _ _ _ => pg_name (i := 2) sc_copies_of.nd rfl (Or.inl rfl)) (fun _ _ _ _ _ => pts_nil)
        (fun _ _ _ _ _ => pi_tup (pprop (pv 0) T.cl_Sheet T.pr_Sheet_rows FW (hr.mono (by decide))))
        (fun _ _ _ _ _ => pg_name (i := 3) sc_copies_of.nd rfl (Or.inl rfl)) (fun _ _ _ _ _ => pts_nil)
        (fun _ _ _ _ _ => pe_tup (pa_cons (pv 3) (pa_cons (pv 2) pa_nil)))))), ?_⟩
    have hl : (rows.length : Int) * k ≤ 120 := by
      have z : ((rows.length * k : Nat) : Int) ≤ 12 := by omega
      rw [Int.natCast_mul] at z
      omega
    refine ⟨_, rfl, _, rfl, p, rows, nd, k, rfl, hs, by omega, by omega, by omega, hl, ?_⟩
    refine ⟨_, rfl, _, _, rfl, rfl, 1, (k : Int) + 1, rfl, ⟨by omega, by omega, by omega, by omega⟩, fun D hD => ?_⟩
    rw [show ((k : Int) + 1 - 1).toNat = k by omega]
    have hpl : ∀ i, i ≤ k → (Lat.allP rows i).length ≤ 12 := fun i hi => by
      rw [Lat.allP_len]
      exact Nat.le_trans (Nat.mul_le_mul_left _ hi) h2
    refine walk_gen (n := k) walk_range (fun i H' => GrR PairV H D (Lat.allP rows i) H') (GrR.start hD) (fun _ _ _ _ => trivial) ?_ ?_
    · rintro i x _ H2 hi g ⟨rfl, rfl⟩
      refine ⟨rfl, yes ?_⟩
      have hs2 := hs.same g.1
      obtain ⟨dx, aN, aD, aO, z, e1, e2, _⟩ := id hs2
      refine ⟨_, rfl, p, dx, _, rfl, e1, ⟨p, rows, nd, rfl, hs2.lite, fun a ha => ?_⟩⟩
      refine ⟨a, rfl, ⟨_, .of ha⟩, ?_⟩
      have haD : a ≠ D := by
        obtain ⟨_, vs0, e0, _⟩ := g
        exact ne_of ha e0 (by intro z; cases z)
      refine walk_gen (n := (rows.map V.str).length) walk_tup (fun j H' => GrR PairV H D (Lat.allP rows i ++ (rows.take j).map fun r => (r, ((i : Nat) : Int) + 1)) H' ∧ SameX D H2 H') ⟨by simpa using g, Pw.Same.x (Same.refl _)⟩ (fun j H' _ g' => .of (g'.2 _ _ haD ha)) ?_ ?_
      · rintro j y _ H3 hj ⟨g3, s3⟩ ⟨rfl, hy⟩
        refine ⟨rfl, yes ?_⟩
        rw [List.length_map] at hj
        rw [List.getElem?_map, List.getElem?_eq_getElem hj] at hy
        cases hy
        refine ⟨_, rfl, _, rfl, by show 2 ≤ sizeLine; decide, fun t ht => ?_⟩
        have hln : (Lat.allP rows i ++ (rows.take j).map fun r => ((r, ((i : Nat) : Int) + 1) : Cpy)).length < sizeLine := by
          have q1 := hpl i (by omega)
          rw [List.length_append, List.length_map, List.length_take, sizeLine_eq]
          omega
        obtain ⟨acc, a1, a2, a3⟩ := g3.add (y := .ref t) (t := (rows[j], ((i : Nat) : Int) + 1)) PairV.mono hD (Same.new ht) ⟨t, rfl, by rw [Int.add_comm]; exact upd_same⟩ hln
        refine ⟨acc, a1, a2, ?_, (s3.trans (Pw.Same.x (Same.new ht))).trans .set⟩
        rw [List.take_add_one, List.getElem?_eq_getElem hj, List.map_append, ← List.append_assoc]
        exact a3
      · rintro H3 ⟨g3, _⟩
        rw [List.length_map, List.take_length] at g3
        show GrR PairV H D (Lat.allP rows (i + 1)) H3
        rw [Lat.allP_succ]
        exact g3
    · rintro H2 ⟨s2, out, e, a⟩
      exact q D out H2 s2 hD e a
end
end Pw
end
section
set_option maxRecDepth 100000
set_option maxHeartbeats 4000000
/-! The walk: texts.py. -/
namespace Pw
open PySem PySem.Spec PyProof.Rows L2
theorem sum_le {m : Nat} : ∀ {l : List Str}, (∀ z ∈ l, z.length ≤ m) → (l.map (·.length)).sum ≤ l.length * m
  | [], _ => by simp
  | x :: l, h => by
    have h1 := h x List.mem_cons_self
    have h2 := sum_le (l := l) fun z hz => h z (List.mem_cons_of_mem _ hz)
    rw [List.map_cons, List.sum_cons, List.length_cons, Nat.succ_mul]
    omega
theorem join_le {sep : Str} {l : List Str} {m n s : Nat} (h : ∀ z ∈ l, z.length ≤ m) (hl : l.length ≤ n) (hs : sep.length ≤ s) : (l.map (·.length)).sum + l.length * sep.length ≤ n * (m + s) := by
  have h1 := sum_le h
  have h2 : l.length * m ≤ n * m := Nat.mul_le_mul_right _ hl
  have h3 : l.length * sep.length ≤ n * s := Nat.mul_le_mul hl hs
  rw [Nat.mul_add]
  omega
theorem txtJoin (sep : Str) (l : List Str) : Txt.join sep l = Str.join sep l := eq_of_beq (PyProof.Rows.join_plain_closes sep l)
theorem len_app (a b : Str) : (a ++ b).length = a.length + b.length := by
  show (a.cps ++ b.cps).size = a.cps.size + b.cps.size
  rw [Array.size_append]
theorem strs_of {α : Type} {m : Nat} : ∀ {vs : List V} {ts : List α}, All2 (fun v _ => ∃ z : Str, v = .str z ∧ z.length ≤ m) vs ts → ∃ ys : List Str, vs = ys.map V.str ∧ ∀ z ∈ ys, z.length ≤ m
  | [], [], _ => ⟨[], rfl, by simp⟩
  | _ :: _, _ :: _, a => by
    obtain ⟨⟨z, rfl, hz⟩, b⟩ := a
    obtain ⟨ys, rfl, hy⟩ := strs_of b
    exact ⟨z :: ys, rfl, fun x hx => by rcases List.mem_cons.mp hx with e | e; rw [e]; exact hz; exact hy x e⟩
  | [], _ :: _, a => a.elim
  | _ :: _, [], a => a.elim
theorem Sh.ndle {rows : List Str} {nd : Str → List Str} (S : Sh rows nd) {r : Str} (h : r ∈ rows) : (nd r).length ≤ rows.length := Lat.len_sub (S.ndd r h) (S.sub r h)
section
variable {P : Program} {w : World} {K : PySem.W.Frag} {mg : Str → Option Value} {base : Heap}
def spRowText : Sp := fun vs H Q _ => ∃ (r : Str) (t : Addr) (l : List Str), vs = [.str r, .ref t] ∧ H t = some (.tup (l.map V.str)) ∧ r.length ≤ 8 ∧ (∀ z ∈ l, NameOk z) ∧ l.length ≤ 12 ∧ ∀ z H', Same H H' → z.length ≤ 200 → Q (.str z) H'
theorem sc_row_text : FnScope ["name", "needed"] ["name", "needed"] (defScope s_row_text) := ⟨rfl, rfl, rfl, by decide +kernel, rfl, by decide +kernel, by decide +kernel⟩
theorem ok_row_text (T : Tx K mg) : Pr P w K mg base 1 (He.ga K "row_text") spRowText := by
  obtain ⟨fd, F⟩ := T.f_row_text
  refine pr_of (fn_t F sc_row_text (fun _ _ _ _ _ _ us hl => match us, hl with | [_, _], _ => rfl) (fun vs H Q E h => ?_) fun cdv A outer s H vs Q E hr h => ?_)
  · obtain ⟨r, t, l, rfl, _⟩ := h
    rfl
  · obtain ⟨r, t, l, rfl, ht, hr8, hok, hl, q⟩ := h
    refine ⟨_, pss_one (ps_ret (pe_ifExp (pt_cmpR (op_neD (hr.units)) (pv 1) (pe_tup pa_nil) (nomark _))
      (pe_join pe_str (pe_lst (pa_cons (pe_joined (.cons (pe_fmt (pv 0)) (.cons pe_str .nil))) (StX.pa_star (pv 1) pa_nil)))) (pv 0))), ?_⟩
    refine ⟨_, rfl, by show 0 ≤ sizeLine; decide, fun e he => ?_⟩
    have s1 : Same H (upd H e (.tup [])) := Same.new he
    have ht1 := s1 _ _ ht
    refine ⟨ssD l, ssD [], dp_ss (.of ht1), dp_ss (l := []) (.of upd_same), ssD_shaped fun z hz => (hok z hz).strOk, ssD_shaped (by simp), _, rfl, ?_⟩
    rw [ssD_eqv]
    refine iB (fun hne => ?_) (fun he0 => ?_)
    · refine ⟨⟨_, rfl⟩, ?_⟩
      refine ⟨_, rfl, .inl ⟨r, rfl, by rw [sizeLine_eq]; omega, ⟨r, rfl, ?_, ?_⟩⟩⟩
      · rw [len_app, sizeLine_eq]
        show 0 + r.length ≤ _
        omega
      refine ⟨_, rfl, ?_, ?_⟩
      · rw [len_app, len_app, sizeLine_eq]
        show 0 + r.length + 1 ≤ _
        omega
      refine ⟨_, rfl, t, _, rfl, .inl (.of ht1), ?_⟩
      refine ⟨by simp [sizeLine_eq]; omega, fun p hp => ?_⟩
      have hb : ∀ z ∈ (Str.empty ++ r ++ (":" : Str)) :: l, z.length ≤ 9 := fun z hz => by
        rcases List.mem_cons.mp hz with e1 | hz
        · rw [e1, len_app, len_app]
          show 0 + r.length + 1 ≤ 9
          omega
        · exact Nat.le_trans (hok z hz).le (by decide)
      have hj := join_le (sep := (" " : Str)) (n := 13) (s := 1) hb (by simp; omega) (by decide)
      refine ⟨_, p, (Str.empty ++ r ++ (":" : Str)) :: l, rfl, rfl, .inl (.of (by rw [upd_same]; simp)), by omega, (by rw [txtJoin]; exact q (Str.join (" " : Str) ((Str.empty ++ r ++ (":" : Str)) :: l)) _ (s1.trans (Same.new hp)) (Nat.le_trans (StrLaws.join_length_le _ _) (Nat.le_trans hj (by decide))))⟩
    · exact ⟨_, rfl, q r _ s1 (by omega)⟩
def spSheetText (K : PySem.W.Frag) : Sp := fun vs H Q _ => ∃ p rows nd, vs = [.ref p] ∧ Sh rows nd ∧ SheetL K H p rows nd ∧ ∀ z H', Same H H' → Q (.str z) H'
theorem sc_sheet_text : FnScope ["sheet", "needs", "name"] ["sheet"] (defScope s_sheet_text) := ⟨rfl, rfl, rfl, by decide +kernel, rfl, by decide +kernel, by decide +kernel⟩
theorem ok_sheet_text (T : Tx K mg) : Pr P w K mg base 3 (He.ga K "sheet_text") (spSheetText K) := by
  obtain ⟨fd, F⟩ := T.f_sheet_text
  obtain ⟨_, FR⟩ := T.f_row_text
  obtain ⟨_, FW⟩ := ok_rows (P := P) (w := w) (base := base) T
  obtain ⟨_, FN⟩ := ok_needs (P := P) (w := w) (base := base) T
  refine pr_of (fn_t F sc_sheet_text (fun _ _ _ _ _ _ us hl => match us, hl with | [_], _ => rfl) (fun vs H Q E h => ?_) fun cdv A outer s H vs Q E hr h => ?_)
  · obtain ⟨p, rows, nd, rfl, _⟩ := h
    rfl
  · obtain ⟨p, rows, nd, rfl, S, hs, q⟩ := h
    refine ⟨_, pss_cons (ps_set (i := 1) sc_sheet_text.nd rfl (Or.inr rfl) (pprop (pv 0) T.cl_Sheet T.pr_Sheet_needs FN hr))
      (pss_one (ps_ret (pe_join pe_str (pe_lc (own := [("name", 2)]) (g := gName 2) (tt := tYes) rfl sc_sheet_text.nd (pi_tup (pprop (pv 0) T.cl_Sheet T.pr_Sheet_rows FW hr)) (blkOk_by (N := ["sheet", "needs", "name"]) (sc := defScope s_sheet_text) (by decide +kernel))
        (fun _ _ _ _ _ => pg_name (i := 2) sc_sheet_text.nd rfl (Or.inl rfl)) (fun _ _ _ _ _ => pts_nil) (fun _ _ _ _ _ => pc (ok_row_text T) (hr.mono (by decide)) FR.kp T.g_row_text (pa_cons (pv 2) (pa_cons (pe_dget (hu_of hr) (pv 1) (pv 2) (fun _ _ => rfl)) pa_nil))))))), ?_⟩
    obtain ⟨dx, aN, aD, fs, e1, l1, l2, l3, l4, e2, e3⟩ := id hs
    refine ⟨_, rfl, p, dx, _, rfl, e1, ⟨p, rows, nd, rfl, hs, fun a H1 s1 ha hm => ?_⟩⟩
    refine ⟨⟨_, rfl⟩, _, rfl, p, dx, _, rfl, s1 _ _ e1, ⟨p, rows, nd, rfl, hs.same s1, fun aR haR => ⟨aR, rfl, ⟨_, .of haR⟩, fun D hD => ?_⟩⟩⟩
    refine lc_gr (α := Unit) (R := fun v _ _ => ∃ z : Str, v = .str z ∧ z.length ≤ 200) ⟨fun _ _ _ _ _ e => e, fun _ _ _ _ _ _ _ _ e => e⟩ (walk_tup (xs := rows.map V.str)) hD (by rw [List.length_map, sizeLine_eq]; have := S.le; omega) (fun _ => true) (fun _ => ()) (fun H2 s2 => .of (s2 _ _ haR)) (fun _ _ _ _ _ y => by rw [y.1]; exact Same.refl _) ?_ ?_
    · rintro i x _ H2 A B hi s2 _ ⟨rfl, hx⟩ hA _
      refine ⟨rfl, yes ?_⟩
      rw [List.length_map] at hi
      rw [List.getElem?_map, List.getElem?_eq_getElem hi] at hx
      cases hx
      have hmem : rows[i] ∈ rows := List.getElem_mem hi
      obtain ⟨vs, hd, hall⟩ := hm
      obtain ⟨v, hv, t, rfl, ht⟩ := zip_val hall hmem
      refine ⟨_, rfl, _, rfl, _, rfl, a, .ref t, rfl, ?_, ⟨rows[i], t, nd rows[i], rfl, s2 _ _ ht, (S.ok _ hmem).le, fun z hz => S.ok _ (S.sub _ hmem _ hz), ?_, fun z H3 s3 hz => hA rfl _ _ s3 ⟨z, rfl, hz⟩⟩⟩
      · have z := DGet.k (k := Sum.inr rows[i]) (s2 _ _ hd)
        rw [hv] at z
        exact z
      · exact Nat.le_trans (S.ndle hmem) S.le
    · intro out H2 s2 e al
      obtain ⟨ys, rfl, hy⟩ := strs_of al
      have hl := al.len
      have h1 := outs_len (fun _ => true) (fun _ => ()) (rows.map V.str).length
      have h2 := S.le
      rw [List.length_map] at hl
      have h3 : (rows.map V.str).length = rows.length := List.length_map ..
      have hj := join_le (sep := ("\n" : Str)) (n := 12) (s := 1) hy (by omega) (by decide)
      exact ⟨_, D, ys, rfl, rfl, .inl (.of e), Nat.le_trans hj (by decide), q _ _ (s1.trans s2)⟩
def spCopiesText : Sp := fun vs H Q _ => ∃ (a : Addr) (xs : List V) (cs : List Cpy), vs = [.ref a] ∧ H a = some (.tup xs) ∧ All2 (fun v c => PairV v c H) xs cs ∧ cs.length ≤ 12 ∧ (∀ c ∈ cs, NameOk c.1 ∧ 0 ≤ c.2 ∧ c.2 ≤ 60) ∧ ∀ z H', Same H H' → Q (.str z) H'
theorem sc_copies_text : FnScope ["copies", "name", "number"] ["copies"] (defScope s_copies_text) := ⟨rfl, rfl, rfl, by decide +kernel, rfl, by decide +kernel, by decide +kernel⟩
theorem num_len : ∀ n : Nat, n ≤ 60 → (Str.ofString (toString (n : Int))).length ≤ 2 := by
  have h : ((List.range 61).all fun n => decide ((Str.ofString (toString ((n : Nat) : Int))).length ≤ 2)) = true := by decide +kernel
  intro n hn
  exact of_decide_eq_true (List.all_eq_true.mp h n (List.mem_range.mpr (by omega)))
theorem num_log : ∀ n : Nat, n ≤ 60 → ((n : Int)).natAbs.log2 < 1920 := by
  have h : ((List.range 61).all fun n => decide (((n : Nat) : Int).natAbs.log2 < 1920)) = true := by decide +kernel
  intro n hn
  exact of_decide_eq_true (List.all_eq_true.mp h n (List.mem_range.mpr (by omega)))
theorem ok_copies_text (T : Tx K mg) : Pr P w K mg base 1 (He.ga K "copies_text") spCopiesText := by
  obtain ⟨fd, F⟩ := T.f_copies_text
  obtain ⟨_, tn⟩ := T.t_NOTHING
  refine pr_of (fn_t F sc_copies_text (fun _ _ _ _ _ _ us hl => match us, hl with | [_], _ => rfl) (fun vs H Q E h => ?_) fun cdv A outer s H vs Q E hr h => ?_)
  · obtain ⟨a, xs, cs, rfl, _⟩ := h
    rfl
  · obtain ⟨a, xs, cs, rfl, ha, al, hl, hc, q⟩ := h
    refine ⟨_, pss_one (ps_ret (pe_ifExp (pt_cmpR (op_neD (hr.units)) (pv 0) (pe_tup pa_nil) (nomark _))
      (pe_join pe_str (pe_lc (own := [("name", 1), ("number", 2)]) (g := gTup K 2 (gCons (gName 1) (gCons (gName 2) gNil))) (tt := tYes) rfl sc_copies_text.nd (pi_tup (pv 0)) (blkOk_by (N := ["copies", "name", "number"]) (sc := defScope s_copies_text) (by decide +kernel))
        (fun _ _ _ _ _ => pg_tup rfl (pgs_cons (pg_name (i := 1) sc_copies_text.nd rfl (.inl rfl)) (pgs_cons (pg_name (i := 2) sc_copies_text.nd rfl (.inl rfl)) pgs_nil))) (fun _ _ _ _ _ => pts_nil)
        (fun _ _ _ _ _ => pe_joined (.cons (pe_fmt (pv 1)) (.cons pe_str (.cons (pe_fmt (pv 2)) .nil))))))
      (pe_glob (v := .str "-") (by rfl) tn ⟨_, rfl⟩))), ?_⟩
    refine ⟨_, rfl, by show 0 ≤ sizeLine; decide, fun e he => ?_⟩
    have s1 : Same H (upd H e (.tup [])) := Same.new he
    have ha1 := s1 _ _ ha
    have al1 : All2 (fun v c => PairV v c (upd H e (.tup []))) xs cs := al.mono fun v c z => z.same s1
    refine ⟨kD cs, kD [], dp_k (.of ha1) al1, dp_k (vs := []) (.of upd_same) trivial, kD_shaped fun c h => (hc c h).1.strOk, kD_shaped (by simp), _, rfl, ?_⟩
    rw [kD_eqv]
    refine iB (fun hne => ?_) (fun he0 => ?_)
    · refine ⟨⟨_, rfl⟩, _, rfl, a, rfl, ⟨_, .of ha1⟩, fun D hD => ?_⟩
      refine lc_gr (α := Unit) (R := fun v _ _ => ∃ z : Str, v = .str z ∧ z.length ≤ 200) ⟨fun _ _ _ _ _ e => e, fun _ _ _ _ _ _ _ _ e => e⟩ (walk_tup (K := K) (a := a) (xs := xs)) (g := gTup K 2 (gCons (gName 1) (gCons (gName 2) gNil))) (tt := tYes) (te := fun σ H Q => tJs [tFmt (tVar 1), tC (.str "*"), tFmt (tVar 2)] Str.empty σ H fun out H1 => Q (.str out) H1) hD (by rw [al.len, sizeLine_eq]; omega) (fun _ => true) (fun _ => ()) (fun H2 s2 => .of (s2 _ _ ha1)) (fun _ _ _ _ _ y => by rw [y.1]; exact Same.refl _) ?_ ?_
      · rintro i x _ H2 A B hi s2 _ ⟨rfl, hx⟩ hA _
        obtain ⟨c, hci, t, rfl, ht⟩ := al1.get hx
        obtain ⟨n1, n2, n3⟩ := hc c (List.mem_of_getElem? hci)
        obtain ⟨m, hm⟩ : ∃ m : Nat, c.2 = m := ⟨c.2.toNat, by omega⟩
        have hml := num_len m (by omega)
        have hn8 := n1.le
        refine ⟨t, _, rfl, .of (s2 _ _ ht), rfl, _, _, rfl, _, _, rfl, rfl, rfl, yes ?_⟩
        refine ⟨_, rfl, .inl ⟨c.1, rfl, by rw [sizeLine_eq]; omega, ⟨c.1, rfl, ?_, ?_⟩⟩⟩
        · rw [len_app, sizeLine_eq]
          show 0 + _ ≤ _
          omega
        refine ⟨_, rfl, ?_, ?_⟩
        · rw [len_app, len_app, sizeLine_eq]
          show 0 + _ + 1 ≤ _
          omega
        rw [hm]
        refine ⟨_, rfl, .inr ⟨(m : Int), rfl, ?_, ⟨_, rfl, ?_, ?_⟩⟩⟩
        · exact num_log m (by omega)
        · rw [len_app, len_app, len_app, sizeLine_eq]
          show 0 + _ + 1 + _ ≤ _
          omega
        · refine hA rfl _ _ (Same.refl _) ⟨_, rfl, ?_⟩
          rw [len_app, len_app, len_app]
          show 0 + _ + 1 + _ ≤ _
          omega
      · intro out H2 s2 e al
        obtain ⟨ys, rfl, hy⟩ := strs_of al
        have hl := al.len
        have h1 := outs_len (fun _ => true) (fun _ => ()) xs.length
        rw [List.length_map] at hl
        have hj := join_le (sep := (" " : Str)) (n := 12) (s := 1) hy (by have := al1.len; omega) (by decide)
        exact ⟨_, D, ys, rfl, rfl, .inl (.of e), Nat.le_trans hj (by decide), q _ _ (s1.trans s2)⟩
    · exact q _ _ s1
end
end Pw
end
section
set_option maxRecDepth 100000
set_option maxHeartbeats 4000000
/-! Dicts by their keys. -/
namespace Pw
open PySem PySem.Spec PyProof.Rows L2
section
variable {α : Type} [DecidableEq α]
def addS (l : List α) (o : α) : List α := if o ∈ l then l else l ++ [o]
theorem mem_addS {l : List α} {o x : α} : x ∈ addS l o ↔ x ∈ l ∨ x = o := by
  unfold addS
  by_cases h : o ∈ l
  · rw [if_pos h]
    constructor
    · exact .inl
    · rintro (h1 | rfl)
      · exact h1
      · exact h
  · rw [if_neg h, List.mem_append, List.mem_singleton]
theorem nodup_addS {l : List α} {o : α} (h : l.Nodup) : (addS l o).Nodup := by
  unfold addS
  by_cases hm : o ∈ l
  · rw [if_pos hm]; exact h
  · rw [if_neg hm]; exact nd_snoc h hm
/-- the keys, in order, are those of l -/
def TK (f : α → Key) (kvs : List (Key × V)) (l : List α) : Prop := kvs.map (·.1) = l.map f
variable {f : α → Key} {kvs : List (Key × V)} {l : List α}
theorem TK.nil : TK f [] [] := rfl
theorem TK.len (h : TK f kvs l) : kvs.length = l.length := by
  have e := congrArg List.length h
  rwa [List.length_map, List.length_map] at e
theorem TK.val (h : TK f kvs l) (hf : ∀ a b, f a = f b → a = b) (o : α) : (valV kvs (f o)).isSome = decide (o ∈ l) := by
  rw [← valV_any, Bool.eq_iff_iff, List.any_eq_true, decide_eq_true_eq]
  constructor
  · rintro ⟨p, hp, e⟩
    have e' := of_decide_eq_true e
    have hm : f o ∈ kvs.map (·.1) := List.mem_map.mpr ⟨p, hp, e'⟩
    rw [h] at hm
    obtain ⟨x, hx, ex⟩ := List.mem_map.mp hm
    rw [← hf _ _ ex]
    exact hx
  · intro hm
    have h2 : f o ∈ kvs.map (·.1) := by rw [h]; exact List.mem_map.mpr ⟨o, hm, rfl⟩
    obtain ⟨p, hp, e⟩ := List.mem_map.mp h2
    exact ⟨p, hp, decide_eq_true e⟩
theorem TK.some (h : TK f kvs l) (hf : ∀ a b, f a = f b → a = b) {o : α} (hm : o ∈ l) : ∃ v, valV kvs (f o) = some v := by
  have e := h.val hf o
  rw [decide_eq_true hm] at e
  exact Option.isSome_iff_exists.mp e
theorem TK.none (h : TK f kvs l) (hf : ∀ a b, f a = f b → a = b) {o : α} (hm : o ∉ l) : valV kvs (f o) = Option.none := by
  have e := h.val hf o
  rw [decide_eq_false hm] at e
  cases q : valV kvs (f o) with
  | none => rfl
  | some v => rw [q] at e; cases e
theorem TK.put (h : TK f kvs l) (hf : ∀ a b, f a = f b → a = b) (o : α) (v : V) : TK f (putK kvs (f o) v) (addS l o) := by
  have e := h.val hf o
  rw [← valV_any] at e
  unfold TK putK addS
  by_cases hm : o ∈ l
  · rw [decide_eq_true hm] at e
    rw [if_pos e, if_pos hm, ← h, List.map_map]
    apply List.map_congr_left
    intro p _
    show (if p.1 = f o then (p.1, v) else p).1 = p.1
    split <;> rfl
  · rw [decide_eq_false hm] at e
    rw [if_neg (by rw [e]; exact Bool.false_ne_true), if_neg hm, List.map_append, List.map_append, h]
    rfl
theorem TK.drop (h : TK f kvs l) (hf : ∀ a b, f a = f b → a = b) (o : α) : TK f (dropK kvs (f o)) (l.filter fun x => decide (x ≠ o)) := by
  unfold TK dropK at *
  induction kvs generalizing l with
  | nil =>
    cases l with
    | nil => rfl
    | cons x xs => cases h
  | cons p r ih =>
    cases l with
    | nil => cases h
    | cons x xs =>
      rw [List.map_cons, List.map_cons] at h
      injection h with h1 h2
      by_cases e : x = o
      · have e2 : p.1 = f o := by rw [h1, e]
        rw [List.filter_cons, if_neg (by simp [e2]), List.filter_cons, if_neg (by simp [e])]
        exact ih h2
      · have e2 : ¬ p.1 = f o := fun z => e (hf _ _ (h1.symm.trans z))
        rw [List.filter_cons, if_pos (by simp [e2]), List.filter_cons, if_pos (by simp [e]), List.map_cons, List.map_cons, h1, ih h2]
theorem TK.map_kV (h : TK f kvs l) : kvs.map (fun kv => kV kv.1) = l.map fun x => kV (f x) := by
  have e := congrArg (List.map kV) h
  rw [List.map_map, List.map_map] at e
  exact e
end
theorem inr_inj : ∀ a b : Str, (Sum.inr a : Key) = Sum.inr b → a = b := fun _ _ h => Sum.inr.inj h
theorem inl_inj : ∀ a b : Int, (Sum.inl a : Key) = Sum.inl b → a = b := fun _ _ h => Sum.inl.inj h
/-- a dict whose keys are the texts of l, l without doubles -/
def SetAt (H : Hp) (d : Addr) (l : List Str) : Prop := ∃ ks, H d = some (.dK ks) ∧ TK Sum.inr ks l ∧ l.Nodup
end Pw
end
section
set_option maxRecDepth 100000
set_option maxHeartbeats 4000000
/-! The walk: needs.py. -/
namespace Pw
open PySem PySem.Spec PyProof.Rows L2
/-- what closure has found so far (the dict at f holds kvs): for each row of done the rows on which it depends -/
def FoundK (H : Hp) (f a : Addr) (kvs : List (Key × V)) (rows : List Str) (nd : Str → List Str) (done : List Str) : Prop := TK Sum.inr kvs done ∧ done.Nodup ∧ (∀ r ∈ done, r ∈ rows) ∧ (∀ r ∈ done, ∀ o ∈ nd r, o ∈ done) ∧
  ∀ r ∈ done, ∃ d l, valV kvs (Sum.inr r) = some (.ref d) ∧ (d ≠ f ∧ d ≠ a) ∧ SetAt H d l ∧ ∀ o, o ∈ l ↔ Dep nd r o
theorem FoundK.keep {H H' : Hp} {f a : Addr} {kvs : List (Key × V)} {rows : List Str} {nd : Str → List Str} {done : List Str} (h : FoundK H f a kvs rows nd done) (s : ∀ b ks, b ≠ f → b ≠ a → H b = some (.dK ks) → H' b = some (.dK ks)) : FoundK H' f a kvs rows nd done := by
  obtain ⟨h1, h2, h3, h4, h5⟩ := h
  refine ⟨h1, h2, h3, h4, fun r hr => ?_⟩
  obtain ⟨d, l, a1, a2, ⟨ks, b1, b2⟩, a4⟩ := h5 r hr
  exact ⟨d, l, a1, a2, ⟨ks, s _ _ a2.1 a2.2 b1, b2⟩, a4⟩
theorem FoundK.put {H H' : Hp} {f a d : Addr} {kvs : List (Key × V)} {rows : List Str} {nd : Str → List Str} {done l : List Str} {r : Str} (h : FoundK H f a kvs rows nd done) (s : ∀ b ks, b ≠ f → b ≠ a → H b = some (.dK ks) → H' b = some (.dK ks)) (hr : r ∈ rows) (hn : r ∉ done)
    (hd : ∀ o ∈ nd r, o ∈ done) (hf : d ≠ f ∧ d ≠ a) (hs : SetAt H' d l) (hl : ∀ o, o ∈ l ↔ Dep nd r o) : FoundK H' f a (putK kvs (Sum.inr r) (.ref d)) rows nd (done ++ [r]) := by
  obtain ⟨h1, h2, h3, h4, h5⟩ := h
  have e : addS done r = done ++ [r] := by unfold addS; rw [if_neg hn]
  refine ⟨e ▸ h1.put inr_inj r _, e ▸ nodup_addS h2, fun x hx => ?_, fun x hx o ho => ?_, fun x hx => ?_⟩
  · rcases List.mem_append.mp hx with hx | hx
    · exact h3 x hx
    · rw [List.mem_singleton.mp hx]; exact hr
  · rcases List.mem_append.mp hx with hx | hx
    · exact List.mem_append_left _ (h4 x hx o ho)
    · rw [List.mem_singleton.mp hx] at ho
      exact List.mem_append_left _ (hd o ho)
  · rcases List.mem_append.mp hx with hx | hx
    · obtain ⟨d', l', a1, a2, ⟨ks, b1, b2⟩, a4⟩ := h5 x hx
      refine ⟨d', l', ?_, a2, ⟨ks, s _ _ a2.1 a2.2 b1, b2⟩, a4⟩
      rw [valV_put, if_neg (fun z => hn (by rw [← Sum.inr.inj z]; exact hx))]
      exact a1
    · rw [List.mem_singleton.mp hx]
      exact ⟨d, l, by rw [valV_put, if_pos rfl], hf, hs, hl⟩
/-- a pass reaches one more row while one is left -/
theorem next_row {rows : List Str} {nd : Str → List Str} (S : Sh rows nd) {done : List Str} (hn : done.length < rows.length) (hd : done.Nodup) : ∃ r ∈ rows, r ∉ done ∧ ∀ o ∈ nd r, o ∈ done := by
  obtain ⟨rk, hrk⟩ := S.acyc
  have key : ∀ n : Nat, ∀ r ∈ rows, r ∉ done → rk r ≤ n → ∃ r ∈ rows, r ∉ done ∧ ∀ o ∈ nd r, o ∈ done := by
    intro n
    induction n with
    | zero =>
      intro r hr hnr h0
      refine ⟨r, hr, hnr, fun o ho => ?_⟩
      have := hrk r hr o ho
      omega
    | succ n ih =>
      intro r hr hnr hle
      by_cases h : ∀ o ∈ nd r, o ∈ done
      · exact ⟨r, hr, hnr, h⟩
      · have h' : ∃ o, o ∈ nd r ∧ o ∉ done := by
          refine Classical.byContradiction fun z => h fun o ho => Classical.byContradiction fun zz => z ⟨o, ho, zz⟩
        obtain ⟨o, ho, hno⟩ := h'
        have := hrk r hr o ho
        exact ih o (S.sub r hr o ho) hno (by omega)
  have h : ∃ r, r ∈ rows ∧ r ∉ done := by
    refine Classical.byContradiction fun z => ?_
    have := Lat.len_sub S.nodup (l' := done) fun x hx => Classical.byContradiction fun zz => z ⟨x, hx, zz⟩
    omega
  obtain ⟨r, hr, hnr⟩ := h
  exact key _ r hr hnr (Nat.le_refl _)
theorem dep_iff {nd : Str → List Str} {r o : Str} : Dep nd r o ↔ ∃ m ∈ nd r, o = m ∨ Dep nd m o := by
  constructor
  · intro h
    cases h with
    | one e => exact ⟨o, e, .inl rfl⟩
    | step e h => exact ⟨_, e, .inr h⟩
  · rintro ⟨m, hm, rfl | h⟩
    · exact .one hm
    · exact .step hm h
theorem all_mem (l d : List Str) : ((List.range (l.map V.str).length).map fun j => decide (l.getD j Str.empty ∈ d)).all id = l.all fun o => decide (o ∈ d) := by
  rw [List.length_map, List.all_map]
  have e : l.all (fun o => decide (o ∈ d)) = ((List.range l.length).map fun j => l.getD j Str.empty).all fun o => decide (o ∈ d) := by
    congr 1
    apply List.ext_getElem
    · simp
    · intro i h1 h2
      simp [List.getD_eq_getElem?_getD, h1]
  rw [e, List.all_map]
  rfl
abbrev clD (rows : List Str) (na : List V) : List (Key × V) := List.zipWith (fun r v => ((Sum.inr r : Key), v)) rows na
def ClS (p a f : Addr) (σ : L2.St) : Prop := ∃ x3 x4 x5 x6 : Option V, σ = [some (.ref p), some (.ref a), some (.ref f), x3, x4, x5, x6]
/-- before turn i of a pass -/
def ClI (p a f : Addr) (rows : List Str) (nd : Str → List Str) (na : List V) (od : Obj) (done : List Str) (H1 : Hp) (i : Nat) (σ : L2.St) (H'' : Hp) : Prop := ClS p a f σ ∧ (∀ b o, b ≠ f → b ≠ a → H1 b = some o → H'' b = some o) ∧ H'' a = some (.frz od (.dK (clD rows na))) ∧
  ∃ kvs' done', H'' f = some (.dK kvs') ∧ FoundK H'' f a kvs' rows nd done' ∧ (∀ r ∈ done, r ∈ done') ∧ ∀ j r, j < i → rows[j]? = some r → (∀ o ∈ nd r, o ∈ done) → r ∈ done'
section
variable {P : Program} {w : World} {K : PySem.W.Frag} {mg : Str → Option Value} {base : Heap}
def spClosure (K : PySem.W.Frag) : Sp := fun vs H Q _ => ∃ p rows nd, vs = [.ref p] ∧ Sh rows nd ∧ SheetL K H p rows nd ∧ ∀ a H', Same H H' → H a = none → BelowAt H' a rows nd → Q (.ref a) H'
theorem sc_closure : FnScope ["sheet", "needs", "found", "name", "others", "other", "row"] ["sheet"] (defScope s_closure) := ⟨rfl, rfl, rfl, by decide +kernel, rfl, by decide +kernel, by decide +kernel⟩
theorem ok_closure (T : Tx K mg) : Pr P w K mg base 3 (He.ga K "closure") (spClosure K) := by
  obtain ⟨fd, F⟩ := T.f_closure
  obtain ⟨_, FN⟩ := ok_needs (P := P) (w := w) (base := base) T
  refine pr_of (fn_t F sc_closure (fun _ _ _ _ _ _ us hl => match us, hl with | [_], _ => rfl) (fun vs H Q E h => ?_) fun cdv A outer s H vs Q E hr h => ?_)
  · obtain ⟨p, rows, nd, rfl, _⟩ := h
    rfl
  · obtain ⟨p, rows, nd, rfl, S, hs, q⟩ := h
    have hu := hu_of hr
    refine ⟨_, pss_cons (ps_set (i := 1) sc_closure.nd rfl (Or.inl rfl) (pprop (pv 0) T.cl_Sheet T.pr_Sheet_needs FN hr))
      (pss_cons (ps_set (i := 2) sc_closure.nd rfl (Or.inr rfl) pe_dnewK)
      (pss_cons (ps_while PassesOwn.never (pt_cmpR op_lt (pe_callB call_lenD (by rfl) T.b_len (by decide +kernel) (pa_cons (pv 2) pa_nil)) (pe_callB call_lenD (by rfl) T.b_len (by decide +kernel) (pa_cons (pv 1) pa_nil)) (nomark _))
        (pss_one (ps_lock (ps_for PassesOwn.never rfl (pi_items (pv 1)) (pg_tup rfl (pgs_cons (pg_name (i := 3) sc_closure.nd rfl (.inl rfl)) (pgs_cons (pg_name (i := 4) sc_closure.nd rfl (.inl rfl)) pgs_nil)))
          (pss_one (ps_if (PW.pt (pw_and (pt_cmp (pc_dnotin hu (pv 3) (pv 2)))
              (pw_and1 (pt_val (pe_callB (cr_all rfl) (by rfl) T.b_all (by decide +kernel) (pa_cons (pe_lc (own := [("other", 5)]) (g := gName 5) (tt := tYes) rfl sc_closure.nd (pi_tup (pv 4)) (blkOk_by (N := ["sheet", "needs", "found", "name", "others", "other", "row"]) (sc := defScope s_closure) (by decide +kernel))
                (fun _ _ _ _ _ => pg_name (i := 5) sc_closure.nd rfl (Or.inl rfl)) (fun _ _ _ _ _ => pts_nil) (fun _ _ _ _ _ => pe_cmp (pc_din hu (pv 5) (pv 2)) rfl)) pa_nil))))))
            (pss_one (ps_dput hu (pv 2) (pv 3) (pe_dc2 (own := [("other", 5), ("row", 6)]) (vs1 := [6]) (g := gName 5) (g1 := gName 6) (tt := tYes) (tt1 := tYes) rfl sc_closure.nd (pi_tup (pv 4)) (blkOk_by (N := ["sheet", "needs", "found", "name", "others", "other", "row"]) (sc := defScope s_closure) (by decide +kernel)) (by decide)
                (fun _ _ _ _ _ => pg_name (i := 5) sc_closure.nd rfl (Or.inl rfl)) (fun _ _ _ _ _ => pts_nil)
                (wi1 := iTup K (tTup (tCons (tVar 5) (tStarD (tDGet (tVar 2) (tVar 5)) tNil))))
                (fun _ _ _ _ _ => pi_tup (pe_tup (pa_cons (pv 5) (pa_starD rfl (pe_dget hu (pv 2) (pv 5) (fun _ _ => rfl)) pa_nil))))
                (fun _ _ _ _ _ => pg_name (i := 6) sc_closure.nd rfl (Or.inl rfl)) (fun _ _ _ _ _ => pts_nil)
                (fun _ _ _ _ _ => pv 6) (fun _ _ _ _ _ => pe_bl)) rfl)) pss_nil))))))
      (pss_one (ps_ret (pv 2))))), ?_⟩
    obtain ⟨dx, aN, aD, fs, e1, l1, l2, l3, l4, e2, e3⟩ := id hs
    refine ⟨_, rfl, p, dx, _, rfl, e1, ⟨p, rows, nd, rfl, hs, fun a H1 s1 ha hm => fun f hf => ?_⟩⟩
    obtain ⟨na, hna, hall⟩ := hm
    have hfa : f ≠ a := fun z => by rw [z, hna] at hf; cases hf
    have nal := hall.len
    have nk : (clD rows na).length = rows.length := by rw [clD, List.length_zipWith, nal]; omega
    refine ⟨fun m σ H' => ∃ x3 x4 x5 x6 kvs done, σ = [some (.ref p), some (.ref a), some (.ref f), x3, x4, x5, x6] ∧ m = rows.length - done.length ∧ H' f = some (.dK kvs) ∧ SameX f H1 H' ∧ FoundK H' f a kvs rows nd done,
      ⟨_, none, none, none, none, [], [], rfl, rfl, upd_same, .set, rfl, List.nodup_nil, by simp, by simp, by simp⟩, ?_⟩
    rintro m σ H' ⟨x3, x4, x5, x6, kvs, done, rfl, rfl, hk, sx, fk⟩
    have hna' : H' a = some (.dK _) := sx a _ (Ne.symm hfa) hna
    refine ⟨_, rfl, f, _, rfl, hk, _, rfl, a, _, rfl, hna', _, _, rfl, rfl, _, rfl, ?_⟩
    rw [fk.1.len, nk]
    refine iB (fun hlt => ?_) (fun hge => ?_)
    · have hlt' : done.length < rows.length := by
        have := of_decide_eq_true hlt
        omega
      refine ⟨fun σ' H'' => ∃ x3 x4 x5 x6 kvs' done', σ' = [some (.ref p), some (.ref a), some (.ref f), x3, x4, x5, x6] ∧ done.length < done'.length ∧ H'' f = some (.dK kvs') ∧ SameX f H1 H'' ∧ FoundK H'' f a kvs' rows nd done', ?_, ?_⟩
      · rintro σ' H'' ⟨x3, x4, x5, x6, kvs', done', rfl, hl, h1, h2, h3⟩
        have h4 := Lat.len_sub h3.2.1 h3.2.2.1
        exact ⟨_, by omega, x3, x4, x5, x6, kvs', done', rfl, rfl, h1, h2, h3⟩
      · refine ⟨a, _, hna', trivial, fun od => ?_⟩
        have hfz : (upd H' a (.frz od (.dK (clD rows na)))) a = some (.frz od (.dK (clD rows na))) := upd_same
        refine ⟨_, rfl, a, od, _, rfl, hfz, ?_⟩
        refine for_it (n := (clD rows na).length) walk_items (fun i σ' H'' => ClI p a f rows nd na od done H1 i σ' H'')
          ⟨⟨x3, x4, x5, x6, rfl⟩, fun b o h1 h2 e => by rw [upd_ne h2]; exact sx b o h1 e, hfz, kvs, done, by rw [upd_ne hfa]; exact hk, fk.keep fun b ks h1 h2 e => by rw [upd_ne h2]; exact e, fun r h => h, fun j r h => absurd h (Nat.not_lt_zero _)⟩
          (fun i σ' H'' _ h => h.2.2.1) ?_ ?_
        · rintro i x σ' H'' H3 hi ⟨⟨x3, x4, x5, x6, rfl⟩, h2, h3, kvs', done', h1, h4, h5, h6⟩ ⟨Tn, kx, vx, rfl, hTn, rfl, hkx, hvx⟩
          rw [nk] at hi
          have hrow : rows[i]? = some rows[i] := List.getElem?_eq_getElem hi
          generalize hrr : rows[i] = r at hrow
          have hr : r ∈ rows := List.mem_of_getElem? hrow
          obtain ⟨v, hv, t, rfl, ht⟩ := hall.get' hrow
          have hz : (clD rows na)[i]? = some (Sum.inr r, .ref t) := by rw [clD, List.getElem?_zipWith, hrow, hv]
          simp only [hz] at hkx hvx
          cases hkx
          cases hvx
          show gTup K 2 (gCons (gName 3) (gCons (gName 4) gNil)) _ _ (upd H'' Tn (.tup [.str r, .ref t])) _
          have sT : Same H'' (upd H'' Tn (.tup [.str r, .ref t])) := Same.new hTn
          have htf : t ≠ f := fun z => by rw [z, hf] at ht; cases ht
          have hta : t ≠ a := ne_of ht hna (by intro z; cases z)
          have ht'' : (upd H'' Tn (.tup [.str r, .ref t])) t = some (.tup ((nd r).map V.str)) := sT _ _ (h2 _ _ htf hta ht)
          have h1' := sT _ _ h1
          -- what is met when the turn ends with nothing new
          have skip : ∀ H5, Same (upd H'' Tn (.tup [.str r, .ref t])) H5 → (r ∈ done' ∨ ∃ o ∈ nd r, o ∉ done') → ClI p a f rows nd na od done H1 (i + 1) [some (.ref p), some (.ref a), some (.ref f), some (.str r), some (.ref t), x5, x6] H5 := fun H5 s5 hh => by
            refine ⟨⟨_, _, x5, x6, rfl⟩, fun b o n1 n2 e => s5 _ _ (sT _ _ (h2 b o n1 n2 e)), s5 _ _ (sT _ _ h3), kvs', done', s5 _ _ h1', h4.keep fun b ks _ _ e => s5 _ _ (sT _ _ e), h5, fun j r' hj er ho => ?_⟩
            rcases Nat.lt_or_ge j i with hlt | hge
            · exact h6 j r' hlt er ho
            · have : j = i := by omega
              subst this
              rw [hrow] at er
              cases er
              rcases hh with hh | ⟨o, ho1, ho2⟩
              · exact hh
              · exact absurd (h5 o (ho o ho1)) ho2
          refine ⟨Tn, _, rfl, .of upd_same, rfl, _, _, rfl, _, _, rfl, rfl, ?_⟩
          refine ⟨_, rfl, _, rfl, f, _, rfl, DGet.k (k := Sum.inr r) h1', _, rfl, ?_⟩
          rw [h4.1.val inr_inj]
          refine iB (fun hni => ?_) (fun hin => ?_)
          · have hnr : r ∉ done' := by simpa using hni
            refine ⟨_, rfl, t, rfl, ⟨_, .of ht''⟩, fun D hD => ?_⟩
            refine lc_gr (Mono.eq V.bl) (walk_tup (K := K) (a := t) (xs := (nd r).map V.str)) hD (by rw [List.length_map, sizeLine_eq]; have := S.ndle hr; have := S.le; omega) (fun _ => true) (fun j => decide ((nd r).getD j Str.empty ∈ done')) (fun H4 s4 => .of (s4 _ _ ht'')) (fun _ _ _ _ _ y => by rw [y.1]; exact Same.refl _) ?_ ?_
            · rintro j y _ H4 A B hj s4 _ ⟨rfl, hy⟩ hA _
              rw [List.length_map] at hj
              rw [List.getElem?_map, List.getElem?_eq_getElem hj] at hy
              cases hy
              refine ⟨rfl, yes ⟨_, rfl, _, rfl, f, _, rfl, DGet.k (k := Sum.inr (nd r)[j]) (s4 _ _ h1'), ?_⟩⟩
              rw [h4.1.val inr_inj]
              refine hA rfl _ _ (Same.refl _) ?_
              rw [List.getD_eq_getElem?_getD, List.getElem?_eq_getElem hj]
              rfl
            · intro out H4 s4 e al
              rw [outs_all] at al
              rw [al.eq] at e
              refine ⟨D, (List.range ((nd r).map V.str).length).map fun j => decide ((nd r).getD j Str.empty ∈ done'), rfl, .inl (.inl e), _, rfl, ?_⟩
              rw [all_mem]
              refine iB (fun hyes => ?_) (fun hno => ?_)
              · have hin : ∀ o ∈ nd r, o ∈ done' := fun o ho => of_decide_eq_true (List.all_eq_true.mp hyes o ho)
                have f4 : FoundK H4 f a kvs' rows nd done' := h4.keep fun b ks _ _ e => s4 _ _ (sT _ _ e)
                have k4 := s4 _ _ h1'
                refine ⟨_, rfl, t, rfl, ⟨_, .of (s4 _ _ ht'')⟩, fun D2 hD2 => ?_⟩
                have hD2f : D2 ≠ f := fun z => by rw [z, k4] at hD2; cases hD2
                have haD : a ≠ D2 := fun z => by rw [← z, s4 _ _ (sT _ _ h3)] at hD2; cases hD2
                have hD2t : t ≠ D2 := fun z => by rw [← z, s4 _ _ ht''] at hD2; cases hD2
                refine walk_gen (n := ((nd r).map V.str).length) walk_tup (fun j H5 => ∃ ks l, H5 D2 = some (.dK ks) ∧ TK Sum.inr ks l ∧ l.Nodup ∧ SameX D2 H4 H5 ∧ ∀ x, x ∈ l ↔ ∃ m ∈ (nd r).take j, x = m ∨ Dep nd m x)
                  ⟨[], [], upd_same, rfl, List.nodup_nil, .set, by simp⟩ (fun j H5 _ g => by obtain ⟨ks, l, _, _, _, sx5, _⟩ := g; exact .of (sx5 _ _ hD2t (s4 _ _ ht''))) ?_ ?_
                · rintro j y _ H5 hj ⟨ks, l, c1, c2, c3, c4, c5⟩ ⟨rfl, hy⟩
                  rw [List.length_map] at hj
                  rw [List.getElem?_map, List.getElem?_eq_getElem hj] at hy
                  cases hy
                  refine ⟨rfl, yes ?_⟩
                  generalize hmm : (nd r)[j] = m
                  have hmr : m ∈ nd r := by rw [← hmm]; exact List.getElem_mem hj
                  obtain ⟨d, lm, b1, b2, ⟨km, b3, b4, b5⟩, b6⟩ := f4.2.2.2.2 m (hin m hmr)
                  have hdD : d ≠ D2 := fun z => by rw [← z, b3] at hD2; cases hD2
                  have fg := DGet.k (k := Sum.inr m) (c4 _ _ (Ne.symm hD2f) k4)
                  rw [b1] at fg
                  refine ⟨_, rfl, _, rfl, _, rfl, f, .ref d, rfl, fg, d, km, rfl, c4 _ _ hdD b3, ?_⟩
                  have hlr : ∀ x ∈ lm, x ∈ rows := fun x hx => S.dep ((b6 x).mp hx) (S.sub r hr m hmr)
                  have hl12 := Lat.len_sub b5 hlr
                  have hle := S.le
                  have exs : V.str m :: ((km.map fun kv => kV kv.1) ++ []) = (m :: lm).map V.str := by rw [b4.map_kV, List.append_nil]; rfl
                  refine ⟨by rw [exs, List.length_map, List.length_cons, sizeLine_eq]; omega, fun t2 ht2 => ⟨t2, rfl, ⟨_, .of upd_same⟩, ?_⟩⟩
                  rw [exs]
                  have ht2D : t2 ≠ D2 := fun z => by rw [z, c1] at ht2; cases ht2
                  have g0 : SameX D2 H4 (upd H5 t2 (.tup ((m :: lm).map V.str))) := c4.trans (Pw.Same.x (Same.new ht2))
                  refine walk_gen (n := ((m :: lm).map V.str).length) walk_tup (fun j2 H6 => ∃ ks l, H6 D2 = some (.dK ks) ∧ TK Sum.inr ks l ∧ l.Nodup ∧ SameX D2 H4 H6 ∧ H6 t2 = some (.tup ((m :: lm).map V.str)) ∧ ∀ x, x ∈ l ↔ (∃ m' ∈ (nd r).take j, x = m' ∨ Dep nd m' x) ∨ x ∈ (m :: lm).take j2)
                    ⟨ks, l, by rw [upd_ne (Ne.symm ht2D)]; exact c1, c2, c3, g0, upd_same, fun x => by rw [c5]; simp⟩ (fun j2 H6 _ g => by obtain ⟨_, _, _, _, _, _, g6, _⟩ := g; exact .of g6) ?_ ?_
                  · rintro j2 y2 _ H6 hj2 ⟨ks2, l2, a1, a2, a3, a4, a5, a6⟩ ⟨rfl, hy2⟩
                    rw [List.length_map] at hj2
                    rw [List.getElem?_map, List.getElem?_eq_getElem hj2] at hy2
                    cases hy2
                    have sub2 : ∀ x ∈ l2, x ∈ rows := fun x hx => by
                      rcases (a6 x).mp hx with ⟨m', hm', e⟩ | hx2
                      · have hm'' := S.sub r hr m' (List.mem_of_mem_take hm')
                        rcases e with rfl | e
                        · exact hm''
                        · exact S.dep e hm''
                      · rcases List.mem_cons.mp (List.mem_of_mem_take hx2) with rfl | hx3
                        · exact S.sub r hr _ hmr
                        · exact hlr x hx3
                    have l212 := Lat.len_sub a3 sub2
                    refine ⟨rfl, yes ⟨_, rfl, ks2, Sum.inr (m :: lm)[j2], rfl, a1, by rw [a2.len, sizeLine_eq]; omega, _, _, upd_same, a2.put inr_inj _ _, nodup_addS a3, a4.trans .set, by rw [upd_ne ht2D]; exact a5, fun x => ?_⟩⟩
                    rw [mem_addS, a6, List.take_add_one, List.getElem?_eq_getElem hj2, List.mem_append]
                    simp [or_assoc]
                  · rintro H6 ⟨ks2, l2, a1, a2, a3, a4, a5, a6⟩
                    rw [List.length_map, List.take_length] at a6
                    refine ⟨ks2, l2, a1, a2, a3, a4, fun x => ?_⟩
                    rw [a6, List.take_add_one, List.getElem?_eq_getElem hj, hmm]
                    constructor
                    · rintro (⟨m', hm', e⟩ | hx)
                      · exact ⟨m', List.mem_append_left _ hm', e⟩
                      · refine ⟨m, List.mem_append_right _ (by simp), ?_⟩
                        rcases List.mem_cons.mp hx with hx | hx
                        · exact .inl hx
                        · exact .inr ((b6 x).mp hx)
                    · rintro ⟨m', hm', e⟩
                      rcases List.mem_append.mp hm' with hm' | hm'
                      · exact .inl ⟨m', hm', e⟩
                      · have em : m' = m := by simpa using hm'
                        subst em
                        refine .inr ?_
                        rcases e with e | e
                        · rw [e]; exact List.mem_cons_self
                        · exact List.mem_cons_of_mem _ ((b6 x).mpr e)
                · rintro H5 ⟨ks, l, c1, c2, c3, c4, c5⟩
                  rw [List.length_map, List.take_length] at c5
                  have k5 := c4 _ _ (Ne.symm hD2f) k4
                  have lenk : kvs'.length < sizeLine := by
                    rw [h4.1.len, sizeLine_eq]
                    have := Lat.len_sub h4.2.1 h4.2.2.1
                    have := S.le
                    omega
                  refine ⟨_, rfl, _, rfl, f, _, rfl, DPut.k (k := Sum.inr r) k5 lenk, ⟨_, _, x5, x6, rfl⟩, fun b o n1 n2 e => ?_, ?_, _, done' ++ [r], upd_same, ?_, fun x hx => List.mem_append_left _ (h5 x hx), fun j' r' hj' er ho => ?_⟩
                  · have e4 := s4 _ _ (sT _ _ (h2 b o n1 n2 e))
                    rw [upd_ne n1]
                    exact c4 _ _ (fun z => by rw [z, hD2] at e4; cases e4) e4
                  · rw [upd_ne (Ne.symm hfa)]
                    exact c4 _ _ haD (s4 _ _ (sT _ _ h3))
                  · refine f4.put (fun b ks' n1 n2 e => ?_) hr hnr hin ⟨hD2f, Ne.symm haD⟩ ⟨ks, by rw [upd_ne hD2f]; exact c1, c2, c3⟩ fun o => ?_
                    · rw [upd_ne n1]
                      exact c4 _ _ (fun z => by rw [z, hD2] at e; cases e) e
                    · rw [c5, dep_iff]
                  · rcases Nat.lt_or_ge j' i with hlt | hge
                    · exact List.mem_append_left _ (h6 j' r' hlt er ho)
                    · have : j' = i := by omega
                      subst this
                      rw [hrow] at er
                      cases er
                      exact List.mem_append_right _ (List.mem_singleton.mpr rfl)
              · refine skip H4 s4 (.inr (Classical.byContradiction fun z => ?_))
                have : (nd r).all (fun o => decide (o ∈ done')) = true := List.all_eq_true.mpr fun o ho => decide_eq_true (Classical.byContradiction fun zz => z ⟨o, ho, zz⟩)
                rw [this] at hno
                cases hno
          · exact skip _ (Same.refl _) (.inl (by simpa using hin))
        · rintro σ' H'' ⟨⟨x3, x4, x5, x6, rfl⟩, h2, h3, kvs', done', h1, h4, h5, h6⟩
          refine ⟨h3, x3, x4, x5, x6, kvs', done', rfl, ?_, by rw [upd_ne hfa]; exact h1, fun b o n e => ?_, h4.keep fun b ks n n2 e => by rw [upd_ne n2]; exact e⟩
          · rw [nk] at h6
            obtain ⟨r, hr, hnr, hall2⟩ := next_row S hlt' fk.2.1
            obtain ⟨j, hj, ej⟩ := List.mem_iff_getElem.mp hr
            have hmem := h6 j r hj (by rw [List.getElem?_eq_getElem hj, ej]) hall2
            have hsub := Lat.len_sub (l := r :: done) (l' := done') (List.nodup_cons.mpr ⟨hnr, fk.2.1⟩) fun x hx => by
              rcases List.mem_cons.mp hx with rfl | hx
              · exact hmem
              · exact h5 x hx
            rw [List.length_cons] at hsub
            omega
          · by_cases hb : b = a
            · subst hb
              rw [upd_same, ← e, hna]
            · rw [upd_ne hb]
              exact h2 b o n hb e
    · have hall2 : ∀ r ∈ rows, r ∈ done := fun r hr => Classical.byContradiction fun hn => by
        have hsub := Lat.len_sub (l := r :: done) (l' := rows) (List.nodup_cons.mpr ⟨hn, fk.2.1⟩) fun x hx => by
          rcases List.mem_cons.mp hx with rfl | hx
          · exact hr
          · exact fk.2.2.1 x hx
        have hge' := of_decide_eq_false hge
        rw [List.length_cons] at hsub
        omega
      refine ⟨_, rfl, q f H' (fun b o e => sx b o (fun z => by rw [z, s1.free hf] at e; cases e) (s1 _ _ e)) (s1.free hf) ⟨kvs, hk, fun r hr => ?_⟩⟩
      obtain ⟨d, l, a1, _, ⟨ks, b1, b2, _⟩, a4⟩ := fk.2.2.2.2 r (hall2 r hr)
      exact ⟨d, ks, a1, b1, fun o => by rw [b2.val inr_inj, decide_eq_true_eq]; exact a4 o⟩
end
end Pw
end
section
set_option maxRecDepth 100000
set_option maxHeartbeats 4000000
/-! The walk: rings.py. -/
namespace Pw
open PySem PySem.Spec PyProof.Rows L2
section
variable {K : PySem.W.Frag}
theorem hu65 {A : Around} {k : Nat} (hr : Room k A) : A.units + 65 < cLine := by have := hr.un; omega
theorem any_mem (l d : List Str) : ((List.range (l.map V.str).length).map fun j => decide (l.getD j Str.empty ∈ d)).any id = l.any fun o => decide (o ∈ d) := by
  rw [List.length_map, List.any_map]
  have e : l.any (fun o => decide (o ∈ d)) = ((List.range l.length).map fun j => l.getD j Str.empty).any fun o => decide (o ∈ d) := by
    congr 1
    apply List.ext_getElem
    · simp
    · intro i h1 h2
      simp [List.getD_eq_getElem?_getD, h1]
  rw [e, List.any_map]
  rfl
/-- [name for name, others in left.items() if ..] -/
theorem items_lc {s0 s2 s3 s4 s5 : Option V} {l : Addr} {rows : List Str} {nd : Str → List Str} {vs : List V} {tt : TT} {H : Hp} {Q : VK} (hl : H l = some (.dK (clD rows vs))) (hall : All2 (fun v r => TupV nd v r H) vs rows) (hle : rows.length ≤ 12) (p : Str → Bool)
    (ht : ∀ (r : Str) (t : Addr) (H2 : Hp) (Qb : Bool → Hp → Prop) (od : Obj), r ∈ rows → SameX l H H2 → H2 l = some (.frz od (.dK (clD rows vs))) → H2 t = some (.tup ((nd r).map V.str)) → (∀ H3, Same H2 H3 → Qb (p r) H3) → tt [s0, some (.ref l), s2, some (.str r), some (.ref t), s5] H2 Qb)
    (hq : ∀ D H', Same H H' → H D = none → H' D = some (.lst ((rows.filter p).map V.str)) → Q (.ref D) H') :
    tLockE (tLc (iItems (tVar 1)) (gTup K 2 (gCons (gName 3) (gCons (gName 4) gNil))) tt (tVar 3) [3, 4]) [s0, some (.ref l), s2, s3, s4, s5] H Q := by
  refine ⟨l, _, hl, trivial, fun od => ⟨_, rfl, l, od, _, rfl, upd_same, fun D hD => ?_⟩⟩
  have hlD : D ≠ l := fun z => by rw [z, upd_same] at hD; cases hD
  have hDn : H D = none := by rwa [upd_ne hlD] at hD
  have lenv := hall.len
  have hlen : (clD rows vs).length = rows.length := by rw [clD, List.length_zipWith, lenv]; omega
  refine lc_gr (Mono.eq V.str) (walk_items (kvs := clD rows vs)) hD (by rw [hlen, sizeLine_eq]; omega) (fun i => p (rows.getD i Str.empty)) (fun i => rows.getD i Str.empty) (fun H2 s2 => s2 _ _ upd_same) (fun _ _ _ _ _ y => by obtain ⟨T, _, _, _, e1, e2, _⟩ := y; rw [e2]; exact Same.new e1) ?_ ?_
  · rintro i x H2 H3 A B hi s2 s3 ⟨Tn, kx, vx, rfl, hTn, rfl, hkx, hvx⟩ hA hB
    rw [hlen] at hi
    have hrow : rows[i]? = some rows[i] := List.getElem?_eq_getElem hi
    obtain ⟨v, hv, t, rfl, htt⟩ := hall.get' hrow
    have hz : (clD rows vs)[i]? = some (Sum.inr rows[i], .ref t) := by rw [clD, List.getElem?_zipWith, hrow, hv]
    simp only [hz] at hkx hvx
    cases hkx
    cases hvx
    have eg : rows.getD i Str.empty = rows[i] := by rw [List.getD_eq_getElem?_getD, hrow]; rfl
    rw [eg] at hA hB
    have htl : t ≠ l := ne_of htt hl (by intro z; cases z)
    have sx : SameX l H (upd H2 Tn (.tup [.str rows[i], .ref t])) := fun b o n e => Same.new hTn _ _ (s2 _ _ (by rw [upd_ne n]; exact e))
    show gTup K 2 (gCons (gName 3) (gCons (gName 4) gNil)) _ _ (upd H2 Tn (.tup [.str rows[i], .ref t])) _
    refine ⟨Tn, _, rfl, .of upd_same, rfl, _, _, rfl, _, _, rfl, rfl, rfl, ?_⟩
    refine ht rows[i] t _ _ od (List.getElem_mem hi) sx (Same.new hTn _ _ (s2 _ _ upd_same)) (sx _ _ htl htt) fun H4 s4 => ?_
    refine iB (fun hp => ⟨_, rfl, hA hp _ _ s4 rfl⟩) (fun hp => hB hp _ s4)
  · intro out H2 s2 e al
    refine ⟨s2 _ _ upd_same, hq D _ (fun b o hb => ?_) hDn ?_⟩
    · by_cases hbl : b = l
      · rw [hbl, upd_same, ← hb, hbl, hl]
      · rw [upd_ne hbl]
        exact s2 _ _ (by rw [upd_ne hbl]; exact hb)
    · rw [upd_ne hlD, e, al.eq, hlen, show outs (fun i => p (rows.getD i Str.empty)) (fun i => rows.getD i Str.empty) rows.length = (rows.filter p).map id from outs_list Str.empty p id rows, List.map_id]
theorem clD_snoc {rows : List Str} {vs : List V} (h : vs.length = rows.length) (r : Str) (v : V) : clD rows vs ++ [(Sum.inr r, v)] = clD (rows ++ [r]) (vs ++ [v]) := by
  unfold clD
  rw [List.zipWith_append (by rw [h])]
  rfl
theorem clD_TK {rows : List Str} {vs : List V} (h : vs.length = rows.length) : TK Sum.inr (clD rows vs) rows := by
  unfold TK clD
  induction rows generalizing vs with
  | nil => rfl
  | cons r rs ih =>
    cases vs with
    | nil => cases h
    | cons v vs =>
      rw [List.zipWith_cons_cons, List.map_cons, List.map_cons, ih (by simpa using h)]
theorem clD_put {rows : List Str} {vs : List V} (h : vs.length = rows.length) {r : Str} (hr : r ∉ rows) (v : V) : putK (clD rows vs) (Sum.inr r) v = clD (rows ++ [r]) (vs ++ [v]) := by
  have e := (clD_TK h).none inr_inj hr
  have e2 := valV_any (Sum.inr r : Key) (clD rows vs)
  rw [e] at e2
  unfold putK
  rw [if_neg (by rw [e2]; exact Bool.false_ne_true), clD_snoc h]
/-- {name: others for name, others in left.items() if ..} -/
theorem items_dc {s0 s2 s3 s4 s5 : Option V} {l : Addr} {rows : List Str} {nd : Str → List Str} {vs : List V} {tt : TT} {H : Hp} {Q : VK} (hnd : rows.Nodup) (hl : H l = some (.dK (clD rows vs))) (hall : All2 (fun v r => TupV nd v r H) vs rows) (hle : rows.length ≤ 12) (p : Str → Bool)
    (ht : ∀ (r : Str) (t : Addr) (H2 : Hp) (Qb : Bool → Hp → Prop) (od : Obj), r ∈ rows → SameX l H H2 → H2 l = some (.frz od (.dK (clD rows vs))) → H2 t = some (.tup ((nd r).map V.str)) → (∀ H3, Same H2 H3 → Qb (p r) H3) → tt [s0, some (.ref l), s2, some (.str r), some (.ref t), s5] H2 Qb)
    (hq : ∀ D H' vs', Same H H' → H D = none → H' D = some (.dK (clD (rows.filter p) vs')) → All2 (fun v r => TupV nd v r H') vs' (rows.filter p) → Q (.ref D) H') :
    tLockE (tDc (iItems (tVar 1)) (gTup K 2 (gCons (gName 3) (gCons (gName 4) gNil))) tt (tVar 3) (tVar 4) [3, 4]) [s0, some (.ref l), s2, s3, s4, s5] H Q := by
  refine ⟨l, _, hl, trivial, fun od => ⟨_, rfl, l, od, _, rfl, upd_same, fun D hD => ?_⟩⟩
  have hlD : D ≠ l := fun z => by rw [z, upd_same] at hD; cases hD
  have hDn : H D = none := by rwa [upd_ne hlD] at hD
  have lenv := hall.len
  have hlen : (clD rows vs).length = rows.length := by rw [clD, List.length_zipWith, lenv]; omega
  refine walk_gen (n := (clD rows vs).length) walk_items (fun i H' => ∃ vs', H' D = some (.dK (clD ((rows.take i).filter p) vs')) ∧ All2 (fun v r => TupV nd v r H) vs' ((rows.take i).filter p) ∧ SameX D (upd H l (.frz od (.dK (clD rows vs)))) H')
    ⟨[], upd_same, trivial, .set⟩ (fun i H' _ g => by obtain ⟨_, _, _, g⟩ := g; exact g _ _ (Ne.symm hlD) upd_same) ?_ ?_
  · rintro i x H2 H3 hi ⟨vs', g1, g2, g3⟩ ⟨Tn, kx, vx, rfl, hTn, rfl, hkx, hvx⟩
    rw [hlen] at hi
    have hrow : rows[i]? = some rows[i] := List.getElem?_eq_getElem hi
    obtain ⟨v, hv, t, rfl, htt⟩ := hall.get' hrow
    have hz : (clD rows vs)[i]? = some (Sum.inr rows[i], .ref t) := by rw [clD, List.getElem?_zipWith, hrow, hv]
    simp only [hz] at hkx hvx
    cases hkx
    cases hvx
    have htl : t ≠ l := ne_of htt hl (by intro z; cases z)
    have htD : t ≠ D := fun z => by rw [z, hDn] at htt; cases htt
    have hTD : Tn ≠ D := fun z => by rw [z, g1] at hTn; cases hTn
    have hTl : Tn ≠ l := fun z => by rw [z, g3 _ _ (Ne.symm hlD) upd_same] at hTn; cases hTn
    have hg3 : ∀ b o, b ≠ l → b ≠ D → H b = some o → (upd H2 Tn (.tup [.str rows[i], .ref t])) b = some o := fun b o n1 n2 e => Same.new hTn _ _ (g3 _ _ n2 (by rw [upd_ne n1]; exact e))
    show gTup K 2 (gCons (gName 3) (gCons (gName 4) gNil)) _ _ (upd H2 Tn (.tup [.str rows[i], .ref t])) _
    refine ⟨Tn, _, rfl, .of upd_same, rfl, _, _, rfl, _, _, rfl, rfl, rfl, ?_⟩
    have hmem : rows[i] ∈ rows := List.getElem_mem hi
    have sx : SameX l H (upd H2 Tn (.tup [.str rows[i], .ref t])) := fun b o n e => hg3 b o n (fun z => by rw [z, hDn] at e; cases e) e
    refine ht rows[i] t _ _ od hmem sx (Same.new hTn _ _ (g3 _ _ (Ne.symm hlD) upd_same)) (sx _ _ htl htt) fun H4 s4 => ?_
    have n1 : ((rows.take i).filter p).length ≤ 12 := by
      have h1 := List.length_filter_le p (rows.take i)
      rw [List.length_take] at h1
      omega
    have g1' := s4 _ _ (Same.new hTn _ _ g1)
    have g3' : SameX D (upd H l (.frz od (.dK (clD rows vs)))) H4 := (g3.trans (Pw.Same.x (Same.new hTn))).trans (Pw.Same.x s4)
    refine iB (fun hp => ?_) (fun hp => ?_)
    · have hnew : rows[i] ∉ (rows.take i).filter p := fun hm => by
        obtain ⟨j, hj, ej⟩ := List.mem_iff_getElem.mp (List.mem_filter.mp hm).1
        rw [List.length_take] at hj
        rw [List.getElem_take] at ej
        have := (List.getElem_inj hnd).mp ej
        omega
      refine ⟨_, rfl, _, rfl, _, Sum.inr rows[i], rfl, g1', by rw [(clD_TK g2.len).len, sizeLine_eq]; omega, vs' ++ [.ref t], ?_, ?_, g3'.trans .set⟩
      · rw [upd_same, clD_put g2.len hnew, List.take_add_one, hrow, List.filter_append]
        simp [hp]
      · rw [List.take_add_one, hrow, List.filter_append]
        have e : List.filter p (some rows[i]).toList = [rows[i]] := by simp [hp]
        rw [e]
        exact g2.snoc ⟨t, rfl, htt⟩
    · refine ⟨vs', ?_, ?_, g3'⟩
      · rw [g1', List.take_add_one, hrow, List.filter_append]
        simp [hp]
      · rw [List.take_add_one, hrow, List.filter_append]
        simpa [hp] using g2
  · rintro H2 ⟨vs', g1, g2, g3⟩
    rw [hlen, List.take_length] at g1 g2
    have hs : Same H (upd H2 l (.dK (clD rows vs))) := fun b o hb => by
      by_cases hbl : b = l
      · rw [hbl, upd_same, ← hb, hbl, hl]
      · rw [upd_ne hbl]
        exact g3 _ _ (fun z => by rw [z, hDn] at hb; cases hb) (by rw [upd_ne hbl]; exact hb)
    exact ⟨g3 _ _ (Ne.symm hlD) upd_same, hq D _ vs' hs hDn (by rw [upd_ne hlD]; exact g1) (g2.mono fun v r => TupV.mono.same _ _ _ _ hs)⟩
end
section
variable {P : Program} {w : World} {K : PySem.W.Frag} {mg : Str → Option Value} {base : Heap}
def spUnfinished : Sp := fun vs H Q _ => ∃ a rows nd, vs = [.ref a] ∧ Sh rows nd ∧ MapAt (TupV nd) H a rows ∧ ∀ l H', Same H H' → H' l = some (.dK []) → Q (.ref l) H'
abbrev n_unf : List Str := ["needs", "left", "ready", "name", "others", "other"]
theorem sc_unfinished : FnScope n_unf ["needs"] (defScope s_unfinished) := ⟨rfl, rfl, rfl, by decide +kernel, rfl, by decide +kernel, by decide +kernel⟩
theorem ok_unfinished (T : Tx K mg) : Pr P w K mg base 1 (He.ga K "unfinished") spUnfinished := by
  obtain ⟨fd, F⟩ := T.f_unfinished
  refine pr_of (fn_t F sc_unfinished (fun _ _ _ _ _ _ us hl => match us, hl with | [_], _ => rfl) (fun vs H Q E h => ?_) fun cdv A outer s H vs Q E hr h => ?_)
  · obtain ⟨a, rows, nd, rfl, _⟩ := h
    rfl
  · obtain ⟨a, rows, nd, rfl, S, hm, q⟩ := h
    have hu := hu_of hr
    refine ⟨_, pss_cons (ps_set (i := 1) sc_unfinished.nd rfl (Or.inr rfl) (pe_callTy call_dictD (by rfl) T.b_dict (by decide +kernel) (pa_cons (pv 0) pa_nil)))
      (pss_cons (ps_set (i := 2) sc_unfinished.nd rfl (Or.inr rfl) (pe_lock (pe_lc (own := [("name", 3), ("others", 4)]) (g := gTup K 2 (gCons (gName 3) (gCons (gName 4) gNil))) rfl sc_unfinished.nd (pi_items (pv 1)) (blkOk_by (N := n_unf) (sc := defScope s_unfinished) (by decide +kernel))
          (fun _ _ _ _ _ => pg_tup rfl (pgs_cons (pg_name (i := 3) sc_unfinished.nd rfl (.inl rfl)) (pgs_cons (pg_name (i := 4) sc_unfinished.nd rfl (.inl rfl)) pgs_nil)))
          (tt := tTest (tOp (rEqD K) (tVar 4) (tTup tNil)))
          (fun _ _ _ _ _ => pts_one (pt_cmpR (op_eqD hr.units) (pv 4) (pe_tup pa_nil) (nomark _))) (fun _ _ _ _ _ => pv 3))))
      (pss_cons (ps_while PassesOwn.never (pt_cmpR (op_neD hr.units) (pv 2) (pe_lst pa_nil) (nomark _))
        (pss_cons (ps_set (i := 1) sc_unfinished.nd rfl (Or.inr rfl) (pe_lock (pe_dc (own := [("name", 3), ("others", 4)]) (g := gTup K 2 (gCons (gName 3) (gCons (gName 4) gNil))) rfl sc_unfinished.nd (pi_items (pv 1)) (blkOk_by (N := n_unf) (sc := defScope s_unfinished) (by decide +kernel))
            (fun _ _ _ _ _ => pg_tup rfl (pgs_cons (pg_name (i := 3) sc_unfinished.nd rfl (.inl rfl)) (pgs_cons (pg_name (i := 4) sc_unfinished.nd rfl (.inl rfl)) pgs_nil)))
            (tt := tTest (tOp (rNotInD K) (tVar 3) (tVar 2)))
            (fun _ _ _ _ _ => pts_one (pt_cmpR (op_notInD (hu65 hr)) (pv 3) (pv 2) (by rfl))) (fun _ _ _ _ _ => pv 3) (fun _ _ _ _ _ => pv 4))))
        (pss_one (ps_set (i := 2) sc_unfinished.nd rfl (Or.inr rfl) (pe_lock (pe_lc (own := [("name", 3), ("others", 4)]) (g := gTup K 2 (gCons (gName 3) (gCons (gName 4) gNil))) rfl sc_unfinished.nd (pi_items (pv 1)) (blkOk_by (N := n_unf) (sc := defScope s_unfinished) (by decide +kernel))
          (fun _ _ _ _ _ => pg_tup rfl (pgs_cons (pg_name (i := 3) sc_unfinished.nd rfl (.inl rfl)) (pgs_cons (pg_name (i := 4) sc_unfinished.nd rfl (.inl rfl)) pgs_nil)))
          (tt := tNot (tB (tCB (rAny K) (tCons (tLc (iTup K (tVar 4)) (gName 5) tYes (tDIn (tVar 5) (tVar 1)) [5]) tNil))))
          (fun _ _ _ _ _ => pts_one (pt_not (pt_val (pe_callB (cr_any rfl) (by rfl) T.b_any (by decide +kernel) (pa_cons (pe_lc (own := [("other", 5)]) (g := gName 5) (tt := tYes) rfl sc_unfinished.nd (pi_tup (pv 4)) (blkOk_by (by kernel_rfl))
             (fun _ _ _ _ _ => pg_name (i := 5) sc_unfinished.nd rfl (Or.inl rfl)) (fun _ _ _ _ _ => pts_nil) (fun _ _ _ _ _ => pe_cmp (pc_din hu (pv 5) (pv 1)) rfl)) pa_nil))))) (fun _ _ _ _ _ => pv 3)))))))
      (pss_one (ps_ret (pv 1))))), ?_⟩
    obtain ⟨vs, hd, hall⟩ := hm
    refine ⟨_, rfl, a, _, rfl, .of hd, fun l hl => ?_⟩
    have s1 : Same H (upd H l (.dK (clD rows vs))) := Same.new hl
    refine items_lc (K := K) (rows := rows) (nd := nd) (vs := vs) upd_same (hall.mono fun v r => TupV.mono.same _ _ _ _ s1) S.le (fun r => (nd r).all fun o => decide (o ∉ rows)) (fun r t H2 Qb od hr sx hfz ht k => ?_) (fun D H1 s2 _ hD => ?_)
    · refine ⟨_, rfl, by show 0 ≤ sizeLine; decide, fun e he => ⟨ssD (nd r), ssD [], dp_ss (.of (Same.new he _ _ ht)), dp_ss (l := []) (.of upd_same), ssD_shaped fun z hz => (S.ok z (S.sub r hr z hz)).strOk, ssD_shaped (by simp), _, rfl, ?_⟩⟩
      have z := k (upd H2 e (.tup [])) (Same.new he)
      rw [ssD_eqv]
      have e2 : ((nd r).all fun o => decide (o ∉ rows)) = decide (nd r = []) := by
        cases hn : nd r with
        | nil => rfl
        | cons o os =>
          have ho : o ∈ rows := S.sub r hr o (by rw [hn]; exact List.mem_cons_self)
          simp [ho]
      rw [e2] at z
      exact z
    -- the loop
    refine ⟨fun m σ H' => ∃ l rd s3 s4 s5 lst vs, σ = [some (.ref a), some (.ref l), some (.ref rd), s3, s4, s5] ∧ m = lst.length ∧ Same H H' ∧ lst.Nodup ∧ (∀ r ∈ lst, r ∈ rows) ∧ H' l = some (.dK (clD lst vs)) ∧ All2 (fun v r => TupV nd v r H') vs lst ∧
      H' rd = some (.lst ((lst.filter fun r => (nd r).all fun o => decide (o ∉ lst)).map V.str)), ⟨_, l, D, none, none, none, rows, vs, rfl, rfl, s1.trans s2, S.nodup, fun r h => h, s2 _ _ upd_same, hall.mono fun v r => TupV.mono.same _ _ _ _ (s1.trans s2), hD⟩, ?_⟩
    rintro m σ H2 ⟨l, rd, s3, s4, s5, lst, vs, rfl, rfl, sH, ln, lsub, hl2, hall2, hrd⟩
    have hok : ∀ r ∈ lst, NameOk r := fun r hr => S.ok r (lsub r hr)
    have hl12 : lst.length ≤ 12 := Nat.le_trans (Lat.len_sub ln lsub) S.le
    generalize hrl : (lst.filter fun r => (nd r).all fun o => decide (o ∉ lst)) = rdl at hrd
    have rsub : ∀ r ∈ rdl, r ∈ lst := fun r hr => by rw [← hrl] at hr; exact (List.mem_filter.mp hr).1
    refine ⟨_, rfl, by show 0 ≤ sizeLine; decide, fun e he => ?_⟩
    have se : Same H2 (upd H2 e (.lst [])) := Same.new he
    refine ⟨.list (rdl.map sD), .list (([] : List Str).map sD), dp_sl (.of (se _ _ hrd)), dp_sl (l := []) (.of upd_same), slD_shaped fun z hz => (hok z (rsub z hz)).strOk, slD_shaped (by simp), _, rfl, ?_⟩
    rw [slD_eqv]
    refine iB (fun hne => ?_) (fun hem => ?_)
    · have hne' : rdl ≠ [] := by simpa using hne
      refine ⟨fun σ' H' => ∃ l rd s3 s4 s5 lst' vs, σ' = [some (.ref a), some (.ref l), some (.ref rd), s3, s4, s5] ∧ lst'.length < lst.length ∧ Same H H' ∧ lst'.Nodup ∧ (∀ r ∈ lst', r ∈ rows) ∧ H' l = some (.dK (clD lst' vs)) ∧ All2 (fun v r => TupV nd v r H') vs lst' ∧
        H' rd = some (.lst ((lst'.filter fun r => (nd r).all fun o => decide (o ∉ lst')).map V.str)), ?_, ?_⟩
      · rintro σ' H' ⟨l, rd, s3, s4, s5, lst', vs, rfl, hlt, g⟩
        exact ⟨_, hlt, l, rd, s3, s4, s5, lst', vs, rfl, rfl, g⟩
      · refine items_dc (K := K) (rows := lst) (nd := nd) (vs := vs) ln (se _ _ hl2) (hall2.mono fun v r => TupV.mono.same _ _ _ _ se) hl12 (fun r => decide (r ∉ rdl)) (fun r t H3 Qb od hr sx hfz ht k => ?_) (fun D H3 vs' s3 _ hD hallD => ?_)
        · have hrdl : rd ≠ l := ne_of hrd hl2 (by intro z; cases z)
          refine ⟨_, rfl, _, rfl, sD r, rdl.map sD, .str r, dp_sl (.of (sx _ _ hrdl (se _ _ hrd))), sD_shaped (hok r hr).strOk, slD_shaped fun z hz => (hok z (rsub z hz)).strOk, _, rfl, ?_⟩
          have z := k H3 (Same.refl _)
          rw [any_map sD_eqv, ← decide_not]
          exact z
        · have ssub : ∀ r ∈ lst.filter (fun r => decide (r ∉ rdl)), r ∈ lst := fun r hr => (List.mem_filter.mp hr).1
          generalize hl' : lst.filter (fun r => decide (r ∉ rdl)) = lst' at hD hallD ssub
          have ln' : lst'.Nodup := by rw [← hl']; exact ln.filter _
          have hl12' : lst'.length ≤ 12 := Nat.le_trans (Lat.len_sub ln' ssub) hl12
          have hlt : lst'.length < lst.length := by
            obtain ⟨r, hr⟩ := List.exists_mem_of_ne_nil _ hne'
            have hn : r ∉ lst' := fun z => by
              rw [← hl'] at z
              exact (of_decide_eq_true (List.mem_filter.mp z).2) hr
            have := Lat.len_sub (l := r :: lst') (l' := lst) (List.nodup_cons.mpr ⟨hn, ln'⟩) fun x hx => by
              rcases List.mem_cons.mp hx with rfl | hx
              · exact rsub _ hr
              · exact ssub x hx
            rw [List.length_cons] at this
            omega
          refine items_lc (K := K) (rows := lst') (nd := nd) (vs := vs') hD hallD hl12' (fun r => (nd r).all fun o => decide (o ∉ lst')) (fun r t H4 Qb od hr sx hfz ht k => ?_) (fun D2 H4 s4 _ hD2 => ?_)
          · refine ⟨_, rfl, t, rfl, ⟨_, .of ht⟩, fun D3 hD3 => ?_⟩
            have hrr := lsub r (ssub r hr)
            refine lc_gr (Mono.eq V.bl) (walk_tup (K := K) (a := t) (xs := (nd r).map V.str)) hD3 (by rw [List.length_map, sizeLine_eq]; have := S.ndle hrr; have := S.le; omega) (fun _ => true) (fun j => decide ((nd r).getD j Str.empty ∈ lst')) (fun H5 s5 => .of (s5 _ _ ht)) (fun _ _ _ _ _ y => by rw [y.1]; exact Same.refl _) ?_ ?_
            · rintro j y _ H5 A B hj s5 _ ⟨rfl, hy⟩ hA _
              rw [List.length_map] at hj
              rw [List.getElem?_map, List.getElem?_eq_getElem hj] at hy
              cases hy
              refine ⟨rfl, yes ⟨_, rfl, _, rfl, D, _, rfl, .inl ⟨clD lst' vs', Sum.inr (nd r)[j], .inr ⟨od, s5 _ _ hfz⟩, rfl, rfl⟩, ?_⟩⟩
              rw [(clD_TK hallD.len).val inr_inj]
              refine hA rfl _ _ (Same.refl _) ?_
              rw [List.getD_eq_getElem?_getD, List.getElem?_eq_getElem hj]
              rfl
            · intro out H5 s5 e al
              rw [outs_all] at al
              rw [al.eq] at e
              refine ⟨D3, (List.range ((nd r).map V.str).length).map fun j => decide ((nd r).getD j Str.empty ∈ lst'), rfl, .inl (.inl e), _, rfl, ?_⟩
              rw [any_mem]
              have z := k H5 s5
              have e3 : ((nd r).all fun o => decide (o ∉ lst')) = !((nd r).any fun o => decide (o ∈ lst')) := by
                rw [List.not_any_eq_all_not]
                congr 1
                funext o
                rw [decide_not]
              rw [e3] at z
              exact z
          · exact ⟨D, D2, _, _, _, lst', vs', rfl, hlt, ((sH.trans se).trans s3).trans s4, ln', fun r hr => lsub r (ssub r hr), s4 _ _ hD, hallD.mono fun v r => TupV.mono.same _ _ _ _ s4, hD2⟩
    · have hre : rdl = [] := by simpa using hem
      have hle : lst = [] := by
        refine Classical.byContradiction fun hn => ?_
        obtain ⟨x, hx⟩ := List.exists_mem_of_ne_nil _ hn
        have hd : (rows.filter fun r => decide (r ∉ lst)).length < rows.length := by
          have h1 : x ∉ rows.filter fun r => decide (r ∉ lst) := fun z => of_decide_eq_true (List.mem_filter.mp z).2 hx
          have h2 := Lat.len_sub (l := x :: rows.filter fun r => decide (r ∉ lst)) (l' := rows) (List.nodup_cons.mpr ⟨h1, S.nodup.filter _⟩) fun y hy => by
            rcases List.mem_cons.mp hy with rfl | hy
            · exact lsub _ hx
            · exact (List.mem_filter.mp hy).1
          rw [List.length_cons] at h2
          omega
        obtain ⟨r, hr, hrn, hall3⟩ := next_row S hd (S.nodup.filter _)
        have hrl2 : r ∈ lst := Classical.byContradiction fun z => hrn (List.mem_filter.mpr ⟨hr, decide_eq_true z⟩)
        have : r ∈ rdl := by
          rw [← hrl]
          exact List.mem_filter.mpr ⟨hrl2, List.all_eq_true.mpr fun o ho => (List.mem_filter.mp (hall3 o ho)).2⟩
        rw [hre] at this
        cases this
      subst hle
      exact ⟨_, rfl, q l _ (sH.trans se) (se _ _ hl2)⟩
def spRingIn : Sp := fun vs H Q _ => ∃ a rows nd, vs = [.ref a] ∧ Sh rows nd ∧ MapAt (TupV nd) H a rows ∧ ∀ H', Same H H' → Q .non H'
abbrev n_ring : List Str := ["needs", "left", "walk", "following", "other"]
theorem sc_ring_in : FnScope n_ring ["needs"] (defScope s_ring_in) := ⟨rfl, rfl, rfl, by decide +kernel, rfl, by decide +kernel, by decide +kernel⟩
theorem ok_ring_in (T : Tx K mg) : Pr P w K mg base 2 (He.ga K "ring_in") spRingIn := by
  obtain ⟨fd, F⟩ := T.f_ring_in
  obtain ⟨_, FU⟩ := T.f_unfinished
  refine pr_of (fn_t F sc_ring_in (fun _ _ _ _ _ _ us hl => match us, hl with | [_], _ => rfl) (fun vs H Q E h => ?_) fun cdv A outer s H vs Q E hr h => ?_)
  · obtain ⟨a, rows, nd, rfl, _⟩ := h
    rfl
  · obtain ⟨a, rows, nd, rfl, S, hm, q⟩ := h
    refine ⟨_, pss_cons (ps_set (i := 1) sc_ring_in.nd rfl (Or.inr rfl) (pc (ok_unfinished T) hr FU.kp T.g_unfinished (pa_cons (pv 0) pa_nil)))
      (pss_cons (ps_set (i := 2) sc_ring_in.nd rfl (Or.inl rfl) (pe_slice sl_list (pe_callTy (call_list_dK rfl) (by rfl) T.b_list (by decide +kernel) (pa_cons (pv 1) pa_nil)) po_none (po_some pe_int)))
      (pss_cons (ps_while PassesOwn.never (pt_cmpR (op_neD hr.units) (pv 2) (pe_lst pa_nil) (nomark _)) pss_never)
      (pss_one (ps_ret pe_non)))), ?_⟩
    refine ⟨_, rfl, a, rows, nd, rfl, S, hm, fun l H1 s1 hl => ?_⟩
    refine ⟨_, rfl, l, [], rfl, hl, fun b hb => ?_⟩
    refine ⟨1, rfl, b, [], rfl, .of upd_same, fun c hc => ?_⟩
    refine ⟨fun _ σ' H' => σ' = [some (.ref a), some (.ref l), some (.ref c), none, none] ∧ H' c = some (.lst []) ∧ Same H H', ⟨0, rfl, upd_same, (s1.trans (Same.new hb)).trans (Same.new hc)⟩, ?_⟩
    rintro m σ' H' ⟨rfl, h1, h2⟩
    refine ⟨_, rfl, by show 0 ≤ sizeLine; decide, fun e he => ?_⟩
    refine ⟨.list (([] : List Str).map sD), .list (([] : List Str).map sD), dp_sl (l := []) (.of (Same.new he _ _ h1)), dp_sl (l := []) (.of upd_same), slD_shaped (by simp), slD_shaped (by simp), _, rfl, ?_⟩
    exact q _ (h2.trans (Same.new he))
end
end Pw
end
section
set_option maxRecDepth 100000
set_option maxHeartbeats 4000000
/-! The walk: sheets.py. -/
namespace Pw
open PySem PySem.Spec PyProof.Rows L2
theorem cut_take {xs : List V} {i : Nat} (h : i ≤ xs.length) : cutV xs none (some (i : Int)) = xs.take i := by
  unfold cutV
  rw [HT.sIx_none, HT.sIx_nat, List.drop_zero, Nat.sub_zero, Nat.min_eq_left h]
abbrev rInDT (K : PySem.W.Frag) : R2 := fun x y H Q => ∃ d ds, L2.Dp K H x d ∧ L2.Dp K H y (.tuple ds) ∧ SeqAt.shaped d = true ∧ SeqAt.shaped (.tuple ds) = true ∧ Q (.bl (ds.any fun z => PyData.eqv z d)) H
section
variable {P : Program} {w : World} {K : PySem.W.Frag} {mg : Str → Option Value} {base : Heap}
def spFirstWrong (K : PySem.W.Frag) : Sp := fun vs H Q _ => ∃ (a : Addr) (rows : List Str), vs = [.ref a] ∧ SqT K H a (rows.map V.str) ∧ rows.Nodup ∧ (∀ r ∈ rows, NameOk r) ∧ rows.length ≤ 12 ∧ ∀ H', Same H H' → Q .non H'
theorem sc_first_wrong : FnScope ["rows", "index", "name"] ["rows"] (defScope s_first_wrong) := ⟨rfl, rfl, rfl, by decide +kernel, rfl, by decide +kernel, by decide +kernel⟩
theorem ok_first_wrong (T : Tx K mg) : Pr P w K mg base 2 (He.ga K "first_wrong") (spFirstWrong K) := by
  obtain ⟨fd, F⟩ := T.f_first_wrong
  obtain ⟨_, FI⟩ := T.f_is_name
  obtain ⟨_, tl⟩ := T.i_LIMIT
  refine pr_of (fn_t F sc_first_wrong (fun _ _ _ _ _ _ us hl => match us, hl with | [_], _ => rfl) (fun vs H Q E h => ?_) fun cdv A outer s H vs Q E hr h => ?_)
  · obtain ⟨a, rows, rfl, _⟩ := h
    rfl
  · obtain ⟨a, rows, rfl, ha, hn, hok, hle, q⟩ := h
    refine ⟨_, pss_cons (ps_for PassesOwn.never rfl (pi_enumT (by rfl) T.b_enumerate (pa_cons (pv 0) pa_nil)) (pg_tup rfl (pgs_cons (pg_name (i := 1) sc_first_wrong.nd rfl (.inl rfl)) (pgs_cons (pg_name (i := 2) sc_first_wrong.nd rfl (.inl rfl)) pgs_nil)))
        (pss_one (ps_if (PW.pt (pw_or (pt_cmpR op_eq (pv 1) (pe_glob (v := .int 60) (by rfl) tl ⟨_, rfl⟩) (nomark _)) (pw_or (pt_not (pt_val (pc (ok_is_name T) hr FI.kp T.g_is_name (pa_cons (pv 2) pa_nil))))
          (pw_or1 (pt_cmpR (op_inDT (hu65 hr)) (pv 2) (pe_slice sl_tup (pv 0) po_none (po_some (pv 1))) (by rfl)))))) pss_never pss_nil)))
      (pss_one (ps_ret pe_non)), ?_⟩
    refine ⟨_, rfl, a, _, rfl, ha, ?_⟩
    refine for_it (n := (rows.map V.str).length) walk_enumT (fun i σ' H' => (∃ x1 x2, σ' = [some (.ref a), x1, x2]) ∧ Same H H') ⟨⟨none, none, rfl⟩, Same.refl _⟩ (fun i σ' H' _ h => Same.sqT h.2 ha) ?_ (fun σ' H' h => q _ h.2)
    rintro i x σ' H' H2 hi ⟨⟨x1, x2, rfl⟩, s1⟩ ⟨Tn, kx, vx, rfl, hTn, rfl, hkx, hvx⟩
    rw [List.length_map] at hi
    have hrow : rows[i]? = some rows[i] := List.getElem?_eq_getElem hi
    simp only [List.getElem?_map, hrow] at hkx hvx
    cases hkx
    cases hvx
    have hmem : rows[i] ∈ rows := List.getElem_mem hi
    have s2 : Same H' (upd H' Tn (.tup [.int i, .str rows[i]])) := Same.new hTn
    show gTup K 2 (gCons (gName 1) (gCons (gName 2) gNil)) _ _ (upd H' Tn (.tup [.int i, .str rows[i]])) _
    refine ⟨Tn, _, rfl, .of upd_same, rfl, _, _, rfl, _, _, rfl, rfl, ?_⟩
    refine ⟨_, rfl, rfl, _, rfl, ?_⟩
    rw [decide_eq_false (show ¬ V.int (i : Int) = V.int 60 by intro z; have := V.int.inj z; omega)]
    refine iteF ?_
    refine ⟨_, rfl, _, rfl, hok _ hmem, fun H3 s3 => ⟨true, rfl, iteF ?_⟩⟩
    refine ⟨_, rfl, _, rfl, _, rfl, (i : Int), rfl, a, _, rfl, Same.sqT ((s1.trans s2).trans s3) ha, ?_, fun c hc => ?_⟩
    · rw [HT.sIx_none, HT.sIx_nat, List.length_map]
      omega
    · rw [cut_take (by rw [List.length_map]; omega), ← List.map_take]
      refine ⟨sD rows[i], (rows.take i).map sD, .str _, dp_ss (.of upd_same), sD_shaped (hok _ hmem).strOk, ssD_shaped fun z hz => (hok z (List.mem_of_mem_take hz)).strOk, _, rfl, ?_⟩
      rw [any_map sD_eqv]
      refine iB (fun hin => ?_) (fun _ => ⟨⟨_, _, rfl⟩, ((s1.trans s2).trans s3).trans (Same.new hc)⟩)
      obtain ⟨j, hj, ej⟩ := List.mem_iff_getElem.mp (of_decide_eq_true hin)
      rw [List.length_take] at hj
      rw [List.getElem_take] at ej
      have := (List.getElem_inj hn).mp ej
      omega
def spAreNeeds (K : PySem.W.Frag) : Sp := fun vs H Q _ => ∃ (a t : Addr) (rows l : List Str), vs = [.ref a, .ref t] ∧ SqT K H a (rows.map V.str) ∧ H t = some (.tup (l.map V.str)) ∧ (∀ r ∈ rows, NameOk r) ∧ (∀ o ∈ l, o ∈ rows) ∧ l.Nodup ∧ l.length ≤ 12 ∧ ∀ H', Same H H' → Q (.bl true) H'
theorem sc_are_needs : FnScope ["rows", "value", "name"] ["rows", "value"] (defScope s_are_needs) := ⟨rfl, rfl, rfl, by decide +kernel, rfl, by decide +kernel, by decide +kernel⟩
theorem ok_are_needs (T : Tx K mg) : Pr P w K mg base 2 (He.ga K "are_needs") (spAreNeeds K) := by
  obtain ⟨fd, F⟩ := T.f_are_needs
  obtain ⟨_, FI⟩ := T.f_is_name
  refine pr_of (fn_t F sc_are_needs (fun _ _ _ _ _ _ us hl => match us, hl with | [_, _], _ => rfl) (fun vs H Q E h => ?_) fun cdv A outer s H vs Q E hr h => ?_)
  · obtain ⟨a, t, rows, l, rfl, _⟩ := h
    rfl
  · obtain ⟨a, t, rows, l, rfl, ha, ht, hok, hsub, hn, hle, q⟩ := h
    refine ⟨_, pss_cons (ps_if (PW.pt (pw_or (pt_not (pt_val (pe_callB call_isi (by rfl) T.b_isinstance (by decide +kernel) (pa_cons (pv 1) (pa_cons (pe_bltn (x := "tuple") (v := .ty "tuple") (by rfl) T.b_tuple (by decide +kernel) rfl) pa_nil)))))
        (pw_or1 (pt_not (pt_val (pe_callB (cr_all rfl) (by rfl) T.b_all (by decide +kernel) (pa_cons (pe_lc (own := [("name", 2)]) (g := gName 2) (tt := tYes) rfl sc_are_needs.nd (pi_tup (pv 1)) (blkOk_by (N := ["rows", "value", "name"]) (sc := defScope s_are_needs) (by decide +kernel))
          (fun _ _ _ _ _ => pg_name (i := 2) sc_are_needs.nd rfl (Or.inl rfl)) (fun _ _ _ _ _ => pts_nil)
          (te := tAndV (tCl spIsName (tCons (tVar 2) tNil)) (tOp (rInDT K) (tVar 2) (tVar 0)))
          (fun _ _ _ _ _ => pe_and (pc (ok_is_name T) hr FI.kp T.g_is_name (pa_cons (pv 2) pa_nil)) (pe_one (pe_cmpR (op_inDT (hu65 hr)) (pv 2) (pv 0) (by rfl))))) pa_nil))))))) pss_never pss_nil)
      (pss_one (ps_ret (pe_cmpR op_eq (pe_lenSetN rfl (by rfl) T.b_len (by rfl) T.b_set (pv 1)) (pe_callB call_len_seq (by rfl) T.b_len (by decide +kernel) (pa_cons (pv 1) pa_nil)) (nomark _)))), ?_⟩
    have hw : ∀ z ∈ rows, Ok z := fun z hz => (hok z hz).strOk
    refine ⟨_, rfl, _, _, _, _, true, rfl, .ty _, .base (.tup ht), kit_ty (by decide +kernel), true, rfl, iteF ?_⟩
    refine ⟨_, rfl, t, rfl, ⟨_, .of ht⟩, fun D hD => ?_⟩
    refine lc_gr (Mono.eq V.bl) (walk_tup (K := K) (a := t) (xs := l.map V.str)) hD (by rw [List.length_map, sizeLine_eq]; omega) (fun _ => true) (fun _ => true) (fun H5 s5 => .of (s5 _ _ ht)) (fun _ _ _ _ _ y => by rw [y.1]; exact Same.refl _) ?_ ?_
    · rintro j y _ H5 A B hj s5 _ ⟨rfl, hy⟩ hA _
      rw [List.length_map] at hj
      rw [List.getElem?_map, List.getElem?_eq_getElem hj] at hy
      cases hy
      have hm : l[j] ∈ l := List.getElem_mem hj
      refine ⟨rfl, yes ⟨_, rfl, _, rfl, hok _ (hsub _ hm), fun H6 s6 => ⟨true, rfl, iteT ⟨_, rfl, _, rfl, sD l[j], rows.map sD, .str _, dp_ss (Same.sqT (s5.trans s6) ha), sD_shaped (hw _ (hsub _ hm)), ssD_shaped hw, ?_⟩⟩⟩⟩
      rw [any_map sD_eqv, decide_eq_true (hsub _ hm)]
      exact hA rfl _ _ s6 rfl
    · intro out H5 s5 e al
      rw [outs_all] at al
      rw [al.eq] at e
      refine ⟨D, (List.range (l.map V.str).length).map fun _ => true, rfl, .inl (.inl e), true, ?_, iteF ?_⟩
      · congr 1
        simp
      refine ⟨_, rfl, t, l, rfl, .of (s5 _ _ ht), hn, by omega, _, rfl, t, _, rfl, .inr (.of (s5 _ _ ht)), rfl, ?_⟩
      rw [List.length_map, decide_eq_true rfl]
      exact q _ s5
def spNeedRows (K : PySem.W.Frag) : Sp := fun vs H Q _ => ∃ (a : Addr) (rows : List Str), vs = [.ref a] ∧ SqT K H a (rows.map V.str) ∧ rows.Nodup ∧ (∀ r ∈ rows, NameOk r) ∧ rows.length ≤ 12 ∧ ∀ H', Same H H' → Q .non H'
theorem sc_need_rows : FnScope ["rows", "wrong"] ["rows"] (defScope s_need_rows) := ⟨rfl, rfl, rfl, by decide +kernel, rfl, by decide +kernel, by decide +kernel⟩
theorem ok_need_rows (T : Tx K mg) : Pr P w K mg base 3 (He.ga K "need_rows") (spNeedRows K) := by
  obtain ⟨fd, F⟩ := T.f_need_rows
  obtain ⟨_, FI⟩ := T.f_first_wrong
  refine pr_of (fn_t F sc_need_rows (fun _ _ _ _ _ _ us hl => match us, hl with | [_], _ => rfl) (fun vs H Q E h => ?_) fun cdv A outer s H vs Q E hr h => ?_)
  · obtain ⟨a, rows, rfl, _⟩ := h
    rfl
  · obtain ⟨a, rows, rfl, ha, hn, hok, hle, q⟩ := h
    refine ⟨_, pss_cons (ps_if (pt_not (pt_val (pe_isiTL (pv 0) (by rfl) T.b_isinstance (pa_cons (pe_bltn (x := "tuple") (v := .ty "tuple") (by rfl) T.b_tuple (by decide +kernel) rfl) (pa_cons (pe_bltn (x := "list") (v := .ty "list") (by rfl) T.b_list (by decide +kernel) rfl) pa_nil))))) pss_never pss_nil)
      (pss_cons (ps_set (i := 1) sc_need_rows.nd rfl (Or.inl rfl) (pc (ok_first_wrong T) hr FI.kp T.g_first_wrong (pa_cons (pv 0) pa_nil)))
      (pss_one (ps_if (pt_cmp (pc_notN (pv 1))) pss_never pss_nil))), ?_⟩
    refine ⟨_, rfl, ⟨a, _, rfl, ha⟩, fun T1 hT1 => ⟨true, rfl, iteF ?_⟩⟩
    have s1 : Same H (upd H T1 (.tup [.ty "tuple", .ty "list"])) := Same.new hT1
    refine ⟨_, rfl, a, rows, rfl, Same.sqT s1 ha, hn, hok, hle, fun H2 s2 => ?_⟩
    refine ⟨_, rfl, false, rfl, iteF (q _ (s1.trans s2))⟩
def spNeedNeeds (K : PySem.W.Frag) : Sp := fun vs H Q _ => ∃ (a d : Addr) (rows : List Str) (kvs : List (Key × V)), vs = [.ref a, .ref d] ∧ SqT K H a (rows.map V.str) ∧ H d = some (.dK kvs) ∧ (∀ r ∈ rows, NameOk r) ∧ kvs.length ≤ 12 ∧
  (∀ p ∈ kvs, ∃ (r : Str) (t : Addr) (l : List Str), p = (Sum.inr r, .ref t) ∧ r ∈ rows ∧ H t = some (.tup (l.map V.str)) ∧ (∀ o ∈ l, o ∈ rows) ∧ l.Nodup ∧ l.length ≤ 12) ∧ ∀ H', Same H H' → Q .non H'
theorem sc_need_needs : FnScope ["rows", "needs", "name", "others"] ["rows", "needs"] (defScope s_need_needs) := ⟨rfl, rfl, rfl, by decide +kernel, rfl, by decide +kernel, by decide +kernel⟩
theorem ok_need_needs (T : Tx K mg) : Pr P w K mg base 3 (He.ga K "need_needs") (spNeedNeeds K) := by
  obtain ⟨fd, F⟩ := T.f_need_needs
  obtain ⟨_, FI⟩ := T.f_are_needs
  refine pr_of (fn_t F sc_need_needs (fun _ _ _ _ _ _ us hl => match us, hl with | [_, _], _ => rfl) (fun vs H Q E h => ?_) fun cdv A outer s H vs Q E hr h => ?_)
  · obtain ⟨a, d, rows, kvs, rfl, _⟩ := h
    rfl
  · obtain ⟨a, d, rows, kvs, rfl, ha, hd, hok, hle, hall, q⟩ := h
    refine ⟨_, pss_cons (ps_if (pt_not (pt_val (pe_callB call_isi (by rfl) T.b_isinstance (by decide +kernel) (pa_cons (pv 1) (pa_cons (pe_bltn (x := "dict") (v := .ty "dict") (by rfl) T.b_dict (by decide +kernel) rfl) pa_nil))))) pss_never pss_nil)
      (pss_one (ps_lock (ps_for PassesOwn.never rfl (pi_items (pv 1)) (pg_tup rfl (pgs_cons (pg_name (i := 2) sc_need_needs.nd rfl (.inl rfl)) (pgs_cons (pg_name (i := 3) sc_need_needs.nd rfl (.inl rfl)) pgs_nil)))
        (pss_one (ps_if (PW.pt (pw_or (pt_cmpR (op_notInDT (hu65 hr)) (pv 2) (pv 0) (by rfl)) (pw_or1 (pt_not (pt_val (pc (ok_are_needs T) hr FI.kp T.g_are_needs (pa_cons (pv 0) (pa_cons (pv 3) pa_nil)))))))) pss_never pss_nil))))), ?_⟩
    have hw : ∀ z ∈ rows, Ok z := fun z hz => (hok z hz).strOk
    refine ⟨_, rfl, _, _, _, _, true, rfl, .ty _, .base (.dK hd), kit_ty (by decide +kernel), true, rfl, iteF ?_⟩
    refine ⟨d, _, hd, trivial, fun od => ⟨_, rfl, d, od, _, rfl, upd_same, ?_⟩⟩
    refine for_it (n := kvs.length) walk_items (fun i σ' H' => (∃ x2 x3, σ' = [some (.ref a), some (.ref d), x2, x3]) ∧ Same (upd H d (.frz od (.dK kvs))) H') ⟨⟨none, none, rfl⟩, Same.refl _⟩ (fun i σ' H' _ h => h.2 _ _ upd_same) ?_ ?_
    · rintro i x σ' H' H2 hi ⟨⟨x2, x3, rfl⟩, s1⟩ ⟨Tn, kx, vx, rfl, hTn, rfl, hkx, hvx⟩
      have hrow : kvs[i]? = some kvs[i] := List.getElem?_eq_getElem hi
      obtain ⟨r, t, l, e, hr2, ht, hsub, hnl, hl12⟩ := hall _ (List.getElem_mem hi)
      rw [e] at hrow
      simp only [hrow] at hkx hvx
      cases hkx
      cases hvx
      have s2 : Same H' (upd H' Tn (.tup [.str r, .ref t])) := Same.new hTn
      have s12 := s1.trans s2
      have htd : t ≠ d := ne_of ht hd (by intro z; cases z)
      have ha2 : SqT K (upd H' Tn (.tup [.str r, .ref t])) a (rows.map V.str) := by
        refine Same.sqT s12 ?_
        rcases ha with (h | ⟨o, h⟩) | h
        · exact .inl (.inl (by rw [upd_ne (ne_of h hd (by intro z; cases z))]; exact h))
        · exact .inl (.inr ⟨o, by rw [upd_ne (ne_of h hd (by intro z; cases z))]; exact h⟩)
        · exact .inr h
      show gTup K 2 (gCons (gName 2) (gCons (gName 3) gNil)) _ _ (upd H' Tn (.tup [.str r, .ref t])) _
      refine ⟨Tn, _, rfl, .of upd_same, rfl, _, _, rfl, _, _, rfl, rfl, ?_⟩
      refine ⟨_, rfl, _, rfl, sD r, rows.map sD, .str _, dp_ss ha2, sD_shaped (hw _ hr2), ssD_shaped hw, _, rfl, ?_⟩
      rw [any_map sD_eqv, decide_eq_true hr2]
      refine iteF ?_
      refine ⟨_, rfl, _, rfl, a, t, rows, l, rfl, ha2, s12 _ _ (by rw [upd_ne htd]; exact ht), hok, hsub, hnl, hl12, fun H3 s3 => ⟨true, rfl, iteF ⟨⟨_, _, rfl⟩, s12.trans s3⟩⟩⟩
    · rintro σ' H' ⟨_, s1⟩
      refine ⟨s1 _ _ upd_same, q _ fun b o hb => ?_⟩
      by_cases hbd : b = d
      · rw [hbd, upd_same, ← hb, hbd, hd]
      · rw [upd_ne hbd]
        exact s1 _ _ (by rw [upd_ne hbd]; exact hb)
end
end Pw
end
section
set_option maxRecDepth 100000
set_option maxHeartbeats 4000000
/-! The walk: class Sheet. -/
namespace Pw
open PySem PySem.Spec PyProof.Rows L2
theorem ordK_snoc (l : List Str) (r : Str) : ordK (l ++ [r]) = ordK l ++ [(Sum.inr r, V.int (l.length : Nat))] := by
  unfold ordK
  rw [List.zipIdx_append, List.map_append]
  simp
theorem ordK_TK (l : List Str) : TK Sum.inr (ordK l) l := by
  unfold TK ordK
  rw [List.map_map]
  apply List.ext_getElem
  · simp
  · intro i h1 h2
    simp
theorem ordK_put {l : List Str} {r : Str} (h : r ∉ l) : putK (ordK l) (Sum.inr r) (V.int (l.length : Nat)) = ordK (l ++ [r]) := by
  have e := (ordK_TK l).none inr_inj h
  have e2 := valV_any (Sum.inr r : Key) (ordK l)
  rw [e] at e2
  unfold putK
  rw [if_neg (by rw [e2]; exact Bool.false_ne_true), ordK_snoc]
theorem putF_le (f : Str) (v : V) : ∀ fs : List (Str × V), (putF f v fs).length ≤ fs.length + 1
  | [] => Nat.le_refl _
  | (g, x) :: r => by
    have h := putF_le f v r
    unfold putF
    split
    · exact Nat.le_succ _
    · rw [List.length_cons, List.length_cons]; omega
theorem valV_mem {kvs : List (Key × V)} {k : Key} {v : V} (h : valV kvs k = some v) : (k, v) ∈ kvs := by
  unfold valV at h
  obtain ⟨p, hp, e⟩ := Option.map_eq_some_iff.mp h
  have h1 := List.mem_of_find?_eq_some hp
  have h2 : p.1 = k := by simpa using List.find?_some hp
  rw [← h2, ← e]
  exact h1
/-- the needs of a row, in some order -/
def PermV (pl : Str → List Str) (v : V) (r : Str) (H : Hp) : Prop := ∃ t ys, v = .ref t ∧ H t = some (.tup ((ys : List Str).map V.str)) ∧ ys.Perm (pl r)
theorem PermV.choose {pl : Str → List Str} {H : Hp} : ∀ {rows : List Str} {vs : List V}, rows.Nodup → All2 (fun v r => PermV pl v r H) vs rows → ∃ nd : Str → List Str, (∀ r, (nd r).Perm (pl r)) ∧ All2 (fun v r => TupV nd v r H) vs rows
  | [], [], _, _ => ⟨pl, fun _ => .refl _, trivial⟩
  | r :: rows, v :: vs, hn, a => by
    obtain ⟨h1, h2⟩ := List.nodup_cons.mp hn
    obtain ⟨⟨t, ys, rfl, ht, hp⟩, b⟩ := a
    obtain ⟨nd, hnd, al⟩ := PermV.choose h2 b
    have key : ∀ {vs : List V} {l : List Str}, (∀ x ∈ l, x ≠ r) → All2 (fun v r => TupV nd v r H) vs l → All2 (fun v x => TupV (fun z => if z = r then ys else nd z) v x H) vs l := by
      intro vs l
      induction l generalizing vs with
      | nil => cases vs with
        | nil => exact fun _ _ => trivial
        | cons _ _ => exact fun _ z => z.elim
      | cons x l ih => cases vs with
        | nil => exact fun _ z => z.elim
        | cons v vs =>
          rintro hx ⟨⟨t', e1, e2⟩, z⟩
          exact ⟨⟨t', e1, by show H t' = some (.tup ((if x = r then ys else nd x).map V.str)); rw [if_neg (hx x List.mem_cons_self)]; exact e2⟩, ih (fun y hy => hx y (List.mem_cons_of_mem _ hy)) z⟩
    refine ⟨fun z => if z = r then ys else nd z, fun z => ?_, ⟨t, rfl, by show H t = some (.tup ((if r = r then ys else nd r).map V.str)); rw [if_pos rfl]; exact ht⟩, key (fun x hx e => h1 (e ▸ hx)) al⟩
    by_cases e : z = r
    · subst e
      show (if z = z then ys else nd z).Perm _
      rw [if_pos rfl]
      exact hp
    · show (if z = r then ys else nd z).Perm _
      rw [if_neg e]
      exact hnd z
  | [], _ :: _, _, a => a.elim
  | _ :: _, [], _, a => a.elim
theorem Sh.perm {rows : List Str} {pl nd : Str → List Str} (S : Sh rows pl) (h : ∀ r, (nd r).Perm (pl r)) : Sh rows nd := by
  refine ⟨S.nodup, S.ok, S.le, fun r hr o ho => S.sub r hr o ((h r).mem_iff.mp ho), fun r hr => (h r).nodup_iff.mpr (S.ndd r hr), ?_⟩
  obtain ⟨rk, hrk⟩ := S.acyc
  exact ⟨rk, fun r hr o ho => hrk r hr o ((h r).mem_iff.mp ho)⟩
abbrev rTupOf (K : PySem.W.Frag) : List V → Hp → VK → Prop := fun xs H Q => ∃ p ys, xs = [V.ref p] ∧ ((SqL K H p ys ∧ ∀ l, H l = none → Q (.ref l) (upd H l (.tup ys))) ∨ (SqT K H p ys ∧ Q (.ref p) H))
abbrev rSortTS (K : PySem.W.Frag) : List V → Hp → VK → Prop := fun xs H Q => ∃ (a : Addr) (zs : List Str), xs = [V.ref a] ∧ SqT K H a (zs.map V.str) ∧ zs.length < 64 ∧ ∀ ys p, ys.Perm zs → sortedS ys = true → H p = none → Q (.ref p) (upd H p (.lst (ys.map V.str)))
section
variable {P : Program} {w : World} {K : PySem.W.Frag} {mg : Str → Option Value} {base : Heap}
def spFill (K : PySem.W.Frag) : Sp := fun vs H Q _ => ∃ (p a d dx : Addr) (rows : List Str) (pl : Str → List Str) (kvs : List (Key × V)) (fs : List (Str × V)), vs = [.ref p, .ref a, .ref d] ∧ H p = some (.ins (He.ga K "Sheet") dx fs) ∧
  (fs = [] ∨ ∃ v1 v2 v3 v4, fs = [(("names" : Str), v1), ("direct", v2), ("order", v3), ("shown", v4)]) ∧ H a = some (.tup (rows.map V.str)) ∧ H d = some (.dK kvs) ∧ Sh rows pl ∧ kvs.length ≤ 12 ∧
  (∀ p ∈ kvs, ∃ (r : Str) (t : Addr), p = (Sum.inr r, .ref t) ∧ r ∈ rows ∧ H t = some (.tup ((pl r).map V.str))) ∧ (∀ r ∈ rows, valV kvs (Sum.inr r) = none → pl r = []) ∧
  ∀ nd H', (∀ r, (nd r).Perm (pl r)) → SameX p H H' → SheetAt K H' p rows nd → Q .non H'
abbrev n_fill : List Str := ["self", "rows", "needs", "direct", "ring", "name", "index"]
theorem sc_fill : FnScope n_fill ["self", "rows", "needs"] (defScope s_Sheet_fill) := ⟨rfl, rfl, rfl, by decide +kernel, rfl, by decide +kernel, by decide +kernel⟩
theorem ok_fill (T : Tx K mg) : Pr P w K mg base 4 (He.ma K (He.ga K "Sheet") "fill") (spFill K) := by
  obtain ⟨fd, F⟩ := T.f_Sheet_fill
  obtain ⟨_, F1⟩ := T.f_need_rows
  obtain ⟨_, F2⟩ := T.f_need_needs
  obtain ⟨_, F3⟩ := T.f_ring_in
  obtain ⟨_, F4⟩ := T.f_sheet_text
  refine pr_of (fn_t F sc_fill (fun _ _ _ _ _ _ us hl => match us, hl with | [_, _, _], _ => rfl) (fun vs H Q E h => ?_) fun cdv A outer s H vs Q E hr h => ?_)
  · obtain ⟨p, a, d, dx, rows, pl, kvs, fs, rfl, _⟩ := h
    rfl
  · obtain ⟨p, a, d, dx, rows, pl, kvs, fs, rfl, hp, hfs, ha, hd, S, hle, hall, hnone, q⟩ := h
    have hu := hu_of hr
    refine ⟨_, pss_cons (ps_expr (pc (ok_need_rows T) hr F1.kp T.g_need_rows (pa_cons (pv 1) pa_nil)))
      (pss_cons (ps_expr (pc (ok_need_needs T) hr F2.kp T.g_need_needs (pa_cons (pv 1) (pa_cons (pv 2) pa_nil))))
      (pss_cons (ps_setDc (i := 3) (own := [("name", 5)]) (g := gName 5) (tt := tYes) rfl sc_fill.nd rfl rfl (swD_true rfl rfl rfl (by decide +kernel)) (pi_tup (pv 1)) (blkOk_by (N := n_fill) (sc := defScope s_Sheet_fill) (by decide +kernel))
          (fun _ _ _ _ _ => pg_name (i := 5) sc_fill.nd rfl (Or.inl rfl)) (fun _ _ _ _ _ => pts_nil) (fun _ _ _ _ _ => pv 5)
          (tv := tCB (rTupOf K) (tCons (tCB (rSortTS K) (tCons (tDGet2 (tVar 2) (tVar 5) (tTup tNil)) tNil)) tNil))
          (fun _ _ _ _ _ => pe_callTy call_tuple_of (by rfl) T.b_tuple (by decide +kernel) (pa_cons (pe_callB cr_sortedTS (by rfl) T.b_sorted (by decide +kernel) (pa_cons (pe_dget2 hu (pv 2) (pv 5) (pe_tup pa_nil) ⟨by rfl, by rfl, by rfl, by rfl⟩) pa_nil)) pa_nil)))
      (pss_cons (ps_set (i := 4) sc_fill.nd rfl (Or.inl rfl) (pc (ok_ring_in T) (hr.mono (by decide)) F3.kp T.g_ring_in (pa_cons (pv 3) pa_nil)))
      (pss_cons (ps_if (pt_cmp (pc_notN (pv 4))) pss_never pss_nil)
      (pss_cons (ps_fld (pv 0) (pe_callTy call_tupleT (by rfl) T.b_tuple (by decide +kernel) (pa_cons (pv 1) pa_nil)) rfl)
      (pss_cons (ps_fld (pv 0) (pv 3) rfl)
      (pss_cons (ps_fld (pv 0) (pe_dc (own := [("name", 5), ("index", 6)]) (g := gTup K 2 (gCons (gName 6) (gCons (gName 5) gNil))) (tt := tYes) rfl sc_fill.nd (pi_enumT (by rfl) T.b_enumerate (pa_cons (pv 1) pa_nil)) (blkOk_by (N := n_fill) (sc := defScope s_Sheet_fill) (by decide +kernel))
          (fun _ _ _ _ _ => pg_tup rfl (pgs_cons (pg_name (i := 6) sc_fill.nd rfl (.inl rfl)) (pgs_cons (pg_name (i := 5) sc_fill.nd rfl (.inl rfl)) pgs_nil))) (fun _ _ _ _ _ => pts_nil) (fun _ _ _ _ _ => pv 5) (fun _ _ _ _ _ => pv 6)) rfl)
      (pss_one (ps_fld (pv 0) (pc (ok_sheet_text T) hr F4.kp T.g_sheet_text (pa_cons (pv 0) pa_nil)) rfl))))))))), ?_⟩
    have hle12 := S.le
    have hfl : fs.length ≤ 4 := by rcases hfs with rfl | ⟨_, _, _, _, rfl⟩ <;> simp
    have hf1 := putF_le "names" (.ref a) fs
    have hf2 := fun D => putF_le "direct" (.ref D) (putF "names" (.ref a) fs)
    have hf3 := fun D O => putF_le "order" (.ref O) (putF "direct" (.ref D) (putF "names" (.ref a) fs))
    refine ⟨_, rfl, a, rows, rfl, .of ha, S.nodup, S.ok, S.le, fun H1 s1 => ?_⟩
    refine ⟨_, rfl, _, rfl, a, d, rows, kvs, rfl, Same.sqT s1 (.of ha), s1 _ _ hd, S.ok, hle, fun p hp => ?_, fun H2 s2 => ?_⟩
    · obtain ⟨r, t, e, hr2, ht⟩ := hall p hp
      exact ⟨r, t, pl r, e, hr2, s1 _ _ ht, S.sub r hr2, S.ndd r hr2, Nat.le_trans (S.ndle hr2) S.le⟩
    have s12 := s1.trans s2
    have ha2 := s12 _ _ ha
    have hd2 := s12 _ _ hd
    refine ⟨_, rfl, a, rfl, ⟨_, .of ha2⟩, fun D hD => ?_⟩
    have haD : a ≠ D := fun z => by rw [← z, ha2] at hD; cases hD
    refine walk_gen (n := (rows.map V.str).length) walk_tup (fun i H' => ∃ vs', H' D = some (.dK (clD (rows.take i) vs')) ∧ All2 (fun v r => PermV pl v r H') vs' (rows.take i) ∧ SameX D H2 H')
      ⟨[], upd_same, trivial, .set⟩ (fun i H' _ g => by obtain ⟨_, _, _, g⟩ := g; exact .of (g _ _ haD ha2)) ?_ ?_
    · rintro i x _ H3 hi ⟨vs', g1, g2, g3⟩ ⟨rfl, hx⟩
      rw [List.length_map] at hi
      have hrow : rows[i]? = some rows[i] := List.getElem?_eq_getElem hi
      rw [List.getElem?_map, hrow] at hx
      cases hx
      generalize hrr : rows[i] = r at hrow
      have hr2 : r ∈ rows := List.mem_of_getElem? hrow
      have hdD : d ≠ D := fun z => by rw [← z, hd2] at hD; cases hD
      refine ⟨rfl, yes ⟨_, rfl, ?_⟩⟩
      refine ⟨_, rfl, d, rfl, .inl ⟨kvs, .of (g3 _ _ hdD hd2)⟩, _, rfl, by show 0 ≤ sizeLine; decide, fun e he => ?_⟩
      have se : Same H3 (upd H3 e (.tup [])) := Same.new he
      refine ⟨valV kvs (Sum.inr r), DGet.k (k := Sum.inr r) (se _ _ (g3 _ _ hdD hd2)), ?_⟩
      have n1 : (rows.take i).length ≤ 12 := by rw [List.length_take]; omega
      have hnew : r ∉ rows.take i := fun hm => by
        obtain ⟨j, hj, ej⟩ := List.mem_iff_getElem.mp hm
        rw [List.length_take] at hj
        rw [List.getElem_take, ← hrr] at ej
        have := (List.getElem_inj S.nodup).mp ej
        omega
      -- sorted is asked of a tuple t of the needs
      have last : ∀ t : Addr, (upd H3 e (.tup [])) t = some (.tup ((pl r).map V.str)) → rSortTS K [.ref t] (upd H3 e (.tup [])) fun y H6 => rTupOf K [y] H6 fun z H8 => ∃ kvs k, V.str r = kV k ∧ H8 D = some (.dK kvs) ∧ kvs.length < sizeLine ∧
          ∃ vs', (upd H8 D (.dK (putK kvs k z))) D = some (.dK (clD (rows.take (i + 1)) vs')) ∧ All2 (fun v r => PermV pl v r (upd H8 D (.dK (putK kvs k z)))) vs' (rows.take (i + 1)) ∧ SameX D H2 (upd H8 D (.dK (putK kvs k z))) := fun t ht => by
        refine ⟨t, pl r, rfl, .of ht, by have := S.ndle hr2; omega, fun ys b hperm _ hb => ⟨b, _, rfl, .inl ⟨.of upd_same, fun c hc => ?_⟩⟩⟩
        have s8 : Same H3 (upd (upd (upd H3 e (.tup [])) b (.lst (ys.map V.str))) c (.tup (ys.map V.str))) := (se.trans (Same.new hb)).trans (Same.new hc)
        have g1' := s8 _ _ g1
        refine ⟨_, Sum.inr r, rfl, g1', by rw [(clD_TK g2.len).len, sizeLine_eq]; omega, vs' ++ [.ref c], ?_, ?_, (g3.trans (Pw.Same.x s8)).trans .set⟩
        · rw [upd_same, clD_put g2.len hnew, List.take_add_one, hrow]
          rfl
        · rw [List.take_add_one, hrow]
          have hcD : c ≠ D := ne_of upd_same g1' (by intro z; cases z)
          refine (g2.mono fun v r h => ?_).snoc ⟨c, ys, rfl, by rw [upd_ne hcD]; exact upd_same, hperm⟩
          obtain ⟨t', ys', e1, e2, e3⟩ := h
          have e4 := s8 _ _ e2
          exact ⟨t', ys', e1, by rw [upd_ne (ne_of e4 g1' (by intro z; cases z))]; exact e4, e3⟩
      cases hv : valV kvs (Sum.inr r) with
      | none =>
        have hp0 := hnone r hr2 hv
        exact last e (by rw [hp0]; exact upd_same)
      | some v =>
        obtain ⟨r', t, e2, _, ht⟩ := hall _ (valV_mem hv)
        cases e2
        exact last t (se _ _ (g3 _ _ (fun z => by rw [z, s12.free hD] at ht; cases ht) (s12 _ _ ht)))
    · rintro H3 ⟨vs', g1, g2, g3⟩
      rw [List.length_map, List.take_length] at g1 g2
      obtain ⟨nd, hnd, al⟩ := PermV.choose S.nodup g2
      have Sn := S.perm hnd
      have hDn : H D = none := s12.free hD
      have s3 : Same H H3 := fun b o e => g3 b o (fun z => by rw [z, hDn] at e; cases e) (s12 _ _ e)
      refine ⟨_, rfl, D, rows, nd, rfl, Sn, ⟨vs', g1, al⟩, fun H4 s4 => ?_⟩
      have s34 := s3.trans s4
      refine ⟨_, rfl, _, rfl, iteF ?_⟩
      refine ⟨_, rfl, a, _, rfl, .of (s34 _ _ ha), _, rfl, p, _, dx, fs, rfl, s34 _ _ hp, T.cl_Sheet, T.na_Sheet_names, ?_, ?_⟩
      · omega
      -- the fields
      have hpD : p ≠ D := fun z => by rw [z, hDn] at hp; cases hp
      have hpa : a ≠ p := ne_of ha hp (by intro z; cases z)
      refine ⟨_, rfl, _, rfl, p, _, dx, _, rfl, upd_same, T.cl_Sheet, T.na_Sheet_direct, ?_, ?_⟩
      · omega
      generalize hH5 : upd (upd H4 p (.ins (He.ga K "Sheet") dx (putF "names" (.ref a) fs))) p (.ins (He.ga K "Sheet") dx (putF "direct" (.ref D) (putF "names" (.ref a) fs))) = H5
      have sx5 : SameX p H4 H5 := by rw [← hH5]; exact (SameX.set).trans .set
      have p5 : H5 p = some (.ins (He.ga K "Sheet") dx (putF "direct" (.ref D) (putF "names" (.ref a) fs))) := by rw [← hH5]; exact upd_same
      have a5 : H5 a = some (.tup (rows.map V.str)) := sx5 _ _ hpa (s34 _ _ ha)
      refine ⟨_, rfl, a, _, rfl, .of a5, fun O hO => ?_⟩
      have hOp : O ≠ p := fun z => by rw [z, p5] at hO; cases hO
      have haO : a ≠ O := fun z => by rw [← z, a5] at hO; cases hO
      refine walk_gen (n := (rows.map V.str).length) walk_enumT (fun i H' => H' O = some (.dK (ordK (rows.take i))) ∧ SameX O H5 H') ⟨upd_same, .set⟩ (fun i H' _ g => .of (g.2 _ _ haO a5)) ?_ ?_
      · rintro i x H6 H7 hi ⟨g5, g6⟩ ⟨Tn, kx, vx, rfl, hTn, rfl, hkx, hvx⟩
        rw [List.length_map] at hi
        have hrow : rows[i]? = some rows[i] := List.getElem?_eq_getElem hi
        simp only [List.getElem?_map, hrow] at hkx hvx
        cases hkx
        cases hvx
        have hTO : Tn ≠ O := fun z => by rw [z, g5] at hTn; cases hTn
        show gTup K 2 (gCons (gName 6) (gCons (gName 5) gNil)) _ _ (upd H6 Tn (.tup [.int i, .str rows[i]])) _
        refine ⟨Tn, _, rfl, .of upd_same, rfl, _, _, rfl, _, _, rfl, rfl, rfl, yes ?_⟩
        have n1 : (rows.take i).length = i := by rw [List.length_take]; omega
        have hnew : rows[i] ∉ rows.take i := fun hm => by
          obtain ⟨j, hj, ej⟩ := List.mem_iff_getElem.mp hm
          rw [List.length_take] at hj
          rw [List.getElem_take] at ej
          have := (List.getElem_inj S.nodup).mp ej
          omega
        have ep := ordK_put hnew
        rw [n1] at ep
        refine ⟨_, rfl, _, rfl, _, Sum.inr rows[i], rfl, by rw [upd_ne (Ne.symm hTO)]; exact g5, by rw [(ordK_TK _).len, sizeLine_eq]; omega, ?_, (g6.trans (Pw.Same.x (Same.new hTn))).trans .set⟩
        rw [upd_same, ep, List.take_add_one, hrow]
        rfl
      · rintro H6 ⟨g5, g6⟩
        rw [List.length_map, List.take_length] at g5
        have p6 := g6 _ _ (Ne.symm hOp) p5
        refine ⟨_, rfl, p, _, dx, _, rfl, p6, T.cl_Sheet, T.na_Sheet_order, ?_, ?_⟩
        · have := hf2 D; omega
        have hOn : H O = none := by
          cases hh : H O with
          | none => rfl
          | some o =>
            have := sx5 _ _ hOp (s34 _ _ hh)
            rw [hO] at this
            cases this
        have sx6 : SameX p H H6 := fun b o n e => g6 _ _ (fun z => by rw [z, hOn] at e; cases e) (sx5 _ _ n (s34 _ _ e))
        have hDp : D ≠ p := Ne.symm hpD
        have d6 : H6 D = some (.dK (clD rows vs')) := by
          have h5 := sx5 _ _ hDp (s4 _ _ g1)
          exact g6 _ _ (fun z => by rw [z, hO] at h5; cases h5) h5
        have al6 : All2 (fun v r => TupV nd v r H6) vs' rows := al.mono fun v r h => by
          obtain ⟨t, e1, e2⟩ := h
          have e4 := s4 _ _ e2
          have htp : t ≠ p := ne_of e4 (s34 _ _ hp) (by intro z; cases z)
          have e5 := sx5 _ _ htp e4
          exact ⟨t, e1, g6 _ _ (fun z => by rw [z, hO] at e5; cases e5) e5⟩
        -- the shown text
        have fin : ∀ (z : Str) (H7 H8 : Hp) (fs1 fs2 : List (Str × V)), H8 p = some (.ins (He.ga K "Sheet") dx fs2) → SameX p H6 H8 → fs2 = [(("names" : Str), V.ref a), ("direct", V.ref D), ("order", V.ref O), ("shown", V.str z)] → Q .non H8 := fun z H7 H8 fs1 fs2 e1 e2 e3 => by
          subst e3
          refine q nd H8 hnd (sx6.trans e2) ⟨dx, a, D, O, z, e1, e2 _ _ hpa (sx6 _ _ hpa ha), ⟨vs', e2 _ _ hDp d6, al6.mono fun v r h => ?_⟩, e2 _ _ hOp g5⟩
          obtain ⟨t, q1, q2⟩ := h
          exact ⟨t, q1, e2 _ _ (ne_of q2 p6 (by intro z; cases z)) q2⟩
        generalize hH7 : upd H6 p (.ins (He.ga K "Sheet") dx (putF "order" (.ref O) (putF "direct" (.ref D) (putF "names" (.ref a) fs)))) = H7
        have sx7 : SameX p H6 H7 := by rw [← hH7]; exact .set
        have p7 : H7 p = some (.ins (He.ga K "Sheet") dx (putF "order" (.ref O) (putF "direct" (.ref D) (putF "names" (.ref a) fs)))) := by rw [← hH7]; exact upd_same
        have L7 : SheetL K H7 p rows nd := by
          refine ⟨dx, a, D, _, p7, ?_, ?_, ?_, ?_, sx7 _ _ hpa (sx6 _ _ hpa ha), ⟨vs', sx7 _ _ hDp d6, al6.mono fun v r h => ?_⟩⟩
          · rcases hfs with rfl | ⟨_, _, _, _, rfl⟩ <;> rfl
          · rcases hfs with rfl | ⟨_, _, _, _, rfl⟩ <;> rfl
          · rcases hfs with rfl | ⟨_, _, _, _, rfl⟩ <;> rfl
          · rcases hfs with rfl | ⟨_, _, _, _, rfl⟩ <;> rfl
          · obtain ⟨t, q1, q2⟩ := h
            exact ⟨t, q1, sx7 _ _ (ne_of q2 p6 (by intro z; cases z)) q2⟩
        refine ⟨_, rfl, p, rows, nd, rfl, Sn, L7, fun z H8 s8 => ?_⟩
        refine ⟨_, rfl, p, _, dx, _, rfl, s8 _ _ p7, T.cl_Sheet, T.na_Sheet_shown, ?_, ?_⟩
        · have := hf2 D; have := hf3 D O; omega
        refine fin z H8 _ [] _ upd_same ((sx7.trans (Pw.Same.x s8)).trans .set) ?_
        rcases hfs with rfl | ⟨_, _, _, _, rfl⟩ <;> rfl
def spInit0 (K : PySem.W.Frag) : Sp := fun vs H Q _ => ∃ (p a d dx : Addr), vs = [.ref p, .ref a, .ref d] ∧ H p = some (.ins (He.ga K "Sheet") dx []) ∧ H a = some (.tup []) ∧ H d = some (.dK []) ∧ ∀ H', SameX p H H' → (∃ dx' v1 v2 v3 v4, H' p = some (.ins (He.ga K "Sheet") dx' [(("names" : Str), v1), ("direct", v2), ("order", v3), ("shown", v4)])) → Q .non H'
theorem sc_Sheet_init : FnScope ["self", "rows", "needs"] ((["self"] : List Str) ++ (["rows", "needs"] : List Str)) (defScope s_Sheet_init) := ⟨rfl, rfl, rfl, by decide +kernel, rfl, by decide +kernel, by decide +kernel⟩
theorem sh_nil : Sh [] (fun _ => []) := ⟨List.nodup_nil, by simp, by simp, by simp, by simp, ⟨fun _ => 0, by simp⟩⟩
theorem ok_Sheet_init (T : Tx K mg) : Pr P w K mg base 5 (He.ma K (He.ga K "Sheet") "__init__") (fun vs H Q E => ∃ ws rest, vs = ws ++ rest ∧ ws.length = ["self"].length ∧ rest.length ≤ sizeLine ∧ ∀ p d, H p = none → H d = none → d ≠ p → spInit0 K (ws ++ [V.ref p, V.ref d]) (upd (upd H p (.tup rest)) d (.dK [])) Q E) := by
  obtain ⟨fd, F⟩ := T.f_Sheet_init
  refine fn_tSK (ps := ["self"]) (pv := "rows") (pd := "needs") F sc_Sheet_init (fun _ _ _ _ _ _ us rest hl => match us, rest, hl with | [_], [], _ => rfl | [_], _ :: _, _ => rfl) fun cdv A outer s H vs Q E hr h => ?_
  obtain ⟨p, a, d, dx, rfl, hp, ha, hd, q⟩ := h
  refine ⟨_, pss_one (ps_expr (pm (pv 0) T.cl_Sheet T.mt_Sheet_fill (ok_fill T) hr (pa_cons (pv 1) (pa_cons (pv 2) pa_nil)))), ?_⟩
  refine ⟨_, rfl, p, dx, [], rfl, hp, rfl, _, rfl, _, rfl, p, a, d, dx, [], fun _ => [], [], [], rfl, hp, .inl rfl, ha, hd, sh_nil, by simp, by simp, by simp, fun nd H' _ sx hs => ?_⟩
  obtain ⟨dx', aN, aD, aO, z, e1, _⟩ := hs
  exact q H' sx ⟨dx', _, _, _, _, e1⟩
def spSheetOf (K : PySem.W.Frag) : Sp := fun vs H Q _ => ∃ (a d : Addr) (rows : List Str) (pl : Str → List Str) (kvs : List (Key × V)), vs = [.ref (He.ga K "Sheet"), .ref a, .ref d] ∧ H a = some (.tup (rows.map V.str)) ∧ H d = some (.dK kvs) ∧ Sh rows pl ∧ kvs.length ≤ 12 ∧
  (∀ p ∈ kvs, ∃ (r : Str) (t : Addr), p = (Sum.inr r, .ref t) ∧ r ∈ rows ∧ H t = some (.tup ((pl r).map V.str))) ∧ (∀ r ∈ rows, valV kvs (Sum.inr r) = none → pl r = []) ∧
  ∀ p nd H', (∀ r, (nd r).Perm (pl r)) → Same H H' → SheetAt K H' p rows nd → Q (.ref p) H'
theorem sc_Sheet_of : FnScope ["cls", "rows", "needs", "found"] ["cls", "rows", "needs"] (defScope s_Sheet_of) := ⟨rfl, rfl, rfl, by decide +kernel, rfl, by decide +kernel, by decide +kernel⟩
theorem ok_Sheet_of (T : Tx K mg) : Pr P w K mg base 7 (cmA K (He.ga K "Sheet") "of") (spSheetOf K) := by
  obtain ⟨fd, F⟩ := T.f_Sheet_of
  refine pr_of (fn_t F sc_Sheet_of (fun _ _ _ _ _ _ us hl => match us, hl with | [_, _, _], _ => rfl) (fun vs H Q E h => ?_) fun cdv A outer s H vs Q E hr h => ?_)
  · obtain ⟨a, d, rows, pl, kvs, rfl, _⟩ := h
    rfl
  · obtain ⟨a, d, rows, pl, kvs, rfl, ha, hd, S, hle, hall, hnone, q⟩ := h
    refine ⟨_, pss_cons (ps_set (i := 3) sc_Sheet_of.nd rfl (Or.inl rfl) (pnL0 (i := 0) T.mk_Sheet (ok_Sheet_init T) hr rfl (.inl rfl)))
      (pss_cons (ps_expr (pm (pv 3) T.cl_Sheet T.mt_Sheet_fill (ok_fill T) (hr.mono (by decide)) (pa_cons (pv 1) (pa_cons (pv 2) pa_nil))))
      (pss_one (ps_ret (pv 3)))), ?_⟩
    refine ⟨rfl, fun x dx hx hdx hne => ⟨[.ref x], [], rfl, rfl, by decide, fun t e ht he hne2 => ?_⟩⟩
    generalize hH1 : upd (upd H dx (.own x)) x (.ins (He.ga K "Sheet") dx []) = H1 at ht he
    have s1 : Same H H1 := by rw [← hH1]; exact (Same.new hdx).trans (Same.new (by rw [upd_ne (Ne.symm hne)]; exact hx))
    have x1 : H1 x = some (.ins (He.ga K "Sheet") dx []) := by rw [← hH1]; exact upd_same
    have het : (upd H1 t (.tup [])) e = none := by rw [upd_ne hne2]; exact he
    have s2 : Same H1 (upd (upd H1 t (.tup [])) e (.dK [])) := (Same.new ht).trans (Same.new het)
    have hxt : x ≠ t := fun z => by rw [← z, x1] at ht; cases ht
    have hxe : x ≠ e := fun z => by rw [← z, x1] at he; cases he
    refine ⟨x, t, e, dx, rfl, s2 _ _ x1, by rw [upd_ne (Ne.symm hne2)]; exact upd_same, upd_same, fun H2 sx ⟨dx2, v1, v2, v3, v4, e2⟩ => ⟨rfl, ?_⟩⟩
    have sH : ∀ b o, b ≠ x → H b = some o → H2 b = some o := fun b o n h => sx b o n (s2 _ _ (s1 _ _ h))
    have nx : ∀ b o, H b = some o → b ≠ x := fun b o h z => by rw [z, hx] at h; cases h
    refine ⟨_, rfl, x, dx2, _, rfl, e2, rfl, _, rfl, _, rfl, x, a, d, dx2, rows, pl, kvs, _, rfl, e2, .inr ⟨v1, v2, v3, v4, rfl⟩, sH _ _ (nx _ _ ha) ha, sH _ _ (nx _ _ hd) hd, S, hle, fun p hp => ?_, hnone, fun nd H3 hnd sx3 hs => ?_⟩
    · obtain ⟨r, t', e3, hr2, ht'⟩ := hall p hp
      exact ⟨r, t', e3, hr2, sH _ _ (nx _ _ ht') ht'⟩
    · exact ⟨_, rfl, q x nd H3 hnd (fun b o h => sx3 _ _ (nx _ _ h) (sH _ _ (nx _ _ h) h)) hs⟩
def spSheetEq (K : PySem.W.Frag) : Sp := fun vs H Q _ => ∃ p rows nd, vs = [.ref p, .ref p] ∧ SheetAt K H p rows nd ∧ (∀ r ∈ rows, NameOk r) ∧ Q (.bl true) H
theorem sc_Sheet_eq : FnScope ["self", "other"] ["self", "other"] (defScope s_Sheet_eq) := ⟨rfl, rfl, rfl, by decide +kernel, rfl, by decide +kernel, by decide +kernel⟩
theorem ok_Sheet_eq (T : Tx K mg) : Pr P w K mg base 1 (He.ma K (He.ga K "Sheet") "__eq__") (spSheetEq K) := by
  obtain ⟨fd, F⟩ := T.f_Sheet_eq
  refine pr_of (fn_t F sc_Sheet_eq (fun _ _ _ _ _ _ us hl => match us, hl with | [_, _], _ => rfl) (fun vs H Q E h => ?_) fun cdv A outer s H vs Q E hr h => ?_)
  · obtain ⟨p, rows, nd, rfl, _⟩ := h
    rfl
  · obtain ⟨p, rows, nd, rfl, ⟨dx, aN, aD, aO, z, h1, h2, ⟨vs, h3, h5⟩, h4⟩, hok, q⟩ := h
    have hw : ∀ z ∈ rows, Ok z := fun z hz => (hok z hz).strOk
    refine ⟨_, pss_one (ps_ret (pe_and (pe_callB (C8.call_isC T.is_Sheet) (by rfl) T.b_isinstance (by decide +kernel) (pa_cons (pv 1) (pa_cons (pe_glob (v := .ref (He.ga K "Sheet")) (by rfl) T.g_Sheet rfl) pa_nil)))
      (pe_and (pe_cmpR (op_eqD hr.units) (pe_fld (pv 0) rfl) (pe_fld (pv 1) rfl) (nomark _)) (pe_one (pe_cmpR (op_eqSame (Nat.lt_of_succ_lt (hu_of hr))) (pe_fld (pv 0) rfl) (pe_fld (pv 1) rfl) (nomark _)))))), ?_⟩
    refine ⟨_, rfl, p, dx, _, rfl, h1, true, rfl, iteT ?_⟩
    refine ⟨_, rfl, p, _, dx, _, _, rfl, h1, T.cl_Sheet, T.na_Sheet_names, rfl, _, rfl, p, _, dx, _, _, rfl, h1, T.cl_Sheet, T.na_Sheet_names, rfl, ssD rows, ssD rows, dp_ss (.of h2), dp_ss (.of h2), ssD_shaped hw, ssD_shaped hw, true, ?_, iteT ?_⟩
    · rw [ssD_eqv]; simp
    · exact ⟨_, rfl, p, _, dx, _, _, rfl, h1, T.cl_Sheet, T.na_Sheet_direct, rfl, _, rfl, p, _, dx, _, _, rfl, h1, T.cl_Sheet, T.na_Sheet_direct, rfl, aD, _, rfl, rfl, h3, q⟩
end
end Pw
end
section
set_option maxRecDepth 100000
set_option maxHeartbeats 4000000
/-! The walk: keeps.py, first half. -/
namespace Pw
open PySem PySem.Spec PyProof.Rows L2
theorem All2.take {α : Type} {R : V → α → Prop} : ∀ {vs : List V} {ts : List α} (i : Nat), All2 R vs ts → All2 R (vs.take i) (ts.take i)
  | _, _, 0, _ => by simp [All2]
  | [], [], _ + 1, _ => trivial
  | _ :: _, _ :: _, i + 1, a => ⟨a.1, All2.take i a.2⟩
  | [], _ :: _, _, a => a.elim
  | _ :: _, [], _, a => a.elim
/-- copies of a sheet -/
structure Cps (rows : List Str) (k : Nat) (cs : List Cpy) : Prop where
  nodup : cs.Nodup
  sub : ∀ c ∈ cs, c ∈ Lat.allC rows k
theorem Cps.row {rows : List Str} {k : Nat} {cs : List Cpy} (h : Cps rows k cs) {c : Cpy} (hc : c ∈ cs) : c.1 ∈ rows := (Lat.mem_allC.mp (h.sub c hc)).1
theorem Cps.len {rows : List Str} {k : Nat} {cs : List Cpy} (h : Cps rows k cs) (hk : rows.length * k ≤ 12) : cs.length ≤ 12 := by
  have := Lat.len_sub h.nodup h.sub
  rw [Lat.allC_len] at this
  omega
/-- so many rows and passes -/
structure Sz (rows : List Str) (k : Nat) : Prop where
  k1 : 1 ≤ k
  k12 : k ≤ 12
  rk : rows.length * k ≤ 12
section
variable {P : Program} {w : World} {K : PySem.W.Frag} {mg : Str → Option Value} {base : Heap}
def spNeedCopies (K : PySem.W.Frag) : Sp := fun vs H Q _ => ∃ (p a : Addr) (rows : List Str) (nd : Str → List Str) (k : Nat) (xs : List V) (cs : List Cpy), vs = [.ref p, .int k, .ref a] ∧ SheetAt K H p rows nd ∧ Sh rows nd ∧ Sz rows k ∧ SqT K H a xs ∧ All2 (fun v c => PairV v c H) xs cs ∧ Cps rows k cs ∧ ∀ H', Same H H' → Q .non H'
abbrev n_nc : List Str := ["sheet", "passes", "copies", "index", "copy"]
theorem sc_need_copies : FnScope n_nc ["sheet", "passes", "copies"] (defScope s_need_copies) := ⟨rfl, rfl, rfl, by decide +kernel, rfl, by decide +kernel, by decide +kernel⟩
theorem ok_need_copies (T : Tx K mg) : Pr P w K mg base 4 (He.ga K "need_copies") (spNeedCopies K) := by
  obtain ⟨fd, F⟩ := T.f_need_copies
  obtain ⟨_, FI⟩ := T.f_is_copy
  refine pr_of (fn_t F sc_need_copies (fun _ _ _ _ _ _ us hl => match us, hl with | [_, _, _], _ => rfl) (fun vs H Q E h => ?_) fun cdv A outer s H vs Q E hr h => ?_)
  · obtain ⟨p, a, rows, nd, k, xs, cs, rfl, _⟩ := h
    rfl
  · obtain ⟨p, a, rows, nd, k, xs, cs, rfl, hs, S, Z, ha, al, C, q⟩ := h
    refine ⟨_, pss_one (ps_for PassesOwn.never rfl (pi_enumT (by rfl) T.b_enumerate (pa_cons (pv 2) pa_nil)) (pg_tup rfl (pgs_cons (pg_name (i := 3) sc_need_copies.nd rfl (.inl rfl)) (pgs_cons (pg_name (i := 4) sc_need_copies.nd rfl (.inl rfl)) pgs_nil)))
        (pss_one (ps_if (PW.pt (pw_or (pt_not (pt_val (pc (ok_is_copy T) hr FI.kp T.g_is_copy (pa_cons (pv 0) (pa_cons (pv 1) (pa_cons (pv 4) pa_nil))))))
          (pw_or1 (pt_cmpR (op_inDT (hu65 hr)) (pv 4) (pe_slice sl_tup (pv 2) po_none (po_some (pv 3))) (by rfl))))) pss_never pss_nil))), ?_⟩
    have lxs := al.len
    have l12 := C.len Z.rk
    have ok : ∀ c ∈ cs, Ok c.1 := fun c hc => (S.ok _ (C.row hc)).strOk
    refine ⟨_, rfl, a, _, rfl, ha, ?_⟩
    refine for_it (n := xs.length) walk_enumT (fun i σ' H' => (∃ x1 x2, σ' = [some (.ref p), some (.int k), some (.ref a), x1, x2]) ∧ Same H H') ⟨⟨none, none, rfl⟩, Same.refl _⟩ (fun i σ' H' _ h => Same.sqT h.2 ha) ?_ (fun σ' H' h => q _ h.2)
    rintro i x σ' H' H2 hi ⟨⟨x1, x2, rfl⟩, s1⟩ ⟨Tn, kx, vx, rfl, hTn, rfl, hkx, hvx⟩
    cases hkx
    obtain ⟨c, hci, hpv⟩ := al.get hvx
    have hic : i < cs.length := by omega
    have hmem : c ∈ cs := List.mem_of_getElem? hci
    have s2 : Same H' (upd H' Tn (.tup [.int i, vx])) := Same.new hTn
    have s12 := s1.trans s2
    show gTup K 2 (gCons (gName 3) (gCons (gName 4) gNil)) _ _ (upd H' Tn (.tup [.int i, vx])) _
    refine ⟨Tn, _, rfl, .of upd_same, rfl, _, _, rfl, _, _, rfl, rfl, ?_⟩
    refine ⟨_, rfl, _, rfl, _, rfl, p, rows, nd, k, vx, c, rfl, hs.same s12, hpv.same s12, C.sub c hmem, true, rfl, iteF ?_⟩
    refine ⟨_, rfl, _, rfl, _, rfl, (i : Int), rfl, a, _, rfl, Same.sqT s12 ha, ?_, fun t ht => ?_⟩
    · rw [HT.sIx_none, HT.sIx_nat]
      omega
    · rw [cut_take (by omega)]
      have s3 : Same (upd H' Tn (.tup [.int i, vx])) (upd (upd H' Tn (.tup [.int i, vx])) t (.tup (xs.take i))) := Same.new ht
      refine ⟨cD c, (cs.take i).map cD, dp_c (hpv.same (s12.trans s3)), dp_k (.of upd_same) ((al.take i).mono fun v c h => h.same (s12.trans s3)), cD_shaped (ok c hmem), kD_shaped fun z hz => ok z (List.mem_of_mem_take hz), _, rfl, ?_⟩
      rw [any_cD]
      refine iB (fun hin => ?_) (fun _ => ⟨⟨_, _, rfl⟩, s12.trans s3⟩)
      obtain ⟨j, hj, ej⟩ := List.mem_iff_getElem.mp (of_decide_eq_true hin)
      rw [List.length_take] at hj
      rw [List.getElem_take] at ej
      have ec : cs[i] = c := Option.some.inj ((List.getElem?_eq_getElem hic).symm.trans hci)
      have := (List.getElem_inj C.nodup).mp (ej.trans ec.symm)
      omega
end
/-- all but an instance: what stands elsewhere -/
theorem SameX.tup {q : Addr} {H H' : Hp} {C dx : Addr} {fs : List (Str × V)} (s : SameX q H H') (hq : H q = some (.ins C dx fs)) {b : Addr} {xs : List V} (h : H b = some (.tup xs)) : H' b = some (.tup xs) := s _ _ (ne_of h hq (by intro z; cases z)) h
theorem SameX.dK {q : Addr} {H H' : Hp} {C dx : Addr} {fs : List (Str × V)} (s : SameX q H H') (hq : H q = some (.ins C dx fs)) {b : Addr} {xs : List (Key × V)} (h : H b = some (.dK xs)) : H' b = some (.dK xs) := s _ _ (ne_of h hq (by intro z; cases z)) h
theorem PairV.sameX {q : Addr} {H H' : Hp} {C dx : Addr} {fs : List (Str × V)} {v : V} {c : Cpy} (h : PairV v c H) (s : SameX q H H') (hq : H q = some (.ins C dx fs)) : PairV v c H' := let ⟨a, e, e2⟩ := h; ⟨a, e, s.tup hq e2⟩
theorem SheetAt.sameX {K : PySem.W.Frag} {q : Addr} {H H' : Hp} {C dx p : Addr} {fs : List (Str × V)} {rows : List Str} {nd : Str → List Str} (h : SheetAt K H p rows nd) (s : SameX q H H') (hq : H q = some (.ins C dx fs)) (hne : p ≠ q) : SheetAt K H' p rows nd := by
  obtain ⟨dx', aN, aD, aO, z, h1, h2, ⟨vs, h3, h5⟩, h4⟩ := h
  refine ⟨dx', aN, aD, aO, z, s _ _ hne h1, s.tup hq h2, ⟨vs, s.dK hq h3, h5.mono fun v r e => ?_⟩, s.dK hq h4⟩
  obtain ⟨t, e1, e2⟩ := e
  exact ⟨t, e1, s.tup hq e2⟩
theorem BelowAt.sameX {q : Addr} {H H' : Hp} {C dx a : Addr} {fs : List (Str × V)} {rows : List Str} {nd : Str → List Str} (h : BelowAt H a rows nd) (s : SameX q H H') (hq : H q = some (.ins C dx fs)) : BelowAt H' a rows nd := by
  obtain ⟨kvs, e, g⟩ := h
  refine ⟨kvs, s.dK hq e, fun r hr => ?_⟩
  obtain ⟨d, ks, h1, h2, h3⟩ := g r hr
  exact ⟨d, ks, h1, s.dK hq h2, h3⟩
/-- the dict of copies by their rows -/
def byK (cs : List Cpy) : List (Key × V) := cs.map fun c => (Sum.inr c.1, V.int c.2)
theorem valV_by : ∀ (cs : List Cpy) (r : Str), valV (byK cs) (Sum.inr r) = (cs.lookup r).map V.int
  | [], _ => rfl
  | c :: cs, r => by
    unfold byK
    rw [List.map_cons, List.lookup_cons]
    by_cases e : c.1 = r
    · have e' : (r == c.1) = true := by rw [e]; exact beq_self_eq_true r
      rw [valV_pos (by rw [e]), e']
      rfl
    · have e' : (r == c.1) = false := beq_eq_false_iff_ne.mpr fun z => e z.symm
      rw [valV_neg (fun z => e (Sum.inr.inj z)), e']
      exact valV_by cs r
theorem mergeK_new : ∀ (more acc : List (Key × V)), (acc.map (·.1) ++ more.map (·.1)).Nodup → mergeK acc more = acc ++ more
  | [], acc, _ => by rw [List.append_nil]; rfl
  | p :: more, acc, h => by
    have hn : p.1 ∉ acc.map (·.1) := fun hm => by
      rw [List.nodup_append] at h
      exact h.2.2 _ hm p.1 (by simp) rfl
    have e : putK acc p.1 p.2 = acc ++ [(p.1, p.2)] := by
      have hv : valV acc p.1 = none := by
        cases hh : valV acc p.1 with
        | none => rfl
        | some v => exact absurd (valV_in hh) hn
      have e2 := valV_any p.1 acc
      rw [hv] at e2
      unfold putK
      rw [if_neg (by rw [e2]; exact Bool.false_ne_true)]
    show mergeK (putK acc p.1 p.2) more = _
    rw [e, mergeK_new more (acc ++ [(p.1, p.2)]) (by simpa using h)]
    simp
theorem by_merge {cs : List Cpy} (hn : cs.Nodup) (h : ∀ a ∈ cs, ∀ b ∈ cs, a.1 = b.1 → a = b) : mergeK [] (byK cs) = byK cs := by
  have z := mergeK_new (byK cs) [] (by
    rw [List.map_nil, List.nil_append]
    unfold byK
    rw [List.map_map]
    exact Lat.nodup_map hn fun x hx y hy e => h x hx y hy (Sum.inr.inj e))
  simpa using z
theorem pairs_by {K : PySem.W.Frag} {H : Hp} : ∀ {xs : List V} {cs : List Cpy}, All2 (fun v c => PairV v c H) xs cs → ∃ ps : List Addr, xs = ps.map V.ref ∧ Paired (fun p kv => SqT K H p [kV kv.1, kv.2]) ps (byK cs)
  | [], [], _ => ⟨[], rfl, .nil⟩
  | _ :: _, c :: cs, a => by
    obtain ⟨⟨t, rfl, ht⟩, b⟩ := a
    obtain ⟨ps, rfl, h⟩ := pairs_by (K := K) b
    exact ⟨t :: ps, rfl, .cons (.of ht) h⟩
  | [], _ :: _, a => a.elim
  | _ :: _, [], a => a.elim
/-- a keep of the sheet at p stands at q -/
def KeepAt (K : PySem.W.Frag) (H : Hp) (q p : Addr) (rows : List Str) (nd : Str → List Str) (k : Nat) (ks : List Cpy) : Prop := ∃ (dx aO aB aY aK : Addr) (z : Str) (vs : List V),
  H q = some (.ins (He.ga K "Keep") dx [(("base" : Str), V.ref p), ("many", V.int k), ("order", V.ref aO), ("below", V.ref aB), ("by", V.ref aY), ("key", V.ref aK), ("shown", V.str z)]) ∧
  SheetAt K H p rows nd ∧ H aO = some (.dK (ordK rows)) ∧ BelowAt H aB rows nd ∧ H aK = some (.tup vs) ∧ All2 (fun v c => PairV v c H) vs ks
theorem KeepAt.same {K : PySem.W.Frag} {H H' : Hp} {q p : Addr} {rows : List Str} {nd : Str → List Str} {k : Nat} {ks : List Cpy} (h : KeepAt K H q p rows nd k ks) (s : Same H H') : KeepAt K H' q p rows nd k ks :=
  let ⟨dx, aO, aB, aY, aK, z, vs, h1, h2, h3, h4, h5, h6⟩ := h; ⟨dx, aO, aB, aY, aK, z, vs, s _ _ h1, h2.same s, s _ _ h3, h4.same s, s _ _ h5, h6.mono fun v c e => e.same s⟩
section
variable {P : Program} {w : World} {K : PySem.W.Frag} {mg : Str → Option Value} {base : Heap}
def spKeepInit (K : PySem.W.Frag) : Sp := fun vs H Q _ => ∃ (q p a dx : Addr) (o : Obj) (rows : List Str) (nd : Str → List Str) (k : Nat) (xs : List V) (cs : List Cpy), vs = [.ref q, .ref p, .int k, .ref a] ∧ H q = some (.ins (He.ga K "Keep") dx []) ∧ SheetAt K H p rows nd ∧ Sh rows nd ∧ Sz rows k ∧
  H a = some (.frz o (.tup xs)) ∧ o.dict = none ∧ All2 (fun v c => PairV v c H) xs cs ∧ Cps rows k cs ∧ (∀ a ∈ cs, ∀ b ∈ cs, bars rows nd a b = false) ∧
  ∀ H', SameX q H H' → KeepAt K H' q p rows nd k ((Lat.allC rows k).filter (Lat.mems cs)) → Q .non H'
abbrev n_ki : List Str := ["self", "sheet", "passes", "copies", "one", "other", "name"]
theorem sc_Keep_init : FnScope n_ki ((["self", "sheet", "passes"] : List Str) ++ (["copies"] : List Str)) (defScope s_Keep_init) := ⟨rfl, rfl, rfl, by decide +kernel, rfl, by decide +kernel, by decide +kernel⟩
theorem ok_Keep_init (T : Tx K mg) : Pr P w K mg base 6 (He.ma K (He.ga K "Keep") "__init__") (fun vs H Q E => ∃ ws rest, vs = ws ++ rest ∧ ws.length = (["self", "sheet", "passes"] : List Str).length ∧ rest.length ≤ sizeLine ∧ ∀ p o, H p = none → o.dict = none → spKeepInit K (ws ++ [V.ref p]) (upd H p (.frz o (.tup rest))) Q E) := by
  obtain ⟨fd, F⟩ := T.f_Keep_init
  obtain ⟨_, F1⟩ := T.f_need_room
  obtain ⟨_, F2⟩ := T.f_need_copies
  obtain ⟨_, F3⟩ := T.f_closure
  obtain ⟨_, F4⟩ := T.f_is_bar
  obtain ⟨_, F5⟩ := T.f_copies_text
  obtain ⟨_, FW⟩ := ok_rows (P := P) (w := w) (base := base) T
  refine fn_tSF (ps := ["self", "sheet", "passes"]) (pv := "copies") F sc_Keep_init (fun _ _ _ _ _ _ us rest hl => match us, rest, hl with | [_, _, _], [], _ => rfl | [_, _, _], _ :: _, _ => rfl) fun cdv A outer s H vs Q E hr h => ?_
  obtain ⟨q, p, a, dx, o, rows, nd, k, xs, cs, rfl, hq, hs, S, Z, ha, ho, al, C, hbar, g⟩ := h
  have hu := hu_of hr
  refine ⟨_, pss_cons (ps_expr (pc (ok_need_room T) (hr.mono (by decide)) F1.kp T.g_need_room (pa_cons (pv 1) (pa_cons (pv 2) pa_nil))))
    (pss_cons (ps_expr (pc (ok_need_copies T) (hr.mono (by decide)) F2.kp T.g_need_copies (pa_cons (pv 1) (pa_cons (pv 2) (pa_cons (pv 3) pa_nil)))))
    (pss_cons (ps_fld (pv 0) (pv 1) rfl)
    (pss_cons (ps_fld (pv 0) (pv 2) rfl)
    (pss_cons (ps_fld (pv 0) (pe_fld (pv 1) rfl) rfl)
    (pss_cons (ps_fld (pv 0) (pc (ok_closure T) (hr.mono (by decide)) F3.kp T.g_closure (pa_cons (pv 1) pa_nil)) rfl)
    (pss_cons (ps_for PassesOwn.never rfl (pi_tup (pv 3)) (pg_name (i := 4) sc_Keep_init.nd rfl (.inl rfl))
      (pss_one (ps_for PassesOwn.never rfl (pi_tup (pv 3)) (pg_name (i := 5) sc_Keep_init.nd rfl (.inl rfl))
        (pss_one (ps_if (pt_val (pc (ok_is_bar T) (hr.mono (by decide)) F4.kp T.g_is_bar (pa_cons (pe_fld (pv 0) rfl) (pa_cons (pe_fld (pv 0) rfl) (pa_cons (pv 4) (pa_cons (pv 5) pa_nil)))))) pss_never pss_nil)))))
    (pss_cons (ps_fld (pv 0) (pe_callTy (call_dictPT rfl) (by rfl) T.b_dict (by decide +kernel) (pa_cons (pv 3) pa_nil)) rfl)
    (pss_cons (ps_fld (pv 0) (pe_callTy call_tuple_of (by rfl) T.b_tuple (by decide +kernel) (pa_cons (pe_lc (own := [("name", 6)]) (g := gName 6) rfl sc_Keep_init.nd (pi_tup (pprop (pv 1) T.cl_Sheet T.pr_Sheet_rows FW (hr.mono (by decide)))) (blkOk_by (N := n_ki) (sc := defScope s_Keep_init) (by decide +kernel))
        (fun _ _ _ _ _ => pg_name (i := 6) sc_Keep_init.nd rfl (Or.inl rfl)) (tt := tB (tDIn (tVar 6) (tFld K (tVar 0) "by"))) (fun _ _ _ _ _ => pts_one (pt_cmp (pc_din hu (pv 6) (pe_fld (pv 0) rfl))))
        (te := tTup (tCons (tVar 6) (tCons (tDGet (tFld K (tVar 0) "by") (tVar 6)) tNil)))
        (fun _ _ _ _ _ => pe_tup (pa_cons (pv 6) (pa_cons (pe_dget hu (pe_fld (pv 0) rfl) (pv 6) (fun _ _ => rfl)) pa_nil)))) pa_nil)) rfl)
    (pss_one (ps_fld (pv 0) (pc (ok_copies_text T) (hr.mono (by decide)) F5.kp T.g_copies_text (pa_cons (pe_fld (pv 0) rfl) pa_nil)) rfl)))))))))), ?_⟩
  have hpq : p ≠ q := fun z => by
    obtain ⟨_, _, _, _, _, e1, _⟩ := id hs
    rw [z, hq] at e1
    have e2 := Option.some.inj e1
    injection e2 with _ _ e3
    cases e3
  have haq : a ≠ q := ne_of ha hq (by intro z; cases z)
  have hr12 := S.le
  have hrk : (rows.length : Int) * k ≤ 120 := by
    have z : ((rows.length * k : Nat) : Int) ≤ 12 := by have := Z.rk; omega
    rw [Int.natCast_mul] at z
    omega
  have hk1 := Z.k1
  have hk12 := Z.k12
  refine ⟨_, rfl, _, rfl, p, rows, nd, k, rfl, hs, by omega, by omega, by omega, hrk, ?_⟩
  refine ⟨_, rfl, _, rfl, _, rfl, p, a, rows, nd, k, xs, cs, rfl, hs, S, Z, .inl (.inr ⟨o, ha⟩), al, C, fun H1 s1 => ?_⟩
  have x1 : SameX q H H1 := Pw.Same.x s1
  have q1 := s1 _ _ hq
  refine ⟨_, rfl, _, rfl, q, _, dx, _, rfl, q1, T.cl_Keep, T.na_Keep_base, by decide, ?_⟩
  refine ⟨_, rfl, _, rfl, q, _, dx, _, rfl, upd_same, T.cl_Keep, T.na_Keep_many, by show 1 < 1000; decide, ?_⟩
  generalize hH3 : upd (upd H1 q _) q _ = H3
  have x3 : SameX q H H3 := by rw [← hH3]; exact (x1.trans .set).trans .set
  have q3 : H3 q = some (.ins (He.ga K "Keep") dx [(("base" : Str), V.ref p), ("many", V.int k)]) := by rw [← hH3]; exact upd_same
  have hs3 := hs.sameX x3 hq hpq
  obtain ⟨dxs, aN, aD, aO, zz, e1, e2, e3, e4⟩ := id hs3
  refine ⟨_, rfl, p, _, dxs, _, _, rfl, e1, T.cl_Sheet, T.na_Sheet_order, rfl, _, rfl, q, _, dx, _, rfl, q3, T.cl_Keep, T.na_Keep_order, by show 2 < 1000; decide, ?_⟩
  generalize hH4 : upd H3 q _ = H4
  have x34 : SameX q H3 H4 := by rw [← hH4]; exact .set
  have q4 : H4 q = some (.ins (He.ga K "Keep") dx [(("base" : Str), V.ref p), ("many", V.int k), ("order", V.ref aO)]) := by rw [← hH4]; exact upd_same
  refine ⟨_, rfl, p, rows, nd, rfl, S, (hs3.sameX x34 q3 hpq).lite, fun aB H5 s5 hB hbel => ?_⟩
  refine ⟨_, rfl, q, _, dx, _, rfl, s5 _ _ q4, T.cl_Keep, T.na_Keep_below, by show 3 < 1000; decide, ?_⟩
  generalize hH6 : upd H5 q _ = H6
  have x56 : SameX q H5 H6 := by rw [← hH6]; exact .set
  have q6 : H6 q = some (.ins (He.ga K "Keep") dx [(("base" : Str), V.ref p), ("many", V.int k), ("order", V.ref aO), ("below", V.ref aB)]) := by rw [← hH6]; exact upd_same
  have x6 : SameX q H H6 := ((x3.trans x34).trans (Pw.Same.x s5)).trans x56
  have bel6 : BelowAt H6 aB rows nd := hbel.sameX x56 (s5 _ _ q4)
  have o6 : H6 aO = some (.dK (ordK rows)) := x56.dK (s5 _ _ q4) (s5 _ _ (x34.dK q3 e4))
  have a6 : H6 a = some (.frz o (.tup xs)) := x6 _ _ haq ha
  have al6 : All2 (fun v c => PairV v c H6) xs cs := al.mono fun v c h => h.sameX x6 hq
  have sq6 : SqT K H6 a xs := .inl (.inr ⟨o, a6⟩)
  refine ⟨_, rfl, a, rfl, ⟨_, sq6⟩, ?_⟩
  refine for_it (n := xs.length) walk_tup (fun i σ' H' => (∃ x4 x5 x6, σ' = [some (.ref q), some (.ref p), some (.int k), some (.ref a), x4, x5, x6]) ∧ Same H6 H') ⟨⟨none, none, none, rfl⟩, Same.refl _⟩ (fun i σ' H' _ h => Same.sqT h.2 sq6) ?_ ?_
  · rintro i x σ' _ H7 hi ⟨⟨x4, x5, x6, rfl⟩, s7⟩ ⟨rfl, hx⟩
    obtain ⟨c1, hc1, hp1⟩ := al6.get hx
    have m1 : c1 ∈ cs := List.mem_of_getElem? hc1
    refine ⟨_, rfl, a, rfl, ⟨_, Same.sqT s7 sq6⟩, ?_⟩
    refine for_it (n := xs.length) walk_tup (fun i σ' H' => (∃ x5 x6, σ' = [some (.ref q), some (.ref p), some (.int k), some (.ref a), some x, x5, x6]) ∧ Same H6 H') ⟨⟨x5, x6, rfl⟩, s7⟩ (fun i σ' H' _ h => Same.sqT h.2 sq6) ?_ (fun σ' H' h => by obtain ⟨⟨x5, x6, rfl⟩, s8⟩ := h; exact ⟨⟨_, _, _, rfl⟩, s8⟩)
    rintro j y σ' _ H8 hj ⟨⟨x5, x6, rfl⟩, s8⟩ ⟨rfl, hy⟩
    obtain ⟨c2, hc2, hp2⟩ := al6.get hy
    have m2 : c2 ∈ cs := List.mem_of_getElem? hc2
    refine ⟨_, rfl, q, _, dx, _, _, rfl, s8 _ _ q6, T.cl_Keep, T.na_Keep_order, rfl, _, rfl, q, _, dx, _, _, rfl, s8 _ _ q6, T.cl_Keep, T.na_Keep_below, rfl, _, rfl, _, rfl, ?_⟩
    refine ⟨aO, aB, x, y, c1, c2, rows, nd, rfl, hp1.same s8, hp2.same s8, s8 _ _ o6, bel6.same s8, C.row m1, C.row m2, fun H9 s9 => ⟨_, rfl, ?_⟩⟩
    rw [hbar c1 m1 c2 m2]
    exact iteF ⟨⟨_, _, rfl⟩, s8.trans s9⟩
  rintro σ' H7 ⟨⟨x4, x5, x6', rfl⟩, s7⟩
  obtain ⟨ps, eps, hps⟩ := pairs_by (K := K) (al6.mono fun v c h => h.same s7)
  have q7 := s7 _ _ q6
  have dist := Lat.one_row hbar
  refine ⟨_, rfl, a, o, ps, byK cs, rfl, by rw [← eps]; exact s7 _ _ a6, ho, hps, fun aY hY => ?_⟩
  rw [by_merge C.nodup dist]
  have sY : Same H7 (upd H7 aY (.dK (byK cs))) := Same.new hY
  refine ⟨_, rfl, q, _, dx, _, rfl, sY _ _ q7, T.cl_Keep, T.na_Keep_by, by show 4 < 1000; decide, ?_⟩
  generalize hH8 : upd (upd H7 aY (.dK (byK cs))) q _ = H8
  have x8 : SameX q (upd H7 aY (.dK (byK cs))) H8 := by rw [← hH8]; exact .set
  have q8 : H8 q = some (.ins (He.ga K "Keep") dx [(("base" : Str), V.ref p), ("many", V.int k), ("order", V.ref aO), ("below", V.ref aB), ("by", V.ref aY)]) := by rw [← hH8]; exact upd_same
  have y8 : H8 aY = some (.dK (byK cs)) := x8.dK (sY _ _ q7) upd_same
  have xq8 : SameX q H H8 := ((x6.trans (Pw.Same.x s7)).trans (Pw.Same.x sY)).trans x8
  have hs8 := hs.sameX xq8 hq hpq
  obtain ⟨dxs8, aN8, aD8, aO8, zz8, f1, f2, f3, f4⟩ := id hs8
  refine ⟨_, rfl, p, dxs8, _, rfl, f1, ⟨p, rows, nd, rfl, hs8.lite, fun aR haR => ⟨aR, rfl, ⟨_, .of haR⟩, fun D hD => ?_⟩⟩⟩
  refine lc_gr PairV.mono (walk_tup (K := K) (a := aR) (xs := rows.map V.str)) (g := gName 6) hD (by rw [List.length_map, sizeLine_eq]; omega) (fun i => (cs.lookup (rows.getD i Str.empty)).isSome) (fun i => (rows.getD i Str.empty, (cs.lookup (rows.getD i Str.empty)).getD 0)) (fun H9 s9 => .of (s9 _ _ haR)) (fun _ _ _ _ _ y => by rw [y.1]; exact Same.refl _) ?_ ?_
  · rintro i x _ H9 A B hi s9 _ ⟨rfl, hx⟩ hA hB
    rw [List.length_map] at hi
    have hrow : rows[i]? = some rows[i] := List.getElem?_eq_getElem hi
    rw [List.getElem?_map, hrow] at hx
    cases hx
    have eg : rows.getD i Str.empty = rows[i] := by rw [List.getD_eq_getElem?_getD, hrow]; rfl
    rw [eg] at hA hB
    refine ⟨rfl, ?_⟩
    refine ⟨_, rfl, _, rfl, q, _, dx, _, _, rfl, s9 _ _ q8, T.cl_Keep, T.na_Keep_by, rfl, aY, _, rfl, DGet.k (k := Sum.inr rows[i]) (s9 _ _ y8), _, rfl, ?_⟩
    rw [valV_by, Option.isSome_map]
    refine iB (fun hp => ?_) (fun hp => hB hp _ (Same.refl _))
    obtain ⟨n, hn⟩ := Option.isSome_iff_exists.mp hp
    have hv : valV (byK cs) (Sum.inr rows[i]) = some (.int n) := by rw [valV_by, hn]; rfl
    have dg := DGet.k (k := Sum.inr rows[i]) (s9 _ _ y8)
    rw [hv] at dg
    refine ⟨_, rfl, _, rfl, q, _, dx, _, _, rfl, s9 _ _ q8, T.cl_Keep, T.na_Keep_by, rfl, _, rfl, aY, .int n, rfl, dg, by show 2 ≤ sizeLine; decide, fun t ht => hA hp _ _ (Same.new ht) ⟨t, rfl, ?_⟩⟩
    rw [hn]
    exact upd_same
  intro out H9 s9 e9 al9
  have ek : outs (fun i => (cs.lookup (rows.getD i Str.empty)).isSome) (fun i => (rows.getD i Str.empty, (cs.lookup (rows.getD i Str.empty)).getD 0)) (rows.map V.str).length = (Lat.allC rows k).filter (Lat.mems cs) := by
    rw [List.length_map, ← Lat.key_list C.sub dist]
    exact outs_list Str.empty (fun r => (cs.lookup r).isSome) (fun r => (r, (cs.lookup r).getD 0)) rows
  rw [ek] at al9
  generalize hks : (Lat.allC rows k).filter (Lat.mems cs) = ks at al9 g
  have ksub : ∀ c ∈ ks, c ∈ Lat.allC rows k := fun c hc => by rw [← hks] at hc; exact (List.mem_filter.mp hc).1
  have ksl : ks.length ≤ 12 := by
    have h1 := List.length_filter_le (Lat.mems cs) (Lat.allC rows k)
    rw [hks, Lat.allC_len] at h1
    have := Z.rk
    omega
  refine ⟨D, out, rfl, .inl ⟨.of e9, fun aK hK => ?_⟩⟩
  have sK : Same H9 (upd H9 aK (.tup out)) := Same.new hK
  have s89 : Same H8 (upd H9 aK (.tup out)) := s9.trans sK
  have q9 := s89 _ _ q8
  refine ⟨_, rfl, q, _, dx, _, rfl, q9, T.cl_Keep, T.na_Keep_key, by show 5 < 1000; decide, ?_⟩
  generalize hHa : upd (upd H9 aK (.tup out)) q _ = Ha
  have xa : SameX q (upd H9 aK (.tup out)) Ha := by rw [← hHa]; exact .set
  have qa : Ha q = some (.ins (He.ga K "Keep") dx [(("base" : Str), V.ref p), ("many", V.int k), ("order", V.ref aO), ("below", V.ref aB), ("by", V.ref aY), ("key", V.ref aK)]) := by rw [← hHa]; exact upd_same
  have ka : Ha aK = some (.tup out) := xa.tup q9 upd_same
  have ala : All2 (fun v c => PairV v c Ha) out ks := al9.mono fun v c h => (h.same sK).sameX xa q9
  have x8a : SameX q H8 Ha := (Pw.Same.x s89).trans xa
  refine ⟨_, rfl, q, _, dx, _, _, rfl, qa, T.cl_Keep, T.na_Keep_key, rfl, aK, out, ks, rfl, ka, ala, ksl, fun c hc => ?_, fun z Hb sb => ?_⟩
  · obtain ⟨m1, m2, m3⟩ := Lat.mem_allC.mp (ksub c hc)
    exact ⟨S.ok _ m1, by omega, by omega⟩
  · have qb := sb _ _ qa
    refine ⟨_, rfl, q, _, dx, _, rfl, qb, T.cl_Keep, T.na_Keep_shown, by show 6 < 1000; decide, ?_⟩
    generalize hHc : upd Hb q _ = Hc
    have xc : SameX q Hb Hc := by rw [← hHc]; exact .set
    have qc : Hc q = some (.ins (He.ga K "Keep") dx [(("base" : Str), V.ref p), ("many", V.int k), ("order", V.ref aO), ("below", V.ref aB), ("by", V.ref aY), ("key", V.ref aK), ("shown", V.str z)]) := by rw [← hHc]; exact upd_same
    have xac : SameX q Ha Hc := (Pw.Same.x sb).trans xc
    have x6c : SameX q H6 Hc := ((((Pw.Same.x s7).trans (Pw.Same.x sY)).trans x8).trans x8a).trans xac
    refine g Hc (x6.trans x6c) ⟨dx, aO, aB, aY, aK, z, out, qc, hs.sameX (x6.trans x6c) hq hpq, x6c.dK q6 o6, bel6.sameX x6c q6, xac.tup qa ka, ala.mono fun v c h => h.sameX xac qa⟩
end
end Pw
end
section
set_option maxRecDepth 100000
set_option maxHeartbeats 4000000
/-! The walk: keeps.py, second half. -/
namespace Pw
open PySem PySem.Spec PyProof.Rows L2
abbrev rNotInDT (K : PySem.W.Frag) : R2 := fun x y H Q => ∃ d ds, L2.Dp K H x d ∧ L2.Dp K H y (.tuple ds) ∧ SeqAt.shaped d = true ∧ SeqAt.shaped (.tuple ds) = true ∧ Q (.bl (!ds.any fun z => PyData.eqv z d)) H
/-- (many, key) -/
def mkD (k : Nat) (ks : List Cpy) : PyData := .tuple [.int k, kD ks]
theorem mkD_eqv (k : Nat) (a b : List Cpy) : PyData.eqv (mkD k a) (mkD k b) = decide (a = b) := by
  unfold mkD
  simp only [PyData.eqv, PyData.eqvAll]
  rw [kD_eqv]
  have h : ((k : Int) == (k : Int)) = true := beq_self_eq_true _
  rw [h, Bool.true_and, Bool.and_true]
theorem mkD_shaped {k : Nat} {l : List Cpy} (h : ∀ c ∈ l, Ok c.1) : SeqAt.shaped (mkD k l) = true := by
  have h1 := kD_lay h
  have h2 := kD_depth l
  refine shaped_of ?_ ?_
  · simp only [mkD, PyData.canLay0, PyData.canLayAll0, h1]
    rfl
  · simp only [mkD, PyData.depth, PyData.depthAll]
    omega
section
variable {P : Program} {w : World} {K : PySem.W.Frag} {mg : Str → Option Value} {base : Heap}
/-- a new instance whose __init__ is Keep's -/
theorem keep_new {H H1 : Hp} {p x dx : Addr} {rows : List Str} {nd : Str → List Str} {k : Nat} {xs : List V} {cs : List Cpy} {Q : VK} {E : XK} (s : Same H H1) (hs : SheetAt K H1 p rows nd) (S : Sh rows nd) (Z : Sz rows k) (al : All2 (fun v c => PairV v c H1) xs cs) (C : Cps rows k cs)
    (hbar : ∀ a ∈ cs, ∀ b ∈ cs, bars rows nd a b = false) (hx : H1 x = none) (hdx : H1 dx = none) (hne : dx ≠ x) (q : ∀ q H', Same H H' → KeepAt K H' q p rows nd k ((Lat.allC rows k).filter (Lat.mems cs)) → Q (.ref q) H') :
    ∃ ws rest, (V.ref x :: V.ref p :: V.int k :: xs) = ws ++ rest ∧ ws.length = (["self", "sheet", "passes"] : List Str).length ∧ rest.length ≤ sizeLine ∧ ∀ t o, (upd (upd H1 dx (.own x)) x (.ins (He.ga K "Keep") dx [])) t = none → o.dict = none →
      spKeepInit K (ws ++ [V.ref t]) (upd (upd (upd H1 dx (.own x)) x (.ins (He.ga K "Keep") dx [])) t (.frz o (.tup rest))) (fun v H2 => v = .non ∧ Q (.ref x) H2) E := by
  refine ⟨[.ref x, .ref p, .int k], xs, rfl, rfl, by rw [al.len, sizeLine_eq]; have := C.len Z.rk; omega, fun t o ht ho => ?_⟩
  have s1 : Same H1 (upd (upd H1 dx (.own x)) x (.ins (He.ga K "Keep") dx [])) := (Same.new hdx).trans (Same.new (by rw [upd_ne (Ne.symm hne)]; exact hx))
  have s2 : Same H1 (upd (upd (upd H1 dx (.own x)) x (.ins (He.ga K "Keep") dx [])) t (.frz o (.tup xs))) := s1.trans (Same.new ht)
  have hxt : x ≠ t := fun z => by rw [← z, upd_same] at ht; cases ht
  refine ⟨x, p, t, dx, o, rows, nd, k, xs, cs, rfl, by rw [upd_ne hxt]; exact upd_same, hs.same s2, S, Z, upd_same, ho, al.mono fun v c h => h.same s2, C, hbar, fun H' sx hk => ⟨rfl, ?_⟩⟩
  refine q x H' (fun b ob e => ?_) hk
  have e1 := s _ _ e
  exact sx _ _ (fun z => by rw [z, hx] at e1; cases e1) (s2 _ _ e1)
def spKeepOf (K : PySem.W.Frag) : Sp := fun vs H Q _ => ∃ (p a : Addr) (rows : List Str) (nd : Str → List Str) (k : Nat) (xs : List V) (cs : List Cpy), vs = [.ref (He.ga K "Keep"), .ref p, .int k, .ref a] ∧ SheetAt K H p rows nd ∧ Sh rows nd ∧ Sz rows k ∧
  (H a = some (.tup xs) ∨ H a = some (.lst xs)) ∧ All2 (fun v c => PairV v c H) xs cs ∧ Cps rows k cs ∧ (∀ a ∈ cs, ∀ b ∈ cs, bars rows nd a b = false) ∧ ∀ q H', Same H H' → KeepAt K H' q p rows nd k ((Lat.allC rows k).filter (Lat.mems cs)) → Q (.ref q) H'
theorem sc_Keep_of : FnScope ["cls", "sheet", "passes", "copies"] ["cls", "sheet", "passes", "copies"] (defScope s_Keep_of) := ⟨rfl, rfl, rfl, by decide +kernel, rfl, by decide +kernel, by decide +kernel⟩
theorem Sz.rk120 {rows : List Str} {k : Nat} (Z : Sz rows k) : (rows.length : Int) * k ≤ 120 := by
  have z : ((rows.length * k : Nat) : Int) ≤ 12 := by have := Z.rk; omega
  rw [Int.natCast_mul] at z
  omega
theorem ok_Keep_of (T : Tx K mg) : Pr P w K mg base 8 (cmA K (He.ga K "Keep") "of") (spKeepOf K) := by
  obtain ⟨fd, F⟩ := T.f_Keep_of
  obtain ⟨_, F1⟩ := T.f_need_room
  refine pr_of (fn_t F sc_Keep_of (fun _ _ _ _ _ _ us hl => match us, hl with | [_, _, _, _], _ => rfl) (fun vs H Q E h => ?_) fun cdv A outer s H vs Q E hr h => ?_)
  · obtain ⟨p, a, rows, nd, k, xs, cs, rfl, _⟩ := h
    rfl
  · obtain ⟨p, a, rows, nd, k, xs, cs, rfl, hs, S, Z, ha, al, C, hbar, q⟩ := h
    refine ⟨_, pss_cons (ps_expr (pc (ok_need_room T) (hr.mono (by decide)) F1.kp T.g_need_room (pa_cons (pv 1) (pa_cons (pv 2) pa_nil))))
      (pss_cons (ps_if (pt_not (pt_val (pe_callB call_isiT (by rfl) T.b_isinstance (by decide +kernel) (pa_cons (pv 3) (pa_cons (pe_tup (pa_cons (pe_bltn (x := "tuple") (v := .ty "tuple") (by rfl) T.b_tuple (by decide +kernel) rfl) (pa_cons (pe_bltn (x := "list") (v := .ty "list") (by rfl) T.b_list (by decide +kernel) rfl) pa_nil))) pa_nil))))) pss_never pss_nil)
      (pss_one (ps_ret (pnLS (i := 0) T.mk_Keep (ok_Keep_init T) hr rfl (.inl rfl) (pa_cons (pv 1) (pa_cons (pv 2) (StX.pa_star (pv 3) pa_nil))))))), ?_⟩
    have hr12 := S.le
    have hk1 := Z.k1
    have hk12 := Z.k12
    refine ⟨_, rfl, _, rfl, p, rows, nd, k, rfl, hs, by omega, by omega, by omega, Z.rk120, ?_⟩
    refine ⟨_, rfl, by show 2 ≤ sizeLine; decide, fun t ht => ?_⟩
    have s1 : Same H (upd H t (.tup [.ty "tuple", .ty "list"])) := Same.new ht
    have ty : ∃ tt : String, TyX K (upd H t (.tup [.ty "tuple", .ty "list"])) (.ref a) (.type tt) ∧ PySem.W.kitAny K (.type tt) [.type "tuple", .type "list"] = some true := by
      rcases ha with ha | ha
      · exact ⟨"tuple", .base (.tup (s1 _ _ ha)), kitAny_cons (b := true) (r := true) (kit_ty (by decide +kernel)) (fun z => nomatch z) (fun _ => rfl)⟩
      · exact ⟨"list", .base (.lst (s1 _ _ ha)), kitAny_cons (b := false) (r := true) (kit_ty (by decide +kernel)) (fun _ => kitAny_cons (b := true) (r := true) (kit_ty (by decide +kernel)) (fun z => nomatch z) (fun _ => rfl)) (fun z => nomatch z)⟩
    obtain ⟨tt, ty1, ty2⟩ := ty
    refine ⟨_, t, _, _, _, true, rfl, upd_same, .cons (.ty _) (.cons (.ty _) .nil), ty1, ty2, true, rfl, iteF ?_⟩
    refine ⟨rfl, _, rfl, _, rfl, _, rfl, a, xs, rfl, ha.imp (fun h => .of (s1 _ _ h)) (fun h => .of (s1 _ _ h)), fun x dx hx hdx hne => ?_⟩
    rw [List.append_nil]
    exact keep_new s1 (hs.same s1) S Z (al.mono fun v c h => h.same s1) C hbar hx hdx hne q
def spKCopies (K : PySem.W.Frag) : Sp := fun vs H Q _ => ∃ q p rows nd k ks, vs = [.ref q] ∧ KeepAt K H q p rows nd k ks ∧ ∀ aK xs, H aK = some (.tup xs) → All2 (fun v c => PairV v c H) xs ks → Q (.ref aK) H
theorem sc_Keep_copies : FnScope ["self"] ["self"] (defScope s_Keep_copies) := ⟨rfl, rfl, rfl, by decide +kernel, rfl, by decide +kernel, by decide +kernel⟩
theorem ok_kcopies (T : Tx K mg) : ∃ fd, FnOk P w K mg base CX0 1 (pgA K (He.ga K "Keep") "copies") fd ["self"] (spKCopies K) ∧ Binds K fd ["self"] [] := by
  obtain ⟨fd, F⟩ := T.f_Keep_copies
  refine ⟨fd, fn_t F sc_Keep_copies (fun _ _ _ _ _ _ us hl => match us, hl with | [_], _ => rfl) (fun vs H Q E h => ?_) fun cdv A outer s H vs Q E hr h => ?_⟩
  · obtain ⟨q, p, rows, nd, k, ks, rfl, _⟩ := h
    rfl
  · obtain ⟨q, p, rows, nd, k, ks, rfl, ⟨dx, aO, aB, aY, aK, z, xs, h1, h2, h3, h4, h5, h6⟩, g⟩ := h
    exact ⟨_, pss_one (ps_ret (pe_fld (pv 0) rfl)), _, rfl, q, _, dx, _, _, rfl, h1, T.cl_Keep, T.na_Keep_key, rfl, g _ _ h5 h6⟩
def spKLen (K : PySem.W.Frag) : Sp := fun vs H Q _ => ∃ q p rows nd k ks, vs = [.ref q] ∧ KeepAt K H q p rows nd k ks ∧ Q (.int ks.length) H
theorem sc_Keep_len : FnScope ["self"] ["self"] (defScope s_Keep_len) := ⟨rfl, rfl, rfl, by decide +kernel, rfl, by decide +kernel, by decide +kernel⟩
theorem ok_klen (T : Tx K mg) : Pr P w K mg base 1 (He.ma K (He.ga K "Keep") "__len__") (spKLen K) := by
  obtain ⟨fd, F⟩ := T.f_Keep_len
  refine pr_of (fn_t F sc_Keep_len (fun _ _ _ _ _ _ us hl => match us, hl with | [_], _ => rfl) (fun vs H Q E h => ?_) fun cdv A outer s H vs Q E hr h => ?_)
  · obtain ⟨q, p, rows, nd, k, ks, rfl, _⟩ := h
    rfl
  · obtain ⟨q, p, rows, nd, k, ks, rfl, ⟨dx, aO, aB, aY, aK, z, xs, h1, h2, h3, h4, h5, h6⟩, g⟩ := h
    refine ⟨_, pss_one (ps_ret (pe_callB call_len_seq (by rfl) T.b_len (by decide +kernel) (pa_cons (pe_fld (pv 0) rfl) pa_nil))), _, rfl, q, _, dx, _, _, rfl, h1, T.cl_Keep, T.na_Keep_key, rfl, aK, _, rfl, .inr (.of h5), ?_⟩
    rw [h6.len]
    exact g
/-- two keeps of one sheet -/
def Two (K : PySem.W.Frag) (H : Hp) (q1 q2 p : Addr) (rows : List Str) (nd : Str → List Str) (k : Nat) (a b : List Cpy) : Prop := KeepAt K H q1 p rows nd k a ∧ KeepAt K H q2 p rows nd k b ∧ Sh rows nd ∧ Sz rows k ∧ Cps rows k a ∧ Cps rows k b
def spKEq (K : PySem.W.Frag) : Sp := fun vs H Q _ => ∃ q1 q2 p rows nd k a b, vs = [.ref q1, .ref q2] ∧ Two K H q1 q2 p rows nd k a b ∧ ∀ H', Same H H' → Q (.bl (decide (a = b))) H'
theorem sc_Keep_eq : FnScope ["self", "other"] ["self", "other"] (defScope s_Keep_eq) := ⟨rfl, rfl, rfl, by decide +kernel, rfl, by decide +kernel, by decide +kernel⟩
theorem ok_keq (T : Tx K mg) : Pr P w K mg base 3 (He.ma K (He.ga K "Keep") "__eq__") (spKEq K) := by
  obtain ⟨fd, F⟩ := T.f_Keep_eq
  refine pr_of (fn_t F sc_Keep_eq (fun _ _ _ _ _ _ us hl => match us, hl with | [_, _], _ => rfl) (fun vs H Q E h => ?_) fun cdv A outer s H vs Q E hr h => ?_)
  · obtain ⟨q1, q2, p, rows, nd, k, a, b, rfl, _⟩ := h
    rfl
  · obtain ⟨q1, q2, p, rows, nd, k, a, b, rfl, ⟨⟨dx, aO, aB, aY, aK, z, xs, h1, h2, h3, h4, h5, h6⟩, ⟨dx', aO', aB', aY', aK', z', xs', g1, g2, g3, g4, g5, g6⟩, S, Z, Ca, Cb⟩, q⟩ := h
    refine ⟨_, pss_one (ps_ret (pe_and (pe_callB (C8.call_isC T.is_Keep) (by rfl) T.b_isinstance (by decide +kernel) (pa_cons (pv 1) (pa_cons (pe_glob (v := .ref (He.ga K "Keep")) (by rfl) T.g_Keep rfl) pa_nil)))
      (pe_and (pe_cmpR (op_eqC (T.sp_Sheet_eq).1 (T.sp_Sheet_eq).2 (ok_Sheet_eq T) (hr.mono (by decide))) (pe_fld (pv 0) rfl) (pe_fld (pv 1) rfl) (nomark _))
        (pe_one (pe_cmpR (op_eqD hr.units) (pe_tup (pa_cons (pe_fld (pv 0) rfl) (pa_cons (pe_fld (pv 0) rfl) pa_nil))) (pe_tup (pa_cons (pe_fld (pv 1) rfl) (pa_cons (pe_fld (pv 1) rfl) pa_nil))) (nomark _)))))), ?_⟩
    obtain ⟨dxs, aN, aD, aOs, zs, e1, _⟩ := id h2
    refine ⟨_, rfl, q2, dx', _, rfl, g1, true, rfl, iteT ?_⟩
    refine ⟨_, rfl, q1, _, dx, _, _, rfl, h1, T.cl_Keep, T.na_Keep_base, rfl, _, rfl, q2, _, dx', _, _, rfl, g1, T.cl_Keep, T.na_Keep_base, rfl, p, p, dxs, dxs, _, _, rfl, rfl, e1, e1, ⟨p, rows, nd, rfl, h2, S.ok, true, rfl, iteT ?_⟩⟩
    refine ⟨_, rfl, q1, _, dx, _, _, rfl, h1, T.cl_Keep, T.na_Keep_many, rfl, _, rfl, q1, _, dx, _, _, rfl, h1, T.cl_Keep, T.na_Keep_key, rfl, by show 2 ≤ sizeLine; decide, fun t ht => ?_⟩
    have s1 : Same H (upd H t (.tup [.int k, .ref aK])) := Same.new ht
    refine ⟨_, rfl, q2, _, dx', _, _, rfl, s1 _ _ g1, T.cl_Keep, T.na_Keep_many, rfl, _, rfl, q2, _, dx', _, _, rfl, s1 _ _ g1, T.cl_Keep, T.na_Keep_key, rfl, by show 2 ≤ sizeLine; decide, fun u hu => ?_⟩
    generalize hH2 : upd (upd H t (.tup [.int k, .ref aK])) u (.tup [.int k, .ref aK']) = H2
    have s2 : Same (upd H t (.tup [.int k, .ref aK])) H2 := by rw [← hH2]; exact Same.new hu
    have s12 := s1.trans s2
    have u2 : H2 u = some (.tup [.int k, .ref aK']) := by rw [← hH2]; exact upd_same
    refine ⟨mkD k a, mkD k b, .tup (.of (s2 _ _ upd_same)) (.cons (.int _) (.cons (dp_k (.of (s12 _ _ h5)) (h6.mono fun v c e => e.same s12)) .nil)), .tup (.of u2) (.cons (.int _) (.cons (dp_k (.of (s12 _ _ g5)) (g6.mono fun v c e => e.same s12)) .nil)), mkD_shaped fun c hc => (S.ok _ (Ca.row hc)).strOk, mkD_shaped fun c hc => (S.ok _ (Cb.row hc)).strOk, ?_⟩
    rw [mkD_eqv]
    exact q _ s12
def spBoth (K : PySem.W.Frag) : Sp := fun vs H Q _ => ∃ q1 q2 p rows nd k a b, vs = [.ref q1, .ref q2] ∧ Two K H q1 q2 p rows nd k a b ∧ ∀ D out H', Same H H' → H' D = some (.lst out) → All2 (fun v c => PairV v c H') out (Lat.both a b) → Q (.ref D) H'
theorem sc_Keep_both : FnScope ["self", "other", "copy"] ["self", "other"] (defScope s_Keep_both) := ⟨rfl, rfl, rfl, by decide +kernel, rfl, by decide +kernel, by decide +kernel⟩
theorem ok_both (T : Tx K mg) : Pr P w K mg base 3 (He.ma K (He.ga K "Keep") "both") (spBoth K) := by
  obtain ⟨fd, F⟩ := T.f_Keep_both
  refine pr_of (fn_t F sc_Keep_both (fun _ _ _ _ _ _ us hl => match us, hl with | [_, _], _ => rfl) (fun vs H Q E h => ?_) fun cdv A outer s H vs Q E hr h => ?_)
  · obtain ⟨q1, q2, p, rows, nd, k, a, b, rfl, _⟩ := h
    rfl
  · obtain ⟨q1, q2, p, rows, nd, k, a, b, rfl, ⟨⟨dx, aO, aB, aY, aK, z, xs, h1, h2, h3, h4, h5, h6⟩, ⟨dx', aO', aB', aY', aK', z', xs', g1, g2, g3, g4, g5, g6⟩, S, Z, Ca, Cb⟩, q⟩ := h
    refine ⟨_, pss_cons (ps_if (pt_not (PW.pt (pw_and (pt_cmpR (op_eqC (T.sp_Sheet_eq).1 (T.sp_Sheet_eq).2 (ok_Sheet_eq T) (hr.mono (by decide))) (pe_fld (pv 0) rfl) (pe_fld (pv 1) rfl) (nomark _)) (pw_and1 (pt_cmpR op_eq (pe_fld (pv 0) rfl) (pe_fld (pv 1) rfl) (nomark _)))))) pss_never pss_nil)
      (pss_one (ps_ret (pe_lst (StX.pa_star (pe_fld (pv 0) rfl) (StX.pa_star (pe_lc (own := [("copy", 2)]) (g := gName 2) rfl sc_Keep_both.nd (pi_tup (pe_fld (pv 1) rfl)) (blkOk_by (N := ["self", "other", "copy"]) (sc := defScope s_Keep_both) (by decide +kernel))
        (fun _ _ _ _ _ => pg_name (i := 2) sc_Keep_both.nd rfl (Or.inl rfl)) (tt := tTest (tOp (rNotInDT K) (tVar 2) (tFld K (tVar 0) "key"))) (fun _ _ _ _ _ => pts_one (pt_cmpR (op_notInDT (hu65 hr)) (pv 2) (pe_fld (pv 0) rfl) (by rfl))) (fun _ _ _ _ _ => pv 2)) pa_nil))))), ?_⟩
    obtain ⟨dxs, aN, aD, aOs, zs, e1, _⟩ := id h2
    refine ⟨_, rfl, q1, _, dx, _, _, rfl, h1, T.cl_Keep, T.na_Keep_base, rfl, _, rfl, q2, _, dx', _, _, rfl, g1, T.cl_Keep, T.na_Keep_base, rfl, p, p, dxs, dxs, _, _, rfl, rfl, e1, e1, ⟨p, rows, nd, rfl, h2, S.ok, true, rfl, iteT ?_⟩⟩
    refine ⟨_, rfl, q1, _, dx, _, _, rfl, h1, T.cl_Keep, T.na_Keep_many, rfl, _, rfl, q2, _, dx', _, _, rfl, g1, T.cl_Keep, T.na_Keep_many, rfl, rfl, true, ?_, iteF ?_⟩
    · rw [decide_eq_true rfl]
    refine ⟨_, rfl, q1, _, dx, _, _, rfl, h1, T.cl_Keep, T.na_Keep_key, rfl, aK, xs, rfl, .inl (.of h5), ?_⟩
    refine ⟨_, rfl, q2, _, dx', _, _, rfl, g1, T.cl_Keep, T.na_Keep_key, rfl, aK', rfl, ⟨_, .of g5⟩, fun D hD => ?_⟩
    have la := Ca.len Z.rk
    have lb := Cb.len Z.rk
    have lxs := h6.len
    have lxs' := g6.len
    refine lc_gr PairV.mono (walk_tup (K := K) (a := aK') (xs := xs')) (g := gName 2) hD (by rw [sizeLine_eq]; omega) (fun i => decide (b.getD i default ∉ a)) (fun i => b.getD i default) (fun H9 s9 => .of (s9 _ _ g5)) (fun _ _ _ _ _ y => by rw [y.1]; exact Same.refl _) ?_ ?_
    · rintro i x _ H9 A B hi s9 _ ⟨rfl, hx⟩ hA hB
      obtain ⟨c, hc, hp⟩ := g6.get hx
      have eg : b.getD i default = c := by rw [List.getD_eq_getElem?_getD, hc]; rfl
      rw [eg] at hA hB
      have hm : c ∈ b := List.mem_of_getElem? hc
      refine ⟨rfl, ?_⟩
      refine ⟨_, rfl, _, rfl, q1, _, dx, _, _, rfl, s9 _ _ h1, T.cl_Keep, T.na_Keep_key, rfl, cD c, a.map cD, dp_c (hp.same s9), dp_k (.of (s9 _ _ h5)) (h6.mono fun v c e => e.same s9), cD_shaped (S.ok _ (Cb.row hm)).strOk, kD_shaped fun z hz => (S.ok _ (Ca.row hz)).strOk, _, rfl, ?_⟩
      rw [any_cD, ← decide_not]
      exact iB (fun hp2 => ⟨_, rfl, hA hp2 _ _ (Same.refl _) (hp.same s9)⟩) (fun hp2 => hB hp2 _ (Same.refl _))
    · intro out H9 s9 e9 al9
      have ek : outs (fun i => decide (b.getD i default ∉ a)) (fun i => b.getD i default) xs'.length = b.filter fun c => decide (c ∉ a) := by
        rw [lxs']
        have z := outs_list default (fun c => decide (c ∉ a)) id b
        rw [List.map_id] at z
        exact z
      rw [ek] at al9
      have lo := al9.len
      have lf := List.length_filter_le (fun c => decide (c ∉ a)) b
      refine ⟨D, out, rfl, .inr (.of e9), ?_, fun t ht => ?_⟩
      · simp only [List.append_nil, List.length_append, sizeLine_eq]
        omega
      · have s10 := s9.trans (Same.new (o := .lst (xs ++ (out ++ []))) ht)
        have e11 : All2 (fun v c => PairV v c (upd H9 t (.lst (xs ++ (out ++ []))))) (out ++ []) (b.filter fun c => decide (c ∉ a)) := by
          rw [List.append_nil out]
          exact al9.mono fun v c e => e.same (Same.new ht)
        exact q t (xs ++ (out ++ [])) _ s10 upd_same ((h6.mono fun v c e => e.same s10).append e11)
end
end Pw
end
section
set_option maxRecDepth 100000
set_option maxHeartbeats 4000000
/-! The walk: keeps.py, joins and meets (gen_w12.py prints this text). -/
namespace Pw
open PySem PySem.Spec PyProof.Rows L2
section
variable {P : Program} {w : World} {K : PySem.W.Frag} {mg : Str → Option Value} {base : Heap}
abbrev n_or : List Str := ["self", "other", "copies", "found", "copy", "one"]
theorem sc_Keep_or : FnScope n_or ["self", "other"] (defScope s_Keep_or) := ⟨rfl, rfl, rfl, by decide +kernel, rfl, by decide +kernel, by decide +kernel⟩
def spKor (K : PySem.W.Frag) : Sp := fun vs H Q _ => ∃ q1 q2 p rows nd k a b, vs = [.ref q1, .ref q2] ∧ Two K H q1 q2 p rows nd k a b ∧ ∀ q H', Same H H' → KeepAt K H' q p rows nd k (Lat.joinK rows (depB nd) k a b) → Q (.ref q) H'
theorem ok_kor (T : Tx K mg) : Pr P w K mg base 8 (He.ma K (He.ga K "Keep") "__or__") (spKor K) := by
  obtain ⟨fd, F⟩ := T.f_Keep_or
  obtain ⟨_, F4⟩ := T.f_is_bar
  refine pr_of (fn_t F sc_Keep_or (fun _ _ _ _ _ _ us hl => match us, hl with | [_, _], _ => rfl) (fun vs H Q E h => ?_) fun cdv A outer s H vs Q E hr h => ?_)
  · obtain ⟨q1, q2, p, rows, nd, k, a, b, rfl, _⟩ := h
    rfl
  · obtain ⟨q1, q2, p, rows, nd, k, a, b, rfl, hT, q⟩ := h
    refine ⟨_, pss_cons (ps_set (i := 2) sc_Keep_or.nd rfl (Or.inr rfl) (pm (pv 0) T.cl_Keep T.mt_Keep_both (ok_both T) (hr.mono (by decide)) (pa_cons (pv 1) pa_nil)))
      (pss_cons (ps_setLc (i := 3) (own := [("copy", 4)]) (g := gName 4) rfl sc_Keep_or.nd rfl rfl (sw_true rfl rfl rfl (by decide +kernel)) (pi_list (pv 2)) (blkOk_by (N := n_or) (sc := defScope s_Keep_or) (by decide +kernel))
          (fun _ _ _ _ _ => pg_name (i := 4) sc_Keep_or.nd rfl (Or.inr rfl))
          (tt := tNot (tB (tCB (rAny K) (tCons (tLc (iList K (tVar 2)) (gName 5) tYes (tCl spIsBar (tCons (tFld K (tVar 0) "order") (tCons (tFld K (tVar 0) "below") (tCons (tVar 5) (tCons (tVar 4) tNil))))) [5]) tNil))))
          (fun _ _ _ _ _ => pts_one (pt_not (pt_val (pe_callB (cr_any rfl) (by rfl) T.b_any (by decide +kernel) (pa_cons (pe_lc (own := [("one", 5)]) (g := gName 5) (tt := tYes) rfl sc_Keep_or.nd (pi_list (pv 2)) (blkOk_by (by kernel_rfl))
              (fun _ _ _ _ _ => pg_name (i := 5) sc_Keep_or.nd rfl (Or.inl rfl)) (fun _ _ _ _ _ => pts_nil)
              (te := tCl spIsBar (tCons (tFld K (tVar 0) "order") (tCons (tFld K (tVar 0) "below") (tCons (tVar 5) (tCons (tVar 4) tNil)))))
              (fun _ _ _ _ _ => pc (ok_is_bar T) (hr.mono (by decide)) F4.kp T.g_is_bar (pa_cons (pe_fld (pv 0) rfl) (pa_cons (pe_fld (pv 0) rfl) (pa_cons (pv 5) (pa_cons (pv 4) pa_nil)))))) pa_nil))))) (fun _ _ _ _ _ => pv 4))
      (pss_one (ps_ret (pnS T.mk_Keep (ok_Keep_init T) hr T.g_Keep (pa_cons (pe_fld (pv 0) rfl) (pa_cons (pe_fld (pv 0) rfl) (StX.pa_star (pv 3) pa_nil))))))), ?_⟩
    have hT' := hT
    obtain ⟨⟨dx, aO, aB, aY, aK, z, xs, h1, h2, h3, h4, h5, h6⟩, _, S, Z, Ca, Cb⟩ := hT'
    refine ⟨_, rfl, q1, dx, _, rfl, h1, rfl, _, rfl, q1, q2, p, rows, nd, k, a, b, rfl, hT, fun B out H1 s1 hB alB => ?_⟩
    have lb := alB.len
    have cb : ∀ c ∈ Lat.both a b, c ∈ Lat.allC rows k := fun c hc => (Lat.mem_both.mp hc).elim (Ca.sub c) (Cb.sub c)
    have nb := Lat.both_nodup Ca.nodup Cb.nodup
    have l12 : (Lat.both a b).length ≤ 12 := (Cps.mk nb cb).len Z.rk
    have row : ∀ c ∈ Lat.both a b, c.1 ∈ rows := fun c hc => (Lat.mem_allC.mp (cb c hc)).1
    refine ⟨_, rfl, B, rfl, ⟨_, .of hB⟩, fun D hD => ?_⟩
    refine lc_gr PairV.mono (walk_list (K := K) (a := B) (xs := out)) (g := gName 4) hD (by rw [sizeLine_eq]; omega) (fun i => !((Lat.both a b).any fun x => bars rows nd x ((Lat.both a b).getD i default))) (fun i => (Lat.both a b).getD i default) (fun H9 s9 => .of (s9 _ _ hB)) (fun _ _ _ _ _ y => by rw [y.1]; exact Same.refl _) ?_ ?_
    · rintro i x _ H9 A B2 hi s9 _ ⟨rfl, hx⟩ hA hB2
      obtain ⟨c, hc, hp⟩ := alB.get hx
      have eg : (Lat.both a b).getD i default = c := by rw [List.getD_eq_getElem?_getD, hc]; rfl
      rw [eg] at hA hB2
      have hm : c ∈ Lat.both a b := List.mem_of_getElem? hc
      refine ⟨rfl, ?_⟩
      refine ⟨_, rfl, B, rfl, ⟨_, .of (s9 _ _ hB)⟩, fun D2 hD2 => ?_⟩
      refine lc_gr (Mono.eq V.bl) (walk_list (K := K) (a := B) (xs := out)) (g := gName 5) (tt := tYes) (te := tCl spIsBar (tCons (tFld K (tVar 0) "order") (tCons (tFld K (tVar 0) "below") (tCons (tVar 5) (tCons (tVar 4) tNil))))) hD2 (by rw [sizeLine_eq]; omega) (fun _ => true) (fun j => bars rows nd ((Lat.both a b).getD j default) c) (fun H10 s10 => .of (s10 _ _ (s9 _ _ hB))) (fun _ _ _ _ _ y => by rw [y.1]; exact Same.refl _) ?_ ?_
      · rintro j y _ H10 A3 B3 hj s10 _ ⟨rfl, hy⟩ hA3 _
        obtain ⟨e, he, hpe⟩ := alB.get hy
        have eg2 : (Lat.both a b).getD j default = e := by rw [List.getD_eq_getElem?_getD, he]; rfl
        rw [eg2] at hA3
        have hme : e ∈ Lat.both a b := List.mem_of_getElem? he
        have s19 := s9.trans s10
        have s01 := s1.trans s19
        refine ⟨rfl, yes ⟨_, rfl, q1, _, dx, _, _, rfl, s01 _ _ h1, T.cl_Keep, T.na_Keep_order, rfl, _, rfl, q1, _, dx, _, _, rfl, s01 _ _ h1, T.cl_Keep, T.na_Keep_below, rfl, _, rfl, _, rfl, ?_⟩⟩
        exact ⟨aO, aB, _, _, e, c, rows, nd, rfl, hpe.same s19, hp.same s19, s01 _ _ h3, h4.same s01, row e hme, row c hm, fun H11 s11 => hA3 rfl _ _ s11 rfl⟩
      · intro out2 H10 s10 e10 al10
        rw [outs_all] at al10
        rw [al10.eq, List.map_map] at e10
        refine ⟨D2, (List.range out.length).map fun j => bars rows nd ((Lat.both a b).getD j default) c, rfl, .inl (.inl (by rw [e10, List.map_map])), _, rfl, ?_⟩
        have ea : ((List.range out.length).map fun j => bars rows nd ((Lat.both a b).getD j default) c).any id = (Lat.both a b).any fun x => bars rows nd x c := by
          rw [lb]
          have z := outs_list default (fun _ => true) (fun x => bars rows nd x c) (Lat.both a b)
          rw [outs_all, List.filter_eq_self.mpr (fun _ _ => rfl)] at z
          rw [z, List.any_map]
          rfl
        rw [ea]
        exact iB (fun hp2 => ⟨_, rfl, hA hp2 _ _ s10 (hp.same (s9.trans s10))⟩) (fun hp2 => hB2 hp2 _ s10)
    · intro out2 H9 s9 e9 al9
      have ek : outs (fun i => !((Lat.both a b).any fun x => bars rows nd x ((Lat.both a b).getD i default))) (fun i => (Lat.both a b).getD i default) out.length = Lat.joinL (bars rows nd) (Lat.both a b) := by
        rw [lb]
        have z := outs_list default (fun c => !((Lat.both a b).any fun x => bars rows nd x c)) id (Lat.both a b)
        rw [List.map_id] at z
        exact z
      rw [ek] at al9
      have s09 := s1.trans s9
      have CF : Cps rows k (Lat.joinL (bars rows nd) (Lat.both a b)) := ⟨nb.filter _, fun c hc => cb c (Lat.mem_joinL.mp hc).1⟩
      refine ⟨_, rfl, q1, _, dx, _, _, rfl, s09 _ _ h1, T.cl_Keep, T.na_Keep_base, rfl, _, rfl, q1, _, dx, _, _, rfl, s09 _ _ h1, T.cl_Keep, T.na_Keep_many, rfl, _, rfl, D, out2, rfl, .inr (.of e9), fun x dx2 hx hdx hne => ?_⟩
      rw [List.append_nil]
      refine keep_new s09 (h2.same s09) S Z al9 CF Lat.joinL_anti hx hdx hne fun q' H' sH hk => q q' H' sH ?_
      rw [← Lat.joinL_key Ca.sub Cb.sub]
      exact hk
abbrev n_and : List Str := ["self", "other", "copies", "found", "copy", "one"]
theorem sc_Keep_and : FnScope n_and ["self", "other"] (defScope s_Keep_and) := ⟨rfl, rfl, rfl, by decide +kernel, rfl, by decide +kernel, by decide +kernel⟩
def spKand (K : PySem.W.Frag) : Sp := fun vs H Q _ => ∃ q1 q2 p rows nd k a b, vs = [.ref q1, .ref q2] ∧ Two K H q1 q2 p rows nd k a b ∧ ∀ q H', Same H H' → KeepAt K H' q p rows nd k (Lat.meetK rows (depB nd) k a b) → Q (.ref q) H'
theorem ok_kand (T : Tx K mg) : Pr P w K mg base 8 (He.ma K (He.ga K "Keep") "__and__") (spKand K) := by
  obtain ⟨fd, F⟩ := T.f_Keep_and
  obtain ⟨_, F4⟩ := T.f_is_bar
  refine pr_of (fn_t F sc_Keep_and (fun _ _ _ _ _ _ us hl => match us, hl with | [_, _], _ => rfl) (fun vs H Q E h => ?_) fun cdv A outer s H vs Q E hr h => ?_)
  · obtain ⟨q1, q2, p, rows, nd, k, a, b, rfl, _⟩ := h
    rfl
  · obtain ⟨q1, q2, p, rows, nd, k, a, b, rfl, hT, q⟩ := h
    refine ⟨_, pss_cons (ps_set (i := 2) sc_Keep_and.nd rfl (Or.inr rfl) (pm (pv 0) T.cl_Keep T.mt_Keep_both (ok_both T) (hr.mono (by decide)) (pa_cons (pv 1) pa_nil)))
      (pss_cons (ps_setLc (i := 3) (own := [("copy", 4)]) (g := gName 4) rfl sc_Keep_and.nd rfl rfl (sw_true rfl rfl rfl (by decide +kernel)) (pi_list (pv 2)) (blkOk_by (N := n_and) (sc := defScope s_Keep_and) (by decide +kernel))
          (fun _ _ _ _ _ => pg_name (i := 4) sc_Keep_and.nd rfl (Or.inr rfl))
          (tt := tNot (tB (tCB (rAny K) (tCons (tLc (iList K (tVar 2)) (gName 5) tYes (tCl spIsBar (tCons (tFld K (tVar 0) "order") (tCons (tFld K (tVar 0) "below") (tCons (tVar 4) (tCons (tVar 5) tNil))))) [5]) tNil))))
          (fun _ _ _ _ _ => pts_one (pt_not (pt_val (pe_callB (cr_any rfl) (by rfl) T.b_any (by decide +kernel) (pa_cons (pe_lc (own := [("one", 5)]) (g := gName 5) (tt := tYes) rfl sc_Keep_and.nd (pi_list (pv 2)) (blkOk_by (by kernel_rfl))
              (fun _ _ _ _ _ => pg_name (i := 5) sc_Keep_and.nd rfl (Or.inl rfl)) (fun _ _ _ _ _ => pts_nil)
              (te := tCl spIsBar (tCons (tFld K (tVar 0) "order") (tCons (tFld K (tVar 0) "below") (tCons (tVar 4) (tCons (tVar 5) tNil)))))
              (fun _ _ _ _ _ => pc (ok_is_bar T) (hr.mono (by decide)) F4.kp T.g_is_bar (pa_cons (pe_fld (pv 0) rfl) (pa_cons (pe_fld (pv 0) rfl) (pa_cons (pv 4) (pa_cons (pv 5) pa_nil)))))) pa_nil))))) (fun _ _ _ _ _ => pv 4))
      (pss_one (ps_ret (pnS T.mk_Keep (ok_Keep_init T) hr T.g_Keep (pa_cons (pe_fld (pv 0) rfl) (pa_cons (pe_fld (pv 0) rfl) (StX.pa_star (pv 3) pa_nil))))))), ?_⟩
    have hT' := hT
    obtain ⟨⟨dx, aO, aB, aY, aK, z, xs, h1, h2, h3, h4, h5, h6⟩, _, S, Z, Ca, Cb⟩ := hT'
    refine ⟨_, rfl, q1, dx, _, rfl, h1, rfl, _, rfl, q1, q2, p, rows, nd, k, a, b, rfl, hT, fun B out H1 s1 hB alB => ?_⟩
    have lb := alB.len
    have cb : ∀ c ∈ Lat.both a b, c ∈ Lat.allC rows k := fun c hc => (Lat.mem_both.mp hc).elim (Ca.sub c) (Cb.sub c)
    have nb := Lat.both_nodup Ca.nodup Cb.nodup
    have l12 : (Lat.both a b).length ≤ 12 := (Cps.mk nb cb).len Z.rk
    have row : ∀ c ∈ Lat.both a b, c.1 ∈ rows := fun c hc => (Lat.mem_allC.mp (cb c hc)).1
    refine ⟨_, rfl, B, rfl, ⟨_, .of hB⟩, fun D hD => ?_⟩
    refine lc_gr PairV.mono (walk_list (K := K) (a := B) (xs := out)) (g := gName 4) hD (by rw [sizeLine_eq]; omega) (fun i => !((Lat.both a b).any fun x => bars rows nd ((Lat.both a b).getD i default) x)) (fun i => (Lat.both a b).getD i default) (fun H9 s9 => .of (s9 _ _ hB)) (fun _ _ _ _ _ y => by rw [y.1]; exact Same.refl _) ?_ ?_
    · rintro i x _ H9 A B2 hi s9 _ ⟨rfl, hx⟩ hA hB2
      obtain ⟨c, hc, hp⟩ := alB.get hx
      have eg : (Lat.both a b).getD i default = c := by rw [List.getD_eq_getElem?_getD, hc]; rfl
      rw [eg] at hA hB2
      have hm : c ∈ Lat.both a b := List.mem_of_getElem? hc
      refine ⟨rfl, ?_⟩
      refine ⟨_, rfl, B, rfl, ⟨_, .of (s9 _ _ hB)⟩, fun D2 hD2 => ?_⟩
      refine lc_gr (Mono.eq V.bl) (walk_list (K := K) (a := B) (xs := out)) (g := gName 5) (tt := tYes) (te := tCl spIsBar (tCons (tFld K (tVar 0) "order") (tCons (tFld K (tVar 0) "below") (tCons (tVar 4) (tCons (tVar 5) tNil))))) hD2 (by rw [sizeLine_eq]; omega) (fun _ => true) (fun j => bars rows nd c ((Lat.both a b).getD j default)) (fun H10 s10 => .of (s10 _ _ (s9 _ _ hB))) (fun _ _ _ _ _ y => by rw [y.1]; exact Same.refl _) ?_ ?_
      · rintro j y _ H10 A3 B3 hj s10 _ ⟨rfl, hy⟩ hA3 _
        obtain ⟨e, he, hpe⟩ := alB.get hy
        have eg2 : (Lat.both a b).getD j default = e := by rw [List.getD_eq_getElem?_getD, he]; rfl
        rw [eg2] at hA3
        have hme : e ∈ Lat.both a b := List.mem_of_getElem? he
        have s19 := s9.trans s10
        have s01 := s1.trans s19
        refine ⟨rfl, yes ⟨_, rfl, q1, _, dx, _, _, rfl, s01 _ _ h1, T.cl_Keep, T.na_Keep_order, rfl, _, rfl, q1, _, dx, _, _, rfl, s01 _ _ h1, T.cl_Keep, T.na_Keep_below, rfl, _, rfl, _, rfl, ?_⟩⟩
        exact ⟨aO, aB, _, _, c, e, rows, nd, rfl, hp.same s19, hpe.same s19, s01 _ _ h3, h4.same s01, row c hm, row e hme, fun H11 s11 => hA3 rfl _ _ s11 rfl⟩
      · intro out2 H10 s10 e10 al10
        rw [outs_all] at al10
        rw [al10.eq, List.map_map] at e10
        refine ⟨D2, (List.range out.length).map fun j => bars rows nd c ((Lat.both a b).getD j default), rfl, .inl (.inl (by rw [e10, List.map_map])), _, rfl, ?_⟩
        have ea : ((List.range out.length).map fun j => bars rows nd c ((Lat.both a b).getD j default)).any id = (Lat.both a b).any fun x => bars rows nd c x := by
          rw [lb]
          have z := outs_list default (fun _ => true) (fun x => bars rows nd c x) (Lat.both a b)
          rw [outs_all, List.filter_eq_self.mpr (fun _ _ => rfl)] at z
          rw [z, List.any_map]
          rfl
        rw [ea]
        exact iB (fun hp2 => ⟨_, rfl, hA hp2 _ _ s10 (hp.same (s9.trans s10))⟩) (fun hp2 => hB2 hp2 _ s10)
    · intro out2 H9 s9 e9 al9
      have ek : outs (fun i => !((Lat.both a b).any fun x => bars rows nd ((Lat.both a b).getD i default) x)) (fun i => (Lat.both a b).getD i default) out.length = Lat.meetL (bars rows nd) (Lat.both a b) := by
        rw [lb]
        have z := outs_list default (fun c => !((Lat.both a b).any fun x => bars rows nd c x)) id (Lat.both a b)
        rw [List.map_id] at z
        exact z
      rw [ek] at al9
      have s09 := s1.trans s9
      have CF : Cps rows k (Lat.meetL (bars rows nd) (Lat.both a b)) := ⟨nb.filter _, fun c hc => cb c (Lat.mem_meetL.mp hc).1⟩
      refine ⟨_, rfl, q1, _, dx, _, _, rfl, s09 _ _ h1, T.cl_Keep, T.na_Keep_base, rfl, _, rfl, q1, _, dx, _, _, rfl, s09 _ _ h1, T.cl_Keep, T.na_Keep_many, rfl, _, rfl, D, out2, rfl, .inr (.of e9), fun x dx2 hx hdx hne => ?_⟩
      rw [List.append_nil]
      refine keep_new s09 (h2.same s09) S Z al9 CF Lat.meetL_anti hx hdx hne fun q' H' sH hk => q q' H' sH ?_
      rw [← Lat.meetL_key Ca.sub Cb.sub]
      exact hk
end
end Pw
end
section
set_option maxRecDepth 100000
set_option maxHeartbeats 4000000
/-! The walk: keeps.py, the order of keeps. -/
namespace Pw
open PySem PySem.Spec PyProof.Rows L2
section
variable {P : Program} {w : World} {K : PySem.W.Frag} {mg : Str → Option Value} {base : Heap}
def spUnder (K : PySem.W.Frag) : Sp := fun vs H Q _ => ∃ q p rows nd k ks v c, vs = [.ref q, v] ∧ KeepAt K H q p rows nd k ks ∧ PairV v c H ∧ Sh rows nd ∧ c.1 ∈ rows ∧ (∀ x ∈ ks, x.1 ∈ rows) ∧ ks.length ≤ 12 ∧ ∀ H', Same H H' → Q (.bl (Lat.under (bars rows nd) ks c)) H'
abbrev n_un : List Str := ["self", "copy", "one"]
theorem sc_Keep_under : FnScope n_un ["self", "copy"] (defScope s_Keep_is_under) := ⟨rfl, rfl, rfl, by decide +kernel, rfl, by decide +kernel, by decide +kernel⟩
theorem ok_under (T : Tx K mg) : Pr P w K mg base 3 (He.ma K (He.ga K "Keep") "is_under") (spUnder K) := by
  obtain ⟨fd, F⟩ := T.f_Keep_is_under
  obtain ⟨_, F4⟩ := T.f_is_bar
  refine pr_of (fn_t F sc_Keep_under (fun _ _ _ _ _ _ us hl => match us, hl with | [_, _], _ => rfl) (fun vs H Q E h => ?_) fun cdv A outer s H vs Q E hr h => ?_)
  · obtain ⟨q, p, rows, nd, k, ks, v, c, rfl, _⟩ := h
    rfl
  · obtain ⟨q, p, rows, nd, k, ks, v, c, rfl, ⟨dx, aO, aB, aY, aK, z, xs, h1, h2, h3, h4, h5, h6⟩, hp, S, hc, hks, hl, g⟩ := h
    have lxs := h6.len
    refine ⟨_, pss_one (ps_ret (pe_or (pe_cmpR (op_inDT (hu65 hr)) (pv 1) (pe_fld (pv 0) rfl) (by rfl)) (pe_one (pe_callB (cr_any rfl) (by rfl) T.b_any (by decide +kernel) (pa_cons (pe_lc (own := [("one", 2)]) (g := gName 2) (tt := tYes) rfl sc_Keep_under.nd (pi_tup (pe_fld (pv 0) rfl)) (blkOk_by (N := n_un) (sc := defScope s_Keep_is_under) (by decide +kernel))
        (fun _ _ _ _ _ => pg_name (i := 2) sc_Keep_under.nd rfl (Or.inl rfl)) (fun _ _ _ _ _ => pts_nil)
        (te := tCl spIsBar (tCons (tFld K (tVar 0) "order") (tCons (tFld K (tVar 0) "below") (tCons (tVar 2) (tCons (tVar 1) tNil)))))
        (fun _ _ _ _ _ => pc (ok_is_bar T) hr F4.kp T.g_is_bar (pa_cons (pe_fld (pv 0) rfl) (pa_cons (pe_fld (pv 0) rfl) (pa_cons (pv 2) (pa_cons (pv 1) pa_nil)))))) pa_nil))))), ?_⟩
    refine ⟨_, rfl, _, rfl, q, _, dx, _, _, rfl, h1, T.cl_Keep, T.na_Keep_key, rfl, cD c, ks.map cD, dp_c hp, dp_k (.of h5) h6, cD_shaped (S.ok _ hc).strOk, kD_shaped fun y hy => (S.ok _ (hks y hy)).strOk, _, rfl, ?_⟩
    rw [any_cD]
    have eu : ∀ b : Bool, decide (c ∈ ks) = b → Lat.under (bars rows nd) ks c = (b || ks.any fun x => bars rows nd x c) := fun b e => by
      unfold Lat.under
      rw [← e]
    refine iB (fun hin => ?_) (fun hno => ?_)
    · have z := g H (Same.refl _)
      rw [eu true hin] at z
      exact z
    · refine ⟨_, rfl, q, _, dx, _, _, rfl, h1, T.cl_Keep, T.na_Keep_key, rfl, aK, rfl, ⟨_, .of h5⟩, fun D hD => ?_⟩
      refine lc_gr (Mono.eq V.bl) (walk_tup (K := K) (a := aK) (xs := xs)) (g := gName 2) (tt := tYes) (te := tCl spIsBar (tCons (tFld K (tVar 0) "order") (tCons (tFld K (tVar 0) "below") (tCons (tVar 2) (tCons (tVar 1) tNil))))) hD (by rw [sizeLine_eq]; omega) (fun _ => true) (fun j => bars rows nd (ks.getD j default) c) (fun H10 s10 => .of (s10 _ _ h5)) (fun _ _ _ _ _ y => by rw [y.1]; exact Same.refl _) ?_ ?_
      · rintro j y _ H10 A3 B3 hj s10 _ ⟨rfl, hy⟩ hA3 _
        obtain ⟨e, he, hpe⟩ := h6.get hy
        have eg2 : ks.getD j default = e := by rw [List.getD_eq_getElem?_getD, he]; rfl
        rw [eg2] at hA3
        have hme : e ∈ ks := List.mem_of_getElem? he
        refine ⟨rfl, yes ⟨_, rfl, q, _, dx, _, _, rfl, s10 _ _ h1, T.cl_Keep, T.na_Keep_order, rfl, _, rfl, q, _, dx, _, _, rfl, s10 _ _ h1, T.cl_Keep, T.na_Keep_below, rfl, _, rfl, _, rfl, ?_⟩⟩
        exact ⟨aO, aB, _, _, e, c, rows, nd, rfl, hpe.same s10, hp.same s10, s10 _ _ h3, h4.same s10, hks e hme, hc, fun H11 s11 => hA3 rfl _ _ s11 rfl⟩
      · intro out2 H10 s10 e10 al10
        rw [outs_all] at al10
        rw [al10.eq, List.map_map] at e10
        refine ⟨D, (List.range xs.length).map fun j => bars rows nd (ks.getD j default) c, rfl, .inl (.inl (by rw [e10, List.map_map])), ?_⟩
        have ea : ((List.range xs.length).map fun j => bars rows nd (ks.getD j default) c).any id = ks.any fun x => bars rows nd x c := by
          rw [lxs]
          have z := outs_list default (fun _ => true) (fun x => bars rows nd x c) ks
          rw [outs_all, List.filter_eq_self.mpr (fun _ _ => rfl)] at z
          rw [z, List.any_map]
          rfl
        have z := g H10 s10
        rw [eu false hno, Bool.false_or] at z
        rw [ea]
        exact z
def spEarlier (K : PySem.W.Frag) : Sp := fun vs H Q _ => ∃ q1 q2 p rows nd k a b, vs = [.ref q1, .ref q2] ∧ Two K H q1 q2 p rows nd k a b ∧ ∀ H', Same H H' → Q (.bl (a.all fun c => Lat.under (bars rows nd) b c)) H'
abbrev n_ea : List Str := ["self", "other", "copy"]
theorem sc_Keep_earlier : FnScope n_ea ["self", "other"] (defScope s_Keep_earlier_than) := ⟨rfl, rfl, rfl, by decide +kernel, rfl, by decide +kernel, by decide +kernel⟩
theorem ok_earlier (T : Tx K mg) : Pr P w K mg base 4 (He.ma K (He.ga K "Keep") "earlier_than") (spEarlier K) := by
  obtain ⟨fd, F⟩ := T.f_Keep_earlier_than
  refine pr_of (fn_t F sc_Keep_earlier (fun _ _ _ _ _ _ us hl => match us, hl with | [_, _], _ => rfl) (fun vs H Q E h => ?_) fun cdv A outer s H vs Q E hr h => ?_)
  · obtain ⟨q1, q2, p, rows, nd, k, a, b, rfl, _⟩ := h
    rfl
  · obtain ⟨q1, q2, p, rows, nd, k, a, b, rfl, hT, g⟩ := h
    refine ⟨_, pss_cons (ps_expr (pm (pv 0) T.cl_Keep T.mt_Keep_both (ok_both T) hr (pa_cons (pv 1) pa_nil)))
      (pss_one (ps_ret (pe_callB (cr_all rfl) (by rfl) T.b_all (by decide +kernel) (pa_cons (pe_lc (own := [("copy", 2)]) (g := gName 2) (tt := tYes) rfl sc_Keep_earlier.nd (pi_tup (pe_fld (pv 0) rfl)) (blkOk_by (N := n_ea) (sc := defScope s_Keep_earlier_than) (by decide +kernel))
        (fun _ _ _ _ _ => pg_name (i := 2) sc_Keep_earlier.nd rfl (Or.inl rfl)) (fun _ _ _ _ _ => pts_nil)
        (te := tMt (He.ga K "Keep") "is_under" (spUnder K) (tVar 1) (tCons (tVar 2) tNil))
        (fun _ _ _ _ _ => pm (pv 1) T.cl_Keep T.mt_Keep_is_under (ok_under T) hr (pa_cons (pv 2) pa_nil))) pa_nil)))), ?_⟩
    obtain ⟨⟨dx, aO, aB, aY, aK, z, xs, h1, h2, h3, h4, h5, h6⟩, kb, S, Z, Ca, Cb⟩ := id hT
    obtain ⟨dx2, _, _, _, _, _, _, g1, _⟩ := id kb
    have lxs := h6.len
    have la := Ca.len Z.rk
    refine ⟨_, rfl, q1, dx, _, rfl, h1, rfl, _, rfl, q1, q2, p, rows, nd, k, a, b, rfl, hT, fun B out H1 s1 hB alB => ?_⟩
    refine ⟨_, rfl, q1, _, dx, _, _, rfl, s1 _ _ h1, T.cl_Keep, T.na_Keep_key, rfl, aK, rfl, ⟨_, .of (s1 _ _ h5)⟩, fun D hD => ?_⟩
    refine lc_gr (Mono.eq V.bl) (walk_tup (K := K) (a := aK) (xs := xs)) (g := gName 2) (tt := tYes) (te := tMt (He.ga K "Keep") "is_under" (spUnder K) (tVar 1) (tCons (tVar 2) tNil)) hD (by rw [sizeLine_eq]; omega) (fun _ => true) (fun j => Lat.under (bars rows nd) b (a.getD j default)) (fun H10 s10 => .of (s10 _ _ (s1 _ _ h5))) (fun _ _ _ _ _ y => by rw [y.1]; exact Same.refl _) ?_ ?_
    · rintro j y _ H10 A3 B3 hj s10 _ ⟨rfl, hy⟩ hA3 _
      obtain ⟨e, he, hpe⟩ := h6.get hy
      have eg2 : a.getD j default = e := by rw [List.getD_eq_getElem?_getD, he]; rfl
      rw [eg2] at hA3
      have hme : e ∈ a := List.mem_of_getElem? he
      have s11 := s1.trans s10
      refine ⟨rfl, yes ⟨_, rfl, q2, dx2, _, rfl, s11 _ _ g1, rfl, _, rfl, ?_⟩⟩
      exact ⟨q2, p, rows, nd, k, b, _, e, rfl, kb.same s11, hpe.same s11, S, Ca.row hme, fun x hx => Cb.row hx, Cb.len Z.rk, fun H12 s12 => hA3 rfl _ _ s12 rfl⟩
    · intro out2 H10 s10 e10 al10
      rw [outs_all] at al10
      rw [al10.eq, List.map_map] at e10
      refine ⟨D, (List.range xs.length).map fun j => Lat.under (bars rows nd) b (a.getD j default), rfl, .inl (.inl (by rw [e10, List.map_map])), ?_⟩
      have ea : ((List.range xs.length).map fun j => Lat.under (bars rows nd) b (a.getD j default)).all id = a.all fun c => Lat.under (bars rows nd) b c := by
        rw [lxs]
        have z := outs_list default (fun _ => true) (fun x => Lat.under (bars rows nd) b x) a
        rw [outs_all, List.filter_eq_self.mpr (fun _ _ => rfl)] at z
        rw [z, List.all_map]
        rfl
      rw [ea]
      exact g H10 (s1.trans s10)
end
end Pw
end
section
set_option maxRecDepth 100000
set_option maxHeartbeats 4000000
/-! The walk: flows.py, the state of a flow; lower and turn. -/
namespace Pw
open PySem PySem.Spec PyProof.Rows L2
/-- the addresses of a flow's own lists and dicts -/
structure Fl where
  aL : Addr
  aR : Addr
  aA : Addr
  aG : Addr
  das : List Addr
  dgs : List Addr
def Fl.own (F : Fl) : List Addr := F.aL :: F.aR :: (F.das ++ F.dgs)
def b01 (b : Bool) : V := .int (if b then 1 else 0)
def amK (o : Option Nat) : List (Key × V) := match o with | none => [] | some j => [(Sum.inl (j : Int), .int 1)]
def giK (o : Option Nat) : List (Key × V) := match o with | none => [] | some i => [(Sum.inl (i : Int), .bl true)]
/-- where the parts stand -/
structure FlOk (F : Fl) (n : Nat) : Prop where
  la : F.das.length = n
  lg : F.dgs.length = n
  nd : (F.das ++ F.dgs).Nodup
  lr : F.aL ≠ F.aR
/-- the parts of a flow: who has weight left, the rights that are free, the matching and its back -/
structure Arr (H : Hp) (F : Fl) (n : Nat) (lf rgt : Nat → Bool) (m g : Nat → Option Nat) : Prop where
  left : H F.aL = some (.lst ((List.range n).map fun i => b01 (lf i)))
  right : H F.aR = some (.lst ((List.range n).map fun i => b01 (rgt i)))
  am : ∀ (i : Nat) (d : Addr), F.das[i]? = some d → H d = some (.dK (amK (m i)))
  gi : ∀ (j : Nat) (d : Addr), F.dgs[j]? = some d → H d = some (.dK (giK (g j)))
/-- the instance and what of it stays -/
structure FIns (K : PySem.W.Frag) (H : Hp) (f : Addr) (F : Fl) (n : Nat) (lk : Nat → List Nat) : Prop where
  ins : ∃ dx aK, H f = some (.ins (He.ga K "Flow") dx [(("links" : Str), V.ref aK), ("left", V.ref F.aL), ("right", V.ref F.aR), ("amounts", V.ref F.aA), ("givers", V.ref F.aG)]) ∧
    ∃ ls : List Addr, ls.length = n ∧ H aK = some (.lst (ls.map V.ref)) ∧ ∀ (i : Nat) (d : Addr), ls[i]? = some d → H d = some (.lst ((lk i).map fun j => V.int (j : Nat)))
  lA : H F.aA = some (.lst (F.das.map V.ref))
  lG : H F.aG = some (.lst (F.dgs.map V.ref))
  ok : FlOk F n
  /-- none of these is changed -/
  keep : ∃ dx aK fs, ∃ ls : List Addr, H f = some (.ins (He.ga K "Flow") dx fs) ∧ fs.lookup ("links" : Str) = some (.ref aK) ∧ H aK = some (.lst (ls.map V.ref)) ∧ aK ∉ F.own ∧ F.aA ∉ F.own ∧ F.aG ∉ F.own ∧ ∀ d ∈ ls, d ∉ F.own
/-- all but the flow's own parts -/
def SameO (F : Fl) (H H' : Hp) : Prop := ∀ b o, b ∉ F.own → H b = some o → H' b = some o
theorem SameO.refl (F : Fl) (H : Hp) : SameO F H H := fun _ _ _ h => h
theorem SameO.trans {F : Fl} {H H1 H2 : Hp} (a : SameO F H H1) (b : SameO F H1 H2) : SameO F H H2 := fun c o n h => b c o n (a c o n h)
theorem SameO.set {F : Fl} {H : Hp} {a : Addr} {o : HO} (h : a ∈ F.own) : SameO F H (upd H a o) := fun b x n e => by
  rw [upd_ne (fun z => n (by rw [z]; exact h))]
  exact e
theorem SameO.of {F : Fl} {H H' : Hp} (s : Same H H') : SameO F H H' := fun b o _ e => s b o e
section
variable {F : Fl} {n : Nat}
theorem FlOk.d_own (k : FlOk F n) {i : Nat} {d : Addr} (h : F.das[i]? = some d) : d ∈ F.own := List.mem_cons_of_mem _ (List.mem_cons_of_mem _ (List.mem_append_left _ (List.mem_of_getElem? h)))
theorem FlOk.g_own (k : FlOk F n) {i : Nat} {d : Addr} (h : F.dgs[i]? = some d) : d ∈ F.own := List.mem_cons_of_mem _ (List.mem_cons_of_mem _ (List.mem_append_right _ (List.mem_of_getElem? h)))
theorem FlOk.da (k : FlOk F n) {i : Nat} (h : i < n) : ∃ d, F.das[i]? = some d := ⟨_, List.getElem?_eq_getElem (by rw [k.la]; exact h)⟩
theorem FlOk.dg (k : FlOk F n) {i : Nat} (h : i < n) : ∃ d, F.dgs[i]? = some d := ⟨_, List.getElem?_eq_getElem (by rw [k.lg]; exact h)⟩
theorem FlOk.lt_a (k : FlOk F n) {i : Nat} {d : Addr} (h : F.das[i]? = some d) : i < n := by rw [← k.la]; exact (List.getElem?_eq_some_iff.mp h).1
theorem FlOk.lt_g (k : FlOk F n) {i : Nat} {d : Addr} (h : F.dgs[i]? = some d) : i < n := by rw [← k.lg]; exact (List.getElem?_eq_some_iff.mp h).1
theorem FlOk.ne_ag (k : FlOk F n) {i j : Nat} {d e : Addr} (h : F.das[i]? = some d) (h' : F.dgs[j]? = some e) : d ≠ e := fun z =>
  (List.nodup_append.mp k.nd).2.2 d (List.mem_of_getElem? h) e (List.mem_of_getElem? h') z
theorem FlOk.ne_aa (k : FlOk F n) {i j : Nat} {d e : Addr} (h : F.das[i]? = some d) (h' : F.das[j]? = some e) (hne : i ≠ j) : d ≠ e := fun z => by
  subst z
  exact hne (nd_ix (List.nodup_append.mp k.nd).1 h h')
theorem FlOk.ne_gg (k : FlOk F n) {i j : Nat} {d e : Addr} (h : F.dgs[i]? = some d) (h' : F.dgs[j]? = some e) (hne : i ≠ j) : d ≠ e := fun z => by
  subst z
  exact hne (nd_ix (List.nodup_append.mp k.nd).2.1 h h')
end
theorem range_at {n i : Nat} (h : i < n) (f : Nat → V) : ((List.range n).map f)[i]? = some (f i) := by simp [h]
theorem range_set {n i : Nat} (h : i < n) (f : Nat → Bool) (b : Bool) : ((List.range n).map fun j => b01 (f j)).set i (b01 b) = (List.range n).map fun j => b01 (if j = i then b else f j) := by
  apply List.ext_getElem
  · simp
  · intro j h1 h2
    simp at h1
    rw [List.getElem_set]
    by_cases e : i = j
    · subst e; simp
    · rw [if_neg e]
      simp [Ne.symm e]
theorem ixN_nat {n i : Nat} (h : i < n) : ixN n (i : Int) = some i := by
  unfold ixN
  simp
  omega
section
variable {P : Program} {w : World} {K : PySem.W.Frag} {mg : Str → Option Value} {base : Heap}
/-- one unit less: from i, who gives to j' and j, to j -/
def spLower (K : PySem.W.Frag) : Sp := fun vs H Q _ => ∃ (f : Addr) (F : Fl) (n : Nat) (lk : Nat → List Nat) (i j j' : Nat) (d e : Addr), vs = [.ref f, .int i, .int j] ∧ FIns K H f F n lk ∧ F.das[i]? = some d ∧ F.dgs[j]? = some e ∧ j ≠ j' ∧
  H d = some (.dK [(Sum.inl (j : Int), .int 1), (Sum.inl (j' : Int), .int 1)]) ∧ H e = some (.dK (giK (some i))) ∧ Q .non (upd (upd H d (.dK (amK (some j')))) e (.dK (giK none)))
theorem sc_lower : FnScope ["self", "item", "other", "rest"] ["self", "item", "other"] (defScope s_Flow_lower) := ⟨rfl, rfl, rfl, by decide +kernel, rfl, by decide +kernel, by decide +kernel⟩
theorem ok_lower (T : Tx K mg) : Pr P w K mg base 1 (He.ma K (He.ga K "Flow") "lower") (spLower K) := by
  obtain ⟨fd, F0⟩ := T.f_Flow_lower
  refine pr_of (fn_t F0 sc_lower (fun _ _ _ _ _ _ us hl => match us, hl with | [_, _, _], _ => rfl) (fun vs H Q E h => ?_) fun cdv A outer s H vs Q E hr h => ?_)
  · obtain ⟨f, F, n, lk, i, j, j', d, e, rfl, _⟩ := h
    rfl
  · obtain ⟨f, F, n, lk, i, j, j', d, e, rfl, FI, hd, he, hjj, h1, h2, q⟩ := h
    have hu := hu_of hr
    refine ⟨_, pss_cons (ps_set (i := 3) sc_lower.nd rfl (Or.inl rfl) (pe_op op_sub (pe_dget hu (pe_ix ix_list (pe_fld (pv 0) rfl) (pv 1) (fun _ _ => rfl)) (pv 2) (fun _ _ => rfl)) pe_int))
      (pss_one (ps_if (pt_cmpR op_gt (pv 3) pe_int (nomark _)) pss_never
        (pss_cons (ps_ddel (pe_ix ix_list (pe_fld (pv 0) rfl) (pv 1) (fun _ _ => rfl)) (pv 2)) (pss_one (ps_ddel (pe_ix ix_list (pe_fld (pv 0) rfl) (pv 2) (fun _ _ => rfl)) (pv 1)))))), ?_⟩
    obtain ⟨dx, aK, hf, _⟩ := FI.ins
    have hdi : (F.das.map V.ref)[i]? = some (.ref d) := by rw [List.getElem?_map, hd]; rfl
    have hej : (F.dgs.map V.ref)[j]? = some (.ref e) := by rw [List.getElem?_map, he]; rfl
    have hv : valV [((Sum.inl (j : Int) : Key), V.int 1), (Sum.inl (j' : Int), .int 1)] (Sum.inl (j : Int)) = some (.int 1) := valV_pos rfl
    have dg := DGet.k (k := Sum.inl (j : Int)) h1
    rw [hv] at dg
    refine ⟨_, rfl, f, _, dx, _, _, rfl, hf, T.cl_Flow, T.na_Flow_amounts, rfl, _, rfl, F.aA, _, _, _, rfl, rfl, .of FI.lA, atI_nat hdi, _, rfl, d, .int 1, rfl, dg, _, _, rfl, rfl, ?_⟩
    refine ⟨_, rfl, _, _, rfl, rfl, _, rfl, ?_⟩
    rw [decide_eq_false (show ¬ (0 : Int) < 1 - 1 by decide)]
    refine iteF ?_
    refine ⟨_, rfl, f, _, dx, _, _, rfl, hf, T.cl_Flow, T.na_Flow_amounts, rfl, _, rfl, F.aA, _, _, _, rfl, rfl, .of FI.lA, atI_nat hdi, _, rfl, d, _, Sum.inl (j : Int), rfl, h1, rfl, by rw [hv]; rfl, ?_⟩
    have hdr : dropK [((Sum.inl (j : Int) : Key), V.int 1), (Sum.inl (j' : Int), .int 1)] (Sum.inl (j : Int)) = amK (some j') := by
      rw [dropK_pos rfl]
      exact dropK_no (by simp; omega)
    rw [hdr]
    have hfo : ∀ (b : Addr) (o : HO), b ≠ d → H b = some o → (upd H d (.dK (amK (some j')))) b = some o := fun b o n h => by rw [upd_ne n]; exact h
    have hed : e ≠ d := Ne.symm (FI.ok.ne_ag hd he)
    refine ⟨_, rfl, f, _, dx, _, _, rfl, hfo _ _ (ne_of hf h1 (by intro z; cases z)) hf, T.cl_Flow, T.na_Flow_givers, rfl, _, rfl, F.aG, _, _, _, rfl, rfl, .of (hfo _ _ (ne_of FI.lG h1 (by intro z; cases z)) FI.lG), atI_nat hej, _, rfl, e, _, Sum.inl (i : Int), rfl, hfo _ _ hed h2, rfl, ?_, ?_⟩
    · show (valV [((Sum.inl (i : Int) : Key), V.bl true)] (Sum.inl (i : Int))).isSome = true
      rw [valV_pos rfl]
      rfl
    · have hg : dropK (giK (some i)) (Sum.inl (i : Int)) = giK none := by
        show dropK [((Sum.inl (i : Int) : Key), V.bl true)] (Sum.inl (i : Int)) = []
        rw [dropK_pos rfl]
        rfl
      rw [hg]
      exact q
open Lat (setF setF_same setF_ne)
theorem Arr.am_set {H : Hp} {F : Fl} {n : Nat} {lf rgt : Nat → Bool} {m g : Nat → Option Nat} (A : Arr H F n lf rgt m g) (k : FlOk F n) {i : Nat} {d : Addr} (hd : F.das[i]? = some d) (v : Option Nat) : Arr (upd H d (.dK (amK v))) F n lf rgt (setF m i v) g := by
  have hk := A.am i d hd
  refine ⟨by rw [upd_ne (ne_of A.left hk (by intro z; cases z))]; exact A.left, by rw [upd_ne (ne_of A.right hk (by intro z; cases z))]; exact A.right, fun j e he => ?_, fun j e he => ?_⟩
  · by_cases z : j = i
    · subst z
      rw [hd] at he
      cases he
      rw [upd_same, setF_same]
    · rw [upd_ne (k.ne_aa he hd z), setF_ne z]
      exact A.am j e he
  · rw [upd_ne (Ne.symm (k.ne_ag hd he))]
    exact A.gi j e he
theorem Arr.gi_set {H : Hp} {F : Fl} {n : Nat} {lf rgt : Nat → Bool} {m g : Nat → Option Nat} (A : Arr H F n lf rgt m g) (k : FlOk F n) {j : Nat} {e : Addr} (he : F.dgs[j]? = some e) (v : Option Nat) : Arr (upd H e (.dK (giK v))) F n lf rgt m (setF g j v) := by
  have hk := A.gi j e he
  refine ⟨by rw [upd_ne (ne_of A.left hk (by intro z; cases z))]; exact A.left, by rw [upd_ne (ne_of A.right hk (by intro z; cases z))]; exact A.right, fun i d hd => ?_, fun i d hd => ?_⟩
  · rw [upd_ne (k.ne_ag hd he)]
    exact A.am i d hd
  · by_cases z : i = j
    · subst z
      rw [he] at hd
      cases hd
      rw [upd_same, setF_same]
    · rw [upd_ne (k.ne_gg hd he z), setF_ne z]
      exact A.gi i d hd
theorem upd_upd_same {H : Hp} {a : Addr} {o o' : HO} : upd (upd H a o) a o' = upd H a o' := by
  funext b
  by_cases z : b = a
  · subst z; rw [upd_same, upd_same]
  · rw [upd_ne z, upd_ne z, upd_ne z]
theorem upd_comm {H : Hp} {a b : Addr} {o o' : HO} (h : a ≠ b) : upd (upd H a o) b o' = upd (upd H b o') a o := by
  funext c
  by_cases z : c = b
  · subst z; rw [upd_same, upd_ne (Ne.symm h), upd_same]
  · by_cases z2 : c = a
    · subst z2; rw [upd_ne h, upd_same, upd_same]
    · rw [upd_ne z, upd_ne z2, upd_ne z2, upd_ne z]
/-- what comes and where from -/
def CoAt (ck : List (Key × V)) (co : Nat → Option Nat) : Prop := ∀ j : Nat, valV ck (Sum.inl (j : Int)) = (co j).map fun h => V.int (h : Nat)
def ogV (v : Option Nat) : V := match v with | none => .non | some o => .int (o : Nat)
def OgAt (ok : List (Key × V)) (og : Nat → Option (Option Nat)) : Prop := ∀ i : Nat, valV ok (Sum.inl (i : Int)) = (og i).map ogV
theorem FIns.keepO {H H' : Hp} {f : Addr} {F : Fl} {n : Nat} {lk : Nat → List Nat} (I : FIns K H f F n lk) (s : SameO F H H') (hf : f ∉ F.own) : FIns K H' f F n lk := by
  obtain ⟨⟨dx, aK, h1, ls, h2, h3, h4⟩, hA, hG, ok, kp⟩ := I
  obtain ⟨dx', aK', fs, ls', k1, k2, k3, k4, k5, k6, k7⟩ := kp
  rw [h1] at k1
  have e := Option.some.inj k1
  injection e with _ _ e3
  subst e3
  have e4 : aK = aK' := by
    have : (some (V.ref aK) : Option V) = some (.ref aK') := k2
    injection this with z
    injection z
  subst e4
  rw [h3] at k3
  have e5 := Option.some.inj k3
  injection e5 with e6
  have e7 : ls = ls' := (List.map_inj_right (fun a b z => by injection z)).mp e6
  subst e7
  refine ⟨⟨dx, aK, s _ _ hf h1, ls, h2, s _ _ k4 h3, fun i d hd => s _ _ (k7 d (List.mem_of_getElem? hd)) (h4 i d hd)⟩, s _ _ k5 hA, s _ _ k6 hG, ok, ⟨dx, aK, _, ls, s _ _ hf h1, rfl, s _ _ k4 h3, k4, k5, k6, k7⟩⟩
def rgD (rgt : Nat → Bool) (o : Nat) (j : Nat) : Bool := rgt j && decide (j ≠ o)
def spTurn (K : PySem.W.Frag) : Sp := fun vs H Q _ => ∃ (f c o : Addr) (F : Fl) (n : Nat) (lk : Nat → List Nat) (lf rgt0 : Nat → Bool) (bar : Nat → Nat → Bool) (m g : Nat → Option Nat) (co : Nat → Option Nat) (og : Nat → Option (Option Nat)) (ck ok : List (Key × V)) (other h item : Nat) (p : List Nat),
  vs = [.ref f, .int other, .ref c, .ref o] ∧ FIns K H f F n lk ∧ f ∉ F.own ∧ Arr H F n lf rgt0 m g ∧ H c = some (.dK ck) ∧ H o = some (.dK ok) ∧ c ∉ F.own ∧ o ∉ F.own ∧ CoAt ck co ∧ OgAt ok og ∧ rgt0 other = true ∧
  Lat.Turn (List.range n) bar m g (rgD rgt0 other) co og m g other h p ∧ (∀ x, og x = some none → x = item) ∧
  ∀ H' m1 g1, SameO F H H' → Arr H' F n lf (rgD rgt0 other) m1 g1 → Lat.Turned (List.range n) bar m g (rgD rgt0 other) item m1 g1 → Q .non H'
theorem sc_turn : FnScope ["self", "other", "comes", "origins", "here"] ["self", "other", "comes", "origins"] (defScope s_Flow_turn) := ⟨rfl, rfl, rfl, by decide +kernel, rfl, by decide +kernel, by decide +kernel⟩
theorem ok_turn (T : Tx K mg) : Pr P w K mg base 2 (He.ma K (He.ga K "Flow") "turn") (spTurn K) := by
  obtain ⟨fd, F0⟩ := T.f_Flow_turn
  refine pr_of (fn_t F0 sc_turn (fun _ _ _ _ _ _ us hl => match us, hl with | [_, _, _, _], _ => rfl) (fun vs H Q E h => ?_) fun cdv A outer s H vs Q E hr h => ?_)
  · obtain ⟨f, c, o, F, n, lk, lf, rgt0, bar, m, g, co, og, ck, ok, other, h, item, p, rfl, _⟩ := h
    rfl
  · obtain ⟨f, c, o, F, n, lk, lf, rgt0, bar, m, g, co, og, ck, ok, other, h, item, p, rfl, FI, hfo, AR, hc, ho, hco, hoo, cAt, oAt, hro, TU, hit, q⟩ := h
    have hu := hu_of hr
    refine ⟨_, pss_cons (ps_augS (pe_fld (pv 0) rfl) (pv 1) get_list pe_int ip_sub set_list)
      (pss_one (ps_while PassesOwn.never (pt_cmp (pc_notN (pv 1)))
        (pss_cons (ps_set (i := 4) sc_turn.nd rfl (Or.inl rfl) (pe_dget hu (pv 2) (pv 1) (fun _ _ => rfl)))
        (pss_cons (ps_dput hu (pe_ix ix_list (pe_fld (pv 0) rfl) (pv 4) (fun _ _ => rfl)) (pv 1) (pe_op op_add (pe_dget2 hu (pe_ix ix_list (pe_fld (pv 0) rfl) (pv 4) (fun _ _ => rfl)) (pv 1) pe_int ⟨by rfl, by rfl, by rfl, by rfl⟩) pe_int) rfl)
        (pss_cons (ps_dput hu (pe_ix ix_list (pe_fld (pv 0) rfl) (pv 1) (fun _ _ => rfl)) (pv 4) pe_bl rfl)
        (pss_cons (ps_set (i := 1) sc_turn.nd rfl (Or.inl rfl) (pe_dget hu (pv 3) (pv 4) (fun _ _ => rfl)))
        (pss_one (ps_if (pt_cmp (pc_notN (pv 1))) (pss_one (ps_expr (pm (pv 0) T.cl_Flow T.mt_Flow_lower (ok_lower T) hr (pa_cons (pv 4) (pa_cons (pv 1) pa_nil))))) pss_nil)))))))), ?_⟩
    obtain ⟨dx, aK, hf, _⟩ := FI.ins
    have hon : other < n := List.mem_range.mp TU.ot
    refine ⟨_, rfl, f, _, dx, _, _, rfl, hf, T.cl_Flow, T.na_Flow_right, rfl, _, rfl, F.aR, _, other, _, rfl, rfl, .of AR.right, range_at hon _, ?_⟩
    rw [hro]
    refine ⟨_, _, rfl, rfl, F.aR, _, _, other, rfl, rfl, AR.right, ?_, ?_⟩
    · rw [List.length_map, List.length_range]; exact ixN_nat hon
    show tWhile _ _ _ _ (upd H F.aR (.lst ((List.map _ _).set other (b01 false))))
    rw [range_set hon]
    have A1 : Arr (upd H F.aR (.lst ((List.range n).map fun j => b01 (if j = other then false else rgt0 j)))) F n lf (rgD rgt0 other) m g := by
      refine ⟨by rw [upd_ne FI.ok.lr]; exact AR.left, ?_, fun i d hd => ?_, fun i d hd => ?_⟩
      · rw [upd_same]
        congr 2
        apply List.map_congr_left
        intro i _
        unfold rgD
        by_cases z : i = other <;> simp [z]
      · rw [upd_ne (ne_of (AR.am i d hd) AR.right (by intro z; cases z))]; exact AR.am i d hd
      · rw [upd_ne (ne_of (AR.gi i d hd) AR.right (by intro z; cases z))]; exact AR.gi i d hd
    generalize hH1 : upd H F.aR (.lst ((List.range n).map fun j => b01 (if j = other then false else rgt0 j))) = H1 at A1
    have s1 : SameO F H H1 := by rw [← hH1]; exact .set (List.mem_cons_of_mem _ List.mem_cons_self)
    refine ⟨fun μ σ' H' => SameO F H H' ∧ ((∃ oth m1 g1 h p x4, σ' = [some (.ref f), some (.int (oth : Nat)), some (.ref c), some (.ref o), x4] ∧ μ = (p : List Nat).length + 1 ∧ Arr H' F n lf (rgD rgt0 other) m1 g1 ∧ Lat.Turn (List.range n) bar m g (rgD rgt0 other) co og m1 g1 oth h p) ∨
      ∃ m1 g1 x4, σ' = [some (.ref f), some .non, some (.ref c), some (.ref o), x4] ∧ μ = 0 ∧ Arr H' F n lf (rgD rgt0 other) m1 g1 ∧ Lat.Turned (List.range n) bar m g (rgD rgt0 other) item m1 g1),
      ⟨_, s1, .inl ⟨other, m, g, h, p, none, rfl, rfl, A1, TU⟩⟩, ?_⟩
    rintro μ σ' H2 ⟨s2, ⟨oth, m1, g1, h, p, x4, rfl, rfl, A2, T2⟩ | ⟨m1, g1, x4, rfl, rfl, A2, T2⟩⟩
    · refine ⟨_, rfl, true, rfl, iteT ?_⟩
      have hhn : h < n := List.mem_range.mp T2.h_in
      have hot : oth < n := List.mem_range.mp T2.ot
      obtain ⟨d, hd⟩ := FI.ok.da hhn
      obtain ⟨e, he⟩ := FI.ok.dg hot
      have FI2 := FI.keepO s2 hfo
      obtain ⟨dx2, aK2, hf2, _⟩ := FI2.ins
      have hdi : (F.das.map V.ref)[h]? = some (.ref d) := by rw [List.getElem?_map, hd]; rfl
      have hej : (F.dgs.map V.ref)[oth]? = some (.ref e) := by rw [List.getElem?_map, he]; rfl
      have hde := FI.ok.ne_ag hd he
      have dgc := DGet.k (k := Sum.inl (oth : Int)) (s2 _ _ hco hc)
      rw [cAt, T2.co_] at dgc
      have hog : ∃ v, og h = some v := by
        cases T2.good with
        | root e1 _ => exact ⟨_, e1⟩
        | step e1 _ _ _ _ _ => exact ⟨_, e1⟩
      obtain ⟨v, hv⟩ := hog
      have am2 := A2.am h d hd
      have gi2 := A2.gi oth e he
      rw [T2.other_ne] at gi2
      have hfd : f ≠ d := fun z => hfo (z ▸ FI.ok.d_own hd)
      have hfe : f ≠ e := fun z => hfo (z ▸ FI.ok.g_own he)
      have hAd : F.aA ≠ d := ne_of FI2.lA am2 (by intro z; cases z)
      have hGd : F.aG ≠ d := ne_of FI2.lG am2 (by intro z; cases z)
      have hod : o ≠ d := fun z => hoo (z ▸ FI.ok.d_own hd)
      have hoe : o ≠ e := fun z => hoo (z ▸ FI.ok.g_own he)
      have ho2 := s2 _ _ hoo ho
      refine ⟨fun σ' H' => SameO F H H' ∧ ((∃ oth m1 g1 h p' x4, σ' = [some (.ref f), some (.int (oth : Nat)), some (.ref c), some (.ref o), x4] ∧ (p' : List Nat).length < p.length ∧ Arr H' F n lf (rgD rgt0 other) m1 g1 ∧ Lat.Turn (List.range n) bar m g (rgD rgt0 other) co og m1 g1 oth h p') ∨
        ∃ m1 g1 x4, σ' = [some (.ref f), some .non, some (.ref c), some (.ref o), x4] ∧ Arr H' F n lf (rgD rgt0 other) m1 g1 ∧ Lat.Turned (List.range n) bar m g (rgD rgt0 other) item m1 g1), ?_, ?_⟩
      · rintro σ' H' ⟨s3, ⟨oth, m1, g1, h, p', x4, rfl, hl, A3, T3⟩ | ⟨m1, g1, x4, rfl, A3, T3⟩⟩
        · exact ⟨_, Nat.succ_lt_succ hl, s3, .inl ⟨oth, m1, g1, h, p', x4, rfl, rfl, A3, T3⟩⟩
        · exact ⟨0, Nat.succ_pos _, s3, .inr ⟨m1, g1, x4, rfl, rfl, A3, T3⟩⟩
      refine ⟨_, rfl, _, rfl, c, .int (h : Nat), rfl, dgc, ?_⟩
      -- the store of one unit
      have h01 : valV (amK (m1 h)) (Sum.inl (oth : Int)) = none := by
        cases hm : m1 h with
        | none => rfl
        | some o' =>
          have hne : o' ≠ oth := fun z => by
            obtain ⟨_, _, go⟩ := T2.mt.to_ h T2.h_in o' hm
            rw [z, T2.other_ne] at go
            cases go
          show valV [((Sum.inl (o' : Int) : Key), V.int 1)] (Sum.inl (oth : Int)) = none
          rw [valV_neg (fun z => hne (by have := Sum.inl.inj z; omega))]
          rfl
      have dam := DGet.k (k := Sum.inl (oth : Int)) am2
      rw [h01] at dam
      have hlen : (amK (m1 h)).length < sizeLine := by
        have : (amK (m1 h)).length ≤ 1 := by cases m1 h <;> simp [amK]
        exact Nat.lt_of_le_of_lt this (by decide)
      refine ⟨_, rfl, f, _, dx2, _, _, rfl, hf2, T.cl_Flow, T.na_Flow_amounts, rfl, _, rfl, F.aA, _, _, _, rfl, rfl, .of FI2.lA, atI_nat hdi, d, rfl, .inl ⟨_, .of am2⟩, _, rfl, none, dam, _, _, rfl, rfl, ?_⟩
      refine ⟨_, rfl, f, _, dx2, _, _, rfl, hf2, T.cl_Flow, T.na_Flow_amounts, rfl, _, rfl, F.aA, _, _, _, rfl, rfl, .of FI2.lA, atI_nat hdi, _, rfl, d, _, rfl, DPut.k (k := Sum.inl (oth : Int)) am2 hlen, ?_⟩
      have kf : ∀ (x : HO) (b : Addr) (ob : HO), b ≠ d → H2 b = some ob → (upd H2 d x) b = some ob := fun x b ob n e => by rw [upd_ne n]; exact e
      refine ⟨_, rfl, f, _, dx2, _, _, rfl, kf _ _ _ hfd hf2, T.cl_Flow, T.na_Flow_givers, rfl, _, rfl, F.aG, _, _, _, rfl, rfl, .of (kf _ _ _ hGd FI2.lG), atI_nat hej, _, rfl, e, _, rfl, DPut.k (k := Sum.inl (h : Int)) (kf _ _ _ (Ne.symm hde) gi2) (by decide), ?_⟩
      have dgo := DGet.k (k := Sum.inl (h : Int)) (show (upd (upd H2 d (.dK (putK (amK (m1 h)) (Sum.inl (oth : Int)) (V.int 1)))) e (.dK (giK (some h)))) o = some (.dK ok) by rw [upd_ne hoe, upd_ne hod]; exact ho2)
      rw [oAt, hv] at dgo
      refine ⟨_, rfl, _, rfl, o, ogV v, rfl, dgo, ?_⟩
      show gName 1 _ _ (upd (upd H2 d (.dK (putK (amK (m1 h)) (Sum.inl (oth : Int)) (V.int 1)))) e (.dK (giK (some h)))) _
      have dO := FI.ok.d_own hd
      have eO := FI.ok.g_own he
      have cm : ∀ x y z : HO, upd (upd (upd H2 d x) e y) d z = upd (upd H2 d z) e y := fun x y z => by rw [upd_comm (Ne.symm hde), upd_upd_same]
      cases v with
      | none =>
        obtain ⟨TT, mh⟩ := T2.last hv (hit h hv)
        refine ⟨_, rfl, false, rfl, iteF ⟨(s2.trans (.set dO)).trans (.set eO), .inr ⟨_, _, _, rfl, ?_, TT⟩⟩⟩
        have A3 := (A2.am_set FI.ok hd (some oth)).gi_set FI.ok he (some h)
        rw [mh]
        exact A3
      | some o' =>
        obtain ⟨mh, go', hne, hoa, h', q', hlen', TN⟩ := T2.next hv
        have ho'n : o' < n := List.mem_range.mp hoa
        obtain ⟨e', he'⟩ := FI.ok.dg ho'n
        have eO' := FI.ok.g_own he'
        have hee' : e' ≠ e := FI.ok.ne_gg he' he hne
        have hde' := FI.ok.ne_ag hd he'
        have gi' := A2.gi o' e' he'
        rw [go'] at gi'
        have hput : putK (amK (m1 h)) (Sum.inl (oth : Int)) (V.int 1) = [(Sum.inl (o' : Int), .int 1), (Sum.inl (oth : Int), .int 1)] := by
          rw [putK_new _ h01, mh]
          rfl
        rw [hput]
        have s3 : SameO F H (upd (upd H2 d (.dK [(Sum.inl (o' : Int), .int 1), (Sum.inl (oth : Int), .int 1)])) e (.dK (giK (some h)))) := (s2.trans (.set dO)).trans (.set eO)
        have FI3 := FI.keepO s3 hfo
        obtain ⟨dx3, aK3, hf3, _⟩ := FI3.ins
        refine ⟨_, rfl, true, rfl, iteT ⟨_, rfl, f, dx3, _, rfl, hf3, rfl, _, rfl, _, rfl, f, F, n, lk, h, o', oth, d, e', rfl, FI3, hd, he', hne, by rw [upd_ne hde, upd_same], by rw [upd_ne hee', upd_ne (Ne.symm hde')]; exact gi', ?_⟩⟩
        rw [cm]
        have A3 := ((A2.am_set FI.ok hd (some oth)).gi_set FI.ok he (some h)).gi_set FI.ok he' none
        refine ⟨((s2.trans (.set dO)).trans (.set eO)).trans (.set eO'), .inl ⟨o', _, _, h', q', _, rfl, by omega, A3, TN⟩⟩
    · exact ⟨_, rfl, false, rfl, iteF (q _ m1 g1 s2 A2 T2)⟩
end
end Pw
end
section
set_option maxRecDepth 100000
set_option maxHeartbeats 4000000
/-! The walk: Flow.push. -/
namespace Pw
open PySem PySem.Spec PyProof.Rows L2
open Lat (setF setF_same setF_ne un)
abbrev kI (i : Nat) : Key := Sum.inl (i : Int)
theorem kI_inj : ∀ a b : Nat, kI a = kI b → a = b := fun a b h => by have := Sum.inl.inj h; omega
abbrev iD (i : Nat) : PyData := .int (i : Int)
theorem il_shaped (l : List Nat) : SeqAt.shaped (.list (l.map iD)) = true := by
  refine shaped_of (by simp only [PyData.canLay0]; exact lay_map fun z _ => by simp [iD, PyData.canLay0]) ?_
  have h := depth_map (f := iD) (n := 0) (fun x => by simp [iD, PyData.depth]) l
  simp only [PyData.depth]
  omega
theorem dps_i {K : PySem.W.Frag} {H : Hp} : ∀ l : List Nat, DpAll K H (l.map fun i => V.int (i : Nat)) (l.map iD)
  | [] => .nil
  | x :: l => .cons (.int _) (dps_i l)
theorem il_eqv (l m : List Nat) : PyData.eqv (.list (l.map iD)) (.list (m.map iD)) = decide (l = m) := by
  simp only [PyData.eqv]
  exact eqv_map (fun x y => by simp only [iD, PyData.eqv]; rw [Bool.eq_iff_iff]; simp; omega) l m
/-- while push searches: what stands in its dicts and its list -/
structure PSt (bar : Nat → Nat → Bool) (m g : Nat → Option Nat) (lf : Nat → Bool) (F : Fl) (item n : Nat) (o c w : Addr) (H H' : Hp) (co : Nat → Option Nat) (og : Nat → Option (Option Nat)) (ws lo : List Nat) (wait : Nat → Prop) (μ : Nat) : Prop where
  P : Lat.Push (List.range n) bar m g item co og wait
  same : SameO F H H'
  arr : Arr H' F n lf (un g) m g
  od : ∃ ok, H' o = some (.dK ok) ∧ OgAt ok og ∧ TK kI ok lo
  lok : lo.Nodup ∧ ∀ i ∈ lo, i < n
  cd : ∃ ck lc, H' c = some (.dK ck) ∧ CoAt ck co ∧ TK kI ck lc ∧ lc.Nodup ∧ ∀ i ∈ lc, i < n
  wl : H' w = some (.lst (ws.map fun i => V.int (i : Nat)))
  og_w : ∀ x ∈ ws, ∃ v, og x = some v
  few : 2 * (n - lo.length) + ws.length ≤ μ
theorem CoAt.put {ck : List (Key × V)} {co : Nat → Option Nat} (h : CoAt ck co) (j i : Nat) : CoAt (putK ck (kI j) (.int (i : Nat))) (setF co j (some i)) := fun x => by
  by_cases z : x = j
  · subst z
    rw [valV_put, if_pos rfl, setF_same]
    rfl
  · rw [valV_put, if_neg (fun y => z (kI_inj _ _ y)), setF_ne z]
    exact h x
theorem OgAt.put {ok : List (Key × V)} {og : Nat → Option (Option Nat)} (h : OgAt ok og) (i j : Nat) : OgAt (putK ok (kI i) (.int (j : Nat))) (setF og i (some (some j))) := fun x => by
  by_cases z : x = i
  · subst z
    rw [valV_put, if_pos rfl, setF_same]
    rfl
  · rw [valV_put, if_neg (fun y => z (kI_inj _ _ y)), setF_ne z]
    exact h x
theorem Arr.congr {H : Hp} {F : Fl} {n : Nat} {lf rgt rgt' : Nat → Bool} {m g : Nat → Option Nat} (A : Arr H F n lf rgt m g) (h : ∀ i, i < n → rgt i = rgt' i) : Arr H F n lf rgt' m g := by
  refine ⟨A.left, ?_, A.am, A.gi⟩
  rw [A.right]
  congr 2
  apply List.map_congr_left
  intro i hi
  rw [h i (List.mem_range.mp hi)]
theorem Arr.same {H H' : Hp} {F : Fl} {n : Nat} {lf rgt : Nat → Bool} {m g : Nat → Option Nat} (A : Arr H F n lf rgt m g) (s : Same H H') : Arr H' F n lf rgt m g := ⟨s _ _ A.left, s _ _ A.right, fun i d h => s _ _ (A.am i d h), fun j d h => s _ _ (A.gi j d h)⟩
/-- what is new is no part of the flow -/
theorem Arr.fresh {H : Hp} {F : Fl} {n : Nat} {lf rgt : Nat → Bool} {m g : Nat → Option Nat} (A : Arr H F n lf rgt m g) (k : FlOk F n) {a : Addr} (h : H a = none) : a ∉ F.own := fun hm => by
  have hh : ∃ ob, H a = some ob := by
    rcases List.mem_cons.mp hm with rfl | hm
    · exact ⟨_, A.left⟩
    rcases List.mem_cons.mp hm with rfl | hm
    · exact ⟨_, A.right⟩
    rcases List.mem_append.mp hm with hm | hm
    · obtain ⟨i, hi⟩ := List.mem_iff_getElem?.mp hm
      exact ⟨_, A.am i a hi⟩
    · obtain ⟨i, hi⟩ := List.mem_iff_getElem?.mp hm
      exact ⟨_, A.gi i a hi⟩
  obtain ⟨ob, e⟩ := hh
  rw [h] at e
  cases e
theorem Arr.off {H : Hp} {F : Fl} {n : Nat} {lf rgt : Nat → Bool} {m g : Nat → Option Nat} (A : Arr H F n lf rgt m g) (k : FlOk F n) {a : Addr} {ob : HO} (h : a ∉ F.own) : Arr (upd H a ob) F n lf rgt m g := by
  have st : ∀ (b : Addr) (x : HO), b ∈ F.own → H b = some x → (upd H a ob) b = some x := fun b x hb e => by
    rw [upd_ne (fun z => h (by rw [← z]; exact hb))]
    exact e
  exact ⟨st _ _ List.mem_cons_self A.left, st _ _ (List.mem_cons_of_mem _ List.mem_cons_self) A.right, fun i d hd => st _ _ (k.d_own hd) (A.am i d hd), fun j d hd => st _ _ (k.g_own hd) (A.gi j d hd)⟩
theorem SameO.none {F : Fl} {H H' : Hp} (s : SameO F H H') {a : Addr} {ob : HO} (h : H a = none) : SameO F H (upd H' a ob) := fun b x hb e => by
  rw [upd_ne (fun z => by rw [z, h] at e; cases e)]
  exact s b x hb e
theorem upd_id {H : Hp} {a : Addr} {o : HO} (h : H a = some o) : upd H a o = H := by
  funext b
  by_cases e : b = a
  · subst e; rw [upd_same, h]
  · rw [upd_ne e]
theorem none_of {H : Hp} {a b : Addr} {ob : HO} (h : upd H a ob b = none) : H b = none ∧ b ≠ a := by
  by_cases z : b = a
  · subst z; rw [upd_same] at h; cases h
  · rw [upd_ne z] at h; exact ⟨h, z⟩
/-- the instance and its links, with what is kept of them -/
theorem FIns.full {K : PySem.W.Frag} {H : Hp} {f : Addr} {F : Fl} {n : Nat} {lk : Nat → List Nat} (I : FIns K H f F n lk) : ∃ dx aK, ∃ ls : List Addr, H f = some (.ins (He.ga K "Flow") dx [(("links" : Str), V.ref aK), ("left", V.ref F.aL), ("right", V.ref F.aR), ("amounts", V.ref F.aA), ("givers", V.ref F.aG)]) ∧
    ls.length = n ∧ H aK = some (.lst (ls.map V.ref)) ∧ aK ∉ F.own ∧ F.aA ∉ F.own ∧ F.aG ∉ F.own ∧ ∀ (i : Nat) (d : Addr), ls[i]? = some d → H d = some (.lst ((lk i).map fun j => V.int (j : Nat))) ∧ d ∉ F.own := by
  obtain ⟨⟨dx, aK, h1, ls, h2, h3, h4⟩, hA, hG, ok, kp⟩ := I
  obtain ⟨dx', aK', fs, ls', k1, k2, k3, k4, k5, k6, k7⟩ := kp
  rw [h1] at k1
  have e := Option.some.inj k1
  injection e with _ _ e3
  subst e3
  have e4 : aK = aK' := by
    have : (some (V.ref aK) : Option V) = some (.ref aK') := k2
    injection this with z
    injection z
  subst e4
  rw [h3] at k3
  have e5 := Option.some.inj k3
  injection e5 with e6
  have e7 : ls = ls' := (List.map_inj_right (fun a b z => by injection z)).mp e6
  subst e7
  exact ⟨dx, aK, ls, h1, h2, h3, k4, k5, k6, fun i d hd => ⟨h4 i d hd, k7 d (List.mem_of_getElem? hd)⟩⟩
theorem lt12 {l : List Nat} {n : Nat} (h : l.Nodup) (h2 : ∀ i ∈ l, i < n) : l.length ≤ n := by
  have := Lat.len_sub h (fun x hx => List.mem_range.mpr (h2 x hx))
  rwa [List.length_range] at this
theorem FIns.same {K : PySem.W.Frag} {H H' : Hp} {f : Addr} {F : Fl} {n : Nat} {lk : Nat → List Nat} (I : FIns K H f F n lk) (s : Same H H') (hf : f ∉ F.own) : FIns K H' f F n lk := I.keepO (.of s) hf
section
variable {P : Program} {w : World} {K : PySem.W.Frag} {mg : Str → Option Value} {base : Heap}
def spPush (K : PySem.W.Frag) : Sp := fun vs H Q _ => ∃ (f : Addr) (F : Fl) (n : Nat) (lk : Nat → List Nat) (lf : Nat → Bool) (bar : Nat → Nat → Bool) (m g : Nat → Option Nat) (item : Nat), vs = [.ref f, .int item] ∧ FIns K H f F n lk ∧ f ∉ F.own ∧ Arr H F n lf (un g) m g ∧ n ≤ 12 ∧
  (∀ i, i < n → ∀ j, j ∈ lk i ↔ j < n ∧ bar i j = true) ∧ (∀ i, i < n → (lk i).length ≤ 12) ∧ Lat.Match (List.range n) bar m g ∧ item < n ∧ m item = none ∧
  (∀ H' m1 g1, SameO F H H' → Arr H' F n lf (un g1) m1 g1 → (∃ rgt, Lat.Turned (List.range n) bar m g rgt item m1 g1) → Q (.bl true) H') ∧
  (∀ H' (L R : Nat → Prop), SameO F H H' → Arr H' F n lf (un g) m g → Lat.Closed (List.range n) bar g L R → L item → Q (.bl false) H')
abbrev n_push : List Str := ["self", "item", "origins", "comes", "waiting", "here", "other", "giver"]
theorem sc_push : FnScope n_push ["self", "item"] (defScope s_Flow_push) := ⟨rfl, rfl, rfl, by decide +kernel, rfl, by decide +kernel, by decide +kernel⟩
theorem ok_push (T : Tx K mg) : Pr P w K mg base 3 (He.ma K (He.ga K "Flow") "push") (spPush K) := by
  obtain ⟨fd, F0⟩ := T.f_Flow_push
  refine pr_of (fn_t F0 sc_push (fun _ _ _ _ _ _ us hl => match us, hl with | [_, _], _ => rfl) (fun vs H Q E h => ?_) fun cdv A outer s H vs Q E hr h => ?_)
  · obtain ⟨f, F, n, lk, lf, bar, m, g, item, rfl, _⟩ := h
    rfl
  · obtain ⟨f, F, n, lk, lf, bar, m, g, item, rfl, FI, hfo, AR, hn, hlk, hlk12, M, hit, him, qT, qF⟩ := h
    have hu := hu_of hr
    refine ⟨_, pss_cons (ps_set (i := 2) sc_push.nd rfl (Or.inl rfl) (pe_disp (pps_cons (pv 1) pe_non pps_nil) (by rfl) (by rfl) (fun z => by cases z) (by decide)))
      (pss_cons (ps_set (i := 3) sc_push.nd rfl (Or.inl rfl) pe_dnewK)
      (pss_cons (ps_set (i := 4) sc_push.nd rfl (Or.inl rfl) (pe_lst (pa_cons (pv 1) pa_nil)))
      (pss_cons (ps_while PassesOwn.never (pt_cmpR (op_neD hr.units) (pv 4) (pe_lst pa_nil) (nomark _))
        (pss_cons (ps_set (i := 5) sc_push.nd rfl (Or.inl rfl) (pe_bm0 PySem.F.plainAttrs_list PySem.F.slot_list_pop PySem.F.type_list_pop mt_pop (pv 4)))
        (pss_one (ps_for PassesOwn.never rfl (pi_list (pe_ix ix_list (pe_fld (pv 0) rfl) (pv 5) (fun _ _ => rfl))) (pg_name (i := 6) sc_push.nd rfl (.inl rfl))
          (pss_one (ps_if (pt_cmp (pc_dnotin hu (pv 6) (pv 3)))
            (pss_cons (ps_dput hu (pv 3) (pv 6) (pv 5) rfl)
            (pss_cons (ps_if (pt_cmpR op_gt (pe_ix ix_list (pe_fld (pv 0) rfl) (pv 6) (fun _ _ => rfl)) pe_int (nomark _))
              (pss_cons (ps_expr (pm (pv 0) T.cl_Flow T.mt_Flow_turn (ok_turn T) hr (pa_cons (pv 6) (pa_cons (pv 3) (pa_cons (pv 2) pa_nil))))) (pss_one (ps_ret pe_bl))) pss_nil)
            (pss_one (ps_lock (ps_for PassesOwn.never rfl (pi_keys (pe_ix ix_list (pe_fld (pv 0) rfl) (pv 6) (fun _ _ => rfl))) (pg_name (i := 7) sc_push.nd rfl (.inl rfl))
              (pss_one (ps_if (pt_cmp (pc_dnotin hu (pv 7) (pv 2)))
                (pss_cons (ps_dput hu (pv 2) (pv 7) (pv 6) rfl) (pss_one (ps_expr (pe_bm PySem.F.plainAttrs_list PySem.F.slot_list_append PySem.F.type_list_append mt_append (pv 4) (pa_cons (pv 7) pa_nil))))) pss_nil)))))))
            pss_nil))))))
      (pss_one (ps_ret pe_bl))))), ?_⟩
    intro O hO
    refine ⟨_, rfl, upd_same, [(kI item, .non)], rfl, (by simp only [List.length_cons, List.length_nil]; omega), ?_⟩
    rw [upd_upd_same]
    intro C hC
    refine ⟨_, rfl, (by rw [sizeLine_eq]; simp only [List.length_cons, List.length_nil]; omega), fun B hB => ?_⟩
    show tSeq (tWhile _ _) _ _ [some (.ref f), some (.int (item : Nat)), some (.ref O), some (.ref C), some (.ref B), none, none, none] (upd (upd (upd H O (.dK [(kI item, .non)])) C (.dK [])) B (.lst [.int (item : Nat)]))
    have s1 : Same H (upd H O (.dK [(kI item, .non)])) := Same.new hO
    have s2 : Same (upd H O (.dK [(kI item, .non)])) (upd (upd H O (.dK [(kI item, .non)])) C (.dK [])) := Same.new hC
    have s3 : Same (upd (upd H O (.dK [(kI item, .non)])) C (.dK [])) (upd (upd (upd H O (.dK [(kI item, .non)])) C (.dK [])) B (.lst [.int (item : Nat)])) := Same.new hB
    have hOF : O ∉ F.own := AR.fresh FI.ok hO
    have hCF : C ∉ F.own := (AR.same s1).fresh FI.ok hC
    have hBF : B ∉ F.own := (AR.same (s1.trans s2)).fresh FI.ok hB
    have hOC : O ≠ C := fun z => by rw [← z, upd_same] at hC; cases hC
    have st0 : PSt bar m g lf F item n O C B H (upd (upd (upd H O (.dK [(kI item, .non)])) C (.dK [])) B (.lst [.int (item : Nat)])) (fun _ => none) (setF (fun _ => none) item (some none)) [item] [item] (fun x => x ∈ [item]) (2 * n) := by
      refine ⟨(Lat.Push.start (List.mem_range.mpr hit) him).weaken (fun x v _ h => .inl (by rw [h]; exact List.mem_singleton.mpr rfl)), .of (s1.trans (s2.trans s3)), AR.same (s1.trans (s2.trans s3)), ⟨_, s3 _ _ (s2 _ _ upd_same), ?_, rfl⟩, ⟨by simp, fun i hi => ?_⟩, ⟨_, [], s3 _ _ upd_same, fun j => rfl, rfl, List.nodup_nil, fun _ h => (by cases h)⟩, upd_same, ?_, ?_⟩
      · intro x
        by_cases z : x = item
        · subst z; rw [setF_same, valV_pos rfl]; rfl
        · rw [setF_ne z, valV_neg (fun y => z (kI_inj _ _ y).symm)]; rfl
      · rw [List.mem_singleton.mp hi]; exact hit
      · intro x hx
        rw [List.mem_singleton.mp hx]
        exact ⟨_, setF_same⟩
      · simp only [List.length_cons, List.length_nil]; omega
    refine ⟨fun μ σ' H' => ∃ co og ws lo x5 x6 x7, σ' = [some (.ref f), some (.int (item : Nat)), some (.ref O), some (.ref C), some (.ref B), x5, x6, x7] ∧ μ ≤ 2 * n ∧ PSt bar m g lf F item n O C B H H' co og ws lo (fun x => x ∈ ws) μ, ⟨2 * n, _, _, _, _, none, none, none, rfl, Nat.le_refl _, st0⟩, ?_⟩
    rintro μ σ' H2 ⟨co, og, ws, lo, x5, x6, x7, rfl, hμ, S⟩
    refine ⟨_, rfl, (by rw [sizeLine_eq]; simp only [List.length_nil]; omega), fun E1 hE1 => ?_⟩
    have sE : Same H2 (upd H2 E1 (.lst [])) := Same.new hE1
    have hwl := sE _ _ S.wl
    refine ⟨.list (ws.map iD), .list ([].map iD), .lst (.of hwl) (dps_i ws), .lst (.of upd_same) .nil, il_shaped ws, il_shaped [], _, rfl, ?_⟩
    rw [il_eqv]
    by_cases hws : ws = []
    · rw [decide_eq_true hws]
      refine iteF (qF _ _ _ (S.same.trans (.of sE)) (S.arr.same sE) (S.P.none_ (fun x hx => by rw [hws] at hx; cases hx)) ⟨_, S.P.root⟩)
    · rw [decide_eq_false hws]
      obtain ⟨wr, here, rfl⟩ : ∃ wr h, ws = wr ++ [h] := ⟨ws.dropLast, ws.getLast hws, (List.dropLast_concat_getLast hws).symm⟩
      obtain ⟨vh, hvh⟩ := S.og_w here (List.mem_append_right _ (List.mem_singleton.mpr rfl))
      have hhn : here < n := List.mem_range.mp (S.P.good here vh hvh).1
      have hfew := S.few
      rw [List.length_append, List.length_singleton] at hfew
      have hxs : (wr ++ [here]).map (fun i => V.int (i : Nat)) = wr.map (fun i => V.int (i : Nat)) ++ [V.int (here : Nat)] := by rw [List.map_append]; rfl
      rw [hxs] at hwl
      have hdl : (wr.map (fun i => V.int (i : Nat)) ++ [V.int (here : Nat)]).dropLast = wr.map (fun i => V.int (i : Nat)) := List.dropLast_concat
      obtain ⟨dx, aK, ls, hf, hls, hK, hKo, hAo, hGo, hlk'⟩ := FI.full
      obtain ⟨dl, hdl'⟩ : ∃ d, ls[here]? = some d := ⟨_, List.getElem?_eq_getElem (by rw [hls]; exact hhn)⟩
      obtain ⟨hdl2, hdlo⟩ := hlk' here dl hdl'
      have hCn : H C = none ∧ C ≠ O := none_of hC
      have hBn : (upd H O (.dK [(kI item, .non)])) B = none ∧ B ≠ C := none_of hB
      have hBn2 : H B = none ∧ B ≠ O := none_of hBn.1
      have hdli : (ls.map V.ref)[here]? = some (.ref dl) := by rw [List.getElem?_map, hdl']; rfl
      refine iteT ⟨fun σ' H' => ∃ co og ws lo x5 x6 x7, σ' = [some (.ref f), some (.int (item : Nat)), some (.ref O), some (.ref C), some (.ref B), x5, x6, x7] ∧ μ - 1 ≤ 2 * n ∧ PSt bar m g lf F item n O C B H H' co og ws lo (fun x => x ∈ ws) (μ - 1), fun σ' H' h => ⟨μ - 1, by omega, h⟩, ?_⟩
      refine ⟨_, rfl, .inl ⟨rfl, _, .of hwl⟩, B, _, V.int (here : Nat), rfl, rfl, hwl, (by simp), ?_⟩
      rw [hdl]
      generalize hH3 : upd (upd H2 E1 (.lst [])) B (.lst (wr.map fun i => V.int (i : Nat))) = H3
      have S3 : PSt bar m g lf F item n O C B H H3 co og wr lo (fun x => x ∈ wr ∨ x = here) (μ - 1) := by
        rw [← hH3]
        obtain ⟨ok, o1, o2, o3⟩ := S.od
        obtain ⟨ck, lc, c1, c2, c3, c4, c5⟩ := S.cd
        refine ⟨S.P.weaken (fun x v _ h => .inl ?_), (S.same.trans (.of sE)).none hBn2.1, (S.arr.same sE).off FI.ok hBF, ⟨ok, by rw [upd_ne (Ne.symm hBn2.2)]; exact sE _ _ o1, o2, o3⟩, S.lok, ⟨ck, lc, by rw [upd_ne (Ne.symm hBn.2)]; exact sE _ _ c1, c2, c3, c4, c5⟩, upd_same, fun x hx => S.og_w x (List.mem_append_left _ hx), by omega⟩
        rcases List.mem_append.mp h with h | h
        · exact .inl h
        · exact .inr (List.mem_singleton.mp h)
      refine ⟨_, rfl, f, _, dx, _, _, rfl, S3.same _ _ hfo hf, T.cl_Flow, T.na_Flow_links, rfl, _, rfl, aK, _, _, _, rfl, rfl, .of (S3.same _ _ hKo hK), atI_nat hdli, dl, rfl, ⟨_, .of (S3.same _ _ hdlo hdl2)⟩, ?_⟩
      refine for_it (n := ((lk here).map fun j => V.int (j : Nat)).length) walk_list (fun t σ' H' => ∃ co og ws lo x6 x7, σ' = [some (.ref f), some (.int (item : Nat)), some (.ref O), some (.ref C), some (.ref B), some (.int (here : Nat)), x6, x7] ∧ PSt bar m g lf F item n O C B H H' co og ws lo (fun x => x ∈ ws ∨ x = here) (μ - 1) ∧ (∃ v, og here = some v) ∧ ∀ j ∈ (lk here).take t, ∃ i, co j = some i)
        ⟨co, og, wr, lo, x6, x7, rfl, S3, ⟨_, hvh⟩, fun _ h => by cases h⟩ (fun t σ' H' _ h => by obtain ⟨_, _, _, _, _, _, _, S', _⟩ := h; exact .of (S'.same _ _ hdlo hdl2)) ?_ ?_
      · rintro t x σ' _ H4 ht ⟨co, og, ws, lo, x6, x7, rfl, S, hog, hco⟩ ⟨rfl, hx⟩
        rw [List.length_map] at ht
        rw [List.getElem?_map, List.getElem?_eq_getElem ht] at hx
        cases hx
        generalize hj : (lk here)[t] = j
        have hjm : j ∈ lk here := by rw [← hj]; exact List.getElem_mem ht
        obtain ⟨hjn, hbj⟩ := (hlk here hhn j).mp hjm
        have htk : ∀ y, y ∈ (lk here).take (t + 1) → y ∈ (lk here).take t ∨ y = j := fun y hy => by
          rw [List.take_succ_eq_append_getElem ht, hj] at hy
          exact (List.mem_append.mp hy).imp id List.mem_singleton.mp
        obtain ⟨ok, o1, o2, o3⟩ := S.od
        obtain ⟨ck, lc, c1, c2, c3, c4, c5⟩ := S.cd
        have dgc := DGet.k (k := kI j) c1
        rw [c2 j] at dgc
        refine ⟨_, rfl, _, rfl, C, _, rfl, dgc, _, rfl, ?_⟩
        cases hcj : co j with
        | some i0 => 
          refine iteF ⟨co, og, ws, lo, _, _, rfl, S, hog, fun y hy => (htk y hy).elim (hco y) fun z => ⟨i0, by rw [z, hcj]⟩⟩
        | none =>
          obtain ⟨vg, hvg⟩ := hog
          have hlc : ck.length < sizeLine := by
            rw [c3.len, sizeLine_eq]
            have := lt12 c4 c5
            omega
          refine iteT ⟨_, rfl, _, rfl, _, rfl, C, _, rfl, DPut.k (k := kI j) (v := V.int (here : Nat)) c1 hlc, ?_⟩
          generalize hH5 : upd H4 C (.dK (putK ck (kI j) (V.int (here : Nat)))) = H5
          have s5 : SameO F H H5 := by rw [← hH5]; exact S.same.none hCn.1
          have A5 : Arr H5 F n lf (un g) m g := by rw [← hH5]; exact S.arr.off FI.ok hCF
          have o5 : H5 O = some (.dK ok) := by rw [← hH5, upd_ne hOC]; exact o1
          have c5' : H5 C = some (.dK (putK ck (kI j) (V.int (here : Nat)))) := by rw [← hH5, upd_same]
          have w5 : H5 B = some (.lst (ws.map fun i => V.int (i : Nat))) := by rw [← hH5, upd_ne hBn.2]; exact S.wl
          have FI5 := FI.keepO s5 hfo
          have cA := c2.put j here
          have ck5 := c3.put kI_inj j (V.int (here : Nat))
          have lc5 : ∀ i ∈ addS lc j, i < n := fun i hi => (mem_addS.mp hi).elim (c5 i) fun z => by rw [z]; exact hjn
          refine ⟨_, rfl, f, _, dx, _, _, rfl, s5 _ _ hfo hf, T.cl_Flow, T.na_Flow_right, rfl, _, rfl, F.aR, _, _, _, rfl, rfl, .of A5.right, atI_nat (range_at hjn _), ?_⟩
          refine ⟨_, _, rfl, rfl, _, rfl, ?_⟩
          cases hgj : g j with
          | none =>
            have hug : un g j = true := Lat.un_iff.mpr hgj
            obtain ⟨p, TU⟩ := S.P.found M hvg (List.mem_range.mpr hjn) hbj hcj hgj
            rw [hug]
            refine iteT ⟨_, rfl, f, dx, _, rfl, s5 _ _ hfo hf, rfl, _, rfl, _, rfl, _, rfl, f, C, O, F, n, lk, lf, un g, bar, m, g, _, og, _, ok, j, here, item, p, rfl, FI5, hfo, A5, c5', o5, hCF, hOF, cA, o2, hug, TU, S.P.only, fun H6 m1 g1 s6 A6 TT => ?_⟩
            refine qT H6 m1 g1 (s5.trans s6) (A6.congr fun i hi => ?_) ⟨_, TT⟩
            have e := TT.gn i (List.mem_range.mpr hi)
            rw [Bool.eq_iff_iff, ← e, Lat.un_iff]
          | some i =>
            have hug : un g j = false := by
              cases q : un g j with
              | false => rfl
              | true => rw [Lat.un_iff.mp q] at hgj; cases hgj
            rw [hug]
            obtain ⟨d, hd⟩ := FI.ok.dg hjn
            have hgd := A5.gi j d hd
            rw [hgj] at hgd
            have hdO : O ≠ d := fun z => hOF (z ▸ FI.ok.g_own hd)
            have hdB : B ≠ d := fun z => hBF (z ▸ FI.ok.g_own hd)
            have hdf : f ≠ d := fun z => hfo (z ▸ FI.ok.g_own hd)
            have hdG : F.aG ≠ d := fun z => hGo (z ▸ FI.ok.g_own hd)
            have hej : (F.dgs.map V.ref)[j]? = some (.ref d) := by rw [List.getElem?_map, hd]; rfl
            refine iteF ⟨d, _, hgd, trivial, fun od => ?_⟩
            refine ⟨_, rfl, f, _, dx, _, _, rfl, by rw [upd_ne hdf]; exact s5 _ _ hfo hf, T.cl_Flow, T.na_Flow_givers, rfl, _, rfl, F.aG, _, _, _, rfl, rfl, .of (by rw [upd_ne hdG]; exact FI5.lG), atI_nat hej, d, od, rfl, .inl ⟨_, upd_same, ?_⟩⟩
            have ox : ∀ a, a ≠ d → (upd H5 d (.frz od (.dK (giK (some i))))) a = H5 a := fun a h => upd_ne h
            refine for_it (n := (giK (some i)).length) walk_keys (fun q σ' H' => (q = 0 ∧ σ' = [some (.ref f), some (.int (item : Nat)), some (.ref O), some (.ref C), some (.ref B), some (.int (here : Nat)), some (.int (j : Nat)), x7] ∧ H' = upd H5 d (.frz od (.dK (giK (some i))))) ∨
              (q = 1 ∧ ∃ co og ws lo x6 x7, σ' = [some (.ref f), some (.int (item : Nat)), some (.ref O), some (.ref C), some (.ref B), some (.int (here : Nat)), x6, x7] ∧ H' d = some (.frz od (.dK (giK (some i)))) ∧ PSt bar m g lf F item n O C B H (upd H' d (.dK (giK (some i)))) co og ws lo (fun x => x ∈ ws ∨ x = here) (μ - 1) ∧ (∃ v, og here = some v) ∧ ∀ y ∈ (lk here).take (t + 1), ∃ i, co y = some i))
              (.inl ⟨rfl, rfl, rfl⟩) (fun q σ' H' _ h => by
                rcases h with ⟨_, _, rfl⟩ | ⟨_, _, _, _, _, _, _, _, h, _⟩
                · exact upd_same
                · exact h) ?_ ?_
            · rintro q x σ' H' H6 hq hP ⟨rfl, kx, vx, hkx, rfl⟩
              have hq0 : q = 0 := by
                have : q < 1 := hq
                omega
              subst hq0
              obtain ⟨_, rfl, rfl⟩ := hP.resolve_right fun h => by cases h.1
              have hk : kx = kI i := by
                have : some ((Sum.inl (i : Int) : Key), V.bl true) = some (kx, vx) := hkx
                injection this with this
                injection this with a _
                exact a.symm
              subst hk
              have hcm : ∀ y ∈ (lk here).take (t + 1), ∃ i, setF co j (some here) y = some i := fun y hy => by
                by_cases z : y = j
                · rw [z, setF_same]; exact ⟨_, rfl⟩
                · rw [setF_ne z]; exact (htk y hy).elim (hco y) fun z2 => absurd z2 z
              have dgo := DGet.k (k := kI i) (show (upd H5 d (.frz od (.dK (giK (some i))))) O = some (.dK ok) by rw [ox O hdO]; exact o5)
              rw [o2 i] at dgo
              have hin : i < n := List.mem_range.mp (M.back j (List.mem_range.mpr hjn) i hgj).1
              refine ⟨_, rfl, _, rfl, O, _, rfl, dgo, _, rfl, ?_⟩
              cases hoi : og i with
              | some u =>
                refine iteF (.inr ⟨rfl, _, og, ws, lo, _, _, rfl, upd_same, ?_, ⟨_, hvg⟩, hcm⟩)
                rw [upd_upd_same, upd_id hgd]
                exact ⟨S.P.meet M hvg (List.mem_range.mpr hjn) hbj hcj hgj (.inr ⟨⟨u, hoi⟩, rfl, fun _ h => h⟩), s5, A5, ⟨ok, o5, o2, o3⟩, S.lok, ⟨_, _, c5', cA, ck5, nodup_addS c4, lc5⟩, w5, S.og_w, S.few⟩
              | none =>
                have hno : i ∉ lo := fun h => by
                  obtain ⟨v, e⟩ := o3.some kI_inj h
                  rw [o2 i, hoi] at e
                  cases e
                have hlo : ok.length < sizeLine := by
                  rw [o3.len, sizeLine_eq]
                  have := lt12 S.lok.1 S.lok.2
                  omega
                have hnd : (lo ++ [i]).Nodup := nd_snoc S.lok.1 hno
                have hlt : ∀ x ∈ lo ++ [i], x < n := fun x hx => (List.mem_append.mp hx).elim (S.lok.2 x) fun z => by rw [List.mem_singleton.mp z]; exact hin
                have hl2 := lt12 hnd hlt
                rw [List.length_append, List.length_singleton] at hl2
                have hf2 := S.few
                have ok5 := o3.put kI_inj i (V.int (j : Nat))
                have had : addS lo i = lo ++ [i] := by unfold addS; rw [if_neg hno]
                rw [had] at ok5
                have hOB : B ≠ O := hBn2.2
                have w6 : (upd (upd H5 d (.frz od (.dK (giK (some i))))) O (.dK (putK ok (kI i) (V.int (j : Nat))))) B = some (.lst (ws.map fun i => V.int (i : Nat))) := by rw [upd_ne hOB, ox B hdB]; exact w5
                refine iteT ⟨_, rfl, _, rfl, _, rfl, O, _, rfl, DPut.k (k := kI i) (v := V.int (j : Nat)) (by rw [ox O hdO]; exact o5) hlo, ?_⟩
                refine ⟨_, rfl, .inl ⟨rfl, _, .of w6⟩, _, rfl, B, _, _, rfl, rfl, w6, (by rw [List.length_map, sizeLine_eq]; omega), ?_⟩
                have hx : upd (upd (upd (upd H5 d (.frz od (.dK (giK (some i))))) O (.dK (putK ok (kI i) (V.int (j : Nat))))) B (.lst (ws.map (fun i => V.int (i : Nat)) ++ [V.int (i : Nat)]))) d (.dK (giK (some i))) =
                    upd (upd H5 O (.dK (putK ok (kI i) (V.int (j : Nat))))) B (.lst (ws.map (fun i => V.int (i : Nat)) ++ [V.int (i : Nat)])) := by
                  rw [upd_comm hdB, upd_comm hdO, upd_upd_same, upd_id hgd]
                have hm2 : ws.map (fun i => V.int (i : Nat)) ++ [V.int (i : Nat)] = (ws ++ [i]).map (fun i => V.int (i : Nat)) := by rw [List.map_append]; rfl
                refine .inr ⟨rfl, setF co j (some here), setF og i (some (some j)), ws ++ [i], lo ++ [i], _, _, rfl, by rw [upd_ne (Ne.symm hdB), upd_ne (Ne.symm hdO), upd_same], ?_, ?_, hcm⟩
                · show PSt bar m g lf F item n O C B H (upd (upd (upd (upd H5 d _) O _) B (.lst (_ ++ [V.int (i : Nat)]))) d _) _ _ _ _ _ _
                  rw [hx, hm2]
                  refine ⟨S.P.meet M hvg (List.mem_range.mpr hjn) hbj hcj hgj (.inl ⟨hoi, rfl, fun x h => ?_⟩), (s5.none hO).none hBn2.1, (A5.off FI.ok hOF).off FI.ok hBF, ⟨_, by rw [upd_ne (Ne.symm hOB), upd_same], o2.put i j, ok5⟩, ⟨hnd, hlt⟩, ⟨_, _, by rw [upd_ne (Ne.symm hBn.2), upd_ne (Ne.symm hOC)]; exact c5', cA, ck5, nodup_addS c4, lc5⟩, upd_same, fun x hx => ?_, ?_⟩
                  · rcases h with (h | h) | h
                    · exact .inl (List.mem_append_left _ h)
                    · exact .inr h
                    · exact .inl (List.mem_append_right _ (List.mem_singleton.mpr h))
                  · by_cases z : x = i
                    · rw [z, setF_same]; exact ⟨_, rfl⟩
                    · rw [setF_ne z]
                      exact (List.mem_append.mp hx).elim (S.og_w x) fun z2 => absurd (List.mem_singleton.mp z2) z
                  · rw [List.length_append, List.length_append, List.length_singleton]
                    omega
                · by_cases z : here = i
                  · rw [z, setF_same]; exact ⟨_, rfl⟩
                  · rw [setF_ne z]; exact ⟨_, hvg⟩
            · rintro σ' H' (⟨h, _⟩ | ⟨_, co, og, ws, lo, x6, x7, rfl, hfz, S', hog, hco⟩)
              · cases h
              · exact ⟨hfz, co, og, ws, lo, x6, x7, rfl, S', hog, hco⟩
      · rintro σ' H4 ⟨co, og, ws, lo, x6, x7, rfl, S, hog, hco⟩
        refine ⟨co, og, ws, lo, _, _, _, rfl, by omega, { S with P := S.P.weaken fun x v _ h => h.imp id fun h j hj hb => ?_ }⟩
        refine hco j ?_
        rw [List.length_map, List.take_length]
        rw [h] at hb
        exact (hlk here hhn j).mpr ⟨List.mem_range.mp hj, hb⟩
end
end Pw
end
section
set_option maxRecDepth 100000
set_option maxHeartbeats 4000000
/-! What is reached in a flow: the plain part. -/
namespace Pw
open PySem PySem.Spec PyProof.Rows L2
open Lat (un)
def fresh (o : Option Nat) (lo : List Nat) : List Nat := match o with | none => [] | some i => if i ∈ lo then [] else [i]
theorem mem_fresh {o : Option Nat} {lo : List Nat} {x : Nat} : x ∈ fresh o lo ↔ o = some x ∧ x ∉ lo := by
  unfold fresh
  cases o with
  | none => simp
  | some i =>
    show x ∈ (if i ∈ lo then [] else [i]) ↔ _
    by_cases h : i ∈ lo
    · rw [if_pos h]
      constructor
      · intro h; cases h
      · rintro ⟨e, h2⟩; cases e; exact absurd h h2
    · rw [if_neg h, List.mem_singleton]
      constructor
      · rintro rfl; exact ⟨rfl, h⟩
      · rintro ⟨e, _⟩; cases e; rfl
theorem fresh_len {o : Option Nat} {lo : List Nat} : (fresh o lo).length ≤ 1 := by
  unfold fresh
  cases o with
  | none => simp
  | some i => by_cases h : i ∈ lo <;> simp [h]
theorem nd_fresh {o : Option Nat} {lo : List Nat} (h : lo.Nodup) : (lo ++ fresh o lo).Nodup := by
  unfold fresh
  cases o with
  | none => simpa using h
  | some i =>
    by_cases hm : i ∈ lo
    · simp only [hm, if_true]; simpa using h
    · simp only [hm, if_false]; exact nd_snoc h hm
/-- what is reached so far: lo from the free, le by links; wait has the rest -/
structure Rch (n : Nat) (bar : Nat → Nat → Bool) (m g : Nat → Option Nat) (lo le : List Nat) (wait : Nat → Prop) : Prop where
  lo1 : lo.Nodup
  lo2 : ∀ i ∈ lo, i < n
  le1 : le.Nodup
  le2 : ∀ j ∈ le, j < n
  free : ∀ i, i < n → m i = none → i ∈ lo
  link : ∀ i ∈ lo, wait i ∨ ∀ j, j < n → bar i j = true → j ∈ le
  give : ∀ j ∈ le, ∀ i, g j = some i → i ∈ lo
  least : ∀ D' E' : Nat → Prop, (∀ i, i < n → m i = none → D' i) → (∀ i, i < n → D' i → ∀ j, j < n → bar i j = true → E' j) → (∀ j, j < n → E' j → ∀ i, g j = some i → D' i) → (∀ i ∈ lo, D' i) ∧ ∀ j ∈ le, E' j
variable {n : Nat} {bar : Nat → Nat → Bool} {m g : Nat → Option Nat} {lo le : List Nat} {wait wait' : Nat → Prop}
theorem Rch.start (h : ∀ i, i ∈ lo ↔ i < n ∧ m i = none) (nd : lo.Nodup) : Rch n bar m g lo [] (fun x => x ∈ lo) :=
  ⟨nd, fun i hi => ((h i).mp hi).1, List.nodup_nil, nofun, fun i a b => (h i).mpr ⟨a, b⟩, fun i hi => .inl hi, nofun, fun D' E' h1 _ _ => ⟨fun i hi => h1 i ((h i).mp hi).1 ((h i).mp hi).2, nofun⟩⟩
theorem Rch.weaken (R : Rch n bar m g lo le wait) (h : ∀ x ∈ lo, wait x → wait' x ∨ ∀ j, j < n → bar x j = true → j ∈ le) : Rch n bar m g lo le wait' :=
  { R with link := fun i hi => (R.link i hi).elim (h i hi) .inr }
theorem Rch.step (R : Rch n bar m g lo le wait) {here j : Nat} (gi : ∀ i, g j = some i → i < n) (hh : here ∈ lo) (hj : j < n) (hb : bar here j = true) (hn : j ∉ le) (h1 : ∀ x, wait x → wait' x) (h2 : ∀ x ∈ fresh (g j) lo, wait' x) :
    Rch n bar m g (lo ++ fresh (g j) lo) (le ++ [j]) wait' where
  lo1 := nd_fresh R.lo1
  lo2 := fun i hi => (List.mem_append.mp hi).elim (R.lo2 i) fun h => gi i (mem_fresh.mp h).1
  le1 := nd_snoc R.le1 hn
  le2 := fun i hi => (List.mem_append.mp hi).elim (R.le2 i) fun h => by rw [List.mem_singleton.mp h]; exact hj
  free := fun i a b => List.mem_append_left _ (R.free i a b)
  link := fun i hi => (List.mem_append.mp hi).elim (fun h => (R.link i h).imp (h1 i) fun k j' a b => List.mem_append_left _ (k j' a b)) fun h => .inl (h2 i h)
  give := fun j' hj' i e => (List.mem_append.mp hj').elim (fun h => List.mem_append_left _ (R.give j' h i e)) fun h => by
    rw [List.mem_singleton.mp h] at e
    by_cases z : i ∈ lo
    · exact List.mem_append_left _ z
    · exact List.mem_append_right _ (mem_fresh.mpr ⟨e, z⟩)
  least := fun D' E' a b c => by
    obtain ⟨k1, k2⟩ := R.least D' E' a b c
    have e' : E' j := b here (R.lo2 here hh) (k1 here hh) j hj hb
    refine ⟨fun i hi => (List.mem_append.mp hi).elim (k1 i) fun h => c j hj e' i (mem_fresh.mp h).1, fun j' hj' => (List.mem_append.mp hj').elim (k2 j') fun h => by rw [List.mem_singleton.mp h]; exact e'⟩
theorem Rch.done (R : Rch n bar m g lo le wait) (h : ∀ x, ¬ wait x) : Lat.Reach (List.range n) bar m g (fun i => decide (i ∈ lo)) (fun j => decide (j ∈ le)) where
  free := fun i hi e => decide_eq_true (R.free i (List.mem_range.mp hi) e)
  link := fun i _ hd j hj b => decide_eq_true ((R.link i (of_decide_eq_true hd)).resolve_left (h i) j (List.mem_range.mp hj) b)
  give := fun j _ he i e => decide_eq_true (R.give j (of_decide_eq_true he) i e)
  least := fun D' E' a b c => by
    obtain ⟨k1, k2⟩ := R.least D' E' (fun i hi => a i (List.mem_range.mpr hi)) (fun i hi d j hj => b i (List.mem_range.mpr hi) d j (List.mem_range.mpr hj)) (fun j hj => c j (List.mem_range.mpr hj))
    exact ⟨fun i _ hd => k1 i (of_decide_eq_true hd), fun j _ he => k2 j (of_decide_eq_true he)⟩
end Pw
end
section
set_option maxRecDepth 100000
set_option maxHeartbeats 4000000
/-! The walk: what is reached in a flow. -/
namespace Pw
open PySem PySem.Spec PyProof.Rows L2
open Lat (un)
section
variable {P : Program} {w : World} {K : PySem.W.Frag} {mg : Str → Option Value} {base : Heap}
theorem Same.skip {H H' : Hp} (s : Same H H') {a : Addr} {ob : HO} (h : H a = none) : Same H (upd H' a ob) := fun b x e => by
  rw [upd_ne (fun z => by rw [z, h] at e; cases e)]
  exact s b x e
theorem Same.nn {H H' : Hp} (s : Same H H') {a : Addr} (h : H' a = none) : H a = none := by
  cases e : H a with
  | none => rfl
  | some o => rw [s _ _ e] at h; cases h
theorem TK.merge {ks : List (Key × V)} {l : List Nat} : ∀ {more : List (Key × V)} {l2 : List Nat}, TK kI ks l → TK kI more l2 → (l ++ l2).Nodup → TK kI (mergeK ks more) (l ++ l2) := by
  intro more
  induction more generalizing ks l with
  | nil =>
    intro l2 h h2 _
    cases l2 with
    | nil => rw [List.append_nil]; exact h
    | cons x xs => cases h2
  | cons p r ih =>
    intro l2 h h2 hn
    cases l2 with
    | nil => cases h2
    | cons x xs =>
      obtain ⟨e1, e2⟩ := List.cons.inj (show p.1 :: r.map (·.1) = kI x :: xs.map kI from h2)
      have hx : x ∉ l := fun hm => by
        have := (List.nodup_append.mp hn).2.2 x hm x List.mem_cons_self
        exact this rfl
      have h3 := h.put kI_inj x p.2
      have had : addS l x = l ++ [x] := by unfold addS; rw [if_neg hx]
      rw [had, ← e1] at h3
      have h4 := ih (l2 := xs) h3 e2 (by rwa [List.append_assoc, List.singleton_append])
      rwa [List.append_assoc, List.singleton_append] at h4
theorem filt_succ (p : Nat → Bool) (i : Nat) : (List.range (i + 1)).filter p = (List.range i).filter p ++ (if p i = true then [i] else []) := by
  rw [List.range_succ, List.filter_append]
  congr 1
  cases h : p i <;> simp [List.filter, h]
theorem TK.fr (l : List Nat) : TK kI (l.map fun i => (kI i, V.bl true)) l := by
  show (l.map fun i => (kI i, V.bl true)).map (·.1) = l.map kI
  rw [List.map_map]
  rfl
/-- what stands while it is searched -/
structure DSt (n : Nat) (bar : Nat → Nat → Bool) (m g : Nat → Option Nat) (H H' : Hp) (L R B : Addr) (lo le ws : List Nat) (wait : Nat → Prop) (μ : Nat) : Prop where
  rch : Rch n bar m g lo le wait
  same : Same H H'
  no : H L = none ∧ H R = none ∧ H B = none ∧ L ≠ R
  ld : ∃ ks, H' L = some (.dK ks) ∧ TK kI ks lo
  rd : ∃ ks, H' R = some (.dK ks) ∧ TK kI ks le
  wl : H' B = some (.lst (ws.map fun i => V.int (i : Nat)))
  sub : ∀ x ∈ ws, x ∈ lo
  few : 2 * (n - lo.length) + ws.length ≤ μ
/-- a pair of dicts: the keys of the one are lo, of the other le -/
def TwoD (H : Hp) (v : V) (lo le : List Nat) : Prop := ∃ t a b ka kb, v = .ref t ∧ H t = some (.tup [.ref a, .ref b]) ∧ H a = some (.dK ka) ∧ H b = some (.dK kb) ∧ TK kI ka lo ∧ TK kI kb le
def spDown (K : PySem.W.Frag) : Sp := fun vs H Q _ => ∃ (f : Addr) (F : Fl) (n : Nat) (lk : Nat → List Nat) (lf rgt : Nat → Bool) (bar : Nat → Nat → Bool) (m g : Nat → Option Nat), vs = [.ref f] ∧ FIns K H f F n lk ∧ f ∉ F.own ∧ Arr H F n lf rgt m g ∧ n ≤ 12 ∧
  (∀ i, i < n → ∀ j, j ∈ lk i ↔ j < n ∧ bar i j = true) ∧ (∀ i, i < n → (lk i).length ≤ 12) ∧ Lat.Match (List.range n) bar m g ∧ (∀ i, i < n → lf i = un m i) ∧
  ∀ H' v lo le, Same H H' → TwoD H' v lo le → Lat.Reach (List.range n) bar m g (fun i => decide (i ∈ lo)) (fun j => decide (j ∈ le)) → Q v H'
abbrev n_down : List Str := ["self", "lefts", "rights", "waiting", "other", "fresh", "item", "rest", "giver"]
theorem sc_down : FnScope n_down ["self"] (defScope s_Flow_reached_down) := ⟨rfl, rfl, rfl, by decide +kernel, rfl, by decide +kernel, by decide +kernel⟩
theorem ok_down (T : Tx K mg) : Pr P w K mg base 1 (He.ma K (He.ga K "Flow") "reached_down") (spDown K) := by
  obtain ⟨fd, F0⟩ := T.f_Flow_reached_down
  refine pr_of (fn_t F0 sc_down (fun _ _ _ _ _ _ us hl => match us, hl with | [_], _ => rfl) (fun vs H Q E h => ?_) fun cdv A outer s H vs Q E hr h => ?_)
  · obtain ⟨f, F, n, lk, lf, rgt, bar, m, g, rfl, _⟩ := h
    rfl
  · obtain ⟨f, F, n, lk, lf, rgt, bar, m, g, rfl, FI, hfo, AR, hn, hlk, hlk12, M, hlf, q⟩ := h
    have hu := hu_of hr
    refine ⟨_, pss_cons (ps_set (i := 1) sc_down.nd rfl (Or.inr rfl) (pe_dc (own := [("item", 6), ("rest", 7)]) (g := gTup K 2 (gCons (gName 6) (gCons (gName 7) gNil))) (tt := tTest (tOp (rI0 fun i j => V.bl (decide (j < i))) (tVar 7) (tC (.int 0)))) rfl sc_down.nd (pi_enum (by rfl) T.b_enumerate (pa_cons (pe_fld (pv 0) rfl) pa_nil)) (blkOk_by (N := n_down) (sc := defScope s_Flow_reached_down) (by decide +kernel))
          (fun _ _ _ _ _ => pg_tup rfl (pgs_cons (pg_name (i := 6) sc_down.nd rfl (Or.inl rfl)) (pgs_cons (pg_name (i := 7) sc_down.nd rfl (Or.inl rfl)) pgs_nil)))
          (fun _ _ _ _ _ => pts_one (pt_cmpR op_gt (pv 7) pe_int (nomark _))) (fun _ _ _ _ _ => pv 6) (fun _ _ _ _ _ => pe_bl)))
      (pss_cons (ps_set (i := 2) sc_down.nd rfl (Or.inl rfl) pe_dnewK)
      (pss_cons (ps_set (i := 3) sc_down.nd rfl (Or.inl rfl) (pe_callTy (call_list_dK rfl) (by rfl) T.b_list (by decide +kernel) (pa_cons (pv 1) pa_nil)))
      (pss_cons (ps_while PassesOwn.never (pt_cmpR (op_neD hr.units) (pv 3) (pe_lst pa_nil) (nomark _))
        (pss_one (ps_for PassesOwn.never rfl (pi_list (pe_ix ix_list (pe_fld (pv 0) rfl) (pe_bm0 PySem.F.plainAttrs_list PySem.F.slot_list_pop PySem.F.type_list_pop mt_pop (pv 3)) (fun _ _ => rfl))) (pg_name (i := 4) sc_down.nd rfl (.inl rfl))
          (pss_one (ps_if (pt_cmp (pc_dnotin hu (pv 4) (pv 2)))
            (pss_cons (ps_dput hu (pv 2) (pv 4) pe_bl rfl)
            (pss_cons (ps_lock (ps_setLc (i := 5) (own := [("giver", 8)]) (g := gName 8) (tt := tB (tDNotIn (tVar 8) (tVar 1))) (te := tVar 8) rfl sc_down.nd rfl rfl (sw_true rfl rfl rfl (by decide +kernel)) (pi_keys (pe_ix ix_list (pe_fld (pv 0) rfl) (pv 4) (fun _ _ => rfl))) (blkOk_by (N := n_down) (sc := defScope s_Flow_reached_down) (by decide +kernel))
              (fun _ _ _ _ _ => pg_name (i := 8) sc_down.nd rfl (Or.inl rfl)) (fun _ _ _ _ _ => pts_one (pt_cmp (pc_dnotin hu (pv 8) (pv 1)))) (fun _ _ _ _ _ => pv 8)))
            (pss_cons (ps_set (i := 1) sc_down.nd rfl (Or.inr rfl) (pe_disp2 (pv 1) (pe_dc (own := [("giver", 8)]) (g := gName 8) (tt := tYes) rfl sc_down.nd (pi_list (pv 5)) (blkOk_by (N := n_down) (sc := defScope s_Flow_reached_down) (by decide +kernel))
              (fun _ _ _ _ _ => pg_name (i := 8) sc_down.nd rfl (Or.inl rfl)) (fun _ _ _ _ _ => pts_nil) (fun _ _ _ _ _ => pv 8) (fun _ _ _ _ _ => pe_bl))))
            (pss_one (ps_expr (pe_bm PySem.F.plainAttrs_list PySem.F.slot_list_extend PySem.F.type_list_extend mt_extend (pv 3) (pa_cons (pv 5) pa_nil)))))))
            pss_nil)))))
      (pss_one (ps_ret (pe_tup (pa_cons (pv 1) (pa_cons (pv 2) pa_nil)))))))), ?_⟩
    obtain ⟨dx, aK, ls, hf, hls, hK, hKo, hAo, hGo, hlk'⟩ := FI.full
    refine ⟨_, rfl, f, _, dx, _, _, rfl, hf, T.cl_Flow, T.na_Flow_left, rfl, F.aL, _, rfl, .of AR.left, fun D hD => ?_⟩
    refine walk_gen (n := ((List.range n).map fun i => b01 (lf i)).length) walk_enum (fun i H' => ∃ ks, H' D = some (.dK ks) ∧ TK kI ks ((List.range i).filter lf) ∧ Same H H') ⟨[], upd_same, rfl, Same.new hD⟩ (fun i H' _ h => by obtain ⟨_, _, _, s'⟩ := h; exact .of (s' _ _ AR.left)) ?_ ?_
    · rintro i x H3 H4 hi ⟨ks, hD3, t3, s3⟩ ⟨Tn, x1, y1, rfl, hTn, rfl, hx1, hy1⟩
      rw [List.length_map, List.length_range] at hi
      cases hx1
      have hy2 : ((List.range n).map fun i => b01 (lf i))[i]? = some y1 := hy1
      rw [range_at hi] at hy2
      cases hy2
      have sT : Same H3 (upd H3 Tn (.tup [.int (i : Nat), b01 (lf i)])) := Same.new hTn
      have hr := filt_succ lf i
      refine ⟨Tn, _, rfl, .of upd_same, rfl, _, _, rfl, _, _, rfl, rfl, rfl, ?_⟩
      have h3 := sT _ _ hD3
      cases hlf2 : lf i with
      | false =>
        rw [hlf2] at sT h3 hr
        refine ⟨_, rfl, _, _, rfl, rfl, _, rfl, ?_⟩
        refine iteF ⟨ks, h3, ?_, s3.trans sT⟩
        rw [hr]
        simpa using t3
      | true =>
        rw [hlf2] at sT h3 hr
        refine ⟨_, rfl, _, _, rfl, rfl, _, rfl, ?_⟩
        refine iteT ⟨_, rfl, ks, kI i, rfl, h3, ?_, _, upd_same, ?_, Pw.Same.skip (s3.trans sT) hD⟩
        · rw [t3.len, sizeLine_eq]
          have := List.length_filter_le lf (List.range i)
          rw [List.length_range] at this
          omega
        · have h4 := t3.put kI_inj i (V.bl true)
          have had : addS ((List.range i).filter lf) i = (List.range i).filter lf ++ [i] := by
            unfold addS
            rw [if_neg fun h => by have := List.mem_range.mp (List.mem_filter.mp h).1; omega]
          rw [had] at h4
          rw [hr]
          exact h4
    · rintro H1 ⟨k1, h1, t1, s1⟩
      rw [List.length_map, List.length_range] at t1
      intro R hR
      refine ⟨_, rfl, D, k1, rfl, by rw [upd_ne (fun z => by rw [← z, h1] at hR; cases hR)]; exact h1, fun B hB => ?_⟩
      have hRn : H R = none := Pw.Same.nn s1 hR
      have hBn : (upd H1 R (.dK [])) B = none := hB
      obtain ⟨hB1, hBR⟩ := none_of hB
      have hDR : D ≠ R := fun z => by rw [← z, h1] at hR; cases hR
      have hDB : D ≠ B := fun z => by rw [← z, h1] at hB1; cases hB1
      have hkm : (k1.map fun kv => kV kv.1) = ((List.range n).filter lf).map fun i => V.int (i : Nat) := by
        have : (k1.map fun kv => kV kv.1) = (k1.map (·.1)).map kV := by rw [List.map_map]; rfl
        rw [this, show k1.map (·.1) = _ from t1, List.map_map]
        rfl
      rw [hkm]
      generalize hlo : (List.range n).filter lf = lo0 at t1 hkm
      have hmem : ∀ i, i ∈ lo0 ↔ i < n ∧ m i = none := fun i => by
        rw [← hlo, List.mem_filter, List.mem_range]
        constructor
        · rintro ⟨a, b⟩
          rw [hlf i a, Lat.un_iff] at b
          exact ⟨a, b⟩
        · rintro ⟨a, b⟩
          exact ⟨a, by rw [hlf i a, Lat.un_iff]; exact b⟩
      have hnd0 : lo0.Nodup := by rw [← hlo]; exact List.nodup_range.filter _
      have R0 : Rch n bar m g lo0 [] (fun x => x ∈ lo0) := .start hmem hnd0
      have hl0 := lt12 R0.lo1 R0.lo2
      have st0 : DSt n bar m g H (upd (upd H1 R (.dK [])) B (.lst (lo0.map fun i => V.int (i : Nat)))) D R B lo0 [] lo0 (fun x => x ∈ lo0) (2 * n) :=
        ⟨R0, (s1.trans (Same.new hR)).trans (Same.new hB), ⟨hD, hRn, Pw.Same.nn s1 hB1, hDR⟩, ⟨k1, by rw [upd_ne hDB, upd_ne hDR]; exact h1, t1⟩, ⟨[], by rw [upd_ne (Ne.symm hBR), upd_same], rfl⟩, upd_same, fun x h => h, by omega⟩
      refine ⟨fun μ σ' H' => ∃ L lo le ws x4 x5 x6 x7 x8, σ' = [some (.ref f), some (.ref L), some (.ref R), some (.ref B), x4, x5, x6, x7, x8] ∧ μ ≤ 2 * n ∧ DSt n bar m g H H' L R B lo le ws (fun x => x ∈ ws) μ, ⟨2 * n, D, lo0, [], lo0, none, none, none, none, none, rfl, Nat.le_refl _, st0⟩, ?_⟩
      rintro μ σ' H2 ⟨L, lo, le, ws, x4, x5, x6, x7, x8, rfl, hμ, S⟩
      refine ⟨_, rfl, (by rw [sizeLine_eq]; simp only [List.length_nil]; omega), fun E1 hE1 => ?_⟩
      have sE : Same H2 (upd H2 E1 (.lst [])) := Same.new hE1
      have hwl := sE _ _ S.wl
      refine ⟨.list (ws.map iD), .list ([].map iD), .lst (.of hwl) (dps_i ws), .lst (.of upd_same) .nil, il_shaped ws, il_shaped [], _, rfl, ?_⟩
      rw [il_eqv]
      by_cases hws : ws = []
      · rw [decide_eq_true hws]
        obtain ⟨ka, a1, a2⟩ := S.ld
        obtain ⟨kb, b1, b2⟩ := S.rd
        refine iteF ⟨_, rfl, _, rfl, (by rw [sizeLine_eq]; simp only [List.length_cons, List.length_nil]; omega), fun t ht => ?_⟩
        have sT := Same.new (o := .tup [V.ref L, .ref R]) ht
        exact q _ _ lo le ((S.same.trans sE).trans sT) ⟨t, L, R, ka, kb, rfl, upd_same, sT _ _ (sE _ _ a1), sT _ _ (sE _ _ b1), a2, b2⟩ (S.rch.done fun x h => by rw [hws] at h; cases h)
      · rw [decide_eq_false hws]
        obtain ⟨wr, here, rfl⟩ : ∃ wr h, ws = wr ++ [h] := ⟨ws.dropLast, ws.getLast hws, (List.dropLast_concat_getLast hws).symm⟩
        have hlo1 : here ∈ lo := S.sub here (List.mem_append_right _ (List.mem_singleton.mpr rfl))
        have hhn : here < n := S.rch.lo2 here hlo1
        have hfew := S.few
        rw [List.length_append, List.length_singleton] at hfew
        have hxs : (wr ++ [here]).map (fun i => V.int (i : Nat)) = wr.map (fun i => V.int (i : Nat)) ++ [V.int (here : Nat)] := by rw [List.map_append]; rfl
        rw [hxs] at hwl
        have hdl : (wr.map (fun i => V.int (i : Nat)) ++ [V.int (here : Nat)]).dropLast = wr.map (fun i => V.int (i : Nat)) := List.dropLast_concat
        obtain ⟨dl, hdl'⟩ : ∃ d, ls[here]? = some d := ⟨_, List.getElem?_eq_getElem (by rw [hls]; exact hhn)⟩
        obtain ⟨hdl2, hdlo⟩ := hlk' here dl hdl'
        have hdli : (ls.map V.ref)[here]? = some (.ref dl) := by rw [List.getElem?_map, hdl']; rfl
        refine iteT ⟨fun σ' H' => ∃ L lo le ws x4 x5 x6 x7 x8, σ' = [some (.ref f), some (.ref L), some (.ref R), some (.ref B), x4, x5, x6, x7, x8] ∧ μ - 1 ≤ 2 * n ∧ DSt n bar m g H H' L R B lo le ws (fun x => x ∈ ws) (μ - 1), fun σ' H' h => ⟨μ - 1, by omega, h⟩, ?_⟩
        refine ⟨_, rfl, f, _, dx, _, _, rfl, sE _ _ (S.same _ _ hf), T.cl_Flow, T.na_Flow_links, rfl, _, rfl, .inl ⟨rfl, _, .of hwl⟩, B, _, V.int (here : Nat), rfl, rfl, hwl, (by simp), ?_⟩
        rw [hdl]
        obtain ⟨nL, nR, nB, hLR⟩ := S.no
        obtain ⟨ka, a1, a2⟩ := S.ld
        obtain ⟨kb, b1, b2⟩ := S.rd
        have hLB : L ≠ B := ne_of a1 S.wl (by intro z; cases z)
        have hRB : R ≠ B := ne_of b1 S.wl (by intro z; cases z)
        generalize hH3 : upd (upd H2 E1 (.lst [])) B (.lst (wr.map fun i => V.int (i : Nat))) = H3
        have S3 : DSt n bar m g H H3 L R B lo le wr (fun x => x ∈ wr ∨ x = here) (μ - 1) := by
          rw [← hH3]
          refine ⟨S.rch.weaken (fun x _ h => .inl ?_), Pw.Same.skip (S.same.trans sE) nB, S.no, ⟨ka, by rw [upd_ne hLB]; exact sE _ _ a1, a2⟩, ⟨kb, by rw [upd_ne hRB]; exact sE _ _ b1, b2⟩, upd_same, fun x hx => S.sub x (List.mem_append_left _ hx), by omega⟩
          exact (List.mem_append.mp h).imp id List.mem_singleton.mp
        refine ⟨aK, _, _, _, rfl, rfl, .of (S3.same _ _ hK), atI_nat hdli, dl, rfl, ⟨_, .of (S3.same _ _ hdl2)⟩, ?_⟩
        refine for_it (n := ((lk here).map fun j => V.int (j : Nat)).length) walk_list (fun t σ' H' => ∃ L lo le ws x4 x5 x6 x7 x8, σ' = [some (.ref f), some (.ref L), some (.ref R), some (.ref B), x4, x5, x6, x7, x8] ∧ DSt n bar m g H H' L R B lo le ws (fun x => x ∈ ws ∨ x = here) (μ - 1) ∧ here ∈ lo ∧ ∀ j ∈ (lk here).take t, j ∈ le)
          ⟨L, lo, le, wr, x4, x5, x6, x7, x8, rfl, S3, hlo1, fun _ h => by cases h⟩ (fun t σ' H' _ h => by obtain ⟨_, _, _, _, _, _, _, _, _, _, S', _⟩ := h; exact .of (S'.same _ _ hdl2)) ?_ ?_
        · clear hH3 S3 a1 a2 b1 b2 ka kb hLR nL nR nB hLB hRB
          rintro t x σ' _ H4 ht ⟨L, lo, le, ws, x4, x5, x6, x7, x8, rfl, S, hlo1, hco⟩ ⟨rfl, hx⟩
          rw [List.length_map] at ht
          rw [List.getElem?_map, List.getElem?_eq_getElem ht] at hx
          cases hx
          generalize hj : (lk here)[t] = j
          have hjm : j ∈ lk here := by rw [← hj]; exact List.getElem_mem ht
          obtain ⟨hjn, hbj⟩ := (hlk here hhn j).mp hjm
          have htk : ∀ y, y ∈ (lk here).take (t + 1) → y ∈ (lk here).take t ∨ y = j := fun y hy => by
            rw [List.take_succ_eq_append_getElem ht, hj] at hy
            exact (List.mem_append.mp hy).imp id List.mem_singleton.mp
          obtain ⟨nL, nR, nB, hLR⟩ := S.no
          obtain ⟨ka, a1, a2⟩ := S.ld
          obtain ⟨kb, b1, b2⟩ := S.rd
          have hwl4 := S.wl
          have hLB : L ≠ B := ne_of a1 hwl4 (by intro z; cases z)
          have hRB : R ≠ B := ne_of b1 hwl4 (by intro z; cases z)
          have dgr := DGet.k (k := kI j) b1
          refine ⟨_, rfl, _, rfl, R, _, rfl, dgr, _, rfl, ?_⟩
          rw [b2.val kI_inj]
          by_cases hjl : j ∈ le
          · rw [decide_eq_true hjl]
            exact iteF ⟨L, lo, le, ws, _, _, _, _, _, rfl, S, hlo1, fun y hy => (htk y hy).elim (hco y) fun z => by rw [z]; exact hjl⟩
          · rw [decide_eq_false hjl]
            have hll := lt12 S.rch.le1 S.rch.le2
            have hll2 := lt12 S.rch.lo1 S.rch.lo2
            refine iteT ⟨_, rfl, _, rfl, R, _, rfl, DPut.k (k := kI j) (v := V.bl true) b1 (by rw [b2.len, sizeLine_eq]; omega), ?_⟩
            generalize hH5 : upd H4 R (.dK (putK kb (kI j) (V.bl true))) = H5
            have s5 : Same H H5 := by rw [← hH5]; exact Pw.Same.skip S.same nR
            have L5 : H5 L = some (.dK ka) := by rw [← hH5, upd_ne hLR]; exact a1
            have R5 : H5 R = some (.dK (putK kb (kI j) (V.bl true))) := by rw [← hH5, upd_same]
            have B5 : H5 B = some (.lst (ws.map fun i => V.int (i : Nat))) := by rw [← hH5, upd_ne (Ne.symm hRB)]; exact hwl4
            have hTR := b2.put kI_inj j (V.bl true)
            have had : addS le j = le ++ [j] := by unfold addS; rw [if_neg hjl]
            rw [had] at hTR
            obtain ⟨d, hd⟩ := FI.ok.dg hjn
            have hgd0 := AR.gi j d hd
            have hgd := s5 _ _ hgd0
            have hdL : L ≠ d := fun z => by rw [← z, nL] at hgd0; cases hgd0
            have hdR : R ≠ d := fun z => by rw [← z, nR] at hgd0; cases hgd0
            have hdB : B ≠ d := fun z => by rw [← z, nB] at hgd0; cases hgd0
            have hdf : f ≠ d := fun z => hfo (z ▸ FI.ok.g_own hd)
            have hdG : F.aG ≠ d := fun z => hGo (z ▸ FI.ok.g_own hd)
            have hej : (F.dgs.map V.ref)[j]? = some (.ref d) := by rw [List.getElem?_map, hd]; rfl
            have hfr := @fresh_len (g j) lo
            refine ⟨d, _, hgd, trivial, fun od => ?_⟩
            refine ⟨_, rfl, f, _, dx, _, _, rfl, by rw [upd_ne hdf]; exact s5 _ _ hf, T.cl_Flow, T.na_Flow_givers, rfl, _, rfl, F.aG, _, _, _, rfl, rfl, .of (by rw [upd_ne hdG]; exact s5 _ _ FI.lG), atI_nat hej, d, od, rfl, .inl ⟨_, upd_same, fun Dl hDl => ?_⟩⟩
            have hdD : d ≠ Dl := fun z => by rw [← z, upd_same] at hDl; cases hDl
            have hLD : L ≠ Dl := fun z => by rw [← z, upd_ne hdL, L5] at hDl; cases hDl
            have hDl5 : H5 Dl = none := by rwa [upd_ne (Ne.symm hdD)] at hDl
            refine walk_gen (n := (giK (g j)).length) walk_keys (fun i H' => H' = upd (upd H5 d (.frz od (.dK (giK (g j))))) Dl (.lst (((fresh (g j) lo).take i).map fun i => V.int (i : Nat)))) rfl (fun i H' _ h => by rw [h, upd_ne hdD, upd_same]) ?_ ?_
            · rintro i x H7 H8 hi rfl ⟨rfl, kx, vx, hkx, rfl⟩
              cases hgj : g j with
              | none =>
                rw [hgj] at hi
                exact absurd hi (Nat.not_lt_zero _)
              | some i0 =>
                rw [hgj] at hi hkx
                have hi0 : i = 0 := by
                  have : i < 1 := hi
                  omega
                subst hi0
                have hk : kx = kI i0 := by
                  have : some ((Sum.inl (i0 : Int) : Key), V.bl true) = some (kx, vx) := hkx
                  injection this with this
                  injection this with a _
                  exact a.symm
                subst hk
                have dgl := DGet.k (k := kI i0) (show (upd (upd H5 d (.frz od (.dK (giK (some i0))))) Dl (.lst (((fresh (some i0) lo).take 0).map fun i => V.int (i : Nat)))) L = some (.dK ka) by rw [upd_ne hLD, upd_ne hdL]; exact L5)
                refine ⟨rfl, _, rfl, _, rfl, L, _, rfl, dgl, _, rfl, ?_⟩
                rw [a2.val kI_inj]
                by_cases him : i0 ∈ lo
                · rw [decide_eq_true him]
                  refine iteF ?_
                  have hf0 : fresh (some i0) lo = [] := by unfold fresh; exact if_pos him
                  rw [hf0]
                  rfl
                · rw [decide_eq_false him]
                  have hf0 : fresh (some i0) lo = [i0] := by unfold fresh; exact if_neg him
                  refine iteT ⟨_, rfl, [], upd_same, (by rw [sizeLine_eq]; simp only [List.length_nil]; omega), ?_⟩
                  rw [hf0]
                  exact upd_upd_same
            · rintro H7 rfl
              have hfull : (fresh (g j) lo).take (giK (g j)).length = fresh (g j) lo := by
                apply List.take_of_length_le
                cases g j with
                | none => exact Nat.le_refl _
                | some i0 => exact fresh_len
              rw [hfull]
              have hgi : ∀ i, g j = some i → i < n := fun i e => List.mem_range.mp (M.back j (List.mem_range.mpr hjn) i e).1
              have hnf := @nd_fresh (g j) lo S.rch.lo1
              have hstep := fun wait' => S.rch.step (wait' := wait') hgi hlo1 hjn hbj hjl
              have hl3 := lt12 (hstep (fun _ => True) (fun _ _ => trivial) (fun _ _ => trivial)).lo1 (hstep (fun _ => True) (fun _ _ => trivial) (fun _ _ => trivial)).lo2
              generalize fresh (g j) lo = fr at hfr hnf hstep hl3
              refine ⟨by rw [upd_ne hdD, upd_same], ?_⟩
              rw [show upd (upd (upd H5 d (.frz od (.dK (giK (g j))))) Dl (.lst (fr.map fun i => V.int (i : Nat)))) d (.dK (giK (g j))) = upd H5 Dl (.lst (fr.map fun i => V.int (i : Nat))) by rw [upd_comm (Ne.symm hdD), upd_upd_same, upd_id hgd]]
              have s6 : Same H5 (upd H5 Dl (.lst (fr.map fun i => V.int (i : Nat)))) := Same.new hDl5
              have D6 : (upd H5 Dl (.lst (fr.map fun i => V.int (i : Nat)))) Dl = some (.lst (fr.map fun i => V.int (i : Nat))) := upd_same
              generalize upd H5 Dl (.lst (fr.map fun i => V.int (i : Nat))) = H6 at s6 D6
              intro p hp
              have L6 := s6 _ _ L5
              have hLp : L ≠ p := fun z => by rw [← z, L6] at hp; cases hp
              have hDp : Dl ≠ p := fun z => by rw [← z, D6] at hp; cases hp
              have hRp : R ≠ p := fun z => by rw [← z, s6 _ _ R5] at hp; cases hp
              have hBp : B ≠ p := fun z => by rw [← z, s6 _ _ B5] at hp; cases hp
              refine ⟨_, rfl, L, ka, rfl, hLp, by rw [upd_ne hLp]; exact L6, upd_same, by rw [a2.len]; omega, ?_⟩
              rw [upd_upd_same]
              have s7 : Same H6 (upd H6 p (.dK (mergeK [] ka))) := Same.new hp
              have P7 : (upd H6 p (.dK (mergeK [] ka))) p = some (.dK (mergeK [] ka)) := upd_same
              generalize hH7 : upd H6 p (.dK (mergeK [] ka)) = H7 at s7 P7
              refine ⟨_, rfl, Dl, rfl, ⟨_, .of (s7 _ _ D6)⟩, fun D2 hD2 => ?_⟩
              have hD2p : D2 ≠ p := fun z => by rw [z, P7] at hD2; cases hD2
              have hDD : Dl ≠ D2 := fun z => by rw [← z, s7 _ _ D6] at hD2; cases hD2
              refine walk_gen (n := (fr.map fun i => V.int (i : Nat)).length) walk_list (fun i H' => H' = upd H7 D2 (.dK ((fr.take i).map fun i => (kI i, V.bl true)))) rfl (fun i H' _ h => by rw [h]; exact .of (by rw [upd_ne hDD]; exact s7 _ _ D6)) ?_ ?_
              · rintro i x H8 H9 hi rfl ⟨rfl, hx⟩
                rw [List.length_map] at hi
                have hi0 : i = 0 := by omega
                subst hi0
                obtain ⟨i0, rfl⟩ : ∃ i0, fr = [i0] := by
                  cases fr with
                  | nil => exact absurd hi (Nat.not_lt_zero _)
                  | cons y ys =>
                    cases ys with
                    | nil => exact ⟨y, rfl⟩
                    | cons z zs => simp only [List.length_cons] at hfr; omega
                have hx' : some (V.int (i0 : Nat)) = some x := hx
                cases hx'
                exact ⟨rfl, yes ⟨_, rfl, [], kI i0, rfl, upd_same, (by rw [sizeLine_eq]; simp only [List.length_nil]; omega), upd_upd_same⟩⟩
              · rintro H8 rfl
                rw [List.length_map, List.take_length]
                have s8 : Same H7 (upd H7 D2 (.dK (fr.map fun i => (kI i, V.bl true)))) := Same.new hD2
                refine ⟨D2, _, rfl, hD2p, upd_same, by rw [upd_ne (Ne.symm hD2p)]; exact P7, by rw [List.length_map]; omega, ?_⟩
                generalize hH8 : upd H7 D2 (.dK (fr.map fun i => (kI i, V.bl true))) = H8 at s8
                have hpH : H p = none := Pw.Same.nn (s5.trans s6) hp
                have t1 : TK kI (mergeK [] ka) ([] ++ lo) := TK.merge (TK.nil) a2 S.rch.lo1
                have t2 : TK kI (mergeK (mergeK [] ka) (fr.map fun i => (kI i, V.bl true))) (lo ++ fr) := TK.merge t1 (TK.fr fr) hnf
                generalize mergeK (mergeK [] ka) (fr.map fun i => (kI i, V.bl true)) = kn at t2
                have s9 : Same H (upd H8 p (.dK kn)) := Pw.Same.skip (((s5.trans s6).trans s7).trans s8) hpH
                have ev : ∀ b o, b ≠ p → H6 b = some o → (upd H8 p (.dK kn)) b = some o := fun b o hb e => by rw [upd_ne hb]; exact s8 _ _ (s7 _ _ e)
                have B9 := ev B _ hBp (s6 _ _ B5)
                refine ⟨_, rfl, .inl ⟨rfl, _, .of B9⟩, _, rfl, B, Dl, _, _, rfl, rfl, B9, ev Dl _ hDp D6, (by rw [List.length_map, List.length_map, sizeLine_eq]; have := S.few; omega), ?_⟩
                rw [← List.map_append]
                have hfw := S.few
                rw [List.length_append] at hl3
                refine ⟨p, lo ++ fr, le ++ [j], ws ++ fr, _, _, _, _, _, rfl, ⟨hstep _ (fun x h => h.imp (List.mem_append_left _) id) (fun x h => .inl (List.mem_append_right _ h)), Pw.Same.skip s9 nB, ⟨hpH, nR, nB, Ne.symm hRp⟩, ⟨kn, by rw [upd_ne (Ne.symm hBp), upd_same], t2⟩, ⟨_, by rw [upd_ne hRB]; exact ev R _ hRp (s6 _ _ R5), hTR⟩, upd_same, fun x hx => (List.mem_append.mp hx).elim (fun h => List.mem_append_left _ (S.sub x h)) (List.mem_append_right _), ?_⟩, List.mem_append_left _ hlo1, fun y hy => (htk y hy).elim (fun h => List.mem_append_left _ (hco y h)) fun h => List.mem_append_right _ (List.mem_singleton.mpr h)⟩
                rw [List.length_append, List.length_append]
                omega
        · rintro σ' H4 ⟨L, lo, le, ws, x4, x5, x6, x7, x8, rfl, S, hlo, hco⟩
          refine ⟨L, lo, le, ws, _, _, _, _, _, rfl, by omega, { S with rch := S.rch.weaken fun x _ h => h.imp id fun h j hj hb => ?_ }⟩
          refine hco j ?_
          rw [List.length_map, List.take_length]
          rw [h] at hb
          exact (hlk here hhn j).mpr ⟨hj, hb⟩
end
end Pw
end
section
set_option maxRecDepth 100000
set_option maxHeartbeats 4000000
/-! The walk: what is reached in a flow, from above. -/
namespace Pw
open PySem PySem.Spec PyProof.Rows L2
open Lat (un)
section
variable {P : Program} {w : World} {K : PySem.W.Frag} {mg : Str → Option Value} {base : Heap}
theorem iD_eqv (x y : Nat) : PyData.eqv (iD x) (iD y) = decide (x = y) := by
  simp only [iD, PyData.eqv]
  rw [Bool.eq_iff_iff]
  simp
  omega
theorem DSt.keep {n : Nat} {bar : Nat → Nat → Bool} {m g : Nat → Option Nat} {H H' H'' : Hp} {L R B : Addr} {lo le ws : List Nat} {wait : Nat → Prop} {μ : Nat} (S : DSt n bar m g H H' L R B lo le ws wait μ) (s : Same H' H'') : DSt n bar m g H H'' L R B lo le ws wait μ := by
  obtain ⟨ka, a1, a2⟩ := S.ld
  obtain ⟨kb, b1, b2⟩ := S.rd
  exact ⟨S.rch, S.same.trans s, S.no, ⟨ka, s _ _ a1, a2⟩, ⟨kb, s _ _ b1, b2⟩, s _ _ S.wl, S.sub, S.few⟩
def spUp (K : PySem.W.Frag) : Sp := fun vs H Q _ => ∃ (f : Addr) (F : Fl) (n : Nat) (lk : Nat → List Nat) (lf rgt : Nat → Bool) (bar : Nat → Nat → Bool) (m g : Nat → Option Nat), vs = [.ref f] ∧ FIns K H f F n lk ∧ f ∉ F.own ∧ Arr H F n lf rgt m g ∧ n ≤ 12 ∧
  (∀ i, i < n → ∀ j, j ∈ lk i ↔ j < n ∧ bar i j = true) ∧ (∀ i, i < n → (lk i).length ≤ 12) ∧ Lat.Match (List.range n) bar m g ∧ (∀ i, i < n → rgt i = un g i) ∧
  ∀ H' v lo le, Same H H' → TwoD H' v le lo → Lat.Reach (List.range n) (flip bar) g m (fun i => decide (i ∈ lo)) (fun j => decide (j ∈ le)) → Q v H'
abbrev n_up : List Str := ["self", "rights", "lefts", "waiting", "here", "item", "others", "fresh", "rest", "other"]
theorem sc_up : FnScope n_up ["self"] (defScope s_Flow_reached_up) := ⟨rfl, rfl, rfl, by decide +kernel, rfl, by decide +kernel, by decide +kernel⟩
theorem ok_up (T : Tx K mg) : Pr P w K mg base 1 (He.ma K (He.ga K "Flow") "reached_up") (spUp K) := by
  obtain ⟨fd, F0⟩ := T.f_Flow_reached_up
  refine pr_of (fn_t F0 sc_up (fun _ _ _ _ _ _ us hl => match us, hl with | [_], _ => rfl) (fun vs H Q E h => ?_) fun cdv A outer s H vs Q E hr h => ?_)
  · obtain ⟨f, F, n, lk, lf, rgt, bar, m, g, rfl, _⟩ := h
    rfl
  · obtain ⟨f, F, n, lk, lf, rgt, bar, m, g, rfl, FI, hfo, AR, hn, hlk, hlk12, M, hlf, q⟩ := h
    have hu := hu_of hr
    refine ⟨_, pss_cons (ps_set (i := 1) sc_up.nd rfl (Or.inr rfl) (pe_dc (own := [("item", 5), ("rest", 8)]) (g := gTup K 2 (gCons (gName 5) (gCons (gName 8) gNil))) (tt := tTest (tOp (rI0 fun i j => V.bl (decide (j < i))) (tVar 8) (tC (.int 0)))) rfl sc_up.nd (pi_enum (by rfl) T.b_enumerate (pa_cons (pe_fld (pv 0) rfl) pa_nil)) (blkOk_by (N := n_up) (sc := defScope s_Flow_reached_up) (by decide +kernel))
          (fun _ _ _ _ _ => pg_tup rfl (pgs_cons (pg_name (i := 5) sc_up.nd rfl (Or.inl rfl)) (pgs_cons (pg_name (i := 8) sc_up.nd rfl (Or.inl rfl)) pgs_nil)))
          (fun _ _ _ _ _ => pts_one (pt_cmpR op_gt (pv 8) pe_int (nomark _))) (fun _ _ _ _ _ => pv 5) (fun _ _ _ _ _ => pe_bl)))
      (pss_cons (ps_set (i := 2) sc_up.nd rfl (Or.inl rfl) pe_dnewK)
      (pss_cons (ps_set (i := 3) sc_up.nd rfl (Or.inl rfl) (pe_callTy (call_list_dK rfl) (by rfl) T.b_list (by decide +kernel) (pa_cons (pv 1) pa_nil)))
      (pss_cons (ps_while PassesOwn.never (pt_cmpR (op_neD hr.units) (pv 3) (pe_lst pa_nil) (nomark _))
        (pss_cons (ps_set (i := 4) sc_up.nd rfl (Or.inl rfl) (pe_bm0 PySem.F.plainAttrs_list PySem.F.slot_list_pop PySem.F.type_list_pop mt_pop (pv 3)))
        (pss_one (ps_for PassesOwn.never rfl (pi_enum (by rfl) T.b_enumerate (pa_cons (pe_fld (pv 0) rfl) pa_nil)) (pg_tup rfl (pgs_cons (pg_name (i := 5) sc_up.nd rfl (Or.inl rfl)) (pgs_cons (pg_name (i := 6) sc_up.nd rfl (Or.inl rfl)) pgs_nil)))
          (pss_one (ps_if (PW.pt (pw_and (pt_cmpR (op_inD (hu65 hr)) (pv 4) (pv 6) (by rfl)) (pw_and1 (pt_cmp (pc_dnotin hu (pv 5) (pv 2))))))
            (pss_cons (ps_dput hu (pv 2) (pv 5) pe_bl rfl)
            (pss_cons (ps_lock (ps_setLc (i := 7) (own := [("other", 9)]) (g := gName 9) (tt := tB (tDNotIn (tVar 9) (tVar 1))) (te := tVar 9) rfl sc_up.nd rfl rfl (sw_true rfl rfl rfl (by decide +kernel)) (pi_keys (pe_ix ix_list (pe_fld (pv 0) rfl) (pv 5) (fun _ _ => rfl))) (blkOk_by (N := n_up) (sc := defScope s_Flow_reached_up) (by decide +kernel))
              (fun _ _ _ _ _ => pg_name (i := 9) sc_up.nd rfl (Or.inl rfl)) (fun _ _ _ _ _ => pts_one (pt_cmp (pc_dnotin hu (pv 9) (pv 1)))) (fun _ _ _ _ _ => pv 9)))
            (pss_cons (ps_set (i := 1) sc_up.nd rfl (Or.inr rfl) (pe_disp2 (pv 1) (pe_dc (own := [("other", 9)]) (g := gName 9) (tt := tYes) rfl sc_up.nd (pi_list (pv 7)) (blkOk_by (N := n_up) (sc := defScope s_Flow_reached_up) (by decide +kernel))
              (fun _ _ _ _ _ => pg_name (i := 9) sc_up.nd rfl (Or.inl rfl)) (fun _ _ _ _ _ => pts_nil) (fun _ _ _ _ _ => pv 9) (fun _ _ _ _ _ => pe_bl))))
            (pss_one (ps_expr (pe_bm PySem.F.plainAttrs_list PySem.F.slot_list_extend PySem.F.type_list_extend mt_extend (pv 3) (pa_cons (pv 7) pa_nil)))))))
            pss_nil))))))
      (pss_one (ps_ret (pe_tup (pa_cons (pv 2) (pa_cons (pv 1) pa_nil)))))))), ?_⟩
    obtain ⟨dx, aK, ls, hf, hls, hK, hKo, hAo, hGo, hlk'⟩ := FI.full
    refine ⟨_, rfl, f, _, dx, _, _, rfl, hf, T.cl_Flow, T.na_Flow_right, rfl, F.aR, _, rfl, .of AR.right, fun D hD => ?_⟩
    refine walk_gen (n := ((List.range n).map fun i => b01 (rgt i)).length) walk_enum (fun i H' => ∃ ks, H' D = some (.dK ks) ∧ TK kI ks ((List.range i).filter rgt) ∧ Same H H') ⟨[], upd_same, rfl, Same.new hD⟩ (fun i H' _ h => by obtain ⟨_, _, _, s'⟩ := h; exact .of (s' _ _ AR.right)) ?_ ?_
    · rintro i x H3 H4 hi ⟨ks, hD3, t3, s3⟩ ⟨Tn, x1, y1, rfl, hTn, rfl, hx1, hy1⟩
      rw [List.length_map, List.length_range] at hi
      cases hx1
      have hy2 : ((List.range n).map fun i => b01 (rgt i))[i]? = some y1 := hy1
      rw [range_at hi] at hy2
      cases hy2
      have sT : Same H3 (upd H3 Tn (.tup [.int (i : Nat), b01 (rgt i)])) := Same.new hTn
      have hr := filt_succ rgt i
      refine ⟨Tn, _, rfl, .of upd_same, rfl, _, _, rfl, _, _, rfl, rfl, rfl, ?_⟩
      have h3 := sT _ _ hD3
      cases hlf2 : rgt i with
      | false =>
        rw [hlf2] at sT h3 hr
        refine ⟨_, rfl, _, _, rfl, rfl, _, rfl, ?_⟩
        refine iteF ⟨ks, h3, ?_, s3.trans sT⟩
        rw [hr]
        simpa using t3
      | true =>
        rw [hlf2] at sT h3 hr
        refine ⟨_, rfl, _, _, rfl, rfl, _, rfl, ?_⟩
        refine iteT ⟨_, rfl, ks, kI i, rfl, h3, ?_, _, upd_same, ?_, Pw.Same.skip (s3.trans sT) hD⟩
        · rw [t3.len, sizeLine_eq]
          have := List.length_filter_le rgt (List.range i)
          rw [List.length_range] at this
          omega
        · have h4 := t3.put kI_inj i (V.bl true)
          have had : addS ((List.range i).filter rgt) i = (List.range i).filter rgt ++ [i] := by
            unfold addS
            rw [if_neg fun h => by have := List.mem_range.mp (List.mem_filter.mp h).1; omega]
          rw [had] at h4
          rw [hr]
          exact h4
    · rintro H1 ⟨k1, h1, t1, s1⟩
      rw [List.length_map, List.length_range] at t1
      intro R hR
      refine ⟨_, rfl, D, k1, rfl, by rw [upd_ne (fun z => by rw [← z, h1] at hR; cases hR)]; exact h1, fun B hB => ?_⟩
      have hRn : H R = none := Pw.Same.nn s1 hR
      have hBn : (upd H1 R (.dK [])) B = none := hB
      obtain ⟨hB1, hBR⟩ := none_of hB
      have hDR : D ≠ R := fun z => by rw [← z, h1] at hR; cases hR
      have hDB : D ≠ B := fun z => by rw [← z, h1] at hB1; cases hB1
      have hkm : (k1.map fun kv => kV kv.1) = ((List.range n).filter rgt).map fun i => V.int (i : Nat) := by
        have : (k1.map fun kv => kV kv.1) = (k1.map (·.1)).map kV := by rw [List.map_map]; rfl
        rw [this, show k1.map (·.1) = _ from t1, List.map_map]
        rfl
      rw [hkm]
      generalize hlo : (List.range n).filter rgt = lo0 at t1 hkm
      have hmem : ∀ i, i ∈ lo0 ↔ i < n ∧ g i = none := fun i => by
        rw [← hlo, List.mem_filter, List.mem_range]
        constructor
        · rintro ⟨a, b⟩
          rw [hlf i a, Lat.un_iff] at b
          exact ⟨a, b⟩
        · rintro ⟨a, b⟩
          exact ⟨a, by rw [hlf i a, Lat.un_iff]; exact b⟩
      have hnd0 : lo0.Nodup := by rw [← hlo]; exact List.nodup_range.filter _
      have R0 : Rch n (flip bar) g m lo0 [] (fun x => x ∈ lo0) := .start hmem hnd0
      have hl0 := lt12 R0.lo1 R0.lo2
      have st0 : DSt n (flip bar) g m H (upd (upd H1 R (.dK [])) B (.lst (lo0.map fun i => V.int (i : Nat)))) D R B lo0 [] lo0 (fun x => x ∈ lo0) (2 * n) :=
        ⟨R0, (s1.trans (Same.new hR)).trans (Same.new hB), ⟨hD, hRn, Pw.Same.nn s1 hB1, hDR⟩, ⟨k1, by rw [upd_ne hDB, upd_ne hDR]; exact h1, t1⟩, ⟨[], by rw [upd_ne (Ne.symm hBR), upd_same], rfl⟩, upd_same, fun x h => h, by omega⟩
      refine ⟨fun μ σ' H' => ∃ L lo le ws x4 x5 x6 x7 x8 x9, σ' = [some (.ref f), some (.ref L), some (.ref R), some (.ref B), x4, x5, x6, x7, x8, x9] ∧ μ ≤ 2 * n ∧ DSt n (flip bar) g m H H' L R B lo le ws (fun x => x ∈ ws) μ, ⟨2 * n, D, lo0, [], lo0, none, none, none, none, none, none, rfl, Nat.le_refl _, st0⟩, ?_⟩
      rintro μ σ' H2 ⟨L, lo, le, ws, x4, x5, x6, x7, x8, x9, rfl, hμ, S⟩
      refine ⟨_, rfl, (by rw [sizeLine_eq]; simp only [List.length_nil]; omega), fun E1 hE1 => ?_⟩
      have sE : Same H2 (upd H2 E1 (.lst [])) := Same.new hE1
      have hwl := sE _ _ S.wl
      refine ⟨.list (ws.map iD), .list ([].map iD), .lst (.of hwl) (dps_i ws), .lst (.of upd_same) .nil, il_shaped ws, il_shaped [], _, rfl, ?_⟩
      rw [il_eqv]
      by_cases hws : ws = []
      · rw [decide_eq_true hws]
        obtain ⟨ka, a1, a2⟩ := S.ld
        obtain ⟨kb, b1, b2⟩ := S.rd
        refine iteF ⟨_, rfl, _, rfl, (by rw [sizeLine_eq]; simp only [List.length_cons, List.length_nil]; omega), fun t ht => ?_⟩
        have sT := Same.new (o := .tup [V.ref R, .ref L]) ht
        exact q _ _ lo le ((S.same.trans sE).trans sT) ⟨t, R, L, kb, ka, rfl, upd_same, sT _ _ (sE _ _ b1), sT _ _ (sE _ _ a1), b2, a2⟩ (S.rch.done fun x h => by rw [hws] at h; cases h)
      · rw [decide_eq_false hws]
        obtain ⟨wr, here, rfl⟩ : ∃ wr h, ws = wr ++ [h] := ⟨ws.dropLast, ws.getLast hws, (List.dropLast_concat_getLast hws).symm⟩
        have hlo1 : here ∈ lo := S.sub here (List.mem_append_right _ (List.mem_singleton.mpr rfl))
        have hhn : here < n := S.rch.lo2 here hlo1
        have hfew := S.few
        rw [List.length_append, List.length_singleton] at hfew
        have hxs : (wr ++ [here]).map (fun i => V.int (i : Nat)) = wr.map (fun i => V.int (i : Nat)) ++ [V.int (here : Nat)] := by rw [List.map_append]; rfl
        rw [hxs] at hwl
        have hdl : (wr.map (fun i => V.int (i : Nat)) ++ [V.int (here : Nat)]).dropLast = wr.map (fun i => V.int (i : Nat)) := List.dropLast_concat
        refine iteT ⟨fun σ' H' => ∃ L lo le ws x4 x5 x6 x7 x8 x9, σ' = [some (.ref f), some (.ref L), some (.ref R), some (.ref B), x4, x5, x6, x7, x8, x9] ∧ μ - 1 ≤ 2 * n ∧ DSt n (flip bar) g m H H' L R B lo le ws (fun x => x ∈ ws) (μ - 1), fun σ' H' h => ⟨μ - 1, by omega, h⟩, ?_⟩
        refine ⟨_, rfl, .inl ⟨rfl, _, .of hwl⟩, B, _, V.int (here : Nat), rfl, rfl, hwl, (by simp), ?_⟩
        rw [hdl]
        obtain ⟨nL, nR, nB, hLR⟩ := S.no
        obtain ⟨ka, a1, a2⟩ := S.ld
        obtain ⟨kb, b1, b2⟩ := S.rd
        have hLB : L ≠ B := ne_of a1 S.wl (by intro z; cases z)
        have hRB : R ≠ B := ne_of b1 S.wl (by intro z; cases z)
        generalize hH3 : upd (upd H2 E1 (.lst [])) B (.lst (wr.map fun i => V.int (i : Nat))) = H3
        have S3 : DSt n (flip bar) g m H H3 L R B lo le wr (fun x => x ∈ wr ∨ x = here) (μ - 1) := by
          rw [← hH3]
          refine ⟨S.rch.weaken (fun x _ h => .inl ?_), Pw.Same.skip (S.same.trans sE) nB, S.no, ⟨ka, by rw [upd_ne hLB]; exact sE _ _ a1, a2⟩, ⟨kb, by rw [upd_ne hRB]; exact sE _ _ b1, b2⟩, upd_same, fun x hx => S.sub x (List.mem_append_left _ hx), by omega⟩
          exact (List.mem_append.mp h).imp id List.mem_singleton.mp
        refine ⟨_, rfl, f, _, dx, _, _, rfl, S3.same _ _ hf, T.cl_Flow, T.na_Flow_links, rfl, aK, _, rfl, .of (S3.same _ _ hK), ?_⟩
        refine for_it (n := (ls.map V.ref).length) walk_enum (fun t σ' H' => ∃ L lo le ws x5 x6 x7 x8 x9, σ' = [some (.ref f), some (.ref L), some (.ref R), some (.ref B), some (.int (here : Nat)), x5, x6, x7, x8, x9] ∧ DSt n (flip bar) g m H H' L R B lo le ws (fun x => x ∈ ws ∨ x = here) (μ - 1) ∧ here ∈ lo ∧ ∀ j, j < t → bar j here = true → j ∈ le)
          ⟨L, lo, le, wr, x5, x6, x7, x8, x9, rfl, S3, hlo1, fun _ h => by cases h⟩ (fun t σ' H' _ h => by obtain ⟨_, _, _, _, _, _, _, _, _, _, S', _⟩ := h; exact .of (S'.same _ _ hK)) ?_ ?_
        · clear hH3 S3 a1 a2 b1 b2 ka kb hLR nL nR nB hLB hRB
          rintro j x σ' H4' H4 hjn ⟨L, lo, le, ws, x5, x6, x7, x8, x9, rfl, S, hlo1, hco⟩ ⟨Tn, x1, y1, rfl, hTn, rfl, hx1, hy1⟩
          rw [List.length_map, hls] at hjn
          cases hx1
          obtain ⟨dl, hdl'⟩ : ∃ d, ls[j]? = some d := ⟨_, List.getElem?_eq_getElem (by rw [hls]; exact hjn)⟩
          have hy2 : (ls.map V.ref)[j]? = some y1 := hy1
          rw [List.getElem?_map, hdl'] at hy2
          cases hy2
          obtain ⟨hdl2, hdlo⟩ := hlk' j dl hdl'
          show gTup K 2 (gCons (gName 5) (gCons (gName 6) gNil)) _ _ (upd H4' Tn (.tup [.int (j : Nat), .ref dl])) _
          have S := S.keep (Same.new (o := .tup [.int (j : Nat), .ref dl]) hTn)
          refine ⟨Tn, _, rfl, .of upd_same, rfl, _, _, rfl, _, _, rfl, rfl, ?_⟩
          generalize upd H4' Tn (.tup [.int (j : Nat), .ref dl]) = H4 at S
          have htk : ∀ y, y < j + 1 → y < j ∨ y = j := fun y hy => by omega
          refine ⟨_, rfl, _, rfl, iD here, (lk j).map iD, .int _, .lst (.of (S.same _ _ hdl2)) (dps_i _), rfl, il_shaped _, _, rfl, ?_⟩
          rw [any_map iD_eqv]
          by_cases hbj : bar j here = true
          rotate_left
          · rw [decide_eq_false fun h => hbj ((hlk j hjn here).mp h).2]
            refine iteF ?_
            exact iteF ⟨L, lo, le, ws, _, _, _, _, _, rfl, S, hlo1, fun y hy hb => (htk y hy).elim (fun h => hco y h hb) fun z => absurd (by rw [← z]; exact hb) hbj⟩
          rw [decide_eq_true ((hlk j hjn here).mpr ⟨hhn, hbj⟩)]
          refine iteT ?_
          obtain ⟨nL, nR, nB, hLR⟩ := S.no
          obtain ⟨ka, a1, a2⟩ := S.ld
          obtain ⟨kb, b1, b2⟩ := S.rd
          have hwl4 := S.wl
          have hLB : L ≠ B := ne_of a1 hwl4 (by intro z; cases z)
          have hRB : R ≠ B := ne_of b1 hwl4 (by intro z; cases z)
          have dgr := DGet.k (k := kI j) b1
          refine ⟨_, rfl, _, rfl, R, _, rfl, dgr, _, rfl, ?_⟩
          rw [b2.val kI_inj]
          by_cases hjl : j ∈ le
          · rw [decide_eq_true hjl]
            exact iteF ⟨L, lo, le, ws, _, _, _, _, _, rfl, S, hlo1, fun y hy hb => (htk y hy).elim (fun h => hco y h hb) fun z => by rw [z]; exact hjl⟩
          · rw [decide_eq_false hjl]
            have hll := lt12 S.rch.le1 S.rch.le2
            have hll2 := lt12 S.rch.lo1 S.rch.lo2
            refine iteT ⟨_, rfl, _, rfl, R, _, rfl, DPut.k (k := kI j) (v := V.bl true) b1 (by rw [b2.len, sizeLine_eq]; omega), ?_⟩
            generalize hH5 : upd H4 R (.dK (putK kb (kI j) (V.bl true))) = H5
            have s5 : Same H H5 := by rw [← hH5]; exact Pw.Same.skip S.same nR
            have L5 : H5 L = some (.dK ka) := by rw [← hH5, upd_ne hLR]; exact a1
            have R5 : H5 R = some (.dK (putK kb (kI j) (V.bl true))) := by rw [← hH5, upd_same]
            have B5 : H5 B = some (.lst (ws.map fun i => V.int (i : Nat))) := by rw [← hH5, upd_ne (Ne.symm hRB)]; exact hwl4
            have hTR := b2.put kI_inj j (V.bl true)
            have had : addS le j = le ++ [j] := by unfold addS; rw [if_neg hjl]
            rw [had] at hTR
            obtain ⟨d, hd⟩ := FI.ok.da hjn
            have hgd0 := AR.am j d hd
            have hgd := s5 _ _ hgd0
            have hdL : L ≠ d := fun z => by rw [← z, nL] at hgd0; cases hgd0
            have hdR : R ≠ d := fun z => by rw [← z, nR] at hgd0; cases hgd0
            have hdB : B ≠ d := fun z => by rw [← z, nB] at hgd0; cases hgd0
            have hdf : f ≠ d := fun z => hfo (z ▸ FI.ok.d_own hd)
            have hdA : F.aA ≠ d := fun z => hAo (z ▸ FI.ok.d_own hd)
            have hej : (F.das.map V.ref)[j]? = some (.ref d) := by rw [List.getElem?_map, hd]; rfl
            have hfr := @fresh_len (m j) lo
            refine ⟨d, _, hgd, trivial, fun od => ?_⟩
            refine ⟨_, rfl, f, _, dx, _, _, rfl, by rw [upd_ne hdf]; exact s5 _ _ hf, T.cl_Flow, T.na_Flow_amounts, rfl, _, rfl, F.aA, _, _, _, rfl, rfl, .of (by rw [upd_ne hdA]; exact s5 _ _ FI.lA), atI_nat hej, d, od, rfl, .inl ⟨_, upd_same, fun Dl hDl => ?_⟩⟩
            have hdD : d ≠ Dl := fun z => by rw [← z, upd_same] at hDl; cases hDl
            have hLD : L ≠ Dl := fun z => by rw [← z, upd_ne hdL, L5] at hDl; cases hDl
            have hDl5 : H5 Dl = none := by rwa [upd_ne (Ne.symm hdD)] at hDl
            refine walk_gen (n := (amK (m j)).length) walk_keys (fun i H' => H' = upd (upd H5 d (.frz od (.dK (amK (m j))))) Dl (.lst (((fresh (m j) lo).take i).map fun i => V.int (i : Nat)))) rfl (fun i H' _ h => by rw [h, upd_ne hdD, upd_same]) ?_ ?_
            · rintro i x H7 H8 hi rfl ⟨rfl, kx, vx, hkx, rfl⟩
              cases hgj : m j with
              | none =>
                rw [hgj] at hi
                exact absurd hi (Nat.not_lt_zero _)
              | some i0 =>
                rw [hgj] at hi hkx
                have hi0 : i = 0 := by
                  have : i < 1 := hi
                  omega
                subst hi0
                have hk : kx = kI i0 := by
                  have : some ((Sum.inl (i0 : Int) : Key), V.int 1) = some (kx, vx) := hkx
                  injection this with this
                  injection this with a _
                  exact a.symm
                subst hk
                have dgl := DGet.k (k := kI i0) (show (upd (upd H5 d (.frz od (.dK (amK (some i0))))) Dl (.lst (((fresh (some i0) lo).take 0).map fun i => V.int (i : Nat)))) L = some (.dK ka) by rw [upd_ne hLD, upd_ne hdL]; exact L5)
                refine ⟨rfl, _, rfl, _, rfl, L, _, rfl, dgl, _, rfl, ?_⟩
                rw [a2.val kI_inj]
                by_cases him : i0 ∈ lo
                · rw [decide_eq_true him]
                  refine iteF ?_
                  have hf0 : fresh (some i0) lo = [] := by unfold fresh; exact if_pos him
                  rw [hf0]
                  rfl
                · rw [decide_eq_false him]
                  have hf0 : fresh (some i0) lo = [i0] := by unfold fresh; exact if_neg him
                  refine iteT ⟨_, rfl, [], upd_same, (by rw [sizeLine_eq]; simp only [List.length_nil]; omega), ?_⟩
                  rw [hf0]
                  exact upd_upd_same
            · rintro H7 rfl
              have hfull : (fresh (m j) lo).take (amK (m j)).length = fresh (m j) lo := by
                apply List.take_of_length_le
                cases m j with
                | none => exact Nat.le_refl _
                | some i0 => exact fresh_len
              rw [hfull]
              have hgi : ∀ i, m j = some i → i < n := fun i e => List.mem_range.mp (M.to_ j (List.mem_range.mpr hjn) i e).1
              have hnf := @nd_fresh (m j) lo S.rch.lo1
              have hstep := fun wait' => S.rch.step (wait' := wait') hgi hlo1 hjn hbj hjl
              have hl3 := lt12 (hstep (fun _ => True) (fun _ _ => trivial) (fun _ _ => trivial)).lo1 (hstep (fun _ => True) (fun _ _ => trivial) (fun _ _ => trivial)).lo2
              generalize fresh (m j) lo = fr at hfr hnf hstep hl3
              refine ⟨by rw [upd_ne hdD, upd_same], ?_⟩
              rw [show upd (upd (upd H5 d (.frz od (.dK (amK (m j))))) Dl (.lst (fr.map fun i => V.int (i : Nat)))) d (.dK (amK (m j))) = upd H5 Dl (.lst (fr.map fun i => V.int (i : Nat))) by rw [upd_comm (Ne.symm hdD), upd_upd_same, upd_id hgd]]
              have s6 : Same H5 (upd H5 Dl (.lst (fr.map fun i => V.int (i : Nat)))) := Same.new hDl5
              have D6 : (upd H5 Dl (.lst (fr.map fun i => V.int (i : Nat)))) Dl = some (.lst (fr.map fun i => V.int (i : Nat))) := upd_same
              generalize upd H5 Dl (.lst (fr.map fun i => V.int (i : Nat))) = H6 at s6 D6
              intro p hp
              have L6 := s6 _ _ L5
              have hLp : L ≠ p := fun z => by rw [← z, L6] at hp; cases hp
              have hDp : Dl ≠ p := fun z => by rw [← z, D6] at hp; cases hp
              have hRp : R ≠ p := fun z => by rw [← z, s6 _ _ R5] at hp; cases hp
              have hBp : B ≠ p := fun z => by rw [← z, s6 _ _ B5] at hp; cases hp
              refine ⟨_, rfl, L, ka, rfl, hLp, by rw [upd_ne hLp]; exact L6, upd_same, by rw [a2.len]; omega, ?_⟩
              rw [upd_upd_same]
              have s7 : Same H6 (upd H6 p (.dK (mergeK [] ka))) := Same.new hp
              have P7 : (upd H6 p (.dK (mergeK [] ka))) p = some (.dK (mergeK [] ka)) := upd_same
              generalize hH7 : upd H6 p (.dK (mergeK [] ka)) = H7 at s7 P7
              refine ⟨_, rfl, Dl, rfl, ⟨_, .of (s7 _ _ D6)⟩, fun D2 hD2 => ?_⟩
              have hD2p : D2 ≠ p := fun z => by rw [z, P7] at hD2; cases hD2
              have hDD : Dl ≠ D2 := fun z => by rw [← z, s7 _ _ D6] at hD2; cases hD2
              refine walk_gen (n := (fr.map fun i => V.int (i : Nat)).length) walk_list (fun i H' => H' = upd H7 D2 (.dK ((fr.take i).map fun i => (kI i, V.bl true)))) rfl (fun i H' _ h => by rw [h]; exact .of (by rw [upd_ne hDD]; exact s7 _ _ D6)) ?_ ?_
              · rintro i x H8 H9 hi rfl ⟨rfl, hx⟩
                rw [List.length_map] at hi
                have hi0 : i = 0 := by omega
                subst hi0
                obtain ⟨i0, rfl⟩ : ∃ i0, fr = [i0] := by
                  cases fr with
                  | nil => exact absurd hi (Nat.not_lt_zero _)
                  | cons y ys =>
                    cases ys with
                    | nil => exact ⟨y, rfl⟩
                    | cons z zs => simp only [List.length_cons] at hfr; omega
                have hx' : some (V.int (i0 : Nat)) = some x := hx
                cases hx'
                exact ⟨rfl, yes ⟨_, rfl, [], kI i0, rfl, upd_same, (by rw [sizeLine_eq]; simp only [List.length_nil]; omega), upd_upd_same⟩⟩
              · rintro H8 rfl
                rw [List.length_map, List.take_length]
                have s8 : Same H7 (upd H7 D2 (.dK (fr.map fun i => (kI i, V.bl true)))) := Same.new hD2
                refine ⟨D2, _, rfl, hD2p, upd_same, by rw [upd_ne (Ne.symm hD2p)]; exact P7, by rw [List.length_map]; omega, ?_⟩
                generalize hH8 : upd H7 D2 (.dK (fr.map fun i => (kI i, V.bl true))) = H8 at s8
                have hpH : H p = none := Pw.Same.nn (s5.trans s6) hp
                have t1 : TK kI (mergeK [] ka) ([] ++ lo) := TK.merge (TK.nil) a2 S.rch.lo1
                have t2 : TK kI (mergeK (mergeK [] ka) (fr.map fun i => (kI i, V.bl true))) (lo ++ fr) := TK.merge t1 (TK.fr fr) hnf
                generalize mergeK (mergeK [] ka) (fr.map fun i => (kI i, V.bl true)) = kn at t2
                have s9 : Same H (upd H8 p (.dK kn)) := Pw.Same.skip (((s5.trans s6).trans s7).trans s8) hpH
                have ev : ∀ b o, b ≠ p → H6 b = some o → (upd H8 p (.dK kn)) b = some o := fun b o hb e => by rw [upd_ne hb]; exact s8 _ _ (s7 _ _ e)
                have B9 := ev B _ hBp (s6 _ _ B5)
                refine ⟨_, rfl, .inl ⟨rfl, _, .of B9⟩, _, rfl, B, Dl, _, _, rfl, rfl, B9, ev Dl _ hDp D6, (by rw [List.length_map, List.length_map, sizeLine_eq]; have := S.few; omega), ?_⟩
                rw [← List.map_append]
                have hfw := S.few
                rw [List.length_append] at hl3
                refine ⟨p, lo ++ fr, le ++ [j], ws ++ fr, _, _, _, _, _, rfl, ⟨hstep _ (fun x h => h.imp (List.mem_append_left _) id) (fun x h => .inl (List.mem_append_right _ h)), Pw.Same.skip s9 nB, ⟨hpH, nR, nB, Ne.symm hRp⟩, ⟨kn, by rw [upd_ne (Ne.symm hBp), upd_same], t2⟩, ⟨_, by rw [upd_ne hRB]; exact ev R _ hRp (s6 _ _ R5), hTR⟩, upd_same, fun x hx => (List.mem_append.mp hx).elim (fun h => List.mem_append_left _ (S.sub x h)) (List.mem_append_right _), ?_⟩, List.mem_append_left _ hlo1, fun y hy hb => (htk y hy).elim (fun h => List.mem_append_left _ (hco y h hb)) fun h => List.mem_append_right _ (List.mem_singleton.mpr h)⟩
                rw [List.length_append, List.length_append]
                omega
        · rintro σ' H4 ⟨L, lo, le, ws, x5, x6, x7, x8, x9, rfl, S, hlo, hco⟩
          refine ⟨L, lo, le, ws, _, _, _, _, _, _, rfl, by omega, { S with rch := S.rch.weaken fun x _ h => h.imp id fun h j hj hb => ?_ }⟩
          refine hco j (by rw [List.length_map, hls]; exact hj) ?_
          rw [h] at hb
          exact hb
end
end Pw
end
section
set_option maxRecDepth 100000
set_option maxHeartbeats 4000000
/-! The walk: the first and the last free of a flow. -/
namespace Pw
open PySem PySem.Spec PyProof.Rows L2
open Lat (un)
section
variable {P : Program} {w : World} {K : PySem.W.Frag} {mg : Str → Option Value} {base : Heap}
def iR (v : V) (i : Nat) (_ : Hp) : Prop := v = .int (i : Nat)
def spFirst (K : PySem.W.Frag) : Sp := fun vs H Q _ => ∃ (f : Addr) (F : Fl) (n : Nat) (lk : Nat → List Nat) (lf rgt : Nat → Bool) (bar : Nat → Nat → Bool) (m g : Nat → Option Nat), vs = [.ref f] ∧ FIns K H f F n lk ∧ f ∉ F.own ∧ Arr H F n lf rgt m g ∧ n ≤ 12 ∧
  (∀ i, i < n → ∀ j, j ∈ lk i ↔ j < n ∧ bar i j = true) ∧ (∀ i, i < n → (lk i).length ≤ 12) ∧ Lat.Match (List.range n) bar m g ∧ (∀ i, i < n → lf i = un m i) ∧
  ∀ H' l D E, Same H H' → Lat.Reach (List.range n) bar m g D E → H' l = some (.lst (((List.range n).filter (Lat.firstOf D E)).map fun i => V.int (i : Nat))) → Q (.ref l) H'
abbrev n_first : List Str := ["self", "lefts", "rights", "item"]
theorem sc_first : FnScope n_first ["self"] (defScope s_Flow_first_free) := ⟨rfl, rfl, rfl, by decide +kernel, rfl, by decide +kernel, by decide +kernel⟩
theorem ok_first (T : Tx K mg) : Pr P w K mg base 2 (He.ma K (He.ga K "Flow") "first_free") (spFirst K) := by
  obtain ⟨fd, F0⟩ := T.f_Flow_first_free
  refine pr_of (fn_t F0 sc_first (fun _ _ _ _ _ _ us hl => match us, hl with | [_], _ => rfl) (fun vs H Q E h => ?_) fun cdv A outer s H vs Q E hr h => ?_)
  · obtain ⟨f, F, n, lk, lf, rgt, bar, m, g, rfl, _⟩ := h
    rfl
  · obtain ⟨f, F, n, lk, lf, rgt, bar, m, g, rfl, FI, hfo, AR, hn, hlk, hlk12, M, hlf, q⟩ := h
    have hu := hu_of hr
    refine ⟨_, pss_cons (ps_asg (pm0 (pv 0) T.cl_Flow T.mt_Flow_reached_down (ok_down T) hr) (pg_tup rfl (pgs_cons (pg_name (i := 1) sc_first.nd rfl (.inr rfl)) (pgs_cons (pg_name (i := 2) sc_first.nd rfl (.inr rfl)) pgs_nil))))
      (pss_one (ps_ret (pe_lc (own := [("item", 3)]) (g := gName 3) rfl sc_first.nd (pi_range1 (by rfl) T.b_range (pa_cons (pe_callB call_len_seq (by rfl) T.b_len (by decide +kernel) (pa_cons (pe_fld (pv 0) rfl) pa_nil)) pa_nil)) (blkOk_by (N := n_first) (sc := defScope s_Flow_first_free) (by decide +kernel))
        (fun _ _ _ _ _ => pg_name (i := 3) sc_first.nd rfl (Or.inl rfl)) (tt := tAnd (tB (tDIn (tVar 3) (tVar 1))) (tB (tDNotIn (tVar 3) (tVar 2)))) (fun _ _ _ _ _ => pts_one (PW.pt (pw_and (pt_cmp (pc_din hu (pv 3) (pv 1))) (pw_and1 (pt_cmp (pc_dnotin hu (pv 3) (pv 2))))))) (te := tVar 3) (fun _ _ _ _ _ => pv 3)))), ?_⟩
    obtain ⟨dx, aK, ls, hf, hls, hK, _⟩ := FI.full
    refine ⟨_, rfl, f, dx, _, rfl, hf, rfl, f, F, n, lk, lf, rgt, bar, m, g, rfl, FI, hfo, AR, hn, hlk, hlk12, M, hlf, fun H1 v lo le s1 htd R => ?_⟩
    obtain ⟨t, a, b, ka, kb, rfl, ht, ha, hb, ta, tb⟩ := htd
    show gTup K 2 (gCons (gName 1) (gCons (gName 2) gNil)) _ _ H1 _
    refine ⟨t, _, rfl, .of ht, rfl, _, _, rfl, _, _, rfl, rfl, ?_⟩
    refine ⟨_, rfl, f, _, dx, _, _, rfl, s1 _ _ hf, T.cl_Flow, T.na_Flow_links, rfl, aK, _, rfl, .inl (.of (s1 _ _ hK)), _, rfl, by omega, by rw [List.length_map, hls]; omega, ?_⟩
    rw [List.length_map, hls, Int.toNat_natCast]
    intro L hL
    refine lc_gr (Mono.eq fun i : Nat => V.int (i : Nat)) walk_range hL (n := n) (by rw [sizeLine_eq]; omega) (fun i => decide (i ∈ lo) && !decide (i ∈ le)) (fun i => i) (fun _ _ => trivial) (fun _ _ _ _ _ y => by rw [y.1]; exact Same.refl _) ?_ ?_
    · rintro i x _ H5 A' B' hi s5 _ ⟨rfl, rfl⟩ hA hB
      rw [show (fun i : Nat => V.int (0 + (i : Int))) i = V.int (i : Nat) from congrArg V.int (Int.zero_add _)]
      refine ⟨rfl, _, rfl, _, rfl, a, _, rfl, DGet.k (k := kI i) (s5 _ _ ha), _, rfl, ?_⟩
      rw [ta.val kI_inj]
      by_cases h1 : i ∈ lo
      · rw [decide_eq_true h1]
        refine iteT ⟨_, rfl, _, rfl, b, _, rfl, DGet.k (k := kI i) (s5 _ _ hb), _, rfl, ?_⟩
        rw [tb.val kI_inj]
        by_cases h2 : i ∈ le
        · rw [decide_eq_true h2]
          exact iteF (hB (by simp [h2]) _ (Same.refl _))
        · rw [decide_eq_false h2]
          exact iteT ⟨_, rfl, hA (by simp [h1, h2]) _ _ (Same.refl _) rfl⟩
      · rw [decide_eq_false h1]
        exact iteF (iteF (hB (by simp [h1]) _ (Same.refl _)))
    · intro out H5 s5 e al
      rw [al.eq] at e
      refine q H5 L _ _ (s1.trans s5) R ?_
      rw [e]
      unfold outs
      rw [List.map_id']
      rfl
def spLast (K : PySem.W.Frag) : Sp := fun vs H Q _ => ∃ (f : Addr) (F : Fl) (n : Nat) (lk : Nat → List Nat) (lf rgt : Nat → Bool) (bar : Nat → Nat → Bool) (m g : Nat → Option Nat), vs = [.ref f] ∧ FIns K H f F n lk ∧ f ∉ F.own ∧ Arr H F n lf rgt m g ∧ n ≤ 12 ∧
  (∀ i, i < n → ∀ j, j ∈ lk i ↔ j < n ∧ bar i j = true) ∧ (∀ i, i < n → (lk i).length ≤ 12) ∧ Lat.Match (List.range n) bar m g ∧ (∀ i, i < n → rgt i = un g i) ∧
  ∀ H' l D E, Same H H' → Lat.Reach (List.range n) (flip bar) g m D E → H' l = some (.lst (((List.range n).filter (Lat.firstOf D E)).map fun i => V.int (i : Nat))) → Q (.ref l) H'
abbrev n_last : List Str := ["self", "lefts", "rights", "item"]
theorem sc_last : FnScope n_last ["self"] (defScope s_Flow_last_free) := ⟨rfl, rfl, rfl, by decide +kernel, rfl, by decide +kernel, by decide +kernel⟩
theorem ok_last (T : Tx K mg) : Pr P w K mg base 2 (He.ma K (He.ga K "Flow") "last_free") (spLast K) := by
  obtain ⟨fd, F0⟩ := T.f_Flow_last_free
  refine pr_of (fn_t F0 sc_last (fun _ _ _ _ _ _ us hl => match us, hl with | [_], _ => rfl) (fun vs H Q E h => ?_) fun cdv A outer s H vs Q E hr h => ?_)
  · obtain ⟨f, F, n, lk, lf, rgt, bar, m, g, rfl, _⟩ := h
    rfl
  · obtain ⟨f, F, n, lk, lf, rgt, bar, m, g, rfl, FI, hfo, AR, hn, hlk, hlk12, M, hlf, q⟩ := h
    have hu := hu_of hr
    refine ⟨_, pss_cons (ps_asg (pm0 (pv 0) T.cl_Flow T.mt_Flow_reached_up (ok_up T) hr) (pg_tup rfl (pgs_cons (pg_name (i := 1) sc_last.nd rfl (.inr rfl)) (pgs_cons (pg_name (i := 2) sc_last.nd rfl (.inr rfl)) pgs_nil))))
      (pss_one (ps_ret (pe_lc (own := [("item", 3)]) (g := gName 3) rfl sc_last.nd (pi_range1 (by rfl) T.b_range (pa_cons (pe_callB call_len_seq (by rfl) T.b_len (by decide +kernel) (pa_cons (pe_fld (pv 0) rfl) pa_nil)) pa_nil)) (blkOk_by (N := n_last) (sc := defScope s_Flow_last_free) (by decide +kernel))
        (fun _ _ _ _ _ => pg_name (i := 3) sc_last.nd rfl (Or.inl rfl)) (tt := tAnd (tB (tDIn (tVar 3) (tVar 2))) (tB (tDNotIn (tVar 3) (tVar 1)))) (fun _ _ _ _ _ => pts_one (PW.pt (pw_and (pt_cmp (pc_din hu (pv 3) (pv 2))) (pw_and1 (pt_cmp (pc_dnotin hu (pv 3) (pv 1))))))) (te := tVar 3) (fun _ _ _ _ _ => pv 3)))), ?_⟩
    obtain ⟨dx, aK, ls, hf, hls, hK, _⟩ := FI.full
    refine ⟨_, rfl, f, dx, _, rfl, hf, rfl, f, F, n, lk, lf, rgt, bar, m, g, rfl, FI, hfo, AR, hn, hlk, hlk12, M, hlf, fun H1 v lo le s1 htd R => ?_⟩
    obtain ⟨t, b, a, kb, ka, rfl, ht, hb, ha, tb, ta⟩ := htd
    show gTup K 2 (gCons (gName 1) (gCons (gName 2) gNil)) _ _ H1 _
    refine ⟨t, _, rfl, .of ht, rfl, _, _, rfl, _, _, rfl, rfl, ?_⟩
    refine ⟨_, rfl, f, _, dx, _, _, rfl, s1 _ _ hf, T.cl_Flow, T.na_Flow_links, rfl, aK, _, rfl, .inl (.of (s1 _ _ hK)), _, rfl, by omega, by rw [List.length_map, hls]; omega, ?_⟩
    rw [List.length_map, hls, Int.toNat_natCast]
    intro L hL
    refine lc_gr (Mono.eq fun i : Nat => V.int (i : Nat)) walk_range hL (n := n) (by rw [sizeLine_eq]; omega) (fun i => decide (i ∈ lo) && !decide (i ∈ le)) (fun i => i) (fun _ _ => trivial) (fun _ _ _ _ _ y => by rw [y.1]; exact Same.refl _) ?_ ?_
    · rintro i x _ H5 A' B' hi s5 _ ⟨rfl, rfl⟩ hA hB
      rw [show (fun i : Nat => V.int (0 + (i : Int))) i = V.int (i : Nat) from congrArg V.int (Int.zero_add _)]
      refine ⟨rfl, _, rfl, _, rfl, a, _, rfl, DGet.k (k := kI i) (s5 _ _ ha), _, rfl, ?_⟩
      rw [ta.val kI_inj]
      by_cases h1 : i ∈ lo
      · rw [decide_eq_true h1]
        refine iteT ⟨_, rfl, _, rfl, b, _, rfl, DGet.k (k := kI i) (s5 _ _ hb), _, rfl, ?_⟩
        rw [tb.val kI_inj]
        by_cases h2 : i ∈ le
        · rw [decide_eq_true h2]
          exact iteF (hB (by simp [h2]) _ (Same.refl _))
        · rw [decide_eq_false h2]
          exact iteT ⟨_, rfl, hA (by simp [h1, h2]) _ _ (Same.refl _) rfl⟩
      · rw [decide_eq_false h1]
        exact iteF (iteF (hB (by simp [h1]) _ (Same.refl _)))
    · intro out H5 s5 e al
      rw [al.eq] at e
      refine q H5 L _ _ (s1.trans s5) R ?_
      rw [e]
      unfold outs
      rw [List.map_id']
      rfl
end
end Pw
end
section
set_option maxRecDepth 100000
set_option maxHeartbeats 4000000
/-! The walk: Flow.__init__. -/
namespace Pw
open PySem PySem.Spec PyProof.Rows L2
open Lat (un)
section
variable {P : Program} {w : World} {K : PySem.W.Frag} {mg : Str → Option Value} {base : Heap}
/-- a flow as it stands when all items are through -/
def FlowAt (K : PySem.W.Frag) (H : Hp) (f : Addr) (n : Nat) (lk : Nat → List Nat) (bar : Nat → Nat → Bool) : Prop := ∃ F m g, FIns K H f F n lk ∧ f ∉ F.own ∧ Arr H F n (un m) (un g) m g ∧ Lat.Match (List.range n) bar m g ∧ ∃ L R : Nat → Prop, Lat.Closed (List.range n) bar g L R ∧ ∀ i ∈ List.range n, m i = none → L i
/-- as many new dicts -/
theorem dicts_lc {s0 s1 s3 s4 : Option V} {aW : Addr} {xs : List V} {H : Hp} {Q : VK} (hW : H aW = some (.lst xs)) (hn : xs.length ≤ 12)
    (hq : ∀ (D : Addr) (ds : List Addr) (H' : Hp), H D = none → D ∉ ds → ds.length = xs.length → ds.Nodup → (∀ d ∈ ds, H d = none ∧ H' d = some (.dK [])) → H' D = some (.lst (ds.map V.ref)) → Same H H' → Q (.ref D) H') :
    tLc (iList K (tVar 2)) (gName 4) tYes tDNewK [4] [s0, s1, some (.ref aW), s3, s4] H Q := by
  refine ⟨_, rfl, aW, rfl, ⟨_, .of hW⟩, fun D hD => ?_⟩
  have hWD : aW ≠ D := fun z => by rw [← z, hW] at hD; cases hD
  refine walk_gen (n := xs.length) walk_list (fun i H' => ∃ ds : List Addr, D ∉ ds ∧ ds.length = i ∧ ds.Nodup ∧ (∀ d ∈ ds, H d = none ∧ H' d = some (.dK [])) ∧ H' D = some (.lst (ds.map V.ref)) ∧ Same H H') ⟨[], by simp, rfl, List.nodup_nil, nofun, upd_same, Same.new hD⟩ (fun i H' _ h => by obtain ⟨_, _, _, _, _, _, s'⟩ := h; exact .of (s' _ _ hW)) ?_ ?_
  · rintro i x _ H2 hi ⟨ds, d1, d2, d3, d4, d5, d6⟩ ⟨rfl, hx⟩
    refine ⟨rfl, yes fun p hp => ?_⟩
    have hpD : p ≠ D := fun z => by rw [z, d5] at hp; cases hp
    have hpd : p ∉ ds := fun h => by rw [(d4 p h).2] at hp; cases hp
    have hpn : H p = none := Pw.Same.nn d6 hp
    refine ⟨_, (by rw [upd_ne (Ne.symm hpD)]; exact d5), (by rw [List.length_map, d2, sizeLine_eq]; omega), ds ++ [p], fun h => ?_, (by rw [List.length_append, d2]; rfl), nd_snoc d3 hpd, fun d hd => ?_, (by rw [upd_same, List.map_append]; rfl), Pw.Same.skip (Pw.Same.skip d6 hpn) hD⟩
    · rcases List.mem_append.mp h with h | h
      · exact d1 h
      · exact hpD (List.mem_singleton.mp h).symm
    · rcases List.mem_append.mp hd with h | h
      · have hdD : d ≠ D := fun z => d1 (z ▸ h)
        have hdp : d ≠ p := fun z => hpd (z ▸ h)
        exact ⟨(d4 d h).1, by rw [upd_ne hdD, upd_ne hdp]; exact (d4 d h).2⟩
      · rw [List.mem_singleton.mp h]
        exact ⟨hpn, by rw [upd_ne hpD, upd_same]⟩
  · rintro H2 ⟨ds, d1, d2, d3, d4, d5, d6⟩
    exact hq D ds H2 hD d1 d2 d3 d4 d5 d6
def spFlowInit (K : PySem.W.Frag) : Sp := fun vs H Q _ => ∃ (x aK aW dx : Addr) (ls : List Addr) (n : Nat) (lk : Nat → List Nat) (bar : Nat → Nat → Bool), vs = [.ref x, .ref aK, .ref aW] ∧ H x = some (.ins (He.ga K "Flow") dx []) ∧ ls.length = n ∧ H aK = some (.lst (ls.map V.ref)) ∧
  (∀ (i : Nat) (d : Addr), ls[i]? = some d → H d = some (.lst ((lk i).map fun j => V.int (j : Nat)))) ∧ H aW = some (.lst ((List.range n).map fun _ => V.int 1)) ∧ n ≤ 12 ∧
  (∀ i, i < n → ∀ j, j ∈ lk i ↔ j < n ∧ bar i j = true) ∧ (∀ i, i < n → (lk i).length ≤ 12) ∧ ∀ H', SameX x H H' → FlowAt K H' x n lk bar → Q .non H'
abbrev n_finit : List Str := ["self", "links", "weights", "item", "weight"]
theorem sc_finit : FnScope n_finit ["self", "links", "weights"] (defScope s_Flow_init) := ⟨rfl, rfl, rfl, by decide +kernel, rfl, by decide +kernel, by decide +kernel⟩
theorem ok_finit (T : Tx K mg) : Pr P w K mg base 4 (He.ma K (He.ga K "Flow") "__init__") (spFlowInit K) := by
  obtain ⟨fd, F0⟩ := T.f_Flow_init
  refine pr_of (fn_t F0 sc_finit (fun _ _ _ _ _ _ us hl => match us, hl with | [_, _, _], _ => rfl) (fun vs H Q E h => ?_) fun cdv A outer s H vs Q E hr h => ?_)
  · obtain ⟨x, aK, aW, dx, ls, n, lk, bar, rfl, _⟩ := h
    rfl
  · obtain ⟨x, aK, aW, dx, ls, n, lk, bar, rfl, hx, hls, hK, hlk', hW, hn, hlk, hlk12, q⟩ := h
    have hu := hu_of hr
    refine ⟨_, pss_cons (ps_fld (pv 0) (pv 1) rfl)
      (pss_cons (ps_fld (pv 0) (pe_callTy call_list_of (by rfl) T.b_list (by decide +kernel) (pa_cons (pv 2) pa_nil)) rfl)
      (pss_cons (ps_fld (pv 0) (pe_callTy call_list_of (by rfl) T.b_list (by decide +kernel) (pa_cons (pv 2) pa_nil)) rfl)
      (pss_cons (ps_fld (pv 0) (pe_lc (own := [("weight", 4)]) (g := gName 4) (tt := tYes) (te := tDNewK) rfl sc_finit.nd (pi_list (pv 2)) (blkOk_by (N := n_finit) (sc := defScope s_Flow_init) (by decide +kernel)) (fun _ _ _ _ _ => pg_name (i := 4) sc_finit.nd rfl (Or.inl rfl)) (fun _ _ _ _ _ => pts_nil) (fun _ _ _ _ _ => pe_dnewK)) rfl)
      (pss_cons (ps_fld (pv 0) (pe_lc (own := [("weight", 4)]) (g := gName 4) (tt := tYes) (te := tDNewK) rfl sc_finit.nd (pi_list (pv 2)) (blkOk_by (N := n_finit) (sc := defScope s_Flow_init) (by decide +kernel)) (fun _ _ _ _ _ => pg_name (i := 4) sc_finit.nd rfl (Or.inl rfl)) (fun _ _ _ _ _ => pts_nil) (fun _ _ _ _ _ => pe_dnewK)) rfl)
      (pss_one (ps_for PassesOwn.never rfl (pi_range1 (by rfl) T.b_range (pa_cons (pe_callB call_len_seq (by rfl) T.b_len (by decide +kernel) (pa_cons (pv 1) pa_nil)) pa_nil)) (pg_name (i := 3) sc_finit.nd rfl (.inl rfl))
        (pss_one (ps_while PassesOwn.never (PW.pt (pw_and (pt_cmpR op_gt (pe_ix ix_list (pe_fld (pv 0) rfl) (pv 3) (fun _ _ => rfl)) pe_int (nomark _)) (pw_and1 (pt_val (pm (pv 0) T.cl_Flow T.mt_Flow_push (ok_push T) hr (pa_cons (pv 3) pa_nil))))))
          (pss_one (ps_augS (pe_fld (pv 0) rfl) (pv 3) get_list pe_int ip_sub set_list)))))))))), ?_⟩
    have hn0 : ((List.range n).map fun _ => V.int 1).length = n := by rw [List.length_map, List.length_range]
    refine ⟨_, rfl, _, rfl, x, _, dx, _, rfl, hx, T.cl_Flow, T.na_Flow_links, by simp, ?_⟩
    have xW : aW ≠ x := ne_of hW hx (by intro z; cases z)
    have xK : aK ≠ x := ne_of hK hx (by intro z; cases z)
    have X1 : SameX x H (upd H x (.ins (He.ga K "Flow") dx (putF "links" (.ref aK) []))) := .set
    have x1 : (upd H x (.ins (He.ga K "Flow") dx (putF "links" (.ref aK) []))) x = some (.ins (He.ga K "Flow") dx [(("links" : Str), V.ref aK)]) := upd_same
    generalize upd H x (.ins (He.ga K "Flow") dx (putF "links" (.ref aK) [])) = H1 at X1 x1
    refine ⟨_, rfl, aW, _, rfl, .inl (.of (X1 _ _ xW hW)), fun aL hL => ?_⟩
    have nx : ∀ {G : Hp} {a : Addr}, SameX x H G → a ≠ x → G a = none → H a = none := fun {G a} s ha h => by
      cases e : H a with
      | none => rfl
      | some o => rw [s _ _ ha e] at h; cases h
    have Lx : aL ≠ x := fun z => by rw [z, x1] at hL; cases hL
    have nL := nx X1 Lx hL
    have E1 : SameX x H1 (upd H1 aL (.lst ((List.range n).map fun _ => V.int 1))) := Pw.Same.x (Same.new hL)
    refine ⟨_, rfl, x, _, dx, _, rfl, (by rw [upd_ne (Ne.symm Lx)]; exact x1), T.cl_Flow, T.na_Flow_left, by simp, ?_⟩
    have Y2 : SameX x H1 (upd (upd H1 aL (.lst ((List.range n).map fun _ => V.int 1))) x (.ins (He.ga K "Flow") dx (putF "left" (.ref aL) [(("links" : Str), V.ref aK)]))) := E1.trans .set
    have x2 : (upd (upd H1 aL (.lst ((List.range n).map fun _ => V.int 1))) x (.ins (He.ga K "Flow") dx (putF "left" (.ref aL) [(("links" : Str), V.ref aK)]))) x = some (.ins (He.ga K "Flow") dx [(("links" : Str), V.ref aK), ("left", V.ref aL)]) := upd_same
    have l2 : (upd (upd H1 aL (.lst ((List.range n).map fun _ => V.int 1))) x (.ins (He.ga K "Flow") dx (putF "left" (.ref aL) [(("links" : Str), V.ref aK)]))) aL = some (.lst ((List.range n).map fun _ => V.int 1)) := by rw [upd_ne Lx, upd_same]
    generalize upd (upd H1 aL (.lst ((List.range n).map fun _ => V.int 1))) x (.ins (He.ga K "Flow") dx (putF "left" (.ref aL) [(("links" : Str), V.ref aK)])) = H2 at Y2 x2 l2
    have X2 := X1.trans Y2
    refine ⟨_, rfl, aW, _, rfl, .inl (.of (X2 _ _ xW hW)), fun aR hR => ?_⟩
    have Rx : aR ≠ x := fun z => by rw [z, x2] at hR; cases hR
    have hLR : aL ≠ aR := fun z => by rw [← z, l2] at hR; cases hR
    have nR := nx X2 Rx hR
    have E2 : SameX x H2 (upd H2 aR (.lst ((List.range n).map fun _ => V.int 1))) := Pw.Same.x (Same.new hR)
    refine ⟨_, rfl, x, _, dx, _, rfl, (by rw [upd_ne (Ne.symm Rx)]; exact x2), T.cl_Flow, T.na_Flow_right, by simp, ?_⟩
    have Y3 : SameX x H2 (upd (upd H2 aR (.lst ((List.range n).map fun _ => V.int 1))) x (.ins (He.ga K "Flow") dx (putF "right" (.ref aR) [(("links" : Str), V.ref aK), ("left", V.ref aL)]))) := E2.trans .set
    have x3 : (upd (upd H2 aR (.lst ((List.range n).map fun _ => V.int 1))) x (.ins (He.ga K "Flow") dx (putF "right" (.ref aR) [(("links" : Str), V.ref aK), ("left", V.ref aL)]))) x = some (.ins (He.ga K "Flow") dx [(("links" : Str), V.ref aK), ("left", V.ref aL), ("right", V.ref aR)]) := upd_same
    have r3 : (upd (upd H2 aR (.lst ((List.range n).map fun _ => V.int 1))) x (.ins (He.ga K "Flow") dx (putF "right" (.ref aR) [(("links" : Str), V.ref aK), ("left", V.ref aL)]))) aR = some (.lst ((List.range n).map fun _ => V.int 1)) := by rw [upd_ne Rx, upd_same]
    generalize upd (upd H2 aR (.lst ((List.range n).map fun _ => V.int 1))) x (.ins (He.ga K "Flow") dx (putF "right" (.ref aR) [(("links" : Str), V.ref aK), ("left", V.ref aL)])) = H3 at Y3 x3 r3
    have X3 := X2.trans Y3
    show sFld K (tVar 0) (tLc (iList K (tVar 2)) (gName 4) tYes tDNewK [4]) "amounts" _ [some (.ref x), some (.ref aK), some (.ref aW), none, none] H3
    unfold sFld
    refine dicts_lc (X3 _ _ xW hW) (by rw [hn0]; exact hn) fun DA das H4 hDA hDAd hdal hdan hdaa hDAl s4 => ?_
    have DAx : DA ≠ x := fun z => by rw [z, x3] at hDA; cases hDA
    refine ⟨_, rfl, x, _, dx, _, rfl, s4 _ _ x3, T.cl_Flow, T.na_Flow_amounts, by simp, ?_⟩
    have Y4 : SameX x H3 (upd H4 x (.ins (He.ga K "Flow") dx (putF "amounts" (.ref DA) [(("links" : Str), V.ref aK), ("left", V.ref aL), ("right", V.ref aR)]))) := (Pw.Same.x s4).trans .set
    have x4 : (upd H4 x (.ins (He.ga K "Flow") dx (putF "amounts" (.ref DA) [(("links" : Str), V.ref aK), ("left", V.ref aL), ("right", V.ref aR)]))) x = some (.ins (He.ga K "Flow") dx [(("links" : Str), V.ref aK), ("left", V.ref aL), ("right", V.ref aR), ("amounts", V.ref DA)]) := upd_same
    have dax : ∀ d ∈ das, d ≠ x := fun d hd z => by have := (hdaa d hd).1; rw [z, x3] at this; cases this
    have A4 : (upd H4 x (.ins (He.ga K "Flow") dx (putF "amounts" (.ref DA) [(("links" : Str), V.ref aK), ("left", V.ref aL), ("right", V.ref aR)]))) DA = some (.lst (das.map V.ref)) := by rw [upd_ne DAx]; exact hDAl
    have d4 : ∀ d ∈ das, (upd H4 x (.ins (He.ga K "Flow") dx (putF "amounts" (.ref DA) [(("links" : Str), V.ref aK), ("left", V.ref aL), ("right", V.ref aR)]))) d = some (.dK []) := fun d hd => by rw [upd_ne (dax d hd)]; exact (hdaa d hd).2
    generalize upd H4 x (.ins (He.ga K "Flow") dx (putF "amounts" (.ref DA) [(("links" : Str), V.ref aK), ("left", V.ref aL), ("right", V.ref aR)])) = H5 at Y4 x4 A4 d4
    have X5 := X3.trans Y4
    show sFld K (tVar 0) (tLc (iList K (tVar 2)) (gName 4) tYes tDNewK [4]) "givers" _ [some (.ref x), some (.ref aK), some (.ref aW), none, none] H5
    unfold sFld
    refine dicts_lc (X5 _ _ xW hW) (by rw [hn0]; exact hn) fun DG dgs H6 hDG hDGd hdgl hdgn hdga hDGl s6 => ?_
    have DGx : DG ≠ x := fun z => by rw [z, x4] at hDG; cases hDG
    refine ⟨_, rfl, x, _, dx, _, rfl, s6 _ _ x4, T.cl_Flow, T.na_Flow_givers, by simp, ?_⟩
    have Y6 : SameX x H5 (upd H6 x (.ins (He.ga K "Flow") dx (putF "givers" (.ref DG) [(("links" : Str), V.ref aK), ("left", V.ref aL), ("right", V.ref aR), ("amounts", V.ref DA)]))) := (Pw.Same.x s6).trans .set
    have x7 : (upd H6 x (.ins (He.ga K "Flow") dx (putF "givers" (.ref DG) [(("links" : Str), V.ref aK), ("left", V.ref aL), ("right", V.ref aR), ("amounts", V.ref DA)]))) x = some (.ins (He.ga K "Flow") dx [(("links" : Str), V.ref aK), ("left", V.ref aL), ("right", V.ref aR), ("amounts", V.ref DA), ("givers", V.ref DG)]) := upd_same
    have dgx : ∀ d ∈ dgs, d ≠ x := fun d hd z => by have := (hdga d hd).1; rw [z, x4] at this; cases this
    have G7 : (upd H6 x (.ins (He.ga K "Flow") dx (putF "givers" (.ref DG) [(("links" : Str), V.ref aK), ("left", V.ref aL), ("right", V.ref aR), ("amounts", V.ref DA)]))) DG = some (.lst (dgs.map V.ref)) := by rw [upd_ne DGx]; exact hDGl
    have d7 : ∀ d ∈ dgs, (upd H6 x (.ins (He.ga K "Flow") dx (putF "givers" (.ref DG) [(("links" : Str), V.ref aK), ("left", V.ref aL), ("right", V.ref aR), ("amounts", V.ref DA)]))) d = some (.dK []) := fun d hd => by rw [upd_ne (dgx d hd)]; exact (hdga d hd).2
    generalize upd H6 x (.ins (He.ga K "Flow") dx (putF "givers" (.ref DG) [(("links" : Str), V.ref aK), ("left", V.ref aL), ("right", V.ref aR), ("amounts", V.ref DA)])) = H7 at Y6 x7 G7 d7
    have X7 := X5.trans Y6
    have L3 := Y3 _ _ Lx l2
    have L5 := Y4 _ _ Lx L3
    have R5 := Y4 _ _ Rx r3
    rw [hn0] at hdal hdgl
    have own : ∀ d ∈ (Fl.own ⟨aL, aR, DA, DG, das, dgs⟩), H d = none ∧ d ≠ x := fun d hd => by
      rcases List.mem_cons.mp hd with rfl | hd
      · exact ⟨nL, Lx⟩
      rcases List.mem_cons.mp hd with rfl | hd
      · exact ⟨nR, Rx⟩
      rcases List.mem_append.mp hd with hd | hd
      · exact ⟨nx X3 (dax d hd) (hdaa d hd).1, dax d hd⟩
      · exact ⟨nx X5 (dgx d hd) (hdga d hd).1, dgx d hd⟩
    have notown : ∀ {b : Addr} {o : HO}, H b = some o → b ∉ (Fl.own ⟨aL, aR, DA, DG, das, dgs⟩) := fun {b o} e h => by rw [(own b h).1] at e; cases e
    have hDAo : DA ∉ (Fl.own ⟨aL, aR, DA, DG, das, dgs⟩) := fun hd => by
      rcases List.mem_cons.mp hd with rfl | hd
      · rw [L3] at hDA; cases hDA
      rcases List.mem_cons.mp hd with rfl | hd
      · rw [r3] at hDA; cases hDA
      rcases List.mem_append.mp hd with hd | hd
      · exact hDAd hd
      · have := (hdga DA hd).1; rw [A4] at this; cases this
    have hDGo : DG ∉ (Fl.own ⟨aL, aR, DA, DG, das, dgs⟩) := fun hd => by
      rcases List.mem_cons.mp hd with rfl | hd
      · rw [L5] at hDG; cases hDG
      rcases List.mem_cons.mp hd with rfl | hd
      · rw [R5] at hDG; cases hDG
      rcases List.mem_append.mp hd with hd | hd
      · rw [d4 DG hd] at hDG; cases hDG
      · exact hDGd hd
    have fok : FlOk ⟨aL, aR, DA, DG, das, dgs⟩ n := ⟨hdal, hdgl, List.nodup_append.mpr ⟨hdan, hdgn, fun a ha b hb z => by
      have := (hdga b hb).1
      rw [← z, d4 a ha] at this
      cases this⟩, hLR⟩
    have hxo : x ∉ (Fl.own ⟨aL, aR, DA, DG, das, dgs⟩) := fun h => (own x h).2 rfl
    have h7k := X7 _ _ xK hK
    have h7l : ∀ (i : Nat) (d : Addr), ls[i]? = some d → H7 d = some (.lst ((lk i).map fun j => V.int (j : Nat))) := fun i d hd => X7 _ _ (ne_of (hlk' i d hd) hx (by intro z; cases z)) (hlk' i d hd)
    have FI : FIns K H7 x ⟨aL, aR, DA, DG, das, dgs⟩ n lk := ⟨⟨dx, aK, x7, ls, hls, h7k, h7l⟩, Y6 _ _ DAx A4, G7, fok, ⟨dx, aK, _, ls, x7, rfl, h7k, notown hK, hDAo, hDGo, fun d hd => by
      obtain ⟨i, hi⟩ := List.mem_iff_getElem?.mp hd
      exact notown (hlk' i d hi)⟩⟩
    have AR : Arr H7 ⟨aL, aR, DA, DG, das, dgs⟩ n (fun _ => true) (un (fun _ => none)) (fun _ => none) (fun _ => none) := ⟨Y6 _ _ Lx L5, Y6 _ _ Rx R5, fun i d hd => Y6 _ _ (dax d (List.mem_of_getElem? hd)) (d4 d (List.mem_of_getElem? hd)), fun i d hd => d7 d (List.mem_of_getElem? hd)⟩
    generalize (⟨aL, aR, DA, DG, das, dgs⟩ : Fl) = F at FI AR own hxo fok
    have fin : ∀ H', SameO F H7 H' → SameX x H H' := fun H' s b o hb e => s _ _ (fun h => by rw [(own b h).1] at e; cases e) (X7 _ _ hb e)
    refine ⟨_, rfl, aK, _, rfl, .inl (.of h7k), _, rfl, by omega, by rw [List.length_map, hls]; omega, ?_⟩
    rw [List.length_map, hls, Int.toNat_natCast]
    refine for_it (n := n) walk_range (fun i σ' H' => ∃ x3 lf m g, σ' = [some (.ref x), some (.ref aK), some (.ref aW), x3, none] ∧ SameO F H7 H' ∧ Arr H' F n lf (un g) m g ∧ (∀ j, j < n → lf j = if j < i then un m j else true) ∧ Lat.Sofar (List.range n) bar m g (fun j => j < i) ∧ ∀ j, i ≤ j → j < n → m j = none)
      ⟨none, fun _ => true, _, _, rfl, .refl _ _, AR, fun j _ => rfl, .start (fun i _ h => absurd h (Nat.not_lt_zero _)), fun _ _ _ => rfl⟩ (fun _ _ _ _ _ => trivial) ?_ ?_
    · rintro i v σ' _ H8 hi ⟨x3, lf, m, g, rfl, s8, A8, hlf, SF, hmn⟩ ⟨rfl, rfl⟩
      rw [show (fun i : Nat => V.int (0 + (i : Int))) i = V.int (i : Nat) from congrArg V.int (Int.zero_add _)]
      refine ⟨fun μ σ' H' => ∃ lf m g, σ' = [some (.ref x), some (.ref aK), some (.ref aW), some (.int (i : Nat)), none] ∧ SameO F H7 H' ∧ Arr H' F n lf (un g) m g ∧ (∀ j, j < n → j ≠ i → lf j = if j < i then un m j else true) ∧ (∀ j, i + 1 ≤ j → j < n → m j = none) ∧
        ((μ = 1 ∧ lf i = true ∧ m i = none ∧ Lat.Sofar (List.range n) bar m g (fun j => j < i)) ∨ (μ = 0 ∧ lf i = false ∧ m i ≠ none ∧ Lat.Sofar (List.range n) bar m g (fun j => j < i + 1))),
        ⟨1, lf, m, g, rfl, s8, A8, fun j hj _ => hlf j hj, fun j h1 h2 => hmn j (by omega) h2, .inl ⟨rfl, (by rw [hlf i hi, if_neg (Nat.lt_irrefl _)]), hmn i (Nat.le_refl _) hi, SF⟩⟩, ?_⟩
      clear hlf SF hmn A8 s8
      rintro μ σ' H9 ⟨lf, m, g, rfl, s9, A9, hlf, hmn, h⟩
      have FI9 := FI.keepO s9 hxo
      obtain ⟨dx9, aK9, hf9, _⟩ := FI9.ins
      have e9 := atI_nat (range_at hi fun i => b01 (lf i))
      rcases h with ⟨rfl, hl, hm, SF⟩ | ⟨rfl, hl, hm, SF⟩
      · rw [hl] at e9
        refine ⟨_, rfl, x, _, dx9, _, _, rfl, hf9, T.cl_Flow, T.na_Flow_left, rfl, _, rfl, F.aL, _, _, _, rfl, rfl, .of A9.left, e9, _, _, rfl, rfl, _, rfl, ?_⟩
        refine iteT ⟨_, rfl, x, dx9, _, rfl, hf9, rfl, _, rfl, x, F, n, lk, lf, bar, m, g, i, rfl, FI9, hxo, A9, hn, hlk, hlk12, SF.mt, hi, hm, ?_, ?_⟩
        · rintro H10 m1 g1 s10 A10 ⟨rgt, TT⟩
          have FI10 := FI9.keepO s10 hxo
          obtain ⟨dx10, aK10, hf10, _⟩ := FI10.ins
          refine ⟨true, rfl, iteT ⟨fun σ' H' => ∃ lf m g, σ' = [some (.ref x), some (.ref aK), some (.ref aW), some (.int (i : Nat)), none] ∧ SameO F H7 H' ∧ Arr H' F n lf (un g) m g ∧ (∀ j, j < n → j ≠ i → lf j = if j < i then un m j else true) ∧ (∀ j, i + 1 ≤ j → j < n → m j = none) ∧
            ((0 = 1 ∧ lf i = true ∧ m i = none ∧ Lat.Sofar (List.range n) bar m g (fun j => j < i)) ∨ (0 = 0 ∧ lf i = false ∧ m i ≠ none ∧ Lat.Sofar (List.range n) bar m g (fun j => j < i + 1))), fun σ' H' h => ⟨0, Nat.zero_lt_one, h⟩, ?_⟩⟩
          refine ⟨_, rfl, x, _, dx10, _, _, rfl, hf10, T.cl_Flow, T.na_Flow_left, rfl, _, rfl, F.aL, _, i, _, rfl, rfl, .of A10.left, range_at hi _, ?_⟩
          rw [hl]
          refine ⟨_, _, rfl, rfl, F.aL, _, _, i, rfl, rfl, A10.left, by rw [List.length_map, List.length_range]; exact ixN_nat hi, ?_⟩
          refine ⟨fun j => if j = i then false else lf j, m1, g1, rfl, (s9.trans s10).trans (.set List.mem_cons_self), ?_, fun j hj hne => ?_, fun j h1 h2 => ?_, .inr ⟨rfl, if_pos rfl, fun e => ((TT.um i (List.mem_range.mpr hi)).mp e).2 rfl, SF.turned TT fun j hj => by omega⟩⟩
          · show Arr (upd H10 F.aL (.lst ((List.map _ _).set i (b01 false)))) F n _ _ m1 g1
            rw [range_set hi]
            refine ⟨upd_same, by rw [upd_ne (Ne.symm fok.lr)]; exact A10.right, fun j d hd => ?_, fun j d hd => ?_⟩
            · rw [upd_ne (ne_of (A10.am j d hd) A10.left (by intro z; cases z))]; exact A10.am j d hd
            · rw [upd_ne (ne_of (A10.gi j d hd) A10.left (by intro z; cases z))]; exact A10.gi j d hd
          · show (if j = i then false else lf j) = _
            rw [if_neg hne, hlf j hj hne]
            by_cases z : j < i
            · rw [if_pos z, if_pos z, Bool.eq_iff_iff, Lat.un_iff, Lat.un_iff, TT.um j (List.mem_range.mpr hj)]
              exact ⟨fun h => ⟨h, hne⟩, fun h => h.1⟩
            · rw [if_neg z, if_neg z]
          · exact (TT.um j (List.mem_range.mpr h2)).mpr ⟨hmn j h1 h2, by omega⟩
        · rintro H10 L R s10 A10 C l
          refine ⟨false, rfl, iteF ⟨_, lf, m, g, rfl, s9.trans s10, A10, fun j hj => ?_, SF.free C l fun j hj => by omega, hmn⟩⟩
          by_cases z : j = i
          · rw [z, if_pos (Nat.lt_succ_self _), hl]
            exact (Lat.un_iff.mpr hm).symm
          · rw [hlf j hj z]
            by_cases z2 : j < i
            · rw [if_pos z2, if_pos (by omega)]
            · rw [if_neg z2, if_neg (by omega)]
      · rw [hl] at e9
        refine ⟨_, rfl, x, _, dx9, _, _, rfl, hf9, T.cl_Flow, T.na_Flow_left, rfl, _, rfl, F.aL, _, _, _, rfl, rfl, .of A9.left, e9, _, _, rfl, rfl, _, rfl, ?_⟩
        refine iteF (iteF ⟨_, lf, m, g, rfl, s9, A9, fun j hj => ?_, SF, hmn⟩)
        by_cases z : j = i
        · rw [z, if_pos (Nat.lt_succ_self _), hl]
          cases q : un m i with
          | false => rfl
          | true => exact absurd (Lat.un_iff.mp q) hm
        · rw [hlf j hj z]
          by_cases z2 : j < i
          · rw [if_pos z2, if_pos (by omega)]
          · rw [if_neg z2, if_neg (by omega)]
    · rintro σ' H8 ⟨x3, lf, m, g, rfl, s8, A8, hlf, SF, hmn⟩
      obtain ⟨L, R, C, hL⟩ := SF.cov
      refine q H8 (fin H8 s8) ⟨F, m, g, FI.keepO s8 hxo, hxo, ⟨?_, A8.right, A8.am, A8.gi⟩, SF.mt, L, R, C, fun i hi e => hL i hi (List.mem_range.mp hi) e⟩
      rw [A8.left]
      congr 2
      apply List.map_congr_left
      intro i hi
      rw [hlf i (List.mem_range.mp hi), if_pos (List.mem_range.mp hi)]
end
end Pw
end
section
set_option maxRecDepth 100000
set_option maxHeartbeats 4000000
/-! The walk: widths. -/
namespace Pw
open PySem PySem.Spec PyProof.Rows L2
section
variable {P : Program} {w : World} {K : PySem.W.Frag} {mg : Str → Option Value} {base : Heap}
/-- the i-th of the copies by their places, and which earlier ones it bars -/
def cpN (cs : List Cpy) (i : Nat) : Cpy := cs.getD i (Str.empty, 0)
noncomputable def barN (rows : List Str) (nd : Str → List Str) (cs : List Cpy) (i j : Nat) : Bool := decide (j < i) && bars rows nd (cpN cs i) (cpN cs j)
noncomputable def lkN (rows : List Str) (nd : Str → List Str) (cs : List Cpy) (i : Nat) : List Nat := (List.range i).filter (barN rows nd cs i)
def spLinks (K : PySem.W.Frag) : Sp := fun vs H Q _ => ∃ (p c : Addr) (rows : List Str) (nd : Str → List Str) (us : List V) (cs : List Cpy), vs = [.ref p, .ref c] ∧ Sh rows nd ∧ SheetAt K H p rows nd ∧ H c = some (.lst us) ∧ All2 (fun v c => PairV v c H) us cs ∧ (∀ c ∈ cs, c.1 ∈ rows) ∧ cs.length ≤ 12 ∧
  ∀ H' D (ls : List Addr), Same H H' → H' D = some (.lst (ls.map V.ref)) → ls.length = cs.length → (∀ (i : Nat) (d : Addr), ls[i]? = some d → H' d = some (.lst ((lkN rows nd cs i).map fun j => V.int (j : Nat)))) → Q (.ref D) H'
abbrev n_links : List Str := ["sheet", "copies", "below", "order", "found", "number", "one", "k"]
theorem sc_links : FnScope n_links ["sheet", "copies"] (defScope s_links_of) := ⟨rfl, rfl, rfl, by decide +kernel, rfl, by decide +kernel, by decide +kernel⟩
theorem ok_links (T : Tx K mg) : Pr P w K mg base 4 (He.ga K "links_of") (spLinks K) := by
  obtain ⟨fd, F0⟩ := T.f_links_of
  obtain ⟨_, F3⟩ := T.f_closure
  obtain ⟨_, F4⟩ := T.f_is_bar
  refine pr_of (fn_t F0 sc_links (fun _ _ _ _ _ _ us hl => match us, hl with | [_, _], _ => rfl) (fun vs H Q E h => ?_) fun cdv A outer s H vs Q E hr h => ?_)
  · obtain ⟨p, c, rows, nd, us, cs, rfl, _⟩ := h
    rfl
  · obtain ⟨p, c, rows, nd, us, cs, rfl, S, hs, hc, al, hcr, hle, q⟩ := h
    have hu := hu_of hr
    refine ⟨_, pss_cons (ps_set (i := 2) sc_links.nd rfl (Or.inr rfl) (pc (ok_closure T) hr F3.kp T.g_closure (pa_cons (pv 0) pa_nil)))
      (pss_cons (ps_set (i := 3) sc_links.nd rfl (Or.inr rfl) (pe_fld (pv 0) rfl))
      (pss_cons (ps_set (i := 4) sc_links.nd rfl (Or.inl rfl) (pe_lst pa_nil))
      (pss_cons (ps_for PassesOwn.never rfl (pi_enum (by rfl) T.b_enumerate (pa_cons (pv 1) pa_nil)) (pg_tup rfl (pgs_cons (pg_name (i := 5) sc_links.nd rfl (Or.inl rfl)) (pgs_cons (pg_name (i := 6) sc_links.nd rfl (Or.inr rfl)) pgs_nil)))
        (pss_one (ps_expr (pe_bm PySem.F.plainAttrs_list PySem.F.slot_list_append PySem.F.type_list_append mt_append (pv 4) (pa_cons
          (pe_lc (own := [("k", 7)]) (g := gName 7) (tt := tB (tCl spIsBar (tCons (tVar 3) (tCons (tVar 2) (tCons (tVar 6) (tCons (tOp (rIxL K) (tVar 1) (tVar 7)) tNil)))))) (te := tVar 7) rfl sc_links.nd (pi_range1 (by rfl) T.b_range (pa_cons (pv 5) pa_nil)) (blkOk_by (N := n_links) (sc := defScope s_links_of) (by decide +kernel))
            (fun _ _ _ _ _ => pg_name (i := 7) sc_links.nd rfl (Or.inl rfl)) (fun _ _ _ _ _ => pts_one (pt_val (pc (ok_is_bar T) (hr.mono (by decide)) F4.kp T.g_is_bar (pa_cons (pv 3) (pa_cons (pv 2) (pa_cons (pv 6) (pa_cons (pe_ix ix_list (pv 1) (pv 7) (fun _ _ => rfl)) pa_nil))))))) (fun _ _ _ _ _ => pv 7)) pa_nil)))))
      (pss_one (ps_ret (pv 4)))))), ?_⟩
    have hlen := al.len
    refine ⟨_, rfl, p, rows, nd, rfl, S, hs.lite, fun B H1 s1 hB hb1 => ?_⟩
    obtain ⟨dx, aN, aD, aO, z, hp, hN, hM, hO⟩ := hs.same s1
    refine ⟨_, rfl, p, _, dx, _, _, rfl, hp, T.cl_Sheet, T.na_Sheet_order, rfl, ?_⟩
    refine ⟨(by rw [sizeLine_eq]; simp only [List.length_nil]; omega), fun D hD => ?_⟩
    have hc1 := s1 _ _ hc
    have s2 : Same H1 (upd H1 D (.lst [])) := Same.new hD
    refine ⟨_, rfl, c, us, rfl, .of (s2 _ _ hc1), ?_⟩
    refine for_it (n := us.length) walk_enum (fun i σ' H' => ∃ (ls : List Addr) (x5 x6 : Option V), σ' = [some (.ref p), some (.ref c), some (.ref B), some (.ref aO), some (.ref D), x5, x6, none] ∧ H' D = some (.lst (ls.map V.ref)) ∧ ls.length = i ∧
      (∀ (j : Nat) (d : Addr), ls[j]? = some d → d ≠ D ∧ H' d = some (.lst ((lkN rows nd cs j).map fun j => V.int (j : Nat)))) ∧ Same H1 H') ⟨[], none, none, rfl, upd_same, rfl, fun j d h => by simp at h, s2⟩ (fun i σ' H' _ h => by obtain ⟨_, _, _, _, _, _, _, s'⟩ := h; exact .of (s' _ _ hc1)) ?_ ?_
    · rintro i x σ' H3 H4 hi ⟨ls, x5, x6, rfl, hD3, hl, hall, s3⟩ ⟨Tn, x1, y1, rfl, hTn, rfl, hx1, hy1⟩
      cases hx1
      have hy2 : us[i]? = some y1 := hy1
      obtain ⟨ci, hci, hpi⟩ := al.get hy2
      have sT : Same H3 (upd H3 Tn (.tup [.int (i : Nat), y1])) := Same.new hTn
      have s4 := s3.trans sT
      show gTup K 2 (gCons (gName 5) (gCons (gName 6) gNil)) _ _ (upd H3 Tn (.tup [.int (i : Nat), y1])) _
      refine ⟨Tn, _, rfl, .of upd_same, rfl, _, _, rfl, _, _, rfl, rfl, ?_⟩
      generalize upd H3 Tn (.tup [.int (i : Nat), y1]) = H4 at s4 sT
      refine ⟨_, rfl, .inl ⟨rfl, _, .of (sT _ _ hD3)⟩, _, rfl, (i : Int), rfl, by omega, by omega, ?_⟩
      rw [Int.toNat_natCast]
      intro L hL
      have hLD : L ≠ D := fun z => by rw [z, sT _ _ hD3] at hL; cases hL
      refine lc_gr (Mono.eq fun i : Nat => V.int (i : Nat)) walk_range hL (n := i) (by rw [sizeLine_eq]; omega) (barN rows nd cs i) (fun i => i) (fun _ _ => trivial) (fun _ _ _ _ _ y => by rw [y.1]; exact Same.refl _) ?_ ?_
      · rintro j x _ H5 A' B' hj s5 _ ⟨rfl, rfl⟩ hA hB'
        rw [show (fun i : Nat => V.int (0 + (i : Int))) j = V.int (j : Nat) from congrArg V.int (Int.zero_add _)]
        have hvj : us[j]? = some us[j] := List.getElem?_eq_getElem (by omega)
        obtain ⟨cj, hcj, hpj⟩ := al.get hvj
        have s15 := (s4.trans s5)
        refine ⟨rfl, _, rfl, _, rfl, _, rfl, _, rfl, _, rfl, c, us, _, _, rfl, rfl, .of (s15 _ _ hc1), atI_nat hvj, aO, B, y1, _, ci, cj, rows, nd, rfl, hpi.same (s1.trans s15), hpj.same (s1.trans s15), s15 _ _ hO, hb1.same s15, hcr ci (List.mem_of_getElem? hci), hcr cj (List.mem_of_getElem? hcj), fun H6 s6 => ⟨_, rfl, ?_⟩⟩
        have hk : barN rows nd cs i j = bars rows nd ci cj := by
          unfold barN cpN
          rw [List.getD_eq_getElem?_getD, List.getD_eq_getElem?_getD, hci, hcj, decide_eq_true hj]
          rfl
        cases hb : bars rows nd ci cj with
        | true => exact iteT ⟨_, rfl, hA (hk.trans hb) _ _ s6 rfl⟩
        | false => exact iteF (hB' (hk.trans hb) _ s6)
      · intro out H5 s5 e al2
        rw [al2.eq] at e
        have hD5 := s5 _ _ (sT _ _ hD3)
        have e2 : H5 L = some (.lst ((lkN rows nd cs i).map fun j => V.int (j : Nat))) := by
          rw [e]
          unfold outs lkN
          rw [List.map_id']
        refine ⟨D, _, _, rfl, rfl, hD5, (by rw [List.length_map, sizeLine_eq]; omega), ls ++ [L], _, _, rfl, (by rw [upd_same, List.map_append]; rfl), (by rw [List.length_append, hl]; rfl), fun j d hd => ?_, Pw.Same.skip (s4.trans s5) hD⟩
        rcases Nat.lt_or_ge j ls.length with h | h
        · rw [List.getElem?_append_left h] at hd
          obtain ⟨k1, k2⟩ := hall j d hd
          exact ⟨k1, by rw [upd_ne k1]; exact s5 _ _ (sT _ _ k2)⟩
        · rw [List.getElem?_append_right h] at hd
          have hj0 : j - ls.length = 0 := by
            cases hq : j - ls.length with
            | zero => rfl
            | succ q => rw [hq] at hd; simp at hd
          rw [hj0] at hd
          cases hd
          have hji : j = i := by omega
          subst hji
          exact ⟨hLD, by rw [upd_ne hLD]; exact e2⟩
    · rintro σ' H3 ⟨ls, x5, x6, rfl, hD3, hl, hall, s3⟩
      exact ⟨_, rfl, q H3 D ls (s1.trans s3) hD3 (hl.trans hlen) fun i d hd => (hall i d hd).2⟩
end
end Pw
end
section
set_option maxRecDepth 100000
set_option maxHeartbeats 4000000
/-! The walk: widths, flow_of. -/
namespace Pw
open PySem PySem.Spec PyProof.Rows L2
section
variable {P : Program} {w : World} {K : PySem.W.Frag} {mg : Str → Option Value} {base : Heap}
theorem lkN_iff {rows : List Str} {nd : Str → List Str} {cs : List Cpy} {n i : Nat} (hi : i < n) (j : Nat) : j ∈ lkN rows nd cs i ↔ j < n ∧ barN rows nd cs i j = true := by
  unfold lkN
  rw [List.mem_filter, List.mem_range]
  constructor
  · rintro ⟨a, b⟩
    exact ⟨by omega, b⟩
  · rintro ⟨_, b⟩
    refine ⟨?_, b⟩
    unfold barN at b
    rw [Bool.and_eq_true, decide_eq_true_eq] at b
    exact b.1
theorem FlowAt.same {H H' : Hp} {f : Addr} {n : Nat} {lk : Nat → List Nat} {bar : Nat → Nat → Bool} (h : FlowAt K H f n lk bar) (s : Same H H') : FlowAt K H' f n lk bar := by
  obtain ⟨F, m, g, FI, hf, A, M, C⟩ := h
  exact ⟨F, m, g, FI.same s hf, hf, A.same s, M, C⟩
def spFlowOf (K : PySem.W.Frag) : Sp := fun vs H Q _ => ∃ (p : Addr) (rows : List Str) (nd : Str → List Str) (k : Nat), vs = [.ref p, .int k] ∧ Sh rows nd ∧ SheetAt K H p rows nd ∧ Sz rows k ∧
  ∀ H' t c f us, Same H H' → H' t = some (.tup [.ref c, .ref f]) → H' c = some (.lst us) → All2 (fun v c => PairV v c H') us (Lat.allP rows k) → FlowAt K H' f (Lat.allP rows k).length (lkN rows nd (Lat.allP rows k)) (barN rows nd (Lat.allP rows k)) → Q (.ref t) H'
abbrev n_flowof : List Str := ["sheet", "passes", "copies"]
theorem sc_flowof : FnScope n_flowof ["sheet", "passes"] (defScope s_flow_of) := ⟨rfl, rfl, rfl, by decide +kernel, rfl, by decide +kernel, by decide +kernel⟩
theorem ok_flowof (T : Tx K mg) : Pr P w K mg base 6 (He.ga K "flow_of") (spFlowOf K) := by
  obtain ⟨fd, F0⟩ := T.f_flow_of
  obtain ⟨_, F3⟩ := T.f_copies_of
  obtain ⟨_, F4⟩ := T.f_links_of
  refine pr_of (fn_t F0 sc_flowof (fun _ _ _ _ _ _ us hl => match us, hl with | [_, _], _ => rfl) (fun vs H Q E h => ?_) fun cdv A outer s H vs Q E hr h => ?_)
  · obtain ⟨p, rows, nd, k, rfl, _⟩ := h
    rfl
  · obtain ⟨p, rows, nd, k, rfl, S, hs, Z, q⟩ := h
    have hu := hu_of hr
    refine ⟨_, pss_cons (ps_set (i := 2) sc_flowof.nd rfl (Or.inl rfl) (pc (ok_copies_of T) (hr.mono (by decide)) F3.kp T.g_copies_of (pa_cons (pv 0) (pa_cons (pv 1) pa_nil))))
      (pss_one (ps_ret (pe_tup (pa_cons (pv 2) (pa_cons (pn T.mk_Flow (ok_finit T) hr T.g_Flow (pa_cons (pc (ok_links T) (hr.mono (by decide)) F4.kp T.g_links_of (pa_cons (pv 0) (pa_cons (pv 2) pa_nil))) (pa_cons (pe_op op_rep (pe_lst (pa_cons pe_int pa_nil)) (pe_callB call_len_seq (by rfl) T.b_len (by decide +kernel) (pa_cons (pv 2) pa_nil))) pa_nil))) pa_nil))))), ?_⟩
    have hN : (Lat.allP rows k).length ≤ 12 := by rw [Lat.allP_len]; exact Z.rk
    refine ⟨_, rfl, _, rfl, p, rows, nd, k, rfl, hs, Z.k1, Z.rk, Z.k12, S.le, fun c us H1 s1 hcn hc al => ?_⟩
    have hul := al.len
    refine ⟨_, rfl, _, rfl, _, rfl, p, c, rows, nd, us, Lat.allP rows k, rfl, S, hs.same s1, hc, al, fun c hc => (Lat.mem_allP.mp hc).1, hN, fun H2 D ls s2 hD hl hall => ?_⟩
    refine ⟨(by rw [sizeLine_eq]; simp only [List.length_cons, List.length_nil]; omega), fun o ho => ?_⟩
    have s3 : Same H2 (upd H2 o (.lst [.int 1])) := Same.new ho
    have hc3 := s3 _ _ (s2 _ _ hc)
    refine ⟨_, rfl, c, us, rfl, .inl (.of hc3), o, _, [.int 1], rfl, rfl, upd_same, by omega, by omega, (by rw [Int.toNat_natCast, sizeLine_eq]; simp only [List.length_cons, List.length_nil]; omega), fun W hW => ?_⟩
    rw [Int.toNat_natCast]
    have s4 := s3.trans (Same.new (o := .lst (List.replicate us.length [V.int 1]).flatten) hW)
    have hw4 : (upd (upd H2 o (.lst [.int 1])) W (.lst (List.replicate us.length [V.int 1]).flatten)) W = some (.lst ((List.range (Lat.allP rows k).length).map fun _ => V.int 1)) := by
      rw [upd_same, hul]
      congr 2
      generalize (Lat.allP rows k).length = n
      induction n with
      | zero => rfl
      | succ n ih =>
        rw [List.replicate_succ', List.range_succ, List.map_append, List.flatten_append, ih]
        rfl
    generalize upd (upd H2 o (.lst [.int 1])) W (.lst (List.replicate us.length [V.int 1]).flatten) = H4 at s4 hw4
    intro x dx hx hdx hne
    have s5 : Same H4 (upd (upd H4 dx (.own x)) x (.ins (He.ga K "Flow") dx [])) := (Same.new hdx).trans (Same.new (by rw [upd_ne (Ne.symm hne)]; exact hx))
    have s45 := s4.trans s5
    refine ⟨x, D, W, dx, ls, (Lat.allP rows k).length, lkN rows nd (Lat.allP rows k), barN rows nd (Lat.allP rows k), rfl, upd_same, hl, s45 _ _ hD, fun i d hd => s45 _ _ (hall i d hd), s5 _ _ hw4, hN, fun i hi j => lkN_iff hi j, fun i hi => ?_, fun H6 sx FA => ⟨rfl, ?_⟩⟩
    · have := List.length_filter_le (barN rows nd (Lat.allP rows k) i) (List.range i)
      rw [List.length_range] at this
      unfold lkN
      omega
    · have s6 : Same H H6 := fun b ob e => by
        have e4 := (s1.trans s2).trans s4 _ _ e
        exact sx _ _ (fun z => by rw [z, hx] at e4; cases e4) (s5 _ _ e4)
      have s16 : Same H1 H6 := fun b ob e => by
        have e4 := s2.trans s4 _ _ e
        exact sx _ _ (fun z => by rw [z, hx] at e4; cases e4) (s5 _ _ e4)
      refine ⟨(by rw [sizeLine_eq]; simp only [List.length_cons, List.length_nil]; omega), fun t ht => ?_⟩
      have sT := Same.new (o := .tup [V.ref c, .ref x]) ht
      exact q _ t c x us (s6.trans sT) upd_same (sT _ _ (s16 _ _ hc)) (al.mono fun v c h => h.same (s16.trans sT)) (FA.same sT)
end
end Pw
end
section
set_option maxRecDepth 100000
set_option maxHeartbeats 4000000
/-! The walk: fewest_moves, first_keep, last_keep. -/
namespace Pw
open PySem PySem.Spec PyProof.Rows L2
section
variable {P : Program} {w : World} {K : PySem.W.Frag} {mg : Str → Option Value} {base : Heap}
theorem barN_I (rows : List Str) (nd : Str → List Str) (k : Nat) : barN rows nd (Lat.allP rows k) = Lat.barI rows (depB nd) k (Str.empty, 0) := rfl
theorem lkN_len (rows : List Str) (nd : Str → List Str) (cs : List Cpy) (h : cs.length ≤ 12) (i : Nat) (hi : i < cs.length) : (lkN rows nd cs i).length ≤ 12 := by
  have := List.length_filter_le (barN rows nd cs i) (List.range i)
  rw [List.length_range] at this
  unfold lkN
  omega
def spFewest (K : PySem.W.Frag) : Sp := fun vs H Q _ => ∃ (p : Addr) (rows : List Str) (nd : Str → List Str) (k : Nat), vs = [.ref p, .int k] ∧ Sh rows nd ∧ SheetAt K H p rows nd ∧ Sz rows k ∧
  ∀ H' ks, Same H H' → Lat.BestKey rows (depB nd) k ks → Q (.int ((rows.length : Int) - (ks.length : Nat))) H'
abbrev n_fewest : List Str := ["sheet", "passes", "copies", "flow"]
theorem sc_fewest : FnScope n_fewest ["sheet", "passes"] (defScope s_fewest_moves) := ⟨rfl, rfl, rfl, by decide +kernel, rfl, by decide +kernel, by decide +kernel⟩
theorem ok_fewest (T : Tx K mg) : Pr P w K mg base 7 (He.ga K "fewest_moves") (spFewest K) := by
  obtain ⟨fd, F0⟩ := T.f_fewest_moves
  obtain ⟨_, F3⟩ := T.f_flow_of
  refine pr_of (fn_t F0 sc_fewest (fun _ _ _ _ _ _ us hl => match us, hl with | [_, _], _ => rfl) (fun vs H Q E h => ?_) fun cdv A outer s H vs Q E hr h => ?_)
  · obtain ⟨p, rows, nd, k, rfl, _⟩ := h
    rfl
  · obtain ⟨p, rows, nd, k, rfl, S, hs, Z, q⟩ := h
    refine ⟨_, pss_cons (ps_asg (pc (ok_flowof T) hr F3.kp T.g_flow_of (pa_cons (pv 0) (pa_cons (pv 1) pa_nil))) (pg_tup rfl (pgs_cons (pg_name (i := 2) sc_fewest.nd rfl (.inl rfl)) (pgs_cons (pg_name (i := 3) sc_fewest.nd rfl (.inl rfl)) pgs_nil))))
      (pss_one (ps_ret (pe_op op_sub (pe_callB (call_lenC (T.sp_Sheet_len).1 (T.sp_Sheet_len).2 (ok_len T) (hr.mono (by decide))) (by rfl) T.b_len (by decide +kernel) (pa_cons (pv 0) pa_nil))
        (pe_callB call_len_seq (by rfl) T.b_len (by decide +kernel) (pa_cons (pm0 (pv 3) T.cl_Flow T.mt_Flow_first_free (ok_first T) (hr.mono (by decide))) pa_nil))))), ?_⟩
    have hN : (Lat.allP rows k).length ≤ 12 := by rw [Lat.allP_len]; exact Z.rk
    refine ⟨_, rfl, _, rfl, p, rows, nd, k, rfl, S, hs, Z, fun H1 t c f us s1 ht hc al FA => ?_⟩
    show gTup K 2 (gCons (gName 2) (gCons (gName 3) gNil)) _ _ H1 _
    refine ⟨t, _, rfl, .of ht, rfl, _, _, rfl, _, _, rfl, rfl, ?_⟩
    have hs1 := hs.same s1
    obtain ⟨dx, aN, aD, aO, z, e1, _⟩ := id hs1
    obtain ⟨F, m, g, FI, hfo, AR, M, L, R, C, hL⟩ := FA
    obtain ⟨fdx, aK, ls, hf, _⟩ := FI.full
    have hr12 := S.le
    refine ⟨_, rfl, p, dx, _, rfl, e1, ⟨p, rows, nd, rfl, hs1, rows.length, rfl, by omega, ?_⟩⟩
    refine ⟨_, rfl, f, fdx, _, rfl, hf, rfl, ?_⟩
    refine ⟨f, F, _, _, _, _, _, m, g, rfl, FI, hfo, AR, hN, fun i hi j => lkN_iff hi j, lkN_len _ _ _ hN, M, fun _ _ => rfl, fun H2 l D E s2 Re hl => ?_⟩
    refine ⟨l, _, rfl, .inl (.of hl), _, _, rfl, rfl, ?_⟩
    have e : ((List.map (fun i : Nat => V.int (i : Nat)) ((List.range (Lat.allP rows k).length).filter (Lat.firstOf D E))).length) = ((Lat.allC rows k).filter fun c => Lat.firstOf D E (Lat.numOf (Lat.allP rows k) c)).length := by
      rw [List.length_map]
      exact Lat.sel_count S.nodup
    rw [e]
    rw [barN_I] at M C Re
    exact q H2 _ (s1.trans s2) (Lat.first_key S.dp M C hL Re).1
def spFirstK (K : PySem.W.Frag) : Sp := fun vs H Q _ => ∃ (p : Addr) (rows : List Str) (nd : Str → List Str) (k : Nat), vs = [.ref p, .int k] ∧ Sh rows nd ∧ SheetAt K H p rows nd ∧ Sz rows k ∧
  ∀ q H' ks, Same H H' → KeepAt K H' q p rows nd k ks → Lat.BestKey rows (depB nd) k ks → (∀ a, Lat.BestKey rows (depB nd) k a → Lat.EarlierK rows (depB nd) k ks a) → Q (.ref q) H'
abbrev n_fk : List Str := ["sheet", "passes", "copies", "flow", "number"]
theorem sc_fk : FnScope n_fk ["sheet", "passes"] (defScope s_first_keep) := ⟨rfl, rfl, rfl, by decide +kernel, rfl, by decide +kernel, by decide +kernel⟩
theorem ok_fk (T : Tx K mg) : Pr P w K mg base 9 (He.ga K "first_keep") (spFirstK K) := by
  obtain ⟨fd, F0⟩ := T.f_first_keep
  obtain ⟨_, F1⟩ := T.f_need_room
  obtain ⟨_, F3⟩ := T.f_flow_of
  refine pr_of (fn_t F0 sc_fk (fun _ _ _ _ _ _ us hl => match us, hl with | [_, _], _ => rfl) (fun vs H Q E h => ?_) fun cdv A outer s H vs Q E hr h => ?_)
  · obtain ⟨p, rows, nd, k, rfl, _⟩ := h
    rfl
  · obtain ⟨p, rows, nd, k, rfl, S, hs, Z, q⟩ := h
    refine ⟨_, pss_cons (ps_expr (pc (ok_need_room T) (hr.mono (by decide)) F1.kp T.g_need_room (pa_cons (pv 0) (pa_cons (pv 1) pa_nil))))
      (pss_cons (ps_asg (pc (ok_flowof T) (hr.mono (by decide)) F3.kp T.g_flow_of (pa_cons (pv 0) (pa_cons (pv 1) pa_nil))) (pg_tup rfl (pgs_cons (pg_name (i := 2) sc_fk.nd rfl (.inr rfl)) (pgs_cons (pg_name (i := 3) sc_fk.nd rfl (.inl rfl)) pgs_nil))))
      (pss_one (ps_ret (ClX.pe_cmeth (CX := CX0) (E := E0) (pe_glob (v := .ref (He.ga K "Keep")) (by rfl) T.g_Keep rfl) T.cm_Keep_of.1 T.cm_Keep_of.2 (ok_Keep_of T) hr pass0 (pa_cons (pv 0) (pa_cons (pv 1) (pa_cons
          (pe_lc (own := [("number", 4)]) (g := gName 4) (tt := tYes) (te := tOp (rIxL K) (tVar 2) (tVar 4)) rfl sc_fk.nd (pi_list (pm0 (pv 3) T.cl_Flow T.mt_Flow_first_free (ok_first T) (hr.mono (by decide)))) (blkOk_by (N := n_fk) (sc := defScope s_first_keep) (by decide +kernel))
            (fun _ _ _ _ _ => pg_name (i := 4) sc_fk.nd rfl (Or.inl rfl)) (fun _ _ _ _ _ => pts_nil) (fun _ _ _ _ _ => pe_ix ix_list (pv 2) (pv 4) (fun _ _ => rfl))) pa_nil))))))), ?_⟩
    have hN : (Lat.allP rows k).length ≤ 12 := by rw [Lat.allP_len]; exact Z.rk
    have hr12 := S.le
    have hk1 := Z.k1
    have hk12 := Z.k12
    refine ⟨_, rfl, _, rfl, p, rows, nd, k, rfl, hs, by omega, by omega, by omega, Z.rk120, ?_⟩
    refine ⟨_, rfl, _, rfl, p, rows, nd, k, rfl, S, hs, Z, fun H1 t c f us s1 ht hc al FA => ?_⟩
    show gTup K 2 (gCons (gName 2) (gCons (gName 3) gNil)) _ _ H1 _
    refine ⟨t, _, rfl, .of ht, rfl, _, _, rfl, _, _, rfl, rfl, ?_⟩
    have hs1 := hs.same s1
    obtain ⟨F, m, g, FI, hfo, AR, M, L, R, C, hL⟩ := FA
    obtain ⟨fdx, aK, ls, hf, _⟩ := FI.full
    refine ⟨rfl, _, rfl, _, rfl, ?_⟩
    refine ⟨_, rfl, f, fdx, _, rfl, hf, rfl, ?_⟩
    refine ⟨f, F, _, _, _, _, _, m, g, rfl, FI, hfo, AR, hN, fun i hi j => lkN_iff hi j, lkN_len _ _ _ hN, M, fun _ _ => rfl, fun H2 l D E s2 Re hl => ?_⟩
    rw [barN_I] at M C Re
    obtain ⟨BK, BE⟩ := Lat.first_key S.dp M C hL Re
    refine ⟨l, rfl, ⟨_, .of hl⟩, fun G hG => ?_⟩
    have hfl := List.length_filter_le (Lat.firstOf D E) (List.range (Lat.allP rows k).length)
    rw [List.length_range] at hfl
    have hmem : ∀ i ∈ (List.range (Lat.allP rows k).length).filter (Lat.firstOf D E), i < (Lat.allP rows k).length := fun i hi => List.mem_range.mp (List.mem_filter.mp hi).1
    generalize hz : (List.range (Lat.allP rows k).length).filter (Lat.firstOf D E) = zs at hl hfl hmem
    refine lc_gr PairV.mono (walk_list (K := K) (a := l) (xs := zs.map fun i : Nat => V.int (i : Nat))) (g := gName 4) hG (by rw [List.length_map, sizeLine_eq]; omega) (fun _ => true) (fun i => cpN (Lat.allP rows k) (zs.getD i 0)) (fun H9 s9 => .of (s9 _ _ hl)) (fun _ _ _ _ _ y => by rw [y.1]; exact Same.refl _) ?_ ?_
    · rintro i x _ H9 A3 B3 hi s9 _ ⟨rfl, hx⟩ hA _
      rw [List.length_map] at hi
      have hzi : zs[i]? = some zs[i] := List.getElem?_eq_getElem hi
      rw [List.getElem?_map, hzi] at hx
      cases hx
      have hlt := hmem _ (List.mem_of_getElem? hzi)
      have hul := al.len
      have huv : us[zs[i]]? = some us[zs[i]] := List.getElem?_eq_getElem (by omega)
      obtain ⟨ci, hci, hpi⟩ := al.get huv
      have s29 := s2.trans s9
      refine ⟨rfl, yes ⟨_, rfl, _, rfl, c, us, _, _, rfl, rfl, .of (s29 _ _ hc), atI_nat huv, hA rfl _ _ (Same.refl _) ?_⟩⟩
      have e1 : cpN (Lat.allP rows k) (zs.getD i 0) = ci := by
        rw [List.getD_eq_getElem?_getD, hzi]
        unfold cpN
        rw [List.getD_eq_getElem?_getD, Option.getD_some, hci]
        rfl
      rw [e1]
      exact hpi.same s29
    · intro out H9 s9 e9 al9
      rw [outs_all, List.length_map] at al9
      have ek : ((List.range zs.length).map fun i => cpN (Lat.allP rows k) (zs.getD i 0)) = zs.map (cpN (Lat.allP rows k)) := by
        have z := outs_list 0 (fun _ => true) (cpN (Lat.allP rows k)) zs
        rw [outs_all, List.filter_eq_self.mpr (fun _ _ => rfl)] at z
        exact z
      rw [ek] at al9
      have s19 := (s1.trans s2).trans s9
      have ekey : (Lat.allC rows k).filter (Lat.mems (zs.map (cpN (Lat.allP rows k)))) = (Lat.allC rows k).filter fun c => Lat.firstOf D E (Lat.numOf (Lat.allP rows k) c) := by
        rw [← hz]
        exact Lat.sel_key S.nodup
      have hsub : ∀ c ∈ zs.map (cpN (Lat.allP rows k)), c ∈ Lat.allC rows k := fun c hc => by
        rw [← hz] at hc
        exact Lat.mem_CP.mpr (Lat.sel_sub hc)
      have hnd : (zs.map (cpN (Lat.allP rows k))).Nodup := by rw [← hz]; exact Lat.sel_nodup (Lat.allP_nodup S.nodup k)
      have hanti : ∀ a ∈ zs.map (cpN (Lat.allP rows k)), ∀ b ∈ zs.map (cpN (Lat.allP rows k)), bars rows nd a b = false := fun a ha b hb => by
        have ke : ∀ x ∈ zs.map (cpN (Lat.allP rows k)), x ∈ (Lat.allC rows k).filter fun c => Lat.firstOf D E (Lat.numOf (Lat.allP rows k) c) := fun x hx => by
          rw [← ekey]
          exact List.mem_filter.mpr ⟨hsub x hx, Lat.mems_iff.mpr hx⟩
        exact BK.key.bar (ke a ha) (ke b hb)
      refine ⟨p, G, rows, nd, k, out, _, rfl, hs.same s19, S, Z, .inr e9, al9, ⟨hnd, hsub⟩, hanti, fun q' H' s' hk => ?_⟩
      rw [ekey] at hk
      exact q q' H' _ (s19.trans s') hk BK BE
end
end Pw
end
section
set_option maxRecDepth 100000
set_option maxHeartbeats 4000000
/-! The walk: last_keep. -/
namespace Pw
open PySem PySem.Spec PyProof.Rows L2
section
variable {P : Program} {w : World} {K : PySem.W.Frag} {mg : Str → Option Value} {base : Heap}
def spLastK (K : PySem.W.Frag) : Sp := fun vs H Q _ => ∃ (p : Addr) (rows : List Str) (nd : Str → List Str) (k : Nat), vs = [.ref p, .int k] ∧ Sh rows nd ∧ SheetAt K H p rows nd ∧ Sz rows k ∧
  ∀ q H' ks, Same H H' → KeepAt K H' q p rows nd k ks → Lat.BestKey rows (depB nd) k ks → (∀ a, Lat.BestKey rows (depB nd) k a → Lat.EarlierK rows (depB nd) k a ks) → Q (.ref q) H'
abbrev n_lk : List Str := ["sheet", "passes", "copies", "flow", "number"]
theorem sc_lk : FnScope n_lk ["sheet", "passes"] (defScope s_last_keep) := ⟨rfl, rfl, rfl, by decide +kernel, rfl, by decide +kernel, by decide +kernel⟩
theorem ok_lk (T : Tx K mg) : Pr P w K mg base 9 (He.ga K "last_keep") (spLastK K) := by
  obtain ⟨fd, F0⟩ := T.f_last_keep
  obtain ⟨_, F1⟩ := T.f_need_room
  obtain ⟨_, F3⟩ := T.f_flow_of
  refine pr_of (fn_t F0 sc_lk (fun _ _ _ _ _ _ us hl => match us, hl with | [_, _], _ => rfl) (fun vs H Q E h => ?_) fun cdv A outer s H vs Q E hr h => ?_)
  · obtain ⟨p, rows, nd, k, rfl, _⟩ := h
    rfl
  · obtain ⟨p, rows, nd, k, rfl, S, hs, Z, q⟩ := h
    refine ⟨_, pss_cons (ps_expr (pc (ok_need_room T) (hr.mono (by decide)) F1.kp T.g_need_room (pa_cons (pv 0) (pa_cons (pv 1) pa_nil))))
      (pss_cons (ps_asg (pc (ok_flowof T) (hr.mono (by decide)) F3.kp T.g_flow_of (pa_cons (pv 0) (pa_cons (pv 1) pa_nil))) (pg_tup rfl (pgs_cons (pg_name (i := 2) sc_lk.nd rfl (.inr rfl)) (pgs_cons (pg_name (i := 3) sc_lk.nd rfl (.inl rfl)) pgs_nil))))
      (pss_one (ps_ret (ClX.pe_cmeth (CX := CX0) (E := E0) (pe_glob (v := .ref (He.ga K "Keep")) (by rfl) T.g_Keep rfl) T.cm_Keep_of.1 T.cm_Keep_of.2 (ok_Keep_of T) hr pass0 (pa_cons (pv 0) (pa_cons (pv 1) (pa_cons
          (pe_lc (own := [("number", 4)]) (g := gName 4) (tt := tYes) (te := tOp (rIxL K) (tVar 2) (tVar 4)) rfl sc_lk.nd (pi_list (pm0 (pv 3) T.cl_Flow T.mt_Flow_last_free (ok_last T) (hr.mono (by decide)))) (blkOk_by (N := n_lk) (sc := defScope s_last_keep) (by decide +kernel))
            (fun _ _ _ _ _ => pg_name (i := 4) sc_lk.nd rfl (Or.inl rfl)) (fun _ _ _ _ _ => pts_nil) (fun _ _ _ _ _ => pe_ix ix_list (pv 2) (pv 4) (fun _ _ => rfl))) pa_nil))))))), ?_⟩
    have hN : (Lat.allP rows k).length ≤ 12 := by rw [Lat.allP_len]; exact Z.rk
    have hr12 := S.le
    have hk1 := Z.k1
    have hk12 := Z.k12
    refine ⟨_, rfl, _, rfl, p, rows, nd, k, rfl, hs, by omega, by omega, by omega, Z.rk120, ?_⟩
    refine ⟨_, rfl, _, rfl, p, rows, nd, k, rfl, S, hs, Z, fun H1 t c f us s1 ht hc al FA => ?_⟩
    show gTup K 2 (gCons (gName 2) (gCons (gName 3) gNil)) _ _ H1 _
    refine ⟨t, _, rfl, .of ht, rfl, _, _, rfl, _, _, rfl, rfl, ?_⟩
    have hs1 := hs.same s1
    obtain ⟨F, m, g, FI, hfo, AR, M, L, R, C, hL⟩ := FA
    obtain ⟨fdx, aK, ls, hf, _⟩ := FI.full
    refine ⟨rfl, _, rfl, _, rfl, ?_⟩
    refine ⟨_, rfl, f, fdx, _, rfl, hf, rfl, ?_⟩
    refine ⟨f, F, _, _, _, _, _, m, g, rfl, FI, hfo, AR, hN, fun i hi j => lkN_iff hi j, lkN_len _ _ _ hN, M, fun _ _ => rfl, fun H2 l D E s2 Re hl => ?_⟩
    rw [barN_I] at M C Re
    obtain ⟨BK, BE⟩ := Lat.last_key S.dp M C hL Re
    refine ⟨l, rfl, ⟨_, .of hl⟩, fun G hG => ?_⟩
    have hfl := List.length_filter_le (Lat.firstOf D E) (List.range (Lat.allP rows k).length)
    rw [List.length_range] at hfl
    have hmem : ∀ i ∈ (List.range (Lat.allP rows k).length).filter (Lat.firstOf D E), i < (Lat.allP rows k).length := fun i hi => List.mem_range.mp (List.mem_filter.mp hi).1
    generalize hz : (List.range (Lat.allP rows k).length).filter (Lat.firstOf D E) = zs at hl hfl hmem
    refine lc_gr PairV.mono (walk_list (K := K) (a := l) (xs := zs.map fun i : Nat => V.int (i : Nat))) (g := gName 4) hG (by rw [List.length_map, sizeLine_eq]; omega) (fun _ => true) (fun i => cpN (Lat.allP rows k) (zs.getD i 0)) (fun H9 s9 => .of (s9 _ _ hl)) (fun _ _ _ _ _ y => by rw [y.1]; exact Same.refl _) ?_ ?_
    · rintro i x _ H9 A3 B3 hi s9 _ ⟨rfl, hx⟩ hA _
      rw [List.length_map] at hi
      have hzi : zs[i]? = some zs[i] := List.getElem?_eq_getElem hi
      rw [List.getElem?_map, hzi] at hx
      cases hx
      have hlt := hmem _ (List.mem_of_getElem? hzi)
      have hul := al.len
      have huv : us[zs[i]]? = some us[zs[i]] := List.getElem?_eq_getElem (by omega)
      obtain ⟨ci, hci, hpi⟩ := al.get huv
      have s29 := s2.trans s9
      refine ⟨rfl, yes ⟨_, rfl, _, rfl, c, us, _, _, rfl, rfl, .of (s29 _ _ hc), atI_nat huv, hA rfl _ _ (Same.refl _) ?_⟩⟩
      have e1 : cpN (Lat.allP rows k) (zs.getD i 0) = ci := by
        rw [List.getD_eq_getElem?_getD, hzi]
        unfold cpN
        rw [List.getD_eq_getElem?_getD, Option.getD_some, hci]
        rfl
      rw [e1]
      exact hpi.same s29
    · intro out H9 s9 e9 al9
      rw [outs_all, List.length_map] at al9
      have ek : ((List.range zs.length).map fun i => cpN (Lat.allP rows k) (zs.getD i 0)) = zs.map (cpN (Lat.allP rows k)) := by
        have z := outs_list 0 (fun _ => true) (cpN (Lat.allP rows k)) zs
        rw [outs_all, List.filter_eq_self.mpr (fun _ _ => rfl)] at z
        exact z
      rw [ek] at al9
      have s19 := (s1.trans s2).trans s9
      have ekey : (Lat.allC rows k).filter (Lat.mems (zs.map (cpN (Lat.allP rows k)))) = (Lat.allC rows k).filter fun c => Lat.firstOf D E (Lat.numOf (Lat.allP rows k) c) := by
        rw [← hz]
        exact Lat.sel_key S.nodup
      have hsub : ∀ c ∈ zs.map (cpN (Lat.allP rows k)), c ∈ Lat.allC rows k := fun c hc => by
        rw [← hz] at hc
        exact Lat.mem_CP.mpr (Lat.sel_sub hc)
      have hnd : (zs.map (cpN (Lat.allP rows k))).Nodup := by rw [← hz]; exact Lat.sel_nodup (Lat.allP_nodup S.nodup k)
      have hanti : ∀ a ∈ zs.map (cpN (Lat.allP rows k)), ∀ b ∈ zs.map (cpN (Lat.allP rows k)), bars rows nd a b = false := fun a ha b hb => by
        have ke : ∀ x ∈ zs.map (cpN (Lat.allP rows k)), x ∈ (Lat.allC rows k).filter fun c => Lat.firstOf D E (Lat.numOf (Lat.allP rows k) c) := fun x hx => by
          rw [← ekey]
          exact List.mem_filter.mpr ⟨hsub x hx, Lat.mems_iff.mpr hx⟩
        exact BK.key.bar (ke a ha) (ke b hb)
      refine ⟨p, G, rows, nd, k, out, _, rfl, hs.same s19, S, Z, .inr e9, al9, ⟨hnd, hsub⟩, hanti, fun q' H' s' hk => ?_⟩
      rw [ekey] at hk
      exact q q' H' _ (s19.trans s') hk BK BE
end
end Pw
end
section
set_option maxRecDepth 100000
set_option maxHeartbeats 4000000
/-! The law's helpers: the pen and its draws. -/
namespace Pw
open PySem PySem.Spec PyProof.Rows L2
abbrev jD (i : Int) : PyData := .int i
theorem jl_shaped (l : List Int) : SeqAt.shaped (.list (l.map jD)) = true := by
  refine shaped_of (by simp only [PyData.canLay0]; exact lay_map fun z _ => by simp [jD, PyData.canLay0]) ?_
  have h := depth_map (f := jD) (n := 0) (fun x => by simp [jD, PyData.depth]) l
  simp only [PyData.depth]
  omega
theorem dps_j {K : PySem.W.Frag} {H : Hp} : ∀ l : List Int, DpAll K H (l.map V.int) (l.map jD)
  | [] => .nil
  | x :: l => .cons (.int _) (dps_j l)
theorem jl_eqv (l m : List Int) : PyData.eqv (.list (l.map jD)) (.list (m.map jD)) = decide (l = m) := by
  simp only [PyData.eqv]
  exact eqv_map (fun x y => by simp only [jD, PyData.eqv]; rw [Bool.eq_iff_iff]; simp) l m
def penK (L : Addr) (n r : Int) : List (Key × V) := [(Sum.inr "cells", .ref L), (Sum.inr "next", .int n), (Sum.inr "rest", .int r)]
/-- a pen stands at a; n numbers are drawn -/
def PenAt (H : Hp) (a L : Addr) (n : Nat) : Prop := ∃ (ns : List Int) (r : Int), H a = some (.dK (penK L n r)) ∧ H L = some (.lst (ns.map V.int)) ∧ ns.length ≤ 63
theorem PenAt.same {H H' : Hp} {a L : Addr} {n : Nat} (h : PenAt H a L n) (s : Same H H') : PenAt H' a L n := let ⟨ns, r, h1, h2, h3⟩ := h; ⟨ns, r, s _ _ h1, s _ _ h2, h3⟩
theorem PenAt.upd {H : Hp} {a L x : Addr} {n : Nat} {o : HO} (h : PenAt H a L n) (h1 : x ≠ a) (h2 : x ≠ L) : PenAt (upd H x o) a L n := let ⟨ns, r, e1, e2, h3⟩ := h; ⟨ns, r, by rw [upd_ne (Ne.symm h1)]; exact e1, by rw [upd_ne (Ne.symm h2)]; exact e2, h3⟩
theorem PenAt.ne {H : Hp} {a L x : Addr} {n : Nat} (h : PenAt H a L n) (hx : H x = none) : x ≠ a ∧ x ≠ L := let ⟨ns, r, e1, e2, h3⟩ := h; ⟨fun z => by (rw [z, e1] at hx; cases hx), fun z => by (rw [z, e2] at hx; cases hx)⟩
theorem fmod_pos {i j : Int} (h : 0 < j) : 0 ≤ i.fmod j ∧ i.fmod j < j := ⟨Int.fmod_nonneg_of_pos _ h, Int.fmod_lt_of_pos _ h⟩
theorem emod_pos {i j : Int} (h : 0 < j) : 0 ≤ i % j ∧ i % j < j := ⟨Int.emod_nonneg _ (by omega), Int.emod_lt_of_pos _ h⟩
section
variable {P : Program} {w : World} {K : PySem.W.Frag} {mg : Str → Option Value} {base : Heap}
def spPen (K : PySem.W.Frag) : Sp := fun vs H Q _ => ∃ (a : Addr) (ns : List Int), vs = [.ref a] ∧ SqL K H a (ns.map V.int) ∧ ns.length ≤ 63 ∧ ∀ H' p L, Same H H' → PenAt H' p L 0 → Q (.ref p) H'
theorem sc_pen : FnScope ["_law_script"] ["_law_script"] (defScope s_law_pen) := ⟨rfl, rfl, rfl, by decide +kernel, rfl, by decide +kernel, by decide +kernel⟩
theorem ok_pen (T : Tx K mg) : Pr P w K mg base 1 (He.ga K "_law_pen") (spPen K) := by
  obtain ⟨fd, F⟩ := T.f_law_pen
  refine pr_of (fn_t F sc_pen (fun _ _ _ _ _ _ us hl => match us, hl with | [_], _ => rfl) (fun vs H Q E h => ?_) fun cdv A outer s H vs Q E hr h => ?_)
  · obtain ⟨a, ns, rfl, _⟩ := h
    rfl
  · obtain ⟨a, ns, rfl, ha, hn, q⟩ := h
    refine ⟨_, pss_one (ps_ret (pe_disp (pps_cons pe_str (pe_callTy call_list_of (by rfl) T.b_list (by decide +kernel) (pa_cons (pe_slice sl_list (pv 0) po_none (po_some pe_int)) pa_nil)) (pps_cons pe_str pe_int (pps_cons pe_str pe_int pps_nil))) (by rfl) (by rfl) (fun z => by cases z) (by decide))), ?_⟩
    intro p hp
    have s1 : Same H (upd H p (.dK [])) := Same.new hp
    refine ⟨_, rfl, (63 : Int), rfl, a, _, rfl, Same.seq s1 ha, fun l hl => ?_⟩
    rw [show cutV (ns.map V.int) none (some (63 : Int)) = ns.map V.int by
      rw [show (63 : Int) = ((63 : Nat) : Int) from rfl]
      unfold cutV
      rw [HT.sIx_none, HT.sIx_nat, List.length_map, Nat.min_eq_right hn, List.drop_zero, Nat.sub_zero, List.take_of_length_le (by rw [List.length_map]; exact Nat.le_refl _)]]
    have s2 : Same (upd H p (.dK [])) (upd (upd H p (.dK [])) l (.lst (ns.map V.int))) := Same.new hl
    refine ⟨l, _, rfl, .inl (.of upd_same), fun L hL => ?_⟩
    have s3 := Same.new (o := .lst (ns.map V.int)) hL
    have hpx := s3 _ _ (s2 _ _ (upd_same (H := H) (a := p) (o := .dK [])))
    refine ⟨hpx, penK L 0 0, rfl, (by show 3 ≤ 15; decide), ?_⟩
    rw [show mergeK [] (penK L 0 0) = penK L 0 0 from rfl]
    have hLp : L ≠ p := fun z => by rw [z, s2 _ _ upd_same] at hL; cases hL
    refine q _ p L (fun b o e => ?_) ⟨ns, 0, upd_same, by rw [upd_ne hLp]; exact upd_same, hn⟩
    rw [upd_ne (ne_of_none e hp)]
    exact s3 _ _ (s2 _ _ (s1 _ _ e))
def spDraw : Sp := fun vs H Q _ => ∃ (a L : Addr) (m n : Nat), vs = [.ref a, .int m] ∧ 1 ≤ m ∧ m ≤ 100000 ∧ n ≤ 100000 ∧ PenAt H a L n ∧ ∀ H' (d n' : Nat), SameX a H H' → PenAt H' a L n' → n' ≤ n + 1 → d < m → Q (.int d) H'
abbrev n_draw : List Str := ["_law_pen_here", "_law_limit", "_law_digit", "_law_turn", "_law_cell", "_law_whole", "_law_first", "_law_second"]
theorem sc_draw : FnScope n_draw ["_law_pen_here", "_law_limit"] (defScope s_law_draw) := ⟨rfl, rfl, rfl, by decide +kernel, rfl, by decide +kernel, by decide +kernel⟩
theorem ok_draw (T : Tx K mg) : Pr P w K mg base 1 (He.ga K "_law_draw") spDraw := by
  obtain ⟨fd, F⟩ := T.f_law_draw
  refine pr_of (fn_t F sc_draw (fun _ _ _ _ _ _ us hl => match us, hl with | [_, _], _ => rfl) (fun vs H Q E h => ?_) fun cdv A outer s H vs Q E hr h => ?_)
  · obtain ⟨a, L, m, n, rfl, _⟩ := h
    rfl
  · obtain ⟨a, L, m, n, rfl, h1, h2, h3, ⟨ns, r, ha, hL, hn⟩, q⟩ := h
    have hu := hu_of hr
    refine ⟨_, pss_cons (ps_if (pt_cmpR op_gt (pe_dget hu (pv 0) pe_str (fun _ _ => rfl)) pe_int (nomark _))
        (pss_cons (ps_set (i := 2) sc_draw.nd rfl (Or.inl rfl) (pe_op op_mod (pe_dget hu (pv 0) pe_str (fun _ _ => rfl)) (pv 1)))
          (pss_cons (ps_dput hu (pv 0) pe_str (pe_op op_fdiv (pe_dget hu (pv 0) pe_str (fun _ _ => rfl)) (pv 1)) rfl) (pss_one (ps_ret (pv 2))))) pss_nil)
      (pss_cons (ps_set (i := 3) sc_draw.nd rfl (Or.inl rfl) (pe_dget hu (pv 0) pe_str (fun _ _ => rfl)))
      (pss_cons (ps_dput hu (pv 0) pe_str (pe_op op_add (pv 3) pe_int) rfl)
      (pss_cons (ps_set (i := 4) sc_draw.nd rfl (Or.inl rfl) (pe_op op_add (pe_op op_mul pe_int (pv 3)) pe_int))
      (pss_cons (ps_if (pt_cmpR (op_neD hr.units) (pe_dget hu (pv 0) pe_str (fun _ _ => rfl)) (pe_lst pa_nil) (nomark _))
        (pss_one (ps_set (i := 4) sc_draw.nd rfl (Or.inl rfl) (pe_ix ix_list (pe_dget hu (pv 0) pe_str (fun _ _ => rfl)) (pe_op op_mod (pv 3) (pe_callB call_len_seq (by rfl) T.b_len (by decide +kernel) (pa_cons (pe_dget hu (pv 0) pe_str (fun _ _ => rfl)) pa_nil))) (fun _ _ => rfl)))) pss_nil)
      (pss_cons (ps_if (PW.pt (pw_and (pt_cmpR op_lt (pv 3) (pe_callB call_len_seq (by rfl) T.b_len (by decide +kernel) (pa_cons (pe_dget hu (pv 0) pe_str (fun _ _ => rfl)) pa_nil)) (nomark _))
          (pw_and1 (pt_cmpR op_ge (pe_callB call_abs (by rfl) T.b_abs (by decide +kernel) (pa_cons (pv 4) pa_nil)) (pe_op op_pow pe_int pe_int) (nomark _)))))
        (pss_cons (ps_set (i := 5) sc_draw.nd rfl (Or.inl rfl) (pe_op op_add (pe_op op_mul pe_int (pe_callB call_abs (by rfl) T.b_abs (by decide +kernel) (pa_cons (pv 4) pa_nil))) (pe_callTy call_int1 (by rfl) T.b_int (by decide +kernel) (pa_cons (pe_cmpR op_lt (pv 4) pe_int (nomark _)) pa_nil))))
          (pss_cons (ps_dput hu (pv 0) pe_str (pe_op op_fdiv (pv 5) (pv 1)) rfl) (pss_one (ps_ret (pe_op op_mod (pv 5) (pv 1)))))) pss_nil)
      (pss_cons (ps_set (i := 6) sc_draw.nd rfl (Or.inl rfl) (pe_op op_mod (pe_op op_pow (pe_op op_add (pe_op op_add (pe_op op_mod (pv 4) pe_int) (pe_op op_mul pe_int (pv 3))) pe_int) pe_int) pe_int))
      (pss_cons (ps_set (i := 7) sc_draw.nd rfl (Or.inl rfl) (pe_op op_mod (pe_op op_pow (pe_op op_add (pe_op op_add (pe_op op_mul (pv 6) (pe_op op_add (pe_op op_mul pe_int (pv 3)) pe_int)) (pe_op op_mul (pe_op op_mul pe_int (pv 3)) (pv 3))) pe_int) pe_int) pe_int))
      (pss_one (ps_ret (pe_op op_mod (pe_op op_fdiv (pv 7) pe_int) (pv 1))))))))))), ?_⟩
    have fin : ∀ (x : Int) (H' : Hp) (n' : Nat), 0 ≤ x → x < m → SameX a H H' → PenAt H' a L n' → n' ≤ n + 1 → Q (.int x) H' := fun x H' n' x0 x1 sx pa hn' => by
      have z := q H' x.toNat n' sx pa hn' (by omega)
      rwa [Int.toNat_of_nonneg x0] at z
    have gR : DGet H a (.str "rest") (some (.int r)) := DGet.k (k := Sum.inr "rest") ha
    have gN : DGet H a (.str "next") (some (.int n)) := DGet.k (k := Sum.inr "next") ha
    have hm : (0 : Int) < m := by omega
    have hLa : L ≠ a := ne_of hL ha (by intro z; cases z)
    refine ⟨_, rfl, a, .int r, rfl, gR, _, _, rfl, rfl, _, rfl, iB (fun hr0 => ?_) (fun hr0 => ?_)⟩
    · have e := emod_pos (i := r) hm
      refine ⟨_, rfl, a, .int r, rfl, gR, _, rfl, _, _, rfl, rfl, hm, ?_⟩
      refine ⟨_, rfl, a, .int r, rfl, gR, _, rfl, _, _, rfl, rfl, ⟨hm, by omega⟩, _, rfl, a, _, rfl, DPut.k (k := Sum.inr "rest") ha (by show 3 < sizeLine; decide), ?_⟩
      exact ⟨_, rfl, fin _ _ n e.1 e.2 .set ⟨ns, _, upd_same, by rw [upd_ne hLa]; exact hL, hn⟩ (Nat.le_succ n)⟩
    refine ⟨_, rfl, a, .int n, rfl, gN, ?_⟩
    refine ⟨_, rfl, _, _, rfl, rfl, _, rfl, a, _, rfl, DPut.k (k := Sum.inr "next") ha (by show 3 < sizeLine; decide), ?_⟩
    generalize hH1 : upd H a (.dK (putK (penK L n r) (Sum.inr "next") (.int ((n : Int) + 1)))) = H1
    have x1 : SameX a H H1 := by rw [← hH1]; exact .set
    have ha1 : H1 a = some (.dK (penK L ((n : Int) + 1) r)) := by rw [← hH1]; exact upd_same
    have hL1 : H1 L = some (.lst (ns.map V.int)) := x1 _ _ hLa hL
    have gC1 : DGet H1 a (.str "cells") (some (.ref L)) := DGet.k (k := Sum.inr "cells") ha1
    refine ⟨_, rfl, _, _, rfl, rfl, .inl ⟨by decide, by decide⟩, _, _, rfl, rfl, ?_⟩
    refine ⟨_, rfl, a, .ref L, rfl, gC1, (by show 0 ≤ sizeLine; decide), fun E1 hE1 => ?_⟩
    have sE : Same H1 (upd H1 E1 (.lst [])) := Same.new hE1
    refine ⟨.list (ns.map jD), .list ([].map jD), .lst (.of (sE _ _ hL1)) (dps_j ns), .lst (.of upd_same) .nil, jl_shaped ns, jl_shaped [], _, rfl, ?_⟩
    generalize upd H1 E1 (.lst []) = H2 at sE
    have x2 : SameX a H H2 := x1.trans (Pw.Same.x sE)
    have ha2 := sE _ _ ha1
    have hL2 := sE _ _ hL1
    have gC2 : DGet H2 a (.str "cells") (some (.ref L)) := DGet.k (k := Sum.inr "cells") ha2
    rw [jl_eqv]
    refine iB (fun hne => ?_) (fun hne => ?_)
    · have hns : ns ≠ [] := by
        intro z
        rw [decide_eq_true z] at hne
        cases hne
      have hlen : 0 < ns.length := List.length_pos_iff.mpr hns
      have hi : n % ns.length < ns.length := Nat.mod_lt _ hlen
      have hv : (ns.map V.int)[n % ns.length]? = some (V.int (ns[n % ns.length])) := by rw [List.getElem?_map, List.getElem?_eq_getElem hi]; rfl
      refine ⟨_, rfl, a, .ref L, rfl, gC2, _, rfl, _, rfl, a, .ref L, rfl, gC2, L, _, rfl, .inl (.of hL2), _, _, rfl, rfl, by rw [List.length_map]; omega, L, _, _, _, rfl, rfl, .of hL2, (by rw [List.length_map, ← Int.natCast_emod]; exact atI_nat hv), ?_⟩
      generalize ns[n % ns.length] = c
      refine ⟨_, rfl, _, rfl, a, .ref L, rfl, gC2, L, _, rfl, .inl (.of hL2), _, _, rfl, rfl, _, rfl, ?_⟩
      refine iB (fun h1 => ⟨_, rfl, _, rfl, _, _, rfl, rfl, ⟨by decide, by decide, by decide⟩, _, _, rfl, rfl, _, rfl, iB (fun h2 => ?_) (fun h2 => ?_)⟩) (fun h1 => iteF ?_)
      · refine ⟨_, rfl, _, rfl, _, _, rfl, rfl, .inl ⟨by decide, by decide⟩, _, rfl, _, _, rfl, rfl, .inr ⟨_, rfl, _, _, rfl, rfl, ?_⟩⟩
        refine ⟨_, rfl, _, rfl, _, _, rfl, rfl, ⟨hm, by omega⟩, _, rfl, a, _, rfl, DPut.k (k := Sum.inr "rest") ha2 (by show 3 < sizeLine; decide), ?_⟩
        exact ⟨_, rfl, _, rfl, _, _, rfl, rfl, hm, fin _ _ (n + 1) (emod_pos hm).1 (emod_pos hm).2 (x2.trans .set) ⟨ns, _, upd_same, by rw [upd_ne hLa]; exact hL2, hn⟩ (Nat.le_refl _)⟩
      · have e1 := emod_pos (i := c) (j := 2147483579) (by decide)
        refine ⟨_, rfl, _, _, rfl, rfl, (by show (0 : Int) < 2147483579; decide), _, rfl, _, _, rfl, rfl, .inl ⟨by decide, by decide⟩, _, _, rfl, rfl, _, _, rfl, rfl, _, _, rfl, rfl, ⟨by decide, by decide, by omega⟩, _, _, rfl, rfl, (by show (0 : Int) < 2147483647; decide), ?_⟩
        obtain ⟨f, hf⟩ : ∃ f, f = (c % 2147483579 + 53077 * (n : Int) + 41) ^ (5 : Int).toNat % 2147483647 := ⟨_, rfl⟩
        have e2 : 0 ≤ f ∧ f < 2147483647 := by rw [hf]; exact emod_pos (by decide)
        have b1 : 0 ≤ f * (2 * (n : Int) + 7) := Int.mul_nonneg e2.1 (by omega)
        have b2 : f * (2 * (n : Int) + 7) ≤ 2147483647 * 200007 := Int.mul_le_mul (by omega) (by omega) (by omega) (by decide)
        have b3 : 0 ≤ 64091 * (n : Int) * (n : Int) := Int.mul_nonneg (by omega) (by omega)
        have b4 : 64091 * (n : Int) * (n : Int) ≤ (64091 * 100000) * 100000 := Int.mul_le_mul (by omega) (by omega) (by omega) (by decide)
        rw [hf] at b1 b2
        refine ⟨_, rfl, _, rfl, _, _, rfl, rfl, .inl ⟨by decide, by decide⟩, _, _, rfl, rfl, _, _, rfl, rfl, .inl ⟨by omega, by omega⟩, _, rfl, _, _, rfl, rfl, .inl ⟨by decide, by decide⟩, _, rfl, _, _, rfl, rfl, .inl ⟨by omega, by omega⟩, _, _, rfl, rfl, _, _, rfl, rfl, _, _, rfl, rfl, ⟨by decide, by decide, by omega⟩, _, _, rfl, rfl, (by show (0 : Int) < 2147483549; decide), ?_⟩
        exact ⟨_, rfl, _, _, rfl, rfl, ⟨by decide, by decide⟩, _, rfl, _, _, rfl, rfl, hm, fin _ _ (n + 1) (emod_pos hm).1 (emod_pos hm).2 x2 ⟨ns, r, ha2, hL2, hn⟩ (Nat.le_refl _)⟩
      · have e1 := emod_pos (i := c) (j := 2147483579) (by decide)
        refine ⟨_, rfl, _, _, rfl, rfl, (by show (0 : Int) < 2147483579; decide), _, rfl, _, _, rfl, rfl, .inl ⟨by decide, by decide⟩, _, _, rfl, rfl, _, _, rfl, rfl, _, _, rfl, rfl, ⟨by decide, by decide, by omega⟩, _, _, rfl, rfl, (by show (0 : Int) < 2147483647; decide), ?_⟩
        obtain ⟨f, hf⟩ : ∃ f, f = (c % 2147483579 + 53077 * (n : Int) + 41) ^ (5 : Int).toNat % 2147483647 := ⟨_, rfl⟩
        have e2 : 0 ≤ f ∧ f < 2147483647 := by rw [hf]; exact emod_pos (by decide)
        have b1 : 0 ≤ f * (2 * (n : Int) + 7) := Int.mul_nonneg e2.1 (by omega)
        have b2 : f * (2 * (n : Int) + 7) ≤ 2147483647 * 200007 := Int.mul_le_mul (by omega) (by omega) (by omega) (by decide)
        have b3 : 0 ≤ 64091 * (n : Int) * (n : Int) := Int.mul_nonneg (by omega) (by omega)
        have b4 : 64091 * (n : Int) * (n : Int) ≤ (64091 * 100000) * 100000 := Int.mul_le_mul (by omega) (by omega) (by omega) (by decide)
        rw [hf] at b1 b2
        refine ⟨_, rfl, _, rfl, _, _, rfl, rfl, .inl ⟨by decide, by decide⟩, _, _, rfl, rfl, _, _, rfl, rfl, .inl ⟨by omega, by omega⟩, _, rfl, _, _, rfl, rfl, .inl ⟨by decide, by decide⟩, _, rfl, _, _, rfl, rfl, .inl ⟨by omega, by omega⟩, _, _, rfl, rfl, _, _, rfl, rfl, _, _, rfl, rfl, ⟨by decide, by decide, by omega⟩, _, _, rfl, rfl, (by show (0 : Int) < 2147483549; decide), ?_⟩
        exact ⟨_, rfl, _, _, rfl, rfl, ⟨by decide, by decide⟩, _, rfl, _, _, rfl, rfl, hm, fin _ _ (n + 1) (emod_pos hm).1 (emod_pos hm).2 x2 ⟨ns, r, ha2, hL2, hn⟩ (Nat.le_refl _)⟩
    · refine ⟨_, rfl, _, rfl, a, .ref L, rfl, gC2, L, _, rfl, .inl (.of hL2), _, _, rfl, rfl, _, rfl, ?_⟩
      refine iB (fun h1 => ⟨_, rfl, _, rfl, _, _, rfl, rfl, ⟨by decide, by decide, by decide⟩, _, _, rfl, rfl, _, rfl, iB (fun h2 => ?_) (fun h2 => ?_)⟩) (fun h1 => iteF ?_)
      · refine ⟨_, rfl, _, rfl, _, _, rfl, rfl, .inl ⟨by decide, by decide⟩, _, rfl, _, _, rfl, rfl, .inr ⟨_, rfl, _, _, rfl, rfl, ?_⟩⟩
        refine ⟨_, rfl, _, rfl, _, _, rfl, rfl, ⟨hm, by omega⟩, _, rfl, a, _, rfl, DPut.k (k := Sum.inr "rest") ha2 (by show 3 < sizeLine; decide), ?_⟩
        exact ⟨_, rfl, _, rfl, _, _, rfl, rfl, hm, fin _ _ (n + 1) (emod_pos hm).1 (emod_pos hm).2 (x2.trans .set) ⟨ns, _, upd_same, by rw [upd_ne hLa]; exact hL2, hn⟩ (Nat.le_refl _)⟩
      · have e1 := emod_pos (i := 91009 * (n : Int) + 727) (j := 2147483579) (by decide)
        refine ⟨_, rfl, _, _, rfl, rfl, (by show (0 : Int) < 2147483579; decide), _, rfl, _, _, rfl, rfl, .inl ⟨by decide, by decide⟩, _, _, rfl, rfl, _, _, rfl, rfl, _, _, rfl, rfl, ⟨by decide, by decide, by omega⟩, _, _, rfl, rfl, (by show (0 : Int) < 2147483647; decide), ?_⟩
        obtain ⟨f, hf⟩ : ∃ f, f = ((91009 * (n : Int) + 727) % 2147483579 + 53077 * (n : Int) + 41) ^ (5 : Int).toNat % 2147483647 := ⟨_, rfl⟩
        have e2 : 0 ≤ f ∧ f < 2147483647 := by rw [hf]; exact emod_pos (by decide)
        have b1 : 0 ≤ f * (2 * (n : Int) + 7) := Int.mul_nonneg e2.1 (by omega)
        have b2 : f * (2 * (n : Int) + 7) ≤ 2147483647 * 200007 := Int.mul_le_mul (by omega) (by omega) (by omega) (by decide)
        have b3 : 0 ≤ 64091 * (n : Int) * (n : Int) := Int.mul_nonneg (by omega) (by omega)
        have b4 : 64091 * (n : Int) * (n : Int) ≤ (64091 * 100000) * 100000 := Int.mul_le_mul (by omega) (by omega) (by omega) (by decide)
        rw [hf] at b1 b2
        refine ⟨_, rfl, _, rfl, _, _, rfl, rfl, .inl ⟨by decide, by decide⟩, _, _, rfl, rfl, _, _, rfl, rfl, .inl ⟨by omega, by omega⟩, _, rfl, _, _, rfl, rfl, .inl ⟨by decide, by decide⟩, _, rfl, _, _, rfl, rfl, .inl ⟨by omega, by omega⟩, _, _, rfl, rfl, _, _, rfl, rfl, _, _, rfl, rfl, ⟨by decide, by decide, by omega⟩, _, _, rfl, rfl, (by show (0 : Int) < 2147483549; decide), ?_⟩
        exact ⟨_, rfl, _, _, rfl, rfl, ⟨by decide, by decide⟩, _, rfl, _, _, rfl, rfl, hm, fin _ _ (n + 1) (emod_pos hm).1 (emod_pos hm).2 x2 ⟨ns, r, ha2, hL2, hn⟩ (Nat.le_refl _)⟩
      · have e1 := emod_pos (i := 91009 * (n : Int) + 727) (j := 2147483579) (by decide)
        refine ⟨_, rfl, _, _, rfl, rfl, (by show (0 : Int) < 2147483579; decide), _, rfl, _, _, rfl, rfl, .inl ⟨by decide, by decide⟩, _, _, rfl, rfl, _, _, rfl, rfl, _, _, rfl, rfl, ⟨by decide, by decide, by omega⟩, _, _, rfl, rfl, (by show (0 : Int) < 2147483647; decide), ?_⟩
        obtain ⟨f, hf⟩ : ∃ f, f = ((91009 * (n : Int) + 727) % 2147483579 + 53077 * (n : Int) + 41) ^ (5 : Int).toNat % 2147483647 := ⟨_, rfl⟩
        have e2 : 0 ≤ f ∧ f < 2147483647 := by rw [hf]; exact emod_pos (by decide)
        have b1 : 0 ≤ f * (2 * (n : Int) + 7) := Int.mul_nonneg e2.1 (by omega)
        have b2 : f * (2 * (n : Int) + 7) ≤ 2147483647 * 200007 := Int.mul_le_mul (by omega) (by omega) (by omega) (by decide)
        have b3 : 0 ≤ 64091 * (n : Int) * (n : Int) := Int.mul_nonneg (by omega) (by omega)
        have b4 : 64091 * (n : Int) * (n : Int) ≤ (64091 * 100000) * 100000 := Int.mul_le_mul (by omega) (by omega) (by omega) (by decide)
        rw [hf] at b1 b2
        refine ⟨_, rfl, _, rfl, _, _, rfl, rfl, .inl ⟨by decide, by decide⟩, _, _, rfl, rfl, _, _, rfl, rfl, .inl ⟨by omega, by omega⟩, _, rfl, _, _, rfl, rfl, .inl ⟨by decide, by decide⟩, _, rfl, _, _, rfl, rfl, .inl ⟨by omega, by omega⟩, _, _, rfl, rfl, _, _, rfl, rfl, _, _, rfl, rfl, ⟨by decide, by decide, by omega⟩, _, _, rfl, rfl, (by show (0 : Int) < 2147483549; decide), ?_⟩
        exact ⟨_, rfl, _, _, rfl, rfl, ⟨by decide, by decide⟩, _, rfl, _, _, rfl, rfl, hm, fin _ _ (n + 1) (emod_pos hm).1 (emod_pos hm).2 x2 ⟨ns, r, ha2, hL2, hn⟩ (Nat.le_refl _)⟩
end
end Pw
end
section
set_option maxRecDepth 100000
set_option maxHeartbeats 4000000
/-! The law's helpers: things in a drawn order, names. -/
namespace Pw
open PySem PySem.Spec PyProof.Rows L2
theorem map_erase {α β : Type} (f : α → β) : ∀ (xs : List α) (j : Nat), (xs.map f).eraseIdx j = (xs.eraseIdx j).map f
  | [], _ => rfl
  | _ :: _, 0 => rfl
  | x :: xs, j + 1 => by
    show f x :: (xs.map f).eraseIdx j = f x :: (xs.eraseIdx j).map f
    rw [map_erase f xs j]
theorem erase_perm {α : Type} : ∀ (l : List α) (i : Nat) (h : i < l.length), (l[i] :: l.eraseIdx i).Perm l
  | x :: l, 0, _ => .refl _
  | x :: l, i + 1, h => (List.Perm.swap x (l[i]'(Nat.lt_of_succ_lt_succ h)) (l.eraseIdx i)).trans ((erase_perm l i (Nat.lt_of_succ_lt_succ h)).cons x)
theorem seq_at {d n : Nat} (h : d < n) : seqIndex? (d : Int) n = some d := by
  have z := PySem.seqIndex_of (k := (d : Int)) (n := n) (by omega) (by omega)
  rwa [Int.toNat_natCast] at z
abbrev rLenQ (K : PySem.W.Frag) : List V → Hp → VK → Prop := fun xs H Q => ∃ p ys, xs = [.ref p] ∧ (SqL K H p ys ∨ SqT K H p ys) ∧ Q (.int (ys.length : Nat)) H
section
variable {P : Program} {w : World} {K : PySem.W.Frag} {mg : Str → Option Value} {base : Heap}
def spShuf : Sp := fun vs H Q _ => ∃ (a L b : Addr) (xs : List Str) (n : Nat), vs = [.ref a, .ref b] ∧ PenAt H a L n ∧ H b = some (.lst (xs.map V.str)) ∧ xs.length ≤ 12 ∧ n + 12 ≤ 100000 ∧
  ∀ H' D (ys : List Str) n', SameX a H H' → H' D = some (.lst (ys.map V.str)) → ys.Perm xs → PenAt H' a L n' → n' ≤ n + 12 → Q (.ref D) H'
abbrev n_shuf : List Str := ["_law_pen_here", "_law_items", "_law_left", "_law_item"]
theorem sc_shuf : FnScope n_shuf ["_law_pen_here", "_law_items"] (defScope s_law_shuffled) := ⟨rfl, rfl, rfl, by decide +kernel, rfl, by decide +kernel, by decide +kernel⟩
theorem ok_shuf (T : Tx K mg) : Pr P w K mg base 2 (He.ga K "_law_shuffled") spShuf := by
  obtain ⟨fd, F⟩ := T.f_law_shuffled
  obtain ⟨_, FD⟩ := T.f_law_draw
  refine pr_of (fn_t F sc_shuf (fun _ _ _ _ _ _ us hl => match us, hl with | [_, _], _ => rfl) (fun vs H Q E h => ?_) fun cdv A outer s H vs Q E hr h => ?_)
  · obtain ⟨a, L, b, xs, n, rfl, _⟩ := h
    rfl
  · obtain ⟨a, L, b, xs, n, rfl, pa, hb, hx, hn, q⟩ := h
    refine ⟨_, pss_cons (ps_set (i := 2) sc_shuf.nd rfl (Or.inr rfl) (pe_callTy call_list_of (by rfl) T.b_list (by decide +kernel) (pa_cons (pv 1) pa_nil)))
      (pss_one (ps_ret (pe_lc (own := [("_law_item", 3)]) (g := gName 3) (tt := tYes) (te := tBM K "list" rPopAt (tVar 2) (tCons (tCl spDraw (tCons (tVar 0) (tCons (tCB (rLenQ K) (tCons (tVar 2) tNil)) tNil))) tNil)) rfl sc_shuf.nd (pi_list (pv 1)) (blkOk_by (N := n_shuf) (sc := defScope s_law_shuffled) (by decide +kernel))
        (fun _ _ _ _ _ => pg_name (i := 3) sc_shuf.nd rfl (Or.inl rfl)) (fun _ _ _ _ _ => pts_nil)
        (fun _ _ _ _ _ => pe_bm PySem.F.plainAttrs_list PySem.F.slot_list_pop PySem.F.type_list_pop mt_popAt (pv 2) (pa_cons (pc (ok_draw T) hr FD.kp T.g_law_draw (pa_cons (pv 0) (pa_cons (pe_callB call_len_seq (by rfl) T.b_len (by decide +kernel) (pa_cons (pv 2) pa_nil)) pa_nil))) pa_nil))))), ?_⟩
    refine ⟨_, rfl, b, _, rfl, .inl (.of hb), fun l hl => ?_⟩
    have s1 : Same H (upd H l (.lst (xs.map V.str))) := Same.new hl
    have hl1 : (upd H l (.lst (xs.map V.str))) l = some (.lst (xs.map V.str)) := upd_same
    generalize hH1 : upd H l (.lst (xs.map V.str)) = H1 at s1 hl1
    refine ⟨_, rfl, b, rfl, ⟨_, .of (s1 _ _ hb)⟩, fun D hD => ?_⟩
    have hlD : l ≠ D := fun z => by rw [← z, hl1] at hD; cases hD
    obtain ⟨ns, r, pa1, pa1L, _⟩ := id pa
    have haD : a ≠ D := fun z => by rw [← z, s1 _ _ pa1] at hD; cases hD
    have hal : a ≠ l := fun z => by rw [← z, pa1] at hl; cases hl
    have hba : b ≠ a := ne_of hb pa1 (by intro z; cases z)
    refine walk_gen (n := (xs.map V.str).length) walk_list (fun i H' => ∃ ls out n', H' l = some (.lst ((ls : List Str).map V.str)) ∧ H' D = some (.lst ((out : List Str).map V.str)) ∧ (out ++ ls).Perm xs ∧ ls.length + i = xs.length ∧ PenAt H' a L n' ∧ n' ≤ n + i ∧ ∀ c o, c ≠ a → H c = some o → H' c = some o) ?_ (fun i H' _ g => by obtain ⟨_, _, _, _, _, _, _, _, _, g⟩ := g; exact .of (g _ _ hba hb)) ?_ ?_
    · refine ⟨xs, [], n, by rw [upd_ne hlD]; exact hl1, upd_same, by rw [List.nil_append], rfl, (pa.same s1).same (Same.new hD), Nat.le_refl _, fun c o hc e => ?_⟩
      exact Same.new hD _ _ (s1 _ _ e)
    · rintro i x _ H2 hi ⟨ls, out, n', gl, gD, gp, gn, pa2, hn2, sx⟩ ⟨rfl, _⟩
      rw [List.length_map] at hi
      refine ⟨rfl, yes ?_⟩
      refine ⟨_, rfl, .inl ⟨rfl, _, .of gl⟩, ?_⟩
      refine ⟨_, rfl, _, rfl, l, _, rfl, .inl (.of gl), ?_⟩
      refine ⟨a, L, (ls.map V.str).length, n', rfl, by rw [List.length_map]; omega, by rw [List.length_map]; omega, by omega, pa2, fun H3 d n3 sx3 pa3 hn3 hd => ?_⟩
      rw [List.length_map] at hd
      have gl3 := sx3 _ _ (Ne.symm hal) gl
      have gD3 := sx3 _ _ (Ne.symm haD) gD
      have hdl : ls[d]? = some ls[d] := List.getElem?_eq_getElem hd
      refine ⟨l, _, (d : Int), d, V.str ls[d], rfl, rfl, gl3, by omega, by omega, ?_, by rw [List.getElem?_map, hdl]; rfl, ?_⟩
      · rw [List.length_map]
        exact seq_at hd
      rw [map_erase]
      have hDl := Ne.symm hlD
      have hpm : (out ++ ls).length = xs.length := gp.length_eq
      rw [List.length_append] at hpm
      refine ⟨_, by rw [upd_ne hDl]; exact gD3, by rw [List.length_map, sizeLine_eq]; omega, ls.eraseIdx d, out ++ [ls[d]], n3, by rw [upd_ne hlD]; exact upd_same, by rw [upd_same, List.map_append]; rfl, ?_, by rw [List.length_eraseIdx_of_lt hd]; omega, ?_, by omega, fun c o hc e => ?_⟩
      · rw [List.append_assoc]
        exact ((erase_perm ls d hd).append_left out).trans gp
      · exact (pa3.upd (Ne.symm hal) (pa.ne hl).2).upd (Ne.symm haD) ((pa.same s1).ne hD).2
      · have h1 : c ≠ l := fun z => by rw [z, hl] at e; cases e
        have h2 : c ≠ D := fun z => by
          have := s1 _ _ e
          rw [z, hD] at this
          cases this
        rw [upd_ne h2, upd_ne h1]
        exact sx3 _ _ hc (sx _ _ hc e)
    · rintro H2 ⟨ls, out, n', gl, gD, gp, gn, pa2, hn2, sx⟩
      rw [List.length_map] at gn hn2
      have h0 : ls = [] := List.length_eq_zero_iff.mp (by omega)
      subst h0
      rw [List.append_nil] at gp
      exact q H2 D out n' sx gD gp pa2 (by omega)
end
end Pw
end
section
set_option maxRecDepth 100000
set_option maxHeartbeats 4000000
/-! The law's helpers: names. -/
namespace Pw
open PySem PySem.Spec PyProof.Rows L2
def lts : List Nat := (letters : Str).cps.toList
def one (c : Nat) : Str := ⟨#[c]⟩
def two (c : Nat) : Str := one c ++ "q"
def pA : List Str := ["move", "need", "drop", "allow", "if"]
def pB : List Str := ["self", "rows", "aaaaaaaa", "zzzzzzzz"]
def pool : List Str := ((lts.map one ++ lts.map two) ++ pA) ++ pB
theorem lts_len : lts.length = 26 := by decide +kernel
theorem pool_len : pool.length = 61 := by decide +kernel
theorem pool_nd : pool.Nodup := by decide +kernel
def nameB (z : Str) : Bool := decide (1 ≤ z.length) && (decide (z.length ≤ 8) && z.cps.toList.all fun c => decide (c ∈ letters.cps.toList))
theorem nameB_ok {z : Str} (h : nameB z = true) : NameOk z := by
  unfold nameB at h
  rw [Bool.and_eq_true, Bool.and_eq_true, decide_eq_true_eq, decide_eq_true_eq, List.all_eq_true] at h
  exact ⟨h.1, h.2.1, fun c hc => of_decide_eq_true (h.2.2 c hc)⟩
theorem pool_ok : ∀ z ∈ pool, NameOk z := fun z hz => nameB_ok (List.all_eq_true.mp (by decide +kernel : pool.all nameB = true) z hz)
theorem mul61 : ∀ t, t < 61 → 1 ≤ t → ∀ j, j < 13 → 1 ≤ j → t * j % 61 ≠ 0 := by decide +kernel
theorem at61 {s t i j : Nat} (ht : t < 61) (h1 : 1 ≤ t) (hi : i < 13) (hj : j < 13) (e : (s + t * i) % 61 = (s + t * j) % 61) : i = j := by
  rcases Nat.lt_trichotomy i j with h | h | h
  · exfalso
    have z := mul61 t ht h1 (j - i) (by omega) (by omega)
    rw [Nat.mul_sub] at z
    have := Nat.mul_le_mul_left t (Nat.le_of_lt h)
    omega
  · exact h
  · exfalso
    have z := mul61 t ht h1 (i - j) (by omega) (by omega)
    rw [Nat.mul_sub] at z
    have := Nat.mul_le_mul_left t (Nat.le_of_lt h)
    omega
def nms (s t k : Nat) : List Str := (List.range k).map fun i => pool.getD ((s + t * i) % 61) Str.empty
theorem nms_ok {s t k : Nat} : ∀ z ∈ nms s t k, NameOk z := fun z hz => by
  obtain ⟨i, _, rfl⟩ := List.mem_map.mp hz
  have h : (s + t * i) % 61 < pool.length := by rw [pool_len]; exact Nat.mod_lt _ (by decide)
  rw [List.getD_eq_getElem?_getD, List.getElem?_eq_getElem h]
  exact pool_ok _ (List.getElem_mem h)
theorem nms_nd {s t k : Nat} (ht : t < 61) (h1 : 1 ≤ t) (hk : k ≤ 12) : (nms s t k).Nodup := by
  refine Lat.nodup_map List.nodup_range fun x hx y hy e => ?_
  rw [List.mem_range] at hx hy
  have h : ∀ i, (s + t * i) % 61 < pool.length := fun i => by rw [pool_len]; exact Nat.mod_lt _ (by decide)
  rw [List.getD_eq_getElem?_getD, List.getD_eq_getElem?_getD, List.getElem?_eq_getElem (h x), List.getElem?_eq_getElem (h y)] at e
  exact at61 ht h1 (by omega) (by omega) ((List.getElem_inj pool_nd).mp e)
section
variable {P : Program} {w : World} {K : PySem.W.Frag} {mg : Str → Option Value} {base : Heap}
def spNames : Sp := fun vs H Q _ => ∃ (a L : Addr) (k n : Nat), vs = [.ref a, .int k] ∧ PenAt H a L n ∧ k ≤ 12 ∧ n + 12 ≤ 100000 ∧
  ∀ H' D (rows : List Str) n', SameX a H H' → H' D = some (.lst (rows.map V.str)) → rows.Nodup → (∀ z ∈ rows, NameOk z) → rows.length = k → PenAt H' a L n' → n' ≤ n + 2 → Q (.ref D) H'
abbrev n_names : List Str := ["_law_pen_here", "_law_many", "_law_letters", "_law_pool", "_law_start", "_law_stride", "_law_sign", "_law_k"]
theorem sc_names : FnScope n_names ["_law_pen_here", "_law_many"] (defScope s_law_names) := ⟨rfl, rfl, rfl, by decide +kernel, rfl, by decide +kernel, by decide +kernel⟩
abbrev rAddS : R2 := fun x y H Q => ∃ i j, x = .str i ∧ y = .str j ∧ i.length + j.length ≤ sizeLine ∧ Q (.str (i ++ j)) H
theorem PenAt.sameX {H H' : Hp} {a L : Addr} {n : Nat} (h : PenAt H a L n) (s : Same H H') : PenAt H' a L n := h.same s
theorem ok_names (T : Tx K mg) : Pr P w K mg base 2 (He.ga K "_law_names") spNames := by
  obtain ⟨fd, F⟩ := T.f_law_names
  obtain ⟨_, FD⟩ := T.f_law_draw
  refine pr_of (fn_t F sc_names (fun _ _ _ _ _ _ us hl => match us, hl with | [_, _], _ => rfl) (fun vs H Q E h => ?_) fun cdv A outer s H vs Q E hr h => ?_)
  · obtain ⟨a, L, k, n, rfl, _⟩ := h
    rfl
  · obtain ⟨a, L, k, n, rfl, pa, hk, hn, q⟩ := h
    have hu := hu_of hr
    refine ⟨_, pss_cons (ps_set (i := 2) sc_names.nd rfl (Or.inl rfl) (pe_callTy (call_listStr rfl) (by rfl) T.b_list (by decide +kernel) (pa_cons pe_str pa_nil)))
      (pss_cons (ps_set (i := 3) sc_names.nd rfl (Or.inr rfl) (pe_op op_cat (pe_op op_cat (pv 2)
          (pe_lc (own := [("_law_sign", 6)]) (g := gName 6) (tt := tYes) (te := tOp rAddS (tVar 6) (tC (.str "q"))) rfl sc_names.nd (pi_list (pv 2)) (blkOk_by (N := n_names) (sc := defScope s_law_names) (by decide +kernel))
            (fun _ _ _ _ _ => pg_name (i := 6) sc_names.nd rfl (Or.inl rfl)) (fun _ _ _ _ _ => pts_nil) (fun _ _ _ _ _ => pe_op op_add_str (pv 6) pe_str)))
          (pe_lst (pa_cons pe_str (pa_cons pe_str (pa_cons pe_str (pa_cons pe_str (pa_cons pe_str pa_nil))))))))
      (pss_cons (ps_set (i := 3) sc_names.nd rfl (Or.inr rfl) (pe_op op_cat (pv 3) (pe_lst (pa_cons pe_str (pa_cons pe_str (pa_cons pe_str (pa_cons pe_str pa_nil)))))))
      (pss_cons (ps_asg (pe_tup (pa_cons (pc (ok_draw T) hr FD.kp T.g_law_draw (pa_cons (pv 0) (pa_cons pe_int pa_nil))) (pa_cons (pe_op op_add pe_int (pc (ok_draw T) hr FD.kp T.g_law_draw (pa_cons (pv 0) (pa_cons pe_int pa_nil)))) pa_nil)))
          (pg_tup rfl (pgs_cons (pg_name (i := 4) sc_names.nd rfl (.inr rfl)) (pgs_cons (pg_name (i := 5) sc_names.nd rfl (.inr rfl)) pgs_nil))))
      (pss_one (ps_ret (pe_lc (own := [("_law_k", 7)]) (g := gName 7) (tt := tYes) (te := tOp (rIxL K) (tVar 3) (tOp (rI (fun _ j => 0 < j) fun i j => .int (i % j)) (tOp (rI0 fun i j => .int (i + j)) (tVar 4) (tOp (rI CMul fun i j => .int (i * j)) (tVar 5) (tVar 7))) (tC (.int 61)))) rfl sc_names.nd (pi_range1 (by rfl) T.b_range (pa_cons (pv 1) pa_nil)) (blkOk_by (N := n_names) (sc := defScope s_law_names) (by decide +kernel))
            (fun _ _ _ _ _ => pg_name (i := 7) sc_names.nd rfl (Or.inl rfl)) (fun _ _ _ _ _ => pts_nil) (fun _ _ _ _ _ => pe_ix ix_list (pv 3) (pe_op op_mod (pe_op op_add (pv 4) (pe_op op_mul (pv 5) (pv 7))) pe_int) (fun _ _ => rfl)))))))), ?_⟩
    refine ⟨letters, rfl, (by decide +kernel), fun l hl => ?_⟩
    have s1 : Same H (upd H l (.lst (letters.cps.toList.map fun c => V.str ⟨#[c]⟩))) := Same.new hl
    have hl1 : (upd H l (.lst (letters.cps.toList.map fun c => V.str ⟨#[c]⟩))) l = some (.lst ((lts.map one).map V.str)) := by rw [upd_same, List.map_map]; rfl
    generalize upd H l (.lst (letters.cps.toList.map fun c => V.str ⟨#[c]⟩)) = H1 at s1 hl1
    have h26 : (lts.map one).length = 26 := by rw [List.length_map, lts_len]
    refine ⟨_, rfl, _, rfl, l, rfl, ⟨_, .of hl1⟩, fun D hD => ?_⟩
    refine lc_gr (Mono.eq V.str) (walk_list (K := K) (a := l) (xs := (lts.map one).map V.str)) (g := gName 6) (tt := tYes) (te := tOp rAddS (tVar 6) (tC (.str "q"))) hD (by rw [List.length_map, h26, sizeLine_eq]; omega) (fun _ => true) (fun i => two (lts.getD i 0)) (fun H9 s9 => .of (s9 _ _ hl1)) (fun _ _ _ _ _ y => by rw [y.1]; exact Same.refl _) ?_ ?_
    · rintro i x _ H9 A3 B3 hi s9 _ ⟨rfl, hx⟩ hA _
      rw [List.length_map, List.length_map] at hi
      have hli : lts[i]? = some lts[i] := List.getElem?_eq_getElem hi
      rw [List.getElem?_map, List.getElem?_map, hli] at hx
      cases hx
      have eg : lts.getD i 0 = lts[i] := by rw [List.getD_eq_getElem?_getD, hli]; rfl
      rw [eg] at hA
      refine ⟨rfl, yes ⟨_, rfl, one lts[i], "q", rfl, rfl, (by show 1 + 1 ≤ sizeLine; decide), hA rfl _ _ (Same.refl _) rfl⟩⟩
    · intro out H2 s2 e2 al
      rw [outs_all] at al
      have e3 : out = (lts.map two).map V.str := by
        rw [al.eq, List.length_map, List.length_map]
        have z := outs_list 0 (fun _ => true) two lts
        rw [outs_all, List.filter_eq_self.mpr (fun _ _ => rfl)] at z
        exact congrArg (List.map V.str) z
      subst e3
      have h26b : (lts.map two).length = 26 := by rw [List.length_map, lts_len]
      refine ⟨l, D, _, _, rfl, rfl, s2 _ _ hl1, e2, by simp only [List.length_map, lts_len]; rw [sizeLine_eq]; omega, fun p hp => ?_⟩
      have s3 : Same H2 (upd H2 p (.lst ((lts.map one).map V.str ++ (lts.map two).map V.str))) := Same.new hp
      have hp3 : (upd H2 p (.lst ((lts.map one).map V.str ++ (lts.map two).map V.str))) p = some (.lst ((lts.map one ++ lts.map two).map V.str)) := by rw [upd_same, List.map_append]
      generalize upd H2 p (.lst ((lts.map one).map V.str ++ (lts.map two).map V.str)) = H3 at s3 hp3
      have h52 : (lts.map one ++ lts.map two).length = 52 := by rw [List.length_append, h26, h26b]
      refine ⟨(by show 5 ≤ sizeLine; decide), fun g hg => ?_⟩
      have s4 := Same.new (o := .lst [V.str "move", V.str "need", V.str "drop", V.str "allow", V.str "if"]) hg
      refine ⟨p, g, _, _, rfl, rfl, s4 _ _ hp3, upd_same, by simp only [List.length_map, List.length_append, lts_len, List.length_cons, List.length_nil]; rw [sizeLine_eq]; omega, fun p2 hp2 => ?_⟩
      have s5 := s4.trans (Same.new (o := .lst ((lts.map one ++ lts.map two).map V.str ++ [V.str "move", V.str "need", V.str "drop", V.str "allow", V.str "if"])) hp2)
      have hp5 : (upd (upd H3 g (.lst [V.str "move", V.str "need", V.str "drop", V.str "allow", V.str "if"])) p2 (.lst ((lts.map one ++ lts.map two).map V.str ++ [V.str "move", V.str "need", V.str "drop", V.str "allow", V.str "if"]))) p2 = some (.lst (((lts.map one ++ lts.map two) ++ pA).map V.str)) := by rw [upd_same, List.map_append (f := V.str) (l₁ := lts.map one ++ lts.map two)]; rfl
      show tSeq _ _ _ _ (upd (upd H3 g (.lst [V.str "move", V.str "need", V.str "drop", V.str "allow", V.str "if"])) p2 (.lst ((lts.map one ++ lts.map two).map V.str ++ [V.str "move", V.str "need", V.str "drop", V.str "allow", V.str "if"])))
      generalize (upd (upd H3 g (.lst [V.str "move", V.str "need", V.str "drop", V.str "allow", V.str "if"])) p2 (.lst ((lts.map one ++ lts.map two).map V.str ++ [V.str "move", V.str "need", V.str "drop", V.str "allow", V.str "if"]))) = H5 at s5 hp5
      refine ⟨_, rfl, (by show 4 ≤ sizeLine; decide), fun g2 hg2 => ?_⟩
      have s6 := Same.new (o := .lst [V.str "self", V.str "rows", V.str "aaaaaaaa", V.str "zzzzzzzz"]) hg2
      refine ⟨p2, g2, _, _, rfl, rfl, s6 _ _ hp5, upd_same, by simp only [List.length_map, List.length_append, lts_len, pA, List.length_cons, List.length_nil]; rw [sizeLine_eq]; omega, fun p3 hp3' => ?_⟩
      have s7 := s6.trans (Same.new (o := .lst (((lts.map one ++ lts.map two) ++ pA).map V.str ++ [V.str "self", V.str "rows", V.str "aaaaaaaa", V.str "zzzzzzzz"])) hp3')
      have hp7 : (upd (upd H5 g2 (.lst [V.str "self", V.str "rows", V.str "aaaaaaaa", V.str "zzzzzzzz"])) p3 (.lst (((lts.map one ++ lts.map two) ++ pA).map V.str ++ [V.str "self", V.str "rows", V.str "aaaaaaaa", V.str "zzzzzzzz"]))) p3 = some (.lst (pool.map V.str)) := by
        rw [upd_same]
        unfold pool
        rw [List.map_append (l₂ := pB)]
        rfl
      show tSeq _ _ _ _ (upd (upd H5 g2 (.lst [V.str "self", V.str "rows", V.str "aaaaaaaa", V.str "zzzzzzzz"])) p3 (.lst (((lts.map one ++ lts.map two) ++ pA).map V.str ++ [V.str "self", V.str "rows", V.str "aaaaaaaa", V.str "zzzzzzzz"])))
      generalize (upd (upd H5 g2 (.lst [V.str "self", V.str "rows", V.str "aaaaaaaa", V.str "zzzzzzzz"])) p3 (.lst (((lts.map one ++ lts.map two) ++ pA).map V.str ++ [V.str "self", V.str "rows", V.str "aaaaaaaa", V.str "zzzzzzzz"]))) = H7 at s7 hp7
      have s17 := ((((s1.trans s2).trans s3).trans s5).trans s7)
      have pa7 := pa.same s17
      refine ⟨_, rfl, a, L, 61, n, rfl, by decide, by decide, by omega, pa7, fun H8 d1 n1 sx8 pa8 hn1 hd1 => ?_⟩
      refine ⟨_, rfl, a, L, 60, n1, rfl, by decide, by decide, by omega, pa8, fun H9 d2 n2 sx9 pa9 hn2 hd2 => ?_⟩
      refine ⟨_, _, rfl, rfl, (by show 2 ≤ sizeLine; decide), fun t ht => ?_⟩
      have hpa : p3 ≠ a := by
        obtain ⟨_, _, z, _⟩ := pa7
        exact ne_of hp7 z (by intro z; cases z)
      have sT := Same.new (o := .tup [V.int (d1 : Nat), V.int (1 + (d2 : Nat))]) ht
      have htT : (upd H9 t (.tup [V.int (d1 : Nat), V.int (1 + (d2 : Nat))])) t = some (.tup [V.int (d1 : Nat), V.int (1 + (d2 : Nat))]) := upd_same
      show gTup K 2 (gCons (gName 4) (gCons (gName 5) gNil)) _ _ (upd H9 t (.tup [V.int (d1 : Nat), V.int (1 + (d2 : Nat))])) _
      generalize upd H9 t (.tup [V.int (d1 : Nat), V.int (1 + (d2 : Nat))]) = H10 at sT htT
      have hp10 := sT _ _ (sx9 _ _ hpa (sx8 _ _ hpa hp7))
      refine ⟨t, _, rfl, .of htT, rfl, _, _, rfl, _, _, rfl, rfl, ?_⟩
      refine ⟨_, rfl, (k : Int), rfl, by omega, by omega, ?_⟩
      rw [Int.toNat_natCast]
      intro G hG
      refine lc_gr (Mono.eq V.str) walk_range hG (n := k) (by rw [sizeLine_eq]; omega) (fun _ => true) (fun i => pool.getD ((d1 + (1 + d2) * i) % 61) Str.empty) (fun _ _ => trivial) (fun _ _ _ _ _ y => by rw [y.1]; exact Same.refl _) ?_ ?_
      · rintro i x _ Ha A' B' hi sa _ ⟨rfl, rfl⟩ hA _
        rw [show (fun i : Nat => V.int (0 + (i : Int))) i = V.int (i : Nat) from congrArg V.int (Int.zero_add _)]
        have hlt : (d1 + (1 + d2) * i) % 61 < pool.length := by rw [pool_len]; exact Nat.mod_lt _ (by decide)
        have hpi : (pool.map V.str)[(d1 + (1 + d2) * i) % 61]? = some (V.str (pool.getD ((d1 + (1 + d2) * i) % 61) Str.empty)) := by
          rw [List.getElem?_map, List.getElem?_eq_getElem hlt, List.getD_eq_getElem?_getD, List.getElem?_eq_getElem hlt]
          rfl
        refine ⟨rfl, yes ⟨_, rfl, _, rfl, _, rfl, _, rfl, _, _, rfl, rfl, .inr ⟨by omega, by omega⟩, _, _, rfl, rfl, _, _, rfl, rfl, (by show (0 : Int) < 61; decide), p3, _, _, _, rfl, rfl, .of (sa _ _ hp10), ?_, hA rfl _ _ (Same.refl _) rfl⟩⟩
        have e : ((d1 : Int) + (1 + (d2 : Int)) * (i : Int)) % 61 = (((d1 + (1 + d2) * i) % 61 : Nat) : Int) := by
          rw [Int.natCast_emod, Int.natCast_add, Int.natCast_mul, Int.natCast_add]
          rfl
        rw [e]
        exact atI_nat hpi
      · intro out Ha sa ea al
        rw [outs_all] at al
        rw [al.eq] at ea
        have sxa : SameX a H Ha := (Pw.Same.x s17).trans ((sx8.trans sx9).trans ((Pw.Same.x sT).trans (Pw.Same.x sa)))
        exact q Ha G (nms d1 (1 + d2) k) n2 sxa ea (nms_nd (by omega) (by omega) hk) nms_ok (by unfold nms; rw [List.length_map, List.length_range]) ((pa9.same sT).same sa) (by omega)
end
end Pw
end
section
set_option maxRecDepth 100000
set_option maxHeartbeats 4000000
/-! The law's helpers: plans and pages. -/
namespace Pw
open PySem PySem.Spec PyProof.Rows L2
/-- all but what stands at a -/
def off (a : Addr) (H : Hp) : Hp := fun b => if b = a then none else H b
theorem off_same {a : Addr} {H : Hp} : Same (off a H) H := fun b o e => by
  unfold off at e
  by_cases h : b = a
  · rw [if_pos h] at e; cases e
  · rwa [if_neg h] at e
theorem off_mono {a : Addr} {H H' : Hp} (s : SameX a H H') : Same (off a H) (off a H') := fun b o e => by
  unfold off at *
  by_cases h : b = a
  · rw [if_pos h] at e; cases e
  · rw [if_neg h] at *; exact s _ _ h e
theorem off_at {a b : Addr} {H : Hp} {o : HO} (h : b ≠ a) (e : H b = some o) : off a H b = some o := by unfold off; rw [if_neg h]; exact e
def planK (R N : Addr) : List (Key × V) := [(Sum.inr "rows", .ref R), (Sum.inr "needs", .ref N)]
/-- a plan of a sheet -/
def PlanAt (H : Hp) (p : Addr) (rows : List Str) (pl : Str → List Str) : Prop := ∃ (R N : Addr) (kvs : List (Key × V)), H p = some (.dK (planK R N)) ∧ H R = some (.lst (rows.map V.str)) ∧ H N = some (.dK kvs) ∧ kvs.length ≤ 12 ∧
  (∀ r ∈ rows, ∃ t, valV kvs (Sum.inr r) = some (.ref t) ∧ H t = some (.tup ((pl r).map V.str))) ∧
  ∀ p ∈ kvs, ∃ (r : Str) (t : Addr), p = (Sum.inr r, .ref t) ∧ r ∈ rows ∧ H t = some (.tup ((pl r).map V.str))
theorem PlanAt.same {H H' : Hp} {p : Addr} {rows : List Str} {pl : Str → List Str} (h : PlanAt H p rows pl) (s : Same H H') : PlanAt H' p rows pl := by
  obtain ⟨R, N, kvs, h1, h2, h3, h4, h5, h6⟩ := h
  refine ⟨R, N, kvs, s _ _ h1, s _ _ h2, s _ _ h3, h4, fun r hr => ?_, fun q hq => ?_⟩
  · obtain ⟨t, e1, e2⟩ := h5 r hr
    exact ⟨t, e1, s _ _ e2⟩
  · obtain ⟨r, t, e1, e2, e3⟩ := h6 q hq
    exact ⟨r, t, e1, e2, s _ _ e3⟩
theorem cut_sub (xs : List Str) (lo : Option Int) (i : Nat) (hi : i ≤ xs.length) : ∃ so : List Str, cutV (xs.map V.str) lo (some (i : Int)) = so.map V.str ∧ so.Sublist (xs.take i) := by
  refine ⟨(xs.take i).drop (HT.sIx xs.length 0 lo), ?_, List.drop_sublist _ _⟩
  unfold cutV
  rw [HT.sIx_nat, List.length_map, Nat.min_eq_left hi, List.drop_take, List.map_take, List.map_drop]
theorem mem_take_idx {xs : List Str} {o r : Str} (hr : r ∈ xs) (h : o ∈ xs.take (xs.idxOf r)) : xs.idxOf o < xs.idxOf r := by
  obtain ⟨j, hj, e⟩ := List.mem_iff_getElem.mp h
  rw [List.length_take] at hj
  rw [List.getElem_take] at e
  have hjl : j < xs.length := by omega
  have h2 := List.idxOf_lt_length_of_mem hr
  refine Nat.lt_of_le_of_lt ?_ (show j < xs.idxOf r by omega)
  rw [← e]
  rcases Nat.lt_or_ge j (xs.idxOf xs[j]) with z | z
  · exfalso
    have := List.not_of_lt_findIdx (p := fun y => y == xs[j]) z
    simp at this
  · exact z
theorem PenAt.ne_lst {H : Hp} {a L b : Addr} {n : Nat} {xs : List V} (h : PenAt H a L n) (e : H b = some (.lst xs)) : b ≠ a := let ⟨_, _, w, _⟩ := h; ne_of e w (by intro z; cases z)
theorem PenAt.ne_tup {H : Hp} {a L b : Addr} {n : Nat} {xs : List V} (h : PenAt H a L n) (e : H b = some (.tup xs)) : b ≠ a := let ⟨_, _, w, _⟩ := h; ne_of e w (by intro z; cases z)
theorem upd_upd_same' {H : Hp} {a : Addr} {o o' : HO} : upd (upd H a o) a o' = upd H a o' := by
  funext b
  by_cases h : b = a
  · rw [h, upd_same, upd_same]
  · rw [upd_ne h, upd_ne h, upd_ne h]
theorem nd_key : ∀ {kvs : List (Key × V)} {z : Key × V} {k : Key} {v : V}, (kvs.map (·.1)).Nodup → z ∈ kvs → (k, v) ∈ kvs → z.1 = k → z = (k, v)
  | x :: xs, z, k, v, hn, hz, hk, e => by
    rw [List.map_cons, List.nodup_cons] at hn
    rcases List.mem_cons.mp hz with rfl | hz
    · rcases List.mem_cons.mp hk with h | hk
      · exact h.symm
      · exact absurd (List.mem_map.mpr ⟨_, hk, e.symm⟩) hn.1
    · rcases List.mem_cons.mp hk with h | hk
      · refine absurd (List.mem_map.mpr ⟨z, hz, ?_⟩) hn.1
        rw [← h]; exact e
      · exact nd_key hn.2 hz hk e
section
variable {P : Program} {w : World} {K : PySem.W.Frag} {mg : Str → Option Value} {base : Heap}
def spPlan : Sp := fun vs H Q _ => ∃ (a L : Addr) (k n : Nat), vs = [.ref a, .int k] ∧ PenAt H a L n ∧ k ≤ 12 ∧ n + 1000 ≤ 100000 ∧
  ∀ H' p (rows : List Str) (pl : Str → List Str) n', SameX a H H' → Sh rows pl → rows.length = k → PlanAt (off a H') p rows pl → PenAt H' a L n' → n' ≤ n + 500 → Q (.ref p) H'
abbrev n_plan : List Str := ["_law_pen_here", "_law_many", "_law_names_here", "_law_way", "_law_needs", "_law_k", "_law_row", "_law_some", "_law_rows", "_law_other"]
theorem sc_plan : FnScope n_plan ["_law_pen_here", "_law_many"] (defScope s_law_plan) := ⟨rfl, rfl, rfl, by decide +kernel, rfl, by decide +kernel, by decide +kernel⟩
/-- while the needs are made -/
structure PlSt (a L d : Addr) (n0 : Nat) (nm : List Str) (H2 H' : Hp) (i : Nat) (pl : Str → List Str) (kvs : List (Key × V)) (n' : Nat) : Prop where
  sx : ∀ c o, c ≠ a → c ≠ d → H2 c = some o → H' c = some o
  hd : H' d = some (.dK kvs)
  tk : TK Sum.inr kvs (nm.take i)
  each : ∀ r ∈ nm.take i, ∃ t, valV kvs (Sum.inr r) = some (.ref t) ∧ H' t = some (.tup ((pl r).map V.str)) ∧ (pl r).Nodup ∧ ∀ o ∈ pl r, o ∈ nm.take (nm.idxOf r)
  pen : PenAt H' a L n'
  few : n' ≤ n0 + 30 * i
theorem ok_plan (T : Tx K mg) : Pr P w K mg base 3 (He.ga K "_law_plan") spPlan := by
  obtain ⟨fd, F⟩ := T.f_law_plan
  obtain ⟨_, FN⟩ := T.f_law_names
  obtain ⟨_, FD⟩ := T.f_law_draw
  obtain ⟨_, FS⟩ := T.f_law_shuffled
  refine pr_of (fn_t F sc_plan (fun _ _ _ _ _ _ us hl => match us, hl with | [_, _], _ => rfl) (fun vs H Q E h => ?_) fun cdv A outer s H vs Q E hr h => ?_)
  · obtain ⟨a, L, k, n, rfl, _⟩ := h
    rfl
  · obtain ⟨a, L, k, n, rfl, pa, hk, hn, q⟩ := h
    have hu := hu_of hr
    refine ⟨_, pss_cons (ps_set (i := 2) sc_plan.nd rfl (Or.inl rfl) (pc (ok_names T) hr FN.kp T.g_law_names (pa_cons (pv 0) (pa_cons (pv 1) pa_nil))))
      (pss_cons (ps_set (i := 3) sc_plan.nd rfl (Or.inr rfl) (pc (ok_draw T) (hr.mono (by decide)) FD.kp T.g_law_draw (pa_cons (pv 0) (pa_cons pe_int pa_nil))))
      (pss_cons (ps_set (i := 4) sc_plan.nd rfl (Or.inl rfl) pe_dnewK)
      (pss_cons (ps_for PassesOwn.never rfl (pi_enum (by rfl) T.b_enumerate (pa_cons (pv 2) pa_nil)) (pg_tup rfl (pgs_cons (pg_name (i := 5) sc_plan.nd rfl (Or.inl rfl)) (pgs_cons (pg_name (i := 6) sc_plan.nd rfl (Or.inl rfl)) pgs_nil)))
        (pss_cons (ps_set (i := 7) sc_plan.nd rfl (Or.inl rfl) (pe_ix ix_list (pe_lst (pa_cons (pe_lst pa_nil) (pa_cons (pe_slice sl_list (pv 2) (po_some (pe_callB (call_max2 rfl) (by rfl) T.b_max (by decide +kernel) (pa_cons pe_int (pa_cons (pe_op op_sub (pv 5) pe_int) pa_nil)))) (po_some (pv 5))) (pa_cons (pe_slice sl_list (pv 2) po_none (po_some (pv 5))) pa_nil))))
            (pe_callB (call_min2 rfl) (by rfl) T.b_min (by decide +kernel) (pa_cons (pv 3) (pa_cons pe_int pa_nil))) (fun _ _ => rfl)))
        (pss_cons (ps_if (pt_cmpR op_gt (pv 3) pe_int (nomark _))
          (pss_one (ps_setLc (i := 7) (own := [("_law_other", 9)]) (g := gName 9) rfl sc_plan.nd rfl rfl (sw_true rfl rfl rfl (by decide +kernel)) (pi_list (pe_slice sl_list (pv 2) po_none (po_some (pv 5)))) (blkOk_by (N := n_plan) (sc := defScope s_law_plan) (by decide +kernel))
            (fun _ _ _ _ _ => pg_name (i := 9) sc_plan.nd rfl (Or.inl rfl)) (tt := tTest (tOp rEq (tCl spDraw (tCons (tVar 0) (tCons (tVar 3) tNil))) (tC (.int 0)))) (fun _ _ _ _ _ => pts_one (pt_cmpR op_eq (pc (ok_draw T) (hr.mono (by decide)) FD.kp T.g_law_draw (pa_cons (pv 0) (pa_cons (pv 3) pa_nil))) pe_int (nomark _))) (te := tVar 9) (fun _ _ _ _ _ => pv 9))) pss_nil)
        (pss_one (ps_dput hu (pv 4) (pv 6) (pe_callTy call_tuple_of (by rfl) T.b_tuple (by decide +kernel) (pa_cons (pc (ok_shuf T) hr FS.kp T.g_law_shuffled (pa_cons (pv 0) (pa_cons (pv 7) pa_nil))) pa_nil)) rfl)))))
      (pss_cons (ps_set (i := 8) sc_plan.nd rfl (Or.inl rfl) (pe_ix ix_list (pe_lst (pa_cons (pv 2) (pa_cons (pe_revL (pv 2)) (pa_cons (pc (ok_shuf T) hr FS.kp T.g_law_shuffled (pa_cons (pv 0) (pa_cons (pv 2) pa_nil))) (pa_cons (pc (ok_shuf T) hr FS.kp T.g_law_shuffled (pa_cons (pv 0) (pa_cons (pv 2) pa_nil))) pa_nil)))))
            (pc (ok_draw T) (hr.mono (by decide)) FD.kp T.g_law_draw (pa_cons (pv 0) (pa_cons pe_int pa_nil))) (fun _ _ => rfl)))
      (pss_one (ps_ret (pe_disp (pps_cons pe_str (pv 8) (pps_cons pe_str (pv 4) pps_nil)) (by rfl) (by rfl) (fun z => by cases z) (by decide)))))))), ?_⟩
    refine ⟨_, rfl, _, rfl, a, L, k, n, rfl, pa, hk, by omega, fun H0 N0 nm n0 sx0 hN0 nmd nok nml pa0 hn0 => ?_⟩
    refine ⟨_, rfl, a, L, 6, n0, rfl, by decide, by decide, by omega, pa0, fun H1 way n1 sx1 pa1 hn1 hway => ?_⟩
    have hpen1 : ∃ r, H1 a = some (.dK (penK L n1 r)) := let ⟨_, r, e, _⟩ := pa1; ⟨r, e⟩
    obtain ⟨rr, ea1⟩ := hpen1
    have hN0a : N0 ≠ a := pa0.ne_lst hN0
    have hN1 : H1 N0 = some (.lst (nm.map V.str)) := sx1 _ _ hN0a hN0
    intro d hd
    have hda : d ≠ a := fun z => by rw [z, ea1] at hd; cases hd
    have hdN : N0 ≠ d := fun z => by rw [← z, hN1] at hd; cases hd
    have s2 : Same H1 (upd H1 d (.dK [])) := Same.new hd
    have hd2 : (upd H1 d (.dK [])) d = some (.dK []) := upd_same
    have pa2 := pa1.same s2
    have hN2 := s2 _ _ hN1
    generalize hH2 : upd H1 d (.dK []) = H2 at s2 hd2 pa2 hN2
    refine ⟨_, rfl, N0, _, rfl, .of hN2, ?_⟩
    refine for_it (n := (nm.map V.str).length) walk_enum (fun i σ' H' => ∃ pl kvs n' x5 x6 x7, σ' = [some (.ref a), some (.int k), some (.ref N0), some (.int (way : Nat)), some (.ref d), x5, x6, x7, none, none] ∧ PlSt a L d n1 nm H2 H' i pl kvs n')
      ⟨fun _ => [], [], n1, none, none, none, rfl, fun c o _ _ e => e, hd2, rfl, fun r hr => by simp at hr, pa2, by omega⟩ (fun i σ' H' _ h => by obtain ⟨_, _, _, _, _, _, _, S⟩ := h; exact .of (S.sx _ _ hN0a hdN hN2)) ?_ ?_
    · rintro i x σ' H3 H4 hi ⟨pl, kvs, n', x5, x6, x7, rfl, S⟩ ⟨Tn, x1, y1, rfl, hTn, rfl, hx1, hy1⟩
      rw [List.length_map] at hi
      have hrow : nm[i]? = some nm[i] := List.getElem?_eq_getElem hi
      cases hx1
      simp only [List.getElem?_map, hrow] at hy1
      cases hy1
      generalize hrr : nm[i] = r at hrow
      have hrm : r ∈ nm := List.mem_of_getElem? hrow
      have hidx : nm.idxOf r = i := by rw [← hrr]; exact nmd.idxOf_getElem i hi
      have hnew : r ∉ nm.take i := fun hm => by
        rw [← hidx] at hm
        have := mem_take_idx hrm hm
        omega
      -- what follows, whatever list is in slot 7
      have fin : ∀ (b : Addr) (so : List Str) (H5 : Hp) (n5 : Nat) (x9 : Option V) (D : Ends), (∀ c o, c ≠ a → H3 c = some o → H5 c = some o) → H5 b = some (.lst (so.map V.str)) → so.Sublist (nm.take i) → PenAt H5 a L n5 → n5 ≤ n' + 12 →
          (∀ σ' H', (∃ pl kvs n' x5 x6 x7, σ' = [some (.ref a), some (.int k), some (.ref N0), some (.int (way : Nat)), some (.ref d), x5, x6, x7, none, none] ∧ PlSt a L d n1 nm H2 H' (i + 1) pl kvs n') → D.nx σ' H') →
          sDPut (tVar 4) (tVar 6) (tCB (rTupOf K) (tCons (tCl spShuf (tCons (tVar 0) (tCons (tVar 7) tNil))) tNil)) D [some (.ref a), some (.int k), some (.ref N0), some (.int (way : Nat)), some (.ref d), some (.int (i : Nat)), some (.str r), some (.ref b), none, none] H5 := fun b so H5 n5 x9 D s5 hb hsub pa5 hn5 hD => by
        have hle : so.length ≤ 12 := by
          have h1 := hsub.length_le
          rw [List.length_take] at h1
          omega
        have hf := S.few
        refine ⟨_, rfl, _, rfl, a, L, b, so, n5, rfl, pa5, hb, hle, by omega, fun H6 E1 ys n6 sx6 hE1 hperm pa6 hn6 => ?_⟩
        refine ⟨E1, _, rfl, .inl ⟨.of hE1, fun t ht => ?_⟩⟩
        have sT := Same.new (o := .tup (ys.map V.str)) ht
        have hd3 := S.hd
        have hd6 : H6 d = some (.dK kvs) := sx6 _ _ hda (s5 _ _ hda hd3)
        have htd : t ≠ d := fun z => by rw [z, hd6] at ht; cases ht
        have hdt := sT _ _ hd6
        have htt : (upd H6 t (.tup (ys.map V.str))) t = some (.tup (ys.map V.str)) := upd_same
        have pa7 := pa6.same sT
        generalize upd H6 t (.tup (ys.map V.str)) = H7 at sT hdt htt pa7
        have hkl : kvs.length < sizeLine := by rw [S.tk.len, List.length_take, sizeLine_eq]; omega
        have hpn : ∃ r', H7 a = some (.dK (penK L n6 r')) := let ⟨_, r', e, _⟩ := pa7; ⟨r', e⟩
        obtain ⟨r7, ea7⟩ := hpn
        have hdL : d ≠ L := fun z => by
          obtain ⟨_, _, _, e, _⟩ := pa7
          rw [← z, hdt] at e
          cases e
        refine ⟨_, rfl, _, rfl, d, _, rfl, DPut.k (k := Sum.inr r) hdt hkl, hD _ _ ⟨fun z => if z = r then ys else pl z, _, n6, _, _, _, rfl, fun c o ha hdc e => ?_, upd_same, ?_, fun z hz => ?_, pa7.upd hda hdL, by omega⟩⟩
        · rw [upd_ne hdc]
          exact sT _ _ (sx6 _ _ ha (s5 _ _ ha (S.sx _ _ ha hdc e)))
        · have e := S.tk.put inr_inj r (.ref t)
          unfold addS at e
          rw [if_neg hnew] at e
          rw [List.take_add_one, hrow]
          exact e
        · rw [List.take_add_one, hrow, List.mem_append] at hz
          by_cases e : z = r
          · subst e
            refine ⟨t, by rw [valV_put, if_pos rfl], ?_, ?_, fun o ho => ?_⟩
            · rw [if_pos rfl, upd_ne htd]; exact htt
            · rw [if_pos rfl]
              exact hperm.nodup_iff.mpr (((nmd.sublist (List.take_sublist _ _))).sublist hsub)
            · rw [if_pos rfl] at ho
              rw [hidx]
              exact hsub.mem (hperm.mem_iff.mp ho)
          · have hz' : z ∈ nm.take i := hz.resolve_right fun w => e (by simpa using w)
            obtain ⟨t', e1, e2, e3, e4⟩ := S.each z hz'
            have hta : t' ≠ a := S.pen.ne_tup e2
            have e5 := sT _ _ (sx6 _ _ hta (s5 _ _ hta e2))
            refine ⟨t', by rw [valV_put, if_neg (fun w => e (Sum.inr.inj w))]; exact e1, ?_, by rw [if_neg e]; exact e3, by rw [if_neg e]; exact e4⟩
            rw [if_neg e, upd_ne (ne_of e5 hdt (by intro w; cases w))]
            exact e5
      have sT := Same.new (o := .tup [V.int (i : Nat), V.str r]) hTn
      have hTT : (upd H3 Tn (.tup [V.int (i : Nat), V.str r])) Tn = some (.tup [V.int (i : Nat), V.str r]) := upd_same
      show gTup K 2 (gCons (gName 5) (gCons (gName 6) gNil)) _ _ (upd H3 Tn (.tup [V.int (i : Nat), V.str r])) _
      generalize upd H3 Tn (.tup [V.int (i : Nat), V.str r]) = H4 at sT hTT
      refine ⟨Tn, _, rfl, .of hTT, rfl, _, _, rfl, _, _, rfl, rfl, ?_⟩
      have hN4 := sT _ _ (S.sx _ _ hN0a hdN hN2)
      have pa4 := S.pen.same sT
      -- the three lists
      refine ⟨(by show 0 ≤ sizeLine; decide), fun l0 hl0 => ?_⟩
      have t0 := Same.new (o := .lst []) hl0
      have hl0' : (upd H4 l0 (.lst [])) l0 = some (.lst (([] : List Str).map V.str)) := upd_same
      generalize upd H4 l0 (.lst []) = H5 at t0 hl0'
      obtain ⟨lo, hlo⟩ : ∃ lo : Int, lo = if (i : Int) - 1 > 0 then (i : Int) - 1 else 0 := ⟨_, rfl⟩
      obtain ⟨so1, e1, sub1⟩ := cut_sub nm (some lo) i (by omega)
      obtain ⟨so2, e2, sub2⟩ := cut_sub nm none i (by omega)
      refine ⟨_, rfl, _, rfl, _, _, rfl, rfl, _, _, rfl, lo, by rw [hlo], _, rfl, (i : Int), rfl, N0, _, rfl, .of (t0 _ _ hN4), fun l1 hl1 => ?_⟩
      rw [e1]
      have t1 := t0.trans (Same.new (o := .lst (so1.map V.str)) hl1)
      have hl1' : (upd H5 l1 (.lst (so1.map V.str))) l1 = some (.lst (so1.map V.str)) := upd_same
      have hl0' := Same.new (o := .lst (so1.map V.str)) hl1 _ _ hl0'
      generalize upd H5 l1 (.lst (so1.map V.str)) = H6 at t1 hl1' hl0'
      refine ⟨_, rfl, _, rfl, (i : Int), rfl, N0, _, rfl, .of (t1 _ _ hN4), fun l2 hl2 => ?_⟩
      rw [e2]
      have u2 := Same.new (o := .lst (so2.map V.str)) hl2
      have hl2' : (upd H6 l2 (.lst (so2.map V.str))) l2 = some (.lst (so2.map V.str)) := upd_same
      have t2 := t1.trans u2
      have hl1' := u2 _ _ hl1'
      have hl0' := u2 _ _ hl0'
      generalize upd H6 l2 (.lst (so2.map V.str)) = H7 at t2 hl2' hl1' hl0'
      refine ⟨(by show 3 ≤ sizeLine; decide), fun l3 hl3 => ?_⟩
      have u3 := Same.new (o := .lst [V.ref l0, .ref l1, .ref l2]) hl3
      have hl3' : (upd H7 l3 (.lst [V.ref l0, .ref l1, .ref l2])) l3 = some (.lst [V.ref l0, .ref l1, .ref l2]) := upd_same
      have t3 := t2.trans u3
      have hl2' := u3 _ _ hl2'
      have hl1' := u3 _ _ hl1'
      have hl0' := u3 _ _ hl0'
      refine ⟨_, rfl, _, _, rfl, ?_⟩
      show rIxL K _ _ (upd H7 l3 (.lst [V.ref l0, .ref l1, .ref l2])) _
      generalize upd H7 l3 (.lst [V.ref l0, .ref l1, .ref l2]) = H8 at t3 hl3' hl2' hl1' hl0'
      obtain ⟨b, so, hb, hsub, hat⟩ : ∃ (b : Addr) (so : List Str), H8 b = some (.lst (so.map V.str)) ∧ so.Sublist (nm.take i) ∧ atI [V.ref l0, V.ref l1, V.ref l2] (if (2 : Int) < (way : Nat) then 2 else (way : Nat)) = some (.ref b) := by
        rcases Nat.lt_or_ge way 1 with h | h
        · have e : (if (2 : Int) < (way : Nat) then (2 : Int) else (way : Nat)) = ((0 : Nat) : Int) := by rw [if_neg (by omega)]; omega
          rw [e]
          exact ⟨l0, [], hl0', List.nil_sublist _, rfl⟩
        · rcases Nat.lt_or_ge way 2 with h' | h'
          · have e : (if (2 : Int) < (way : Nat) then (2 : Int) else (way : Nat)) = ((1 : Nat) : Int) := by rw [if_neg (by omega)]; omega
            rw [e]
            exact ⟨l1, so1, hl1', sub1, rfl⟩
          · have e : (if (2 : Int) < (way : Nat) then (2 : Int) else (way : Nat)) = ((2 : Nat) : Int) := by split <;> omega
            rw [e]
            exact ⟨l2, so2, hl2', sub2, rfl⟩
      refine ⟨l3, _, _, .ref b, rfl, rfl, .of hl3', hat, ?_⟩
      have t38 : Same H3 H8 := sT.trans t3
      have pa8 := pa4.same t3
      have hN8 := t3 _ _ hN4
      have hN8a := pa8.ne_lst hN8
      refine ⟨_, rfl, _, _, rfl, rfl, _, rfl, iB (fun hw => ?_) (fun hw => fin b so H8 n' none _ (fun c o _ e => t38 _ _ e) hb hsub pa8 (by omega) fun σ' H' h => h)⟩
      refine ⟨_, rfl, _, rfl, (i : Int), rfl, N0, _, rfl, .of hN8, fun l4 hl4 => ?_⟩
      rw [e2]
      have u4 := Same.new (o := .lst (so2.map V.str)) hl4
      have hl4' : (upd H8 l4 (.lst (so2.map V.str))) l4 = some (.lst (so2.map V.str)) := upd_same
      have t4 := t38.trans u4
      have pa9 := pa8.same u4
      generalize upd H8 l4 (.lst (so2.map V.str)) = H9 at t4 hl4' pa9
      refine ⟨l4, rfl, ⟨_, .of hl4'⟩, fun G hG => ?_⟩
      have hGa := pa9.ne hG
      have hl4a := pa9.ne_lst hl4'
      have hl4G : l4 ≠ G := fun z => by rw [← z, hl4'] at hG; cases hG
      have hso := sub2.length_le
      rw [List.length_take] at hso
      refine walk_gen (n := (so2.map V.str).length) walk_list (fun j H' => ∃ (out : List Str) (n5 : Nat), H' G = some (.lst (out.map V.str)) ∧ out.Sublist (so2.take j) ∧ PenAt H' a L n5 ∧ n5 ≤ n' + j ∧ ∀ c o, c ≠ a → H9 c = some o → H' c = some o) ⟨[], n', upd_same, List.nil_sublist _, pa9.same (Same.new hG), by omega, fun c o _ e => Same.new hG _ _ e⟩ (fun j H' _ g => by obtain ⟨_, _, _, _, _, _, g⟩ := g; exact .of (g _ _ hl4a hl4')) ?_ ?_
      · rintro j x _ Ha hj ⟨out, n5, gG, gs, gp, gn, gx⟩ ⟨rfl, hx⟩
        rw [List.length_map] at hj
        have hsj : so2[j]? = some so2[j] := List.getElem?_eq_getElem hj
        rw [List.getElem?_map, hsj] at hx
        cases hx
        have hw2 : 2 < way := by have := of_decide_eq_true hw; omega
        have hf := S.few
        refine ⟨rfl, ?_⟩
        refine ⟨_, rfl, _, rfl, a, L, way, n5, rfl, by omega, by omega, by omega, gp, fun Hb dd n6 sxb pab hnb hdd => ?_⟩
        refine ⟨rfl, _, rfl, ?_⟩
        have gGb := sxb _ _ hGa.1 gG
        have gxb : ∀ c o, c ≠ a → H9 c = some o → Hb c = some o := fun c o hc e => sxb _ _ hc (gx _ _ hc e)
        have hol := gs.length_le
        rw [List.length_take] at hol
        have etk : so2.take (j + 1) = so2.take j ++ [so2[j]] := by rw [List.take_add_one, hsj]; rfl
        refine iB (fun hz => ?_) (fun hz => ⟨out, n6, gGb, by rw [etk]; exact gs.trans (List.sublist_append_left _ _), pab, by omega, gxb⟩)
        refine ⟨_, rfl, _, gGb, by rw [List.length_map, sizeLine_eq]; omega, out ++ [so2[j]], n6, by rw [upd_same, List.map_append]; rfl, by rw [etk]; exact gs.append_right _, pab.upd hGa.1 hGa.2, by omega, fun c o hc e => ?_⟩
        rw [upd_ne (fun z => by rw [z, hG] at e; cases e)]
        exact gxb c o hc e
      · rintro Ha ⟨out, n5, gG, gs, gp, gn, gx⟩
        rw [List.length_map] at gs gn
        rw [List.take_length] at gs
        exact fin G out Ha n5 none _ (fun c o hc e => gx _ _ hc (t4 _ _ e)) gG (gs.trans sub2) gp (by omega) fun σ' H' h => h
    · rintro σ' H3 ⟨pl, kvs, n', x5, x6, x7, rfl, S⟩
      have hf := S.few
      rw [List.length_map] at S hf
      have hN3 := S.sx _ _ hN0a hdN hN2
      have hn12 : nm.length ≤ 12 := by omega
      refine ⟨_, rfl, _, rfl, N0, _, rfl, .of hN3, fun l1 hl1 => ?_⟩
      have u1 := Same.new (o := .lst (nm.map V.str).reverse) hl1
      have hl1' : (upd H3 l1 (.lst (nm.map V.str).reverse)) l1 = some (.lst (nm.reverse.map V.str)) := by rw [upd_same, List.map_reverse]
      generalize upd H3 l1 (.lst (nm.map V.str).reverse) = H4 at u1 hl1'
      have pa4 := S.pen.same u1
      have hN4 := u1 _ _ hN3
      refine ⟨_, rfl, _, rfl, a, L, N0, nm, n', rfl, pa4, hN4, hn12, by omega, fun H5 l2 ys2 n5 sx5 hl2 pm2 pa5 hn5 => ?_⟩
      have hl1a := pa4.ne_lst hl1'
      have hl1' := sx5 _ _ hl1a hl1'
      have hN5 := sx5 _ _ hN0a hN4
      refine ⟨_, rfl, _, rfl, a, L, N0, nm, n5, rfl, pa5, hN5, hn12, by omega, fun H6 l3 ys3 n6 sx6 hl3 pm3 pa6 hn6 => ?_⟩
      have hl1' := sx6 _ _ hl1a hl1'
      have hl2a := pa5.ne_lst hl2
      have hl2 := sx6 _ _ hl2a hl2
      have hl3a := pa6.ne_lst hl3
      have hN6 := sx6 _ _ hN0a hN5
      refine ⟨(by show 4 ≤ sizeLine; decide), fun l hl => ?_⟩
      have u7 := Same.new (o := .lst [V.ref N0, .ref l1, .ref l2, .ref l3]) hl
      have hl7 : (upd H6 l (.lst [V.ref N0, .ref l1, .ref l2, .ref l3])) l = some (.lst [V.ref N0, .ref l1, .ref l2, .ref l3]) := upd_same
      have pa7 := pa6.same u7
      have hla := (pa6.ne hl).1
      refine ⟨_, rfl, a, L, 4, n6, rfl, by decide, by decide, by omega, pa7, fun H8 dd n8 sx8 pa8 hn8 hdd => ?_⟩
      have k1 := sx8 _ _ hl1a (u7 _ _ hl1')
      have k2 := sx8 _ _ hl2a (u7 _ _ hl2)
      have k3 := sx8 _ _ hl3a (u7 _ _ hl3)
      have k0 := sx8 _ _ hN0a (u7 _ _ hN6)
      have kl := sx8 _ _ hla hl7
      obtain ⟨R, rows, hR, hperm, hat⟩ : ∃ (R : Addr) (rows : List Str), H8 R = some (.lst (rows.map V.str)) ∧ rows.Perm nm ∧ atI [V.ref N0, V.ref l1, V.ref l2, V.ref l3] ((dd : Nat) : Int) = some (.ref R) := by
        have h4 : dd = 0 ∨ dd = 1 ∨ dd = 2 ∨ dd = 3 := by omega
        rcases h4 with h | h | h | h <;> subst h
        · exact ⟨N0, nm, k0, .refl _, rfl⟩
        · exact ⟨l1, nm.reverse, k1, List.reverse_perm nm, rfl⟩
        · exact ⟨l2, ys2, k2, pm2, rfl⟩
        · exact ⟨l3, ys3, k3, pm3, rfl⟩
      refine ⟨l, _, _, .ref R, rfl, rfl, .of kl, hat, ?_⟩
      have sx38 : SameX a H3 H8 := (((Pw.Same.x u1).trans sx5).trans sx6).trans ((Pw.Same.x u7).trans sx8)
      have kd := sx38 _ _ hda S.hd
      intro p hp
      have up := Same.new (o := .dK []) hp
      have hpp : (upd H8 p (.dK [])) p = some (.dK []) := upd_same
      have hpd : p ≠ d := fun z => by rw [z, kd] at hp; cases hp
      have hpa := pa8.ne hp
      refine ⟨_, rfl, _, rfl, hpp, planK R d, rfl, (by show 2 ≤ 15; decide), ?_⟩
      rw [show mergeK [] (planK R d) = planK R d from rfl, upd_upd_same']
      have uq := Same.new (o := .dK (planK R d)) hp
      have hpq : (upd H8 p (.dK (planK R d))) p = some (.dK (planK R d)) := upd_same
      have paq := pa8.same uq
      generalize upd H8 p (.dK (planK R d)) = H9 at uq hpq paq
      have sx39 : SameX a H3 H9 := sx38.trans (Pw.Same.x uq)
      have hmem : ∀ r, r ∈ rows ↔ r ∈ nm := fun r => hperm.mem_iff
      have S1 := S.each
      rw [List.take_length] at S1
      have tk := S.tk
      rw [List.take_length] at tk
      have hRa := pa8.ne_lst hR
      refine q H9 p rows pl n8 (fun c o hc e => ?_) ⟨hperm.nodup_iff.mpr nmd, fun r hr => nok r ((hmem r).mp hr), by rw [hperm.length_eq]; exact hn12, fun r hr o ho => ?_, fun r hr => ?_, nm.idxOf, fun r hr o ho => ?_⟩ (by rw [hperm.length_eq]; exact nml)
        ⟨R, d, kvs, off_at hpa.1 hpq, off_at hRa (uq _ _ hR), off_at hda (uq _ _ kd), by rw [tk.len]; exact hn12, fun r hr => ?_, fun z hz => ?_⟩ paq (by omega)
      · have e2 := s2 _ _ (sx1 _ _ hc (sx0 _ _ hc e))
        have hcd : c ≠ d := fun z => by
          have := sx1 _ _ hc (sx0 _ _ hc e)
          rw [z, hd] at this
          cases this
        exact sx39 _ _ hc (S.sx _ _ hc hcd e2)
      · obtain ⟨_, _, _, _, h⟩ := S1 r ((hmem r).mp hr)
        exact (hmem o).mpr (List.mem_of_mem_take (h o ho))
      · obtain ⟨_, _, _, h, _⟩ := S1 r ((hmem r).mp hr)
        exact h
      · obtain ⟨_, _, _, _, h⟩ := S1 r ((hmem r).mp hr)
        exact mem_take_idx ((hmem r).mp hr) (h o ho)
      · obtain ⟨t, h1, h2, _⟩ := S1 r ((hmem r).mp hr)
        have hta := S.pen.ne_tup h2
        exact ⟨t, h1, off_at hta (sx39 _ _ hta h2)⟩
      · have hz2 : z.1 ∈ nm.map Sum.inr := by
          have : z.1 ∈ kvs.map (·.1) := List.mem_map.mpr ⟨z, hz, rfl⟩
          rw [tk] at this
          exact this
        obtain ⟨r, hr, er⟩ := List.mem_map.mp hz2
        obtain ⟨t, h1, h2, _⟩ := S1 r hr
        have hta := S.pen.ne_tup h2
        have hkn : (kvs.map (·.1)).Nodup := by
          rw [tk]
          exact Lat.nodup_map nmd fun x _ y _ e => Sum.inr.inj e
        refine ⟨r, t, ?_, (hmem r).mpr hr, off_at hta (sx39 _ _ hta h2)⟩
        have h3 := valV_mem h1
        exact nd_key hkn hz h3 er.symm
end
end Pw
end
section
set_option maxRecDepth 100000
set_option maxHeartbeats 4000000
/-! The law's helpers: pages, what is below. -/
namespace Pw
open PySem PySem.Spec PyProof.Rows L2
theorem inV_str (o : Str) (ss : List Str) : inV (.str o) (ss.map V.str) = decide (o ∈ ss) := by
  unfold inV
  rw [Bool.eq_iff_iff, List.any_eq_true, decide_eq_true_eq]
  constructor
  · rintro ⟨x, hx, e⟩
    obtain ⟨z, hz, rfl⟩ := List.mem_map.mp hx
    have : (z == o) = true := e
    rw [← eq_of_beq this]
    exact hz
  · intro h
    exact ⟨.str o, List.mem_map.mpr ⟨o, h, rfl⟩, beq_self_eq_true o⟩
theorem flat_str (ss : List Str) : (ss.map V.str).all flatV = true := List.all_eq_true.mpr fun x hx => by
  obtain ⟨z, _, rfl⟩ := List.mem_map.mp hx
  rfl
theorem putK_le (c : List (Key × V)) (k : Key) (x : V) : (putK c k x).length ≤ c.length + 1 := by
  unfold putK
  split
  · rw [List.length_map]; omega
  · rw [List.length_append, List.length_singleton]; exact Nat.le_refl _
/-- what the law finds below the rows -/
def LBelow (H : Hp) (B : Addr) (rows : List Str) (pl : Str → List Str) : Prop := ∃ kvs : List (Key × V), H B = some (.dK kvs) ∧ ∀ r ∈ rows, ∃ (s : Addr) (ss : List Str), valV kvs (Sum.inr r) = some (.ref s) ∧ H s = some (.lst (ss.map V.str)) ∧ ∀ o, o ∈ ss ↔ Dep pl r o
theorem LBelow.same {H H' : Hp} {B : Addr} {rows : List Str} {pl : Str → List Str} (h : LBelow H B rows pl) (s : Same H H') : LBelow H' B rows pl := by
  obtain ⟨kvs, h1, h2⟩ := h
  exact ⟨kvs, s _ _ h1, fun r hr => let ⟨a, ss, e1, e2, e3⟩ := h2 r hr; ⟨a, ss, e1, s _ _ e2, e3⟩⟩
/-- while the law looks for what is below r -/
structure Look (rows : List Str) (pl : Str → List Str) (r : Str) (ss ws : List Str) : Prop where
  nd : ss.Nodup
  sub : ∀ x ∈ ss, x ∈ rows
  wsub : ∀ x ∈ ws, x ∈ rows
  sd : ∀ x ∈ ss, Dep pl r x
  wd : ∀ x ∈ ws, Dep pl r x
  from_ : ∀ x ∈ pl r, x ∈ ss ∨ x ∈ ws
  on : ∀ x ∈ ss, ∀ o ∈ pl x, o ∈ ss ∨ o ∈ ws
theorem Look.done {rows : List Str} {pl : Str → List Str} {r : Str} {ss : List Str} (k : Look rows pl r ss []) (o : Str) : o ∈ ss ↔ Dep pl r o := by
  refine ⟨k.sd o, fun d => ?_⟩
  have gen : ∀ {x y : Str}, Dep pl x y → (x = r ∨ x ∈ ss) → y ∈ ss := by
    intro x y d
    induction d with
    | one h =>
      intro hx
      rcases hx with rfl | hx
      · exact (k.from_ _ h).resolve_right (by simp)
      · exact (k.on _ hx _ h).resolve_right (by simp)
    | step h _ ih =>
      intro hx
      refine ih (.inr ?_)
      rcases hx with rfl | hx
      · exact (k.from_ _ h).resolve_right (by simp)
      · exact (k.on _ hx _ h).resolve_right (by simp)
  exact gen d (.inl rfl)
section
variable {P : Program} {w : World} {K : PySem.W.Frag} {mg : Str → Option Value} {base : Heap}
def spPage (K : PySem.W.Frag) : Sp := fun vs H Q _ => ∃ (p : Addr) (rows : List Str) (pl : Str → List Str), vs = [.ref p] ∧ PlanAt H p rows pl ∧ Sh rows pl ∧ ∀ q nd H', (∀ r, (nd r).Perm (pl r)) → Same H H' → SheetAt K H' q rows nd → Q (.ref q) H'
theorem sc_page : FnScope ["_law_plan_here"] ["_law_plan_here"] (defScope s_law_page) := ⟨rfl, rfl, rfl, by decide +kernel, rfl, by decide +kernel, by decide +kernel⟩
theorem ok_page (T : Tx K mg) : Pr P w K mg base 8 (He.ga K "_law_page") (spPage K) := by
  obtain ⟨fd, F⟩ := T.f_law_page
  refine pr_of (fn_t F sc_page (fun _ _ _ _ _ _ us hl => match us, hl with | [_], _ => rfl) (fun vs H Q E h => ?_) fun cdv A outer s H vs Q E hr h => ?_)
  · obtain ⟨p, rows, pl, rfl, _⟩ := h
    rfl
  · obtain ⟨p, rows, pl, rfl, ⟨R, N, kvs, h1, h2, h3, h4, h5, h6⟩, S, q⟩ := h
    have hu := hu_of hr
    refine ⟨_, pss_one (ps_ret (ClX.pe_cmeth (CX := CX0) (E := E0) (pe_glob (v := .ref (He.ga K "Sheet")) (by rfl) T.g_Sheet rfl) T.cm_Sheet_of.1 T.cm_Sheet_of.2 (ok_Sheet_of T) hr pass0
      (pa_cons (pe_callTy call_tuple_of (by rfl) T.b_tuple (by decide +kernel) (pa_cons (pe_dget hu (pv 0) pe_str (fun _ _ => rfl)) pa_nil)) (pa_cons (pe_dget hu (pv 0) pe_str (fun _ _ => rfl)) pa_nil)))), ?_⟩
    refine ⟨rfl, _, rfl, p, .ref R, rfl, DGet.k (k := Sum.inr "rows") h1, R, _, rfl, .inl ⟨.of h2, fun t ht => ?_⟩⟩
    have s1 := Same.new (o := .tup (rows.map V.str)) ht
    refine ⟨_, rfl, p, .ref N, rfl, DGet.k (k := Sum.inr "needs") (s1 _ _ h1), ?_⟩
    refine ⟨t, N, rows, pl, kvs, rfl, upd_same, s1 _ _ h3, S, h4, fun z hz => ?_, fun r hr' hv => ?_, fun q' nd H' hnd s2 hs => q q' nd H' hnd (s1.trans s2) hs⟩
    · obtain ⟨r, t', e1, e2, e3⟩ := h6 z hz
      exact ⟨r, t', e1, e2, s1 _ _ e3⟩
    · obtain ⟨t', e1, _⟩ := h5 r hr'
      rw [hv] at e1
      cases e1
def spBelowL : Sp := fun vs H Q _ => ∃ (p : Addr) (rows : List Str) (pl : Str → List Str), vs = [.ref p] ∧ PlanAt H p rows pl ∧ Sh rows pl ∧ ∀ B H', Same H H' → LBelow H' B rows pl → Q (.ref B) H'
abbrev n_below : List Str := ["_law_plan_here", "_law_found", "_law_row", "_law_seen", "_law_waiting", "_law_one"]
theorem sc_below : FnScope n_below ["_law_plan_here"] (defScope s_law_below) := ⟨rfl, rfl, rfl, by decide +kernel, rfl, by decide +kernel, by decide +kernel⟩
theorem ok_below (T : Tx K mg) : Pr P w K mg base 1 (He.ga K "_law_below") spBelowL := by
  obtain ⟨fd, F⟩ := T.f_law_below
  refine pr_of (fn_t F sc_below (fun _ _ _ _ _ _ us hl => match us, hl with | [_], _ => rfl) (fun vs H Q E h => ?_) fun cdv A outer s H vs Q E hr h => ?_)
  · obtain ⟨p, rows, pl, rfl, _⟩ := h
    rfl
  · obtain ⟨p, rows, pl, rfl, ⟨R, N, kvs, h1, h2, h3, h4, h5, h6⟩, S, q⟩ := h
    have hu := hu_of hr
    refine ⟨_, pss_cons (ps_set (i := 1) sc_below.nd rfl (Or.inl rfl) pe_dnewK)
      (pss_cons (ps_for PassesOwn.never rfl (pi_list (pe_dget hu (pv 0) pe_str (fun _ _ => rfl))) (pg_name (i := 2) sc_below.nd rfl (Or.inl rfl))
        (pss_cons (ps_set (i := 3) sc_below.nd rfl (Or.inl rfl) (pe_lst pa_nil))
        (pss_cons (ps_set (i := 4) sc_below.nd rfl (Or.inl rfl) (pe_callTy call_list_of (by rfl) T.b_list (by decide +kernel) (pa_cons (pe_dget hu (pe_dget hu (pv 0) pe_str (fun _ _ => rfl)) (pv 2) (fun _ _ => rfl)) pa_nil)))
        (pss_cons (ps_while PassesOwn.never (pt_cmpR (op_neD hr.units) (pv 4) (pe_lst pa_nil) (nomark _))
          (pss_cons (ps_set (i := 5) sc_below.nd rfl (Or.inl rfl) (pe_bm0 PySem.F.plainAttrs_list PySem.F.slot_list_pop PySem.F.type_list_pop mt_pop (pv 4)))
          (pss_one (ps_if (pt_cmpR op_notIn_seq (pv 5) (pv 3) (by rfl))
            (pss_cons (ps_expr (pe_bm PySem.F.plainAttrs_list PySem.F.slot_list_append PySem.F.type_list_append mt_append (pv 3) (pa_cons (pv 5) pa_nil)))
            (pss_one (ps_expr (pe_bm PySem.F.plainAttrs_list PySem.F.slot_list_extend PySem.F.type_list_extend mt_extend (pv 4) (pa_cons (pe_callTy call_list_of (by rfl) T.b_list (by decide +kernel) (pa_cons (pe_dget hu (pe_dget hu (pv 0) pe_str (fun _ _ => rfl)) (pv 5) (fun _ _ => rfl)) pa_nil)) pa_nil))))) pss_nil))))
        (pss_one (ps_dput hu (pv 1) (pv 2) (pv 3) rfl))))))
      (pss_one (ps_ret (pv 1)))), ?_⟩
    intro B hB
    have s1 := Same.new (o := .dK []) hB
    have hB1 : (upd H B (.dK [])) B = some (.dK []) := upd_same
    generalize upd H B (.dK []) = H1 at s1 hB1
    have nB : ∀ c o, H c = some o → c ≠ B := fun c o e z => by rw [z, hB] at e; cases e
    have g1 := s1 _ _ h1
    have g2 := s1 _ _ h2
    refine ⟨_, rfl, p, .ref R, rfl, DGet.k (k := Sum.inr "rows") g1, R, rfl, ⟨_, .of g2⟩, ?_⟩
    refine for_it (n := (rows.map V.str).length) walk_list (fun i σ' H' => (∃ x2 x3 x4 x5, σ' = [some (.ref p), some (.ref B), x2, x3, x4, x5]) ∧ (∀ c o, c ≠ B → H1 c = some o → H' c = some o) ∧ ∃ bk : List (Key × V), H' B = some (.dK bk) ∧ bk.length ≤ i ∧
        ∀ r ∈ rows.take i, ∃ (s : Addr) (ss : List Str), valV bk (Sum.inr r) = some (.ref s) ∧ H' s = some (.lst (ss.map V.str)) ∧ ∀ o, o ∈ ss ↔ Dep pl r o)
      ⟨⟨none, none, none, none, rfl⟩, fun c o _ e => e, [], hB1, Nat.le_refl _, fun r hr => by simp at hr⟩ (fun i σ' H' _ h => .of (h.2.1 _ _ (nB _ _ h2) g2)) ?_ ?_
    · rintro i x σ' _ H3 hi ⟨⟨x2, x3, x4, x5, rfl⟩, sx, bk, hb, hbl, hall⟩ ⟨rfl, hx⟩
      rw [List.length_map] at hi
      have hrow : rows[i]? = some rows[i] := List.getElem?_eq_getElem hi
      rw [List.getElem?_map, hrow] at hx
      cases hx
      generalize hrr : rows[i] = r at hrow
      have hrm : r ∈ rows := List.mem_of_getElem? hrow
      have g13 := sx _ _ (nB _ _ h1) g1
      have g33 := sx _ _ (nB _ _ h3) (s1 _ _ h3)
      have needs : ∀ z ∈ rows, ∃ t, valV kvs (Sum.inr z) = some (.ref t) ∧ H3 t = some (.tup ((pl z).map V.str)) := fun z hz => by
        obtain ⟨t, e1, e2⟩ := h5 z hz
        exact ⟨t, e1, sx _ _ (nB _ _ e2) (s1 _ _ e2)⟩
      have gN : ∀ H', Same H3 H' → ∀ z ∈ rows, DGet H' p (.str "needs") (some (.ref N)) ∧ ∃ t, DGet H' N (.str z) (some (.ref t)) ∧ H' t = some (.tup ((pl z).map V.str)) := fun H' s' z hz => by
        obtain ⟨t, e1, e2⟩ := needs z hz
        refine ⟨DGet.k (k := Sum.inr "needs") (s' _ _ g13), t, ?_, s' _ _ e2⟩
        have dg := DGet.k (k := Sum.inr z) (s' _ _ g33)
        rw [e1] at dg
        exact dg
      refine ⟨(by show 0 ≤ sizeLine; decide), fun Sd hS => ?_⟩
      have u1 := Same.new (o := .lst []) hS
      have hS1 : (upd H3 Sd (.lst [])) Sd = some (.lst (([] : List Str).map V.str)) := upd_same
      have nS : ∀ c o, H3 c = some o → c ≠ Sd := fun c o e z => by rw [z, hS] at e; cases e
      generalize upd H3 Sd (.lst []) = H4 at u1 hS1
      obtain ⟨dg1, t, dg2, ht⟩ := gN H4 u1 r hrm
      refine ⟨_, rfl, p, .ref N, rfl, dg1, _, rfl, N, .ref t, rfl, dg2, t, _, rfl, .inr (.of ht), fun Wd hW => ?_⟩
      have u2 := Same.new (o := .lst ((pl r).map V.str)) hW
      have hW2 : (upd H4 Wd (.lst ((pl r).map V.str))) Wd = some (.lst ((pl r).map V.str)) := upd_same
      have nW : ∀ c o, H4 c = some o → c ≠ Wd := fun c o e z => by rw [z, hW] at e; cases e
      have hSW : Sd ≠ Wd := nW _ _ hS1
      have hS2 := u2 _ _ hS1
      have s34 : Same H3 (upd H4 Wd (.lst ((pl r).map V.str))) := u1.trans u2
      generalize upd H4 Wd (.lst ((pl r).map V.str)) = H5 at u2 hW2 hS2 s34
      have k0 : Look rows pl r [] (pl r) := ⟨List.nodup_nil, by simp, fun x hx => S.sub r hrm x hx, by simp, fun x hx => .one hx, fun x hx => .inr hx, by simp⟩
      have hpl : ∀ z ∈ rows, (pl z).length ≤ 12 := fun z hz => Nat.le_trans (S.ndle hz) S.le
      have hr12 := S.le
      show tSeq (tWhile _ _) _ _ [some (.ref p), some (.ref B), some (.str r), some (.ref Sd), some (.ref Wd), x5] H5
      refine ⟨fun μ σ' H' => ∃ x5 ss ws, σ' = [some (.ref p), some (.ref B), some (.str r), some (.ref Sd), some (.ref Wd), x5] ∧ H' Sd = some (.lst ((ss : List Str).map V.str)) ∧ H' Wd = some (.lst ((ws : List Str).map V.str)) ∧ Look rows pl r ss ws ∧ (∀ c o, c ≠ Sd → c ≠ Wd → H3 c = some o → H' c = some o) ∧ ws.length + 13 * (12 - ss.length) ≤ μ ∧ μ ≤ 200,
        ⟨200, x5, [], pl r, rfl, hS2, hW2, k0, fun c o _ _ e => s34 _ _ e, by have := hpl r hrm; simp only [List.length_nil]; omega, Nat.le_refl _⟩, ?_⟩
      rintro μ σ' H6 ⟨x5, ss, ws, rfl, hS6, hW6, k, sx6, hμ, hμ2⟩
      refine ⟨_, rfl, (by show 0 ≤ sizeLine; decide), fun E1 hE1 => ?_⟩
      have uE := Same.new (o := .lst []) hE1
      have okw : ∀ z ∈ ws, Ok z := fun z hz => (S.ok _ (k.wsub z hz)).strOk
      refine ⟨.list (ws.map sD), .list (([] : List Str).map sD), dp_sl (.of (uE _ _ hW6)), dp_sl (l := []) (.of upd_same), slD_shaped okw, slD_shaped (l := []) (by simp), _, rfl, ?_⟩
      rw [slD_eqv]
      have sE3 : ∀ c o, c ≠ Sd → c ≠ Wd → H3 c = some o → (upd H6 E1 (.lst [])) c = some o := fun c o a b e => uE _ _ (sx6 c o a b e)
      have hS7 := uE _ _ hS6
      have hW7 := uE _ _ hW6
      generalize upd H6 E1 (.lst []) = H7 at uE hS7 hW7 sE3
      have hss : ss.length ≤ 12 := Nat.le_trans (Lat.len_sub k.nd k.sub) hr12
      by_cases hws : ws = []
      · rw [decide_eq_true hws]
        subst hws
        have hBS : B ≠ Sd := nS _ _ hb
        have hBW : B ≠ Wd := nW _ _ (u1 _ _ hb)
        have hb7 := sE3 _ _ hBS hBW hb
        have hSB : Sd ≠ B := Ne.symm hBS
        refine iteF ⟨_, rfl, _, rfl, _, rfl, B, _, rfl, DPut.k (k := Sum.inr r) hb7 (by rw [sizeLine_eq]; omega), ⟨_, _, _, _, rfl⟩, fun c o hc e => ?_, _, upd_same, ?_, fun z hz => ?_⟩
        · have e3 := sx _ _ hc e
          rw [upd_ne hc]
          exact sE3 _ _ (nS _ _ e3) (nW _ _ (u1 _ _ e3)) e3
        · exact Nat.le_trans (putK_le _ _ _) (Nat.succ_le_succ hbl)
        · rw [List.take_add_one, hrow, List.mem_append] at hz
          by_cases e : z = r
          · subst e
            exact ⟨Sd, ss, by rw [valV_put, if_pos rfl], by rw [upd_ne hSB]; exact hS7, k.done⟩
          · have hz' : z ∈ rows.take i := hz.resolve_right fun w => e (by simpa using w)
            obtain ⟨s', ss', e1, e2, e3⟩ := hall z hz'
            refine ⟨s', ss', by rw [valV_put, if_neg (fun w => e (Sum.inr.inj w))]; exact e1, ?_, e3⟩
            rw [upd_ne (ne_of e2 hb (by intro w; cases w))]
            exact sE3 _ _ (nS _ _ e2) (nW _ _ (u1 _ _ e2)) e2
      · rw [decide_eq_false hws]
        obtain ⟨wr, here, rfl⟩ : ∃ wr h, ws = wr ++ [h] := ⟨ws.dropLast, ws.getLast hws, (List.dropLast_concat_getLast hws).symm⟩
        rw [List.length_append, List.length_singleton] at hμ
        have hhr : here ∈ rows := k.wsub here (List.mem_append_right _ (List.mem_singleton.mpr rfl))
        have hhd : Dep pl r here := k.wd here (List.mem_append_right _ (List.mem_singleton.mpr rfl))
        refine iteT ⟨fun σ' H' => ∃ x5 ss ws, σ' = [some (.ref p), some (.ref B), some (.str r), some (.ref Sd), some (.ref Wd), x5] ∧ H' Sd = some (.lst ((ss : List Str).map V.str)) ∧ H' Wd = some (.lst ((ws : List Str).map V.str)) ∧ Look rows pl r ss ws ∧ (∀ c o, c ≠ Sd → c ≠ Wd → H3 c = some o → H' c = some o) ∧ ws.length + 13 * (12 - ss.length) ≤ μ - 1 ∧ μ - 1 ≤ 200, fun σ' H' h => ⟨μ - 1, by omega, h⟩, ?_⟩
        have hxs : (wr ++ [here]).map V.str = wr.map V.str ++ [V.str here] := by rw [List.map_append]; rfl
        rw [hxs] at hW7
        refine ⟨_, rfl, .inl ⟨rfl, _, .of hW7⟩, Wd, _, V.str here, rfl, rfl, hW7, (by simp), ?_⟩
        rw [List.dropLast_concat]
        have hS8 : (upd H7 Wd (.lst (wr.map V.str))) Sd = some (.lst (ss.map V.str)) := by rw [upd_ne hSW]; exact hS7
        have hW8 : (upd H7 Wd (.lst (wr.map V.str))) Wd = some (.lst (wr.map V.str)) := upd_same
        have sx8 : ∀ c o, c ≠ Sd → c ≠ Wd → H3 c = some o → (upd H7 Wd (.lst (wr.map V.str))) c = some o := fun c o a b e => by rw [upd_ne b]; exact sE3 c o a b e
        generalize upd H7 Wd (.lst (wr.map V.str)) = H8 at hS8 hW8 sx8
        refine ⟨_, rfl, _, rfl, Sd, _, rfl, .inl (.of hS8), rfl, flat_str ss, _, rfl, ?_⟩
        rw [inV_str]
        show if (!decide (here ∈ ss)) = true then _ else _
        refine iB (fun hn => ?_) (fun hn => ?_)
        · have hns : here ∉ ss := by
            intro z
            rw [decide_eq_true z] at hn
            cases hn
          refine ⟨_, rfl, .inl ⟨rfl, _, .of hS8⟩, _, rfl, Sd, _, _, rfl, rfl, hS8, by rw [List.length_map, sizeLine_eq]; omega, ?_⟩
          have hS9 : (upd H8 Sd (.lst (ss.map V.str ++ [V.str here]))) Sd = some (.lst ((ss ++ [here]).map V.str)) := by rw [upd_same, List.map_append]; rfl
          have hW9 : (upd H8 Sd (.lst (ss.map V.str ++ [V.str here]))) Wd = some (.lst (wr.map V.str)) := by rw [upd_ne (Ne.symm hSW)]; exact hW8
          have sx9 : ∀ c o, c ≠ Sd → c ≠ Wd → H3 c = some o → (upd H8 Sd (.lst (ss.map V.str ++ [V.str here]))) c = some o := fun c o a b e => by rw [upd_ne a]; exact sx8 c o a b e
          generalize upd H8 Sd (.lst (ss.map V.str ++ [V.str here])) = H9 at hS9 hW9 sx9
          obtain ⟨t', e1, e2⟩ := needs here hhr
          have q1 := sx9 _ _ (nS _ _ g13) (nW _ _ (u1 _ _ g13)) g13
          have q2 := sx9 _ _ (nS _ _ g33) (nW _ _ (u1 _ _ g33)) g33
          have q3 := sx9 _ _ (nS _ _ e2) (nW _ _ (u1 _ _ e2)) e2
          have dgh := DGet.k (k := Sum.inr here) q2
          rw [e1] at dgh
          refine ⟨_, rfl, .inl ⟨rfl, _, .of hW9⟩, _, rfl, p, .ref N, rfl, DGet.k (k := Sum.inr "needs") q1, _, rfl, N, .ref t', rfl, dgh, t', _, rfl, .inr (.of q3), fun G hG => ?_⟩
          have uG := Same.new (o := .lst ((pl here).map V.str)) hG
          have hph := hpl here hhr
          have hwl : wr.length ≤ 200 := by omega
          refine ⟨Wd, G, _, _, rfl, rfl, uG _ _ hW9, upd_same, by rw [List.length_map, List.length_map, sizeLine_eq]; omega, ?_⟩
          refine ⟨_, ss ++ [here], wr ++ pl here, rfl, by rw [upd_ne hSW]; exact uG _ _ hS9, by rw [upd_same, List.map_append], ⟨?_, ?_, ?_, ?_, ?_, ?_, ?_⟩, fun c o a b e => by rw [upd_ne b]; exact uG _ _ (sx9 c o a b e), ?_, by omega⟩
          · exact nd_snoc k.nd hns
          · intro x hx
            rcases List.mem_append.mp hx with h | h
            · exact k.sub x h
            · rw [List.mem_singleton.mp h]; exact hhr
          · intro x hx
            rcases List.mem_append.mp hx with h | h
            · exact k.wsub x (List.mem_append_left _ h)
            · exact S.sub here hhr x h
          · intro x hx
            rcases List.mem_append.mp hx with h | h
            · exact k.sd x h
            · rw [List.mem_singleton.mp h]; exact hhd
          · intro x hx
            rcases List.mem_append.mp hx with h | h
            · exact k.wd x (List.mem_append_left _ h)
            · exact hhd.trans (.one h)
          · intro x hx
            rcases k.from_ x hx with h | h
            · exact .inl (List.mem_append_left _ h)
            · rcases List.mem_append.mp h with h | h
              · exact .inr (List.mem_append_left _ h)
              · exact .inl (List.mem_append_right _ h)
          · intro x hx o ho
            rcases List.mem_append.mp hx with h | h
            · rcases k.on x h o ho with z | z
              · exact .inl (List.mem_append_left _ z)
              · rcases List.mem_append.mp z with z | z
                · exact .inr (List.mem_append_left _ z)
                · exact .inl (List.mem_append_right _ z)
            · rw [List.mem_singleton.mp h] at ho
              exact .inr (List.mem_append_right _ ho)
          · have hlt : (ss ++ [here]).length ≤ 12 := Nat.le_trans (Lat.len_sub (nd_snoc k.nd hns) (fun x hx => by
              rcases List.mem_append.mp hx with h | h
              · exact k.sub x h
              · rw [List.mem_singleton.mp h]; exact hhr)) hr12
            rw [List.length_append, List.length_singleton] at hlt
            rw [List.length_append, List.length_append, List.length_singleton]
            omega
        · have hin : here ∈ ss := by
            rcases Classical.em (here ∈ ss) with z | z
            · exact z
            · rw [decide_eq_false z] at hn; cases hn
          refine ⟨_, ss, wr, rfl, hS8, hW8, ⟨k.nd, k.sub, fun x hx => k.wsub x (List.mem_append_left _ hx), k.sd, fun x hx => k.wd x (List.mem_append_left _ hx), fun x hx => ?_, fun x hx o ho => ?_⟩, sx8, by omega, by omega⟩
          · rcases k.from_ x hx with h | h
            · exact .inl h
            · rcases List.mem_append.mp h with h | h
              · exact .inr h
              · rw [List.mem_singleton.mp h]; exact .inl hin
          · rcases k.on x hx o ho with h | h
            · exact .inl h
            · rcases List.mem_append.mp h with h | h
              · exact .inr h
              · rw [List.mem_singleton.mp h]; exact .inl hin
    · rintro σ' H3 ⟨⟨x2, x3, x4, x5, rfl⟩, sx, bk, hb, hbl, hall⟩
      rw [List.length_map, List.take_length] at hall
      exact ⟨_, rfl, q B H3 (fun c o e => sx _ _ (nB _ _ e) (s1 _ _ e)) ⟨bk, hb, hall⟩⟩
end
end Pw
end
section
set_option maxRecDepth 100000
set_option maxHeartbeats 4000000
/-! The law's helpers: bars and fits. -/
namespace Pw
open PySem PySem.Spec PyProof.Rows L2
theorem idx_spec {xs : List Str} {r : Str} (h : r ∈ xs) : (xs.map V.str)[xs.idxOf r]? = some (V.str r) ∧ ∀ (m : Nat) (z' : V), m < xs.idxOf r → (xs.map V.str)[m]? = some z' → eqV z' (.str r) = false := by
  have hi := List.idxOf_lt_length_of_mem h
  refine ⟨by rw [List.getElem?_map, List.getElem?_eq_getElem hi, List.getElem_idxOf hi]; rfl, fun m z' hm e => ?_⟩
  have hml : m < xs.length := by omega
  rw [List.getElem?_map, List.getElem?_eq_getElem hml] at e
  cases e
  have z := List.not_of_lt_findIdx (p := fun y => y == r) hm
  have z2 : (xs[m] == r) = false := by simpa using z
  exact z2
theorem plt_eq2 (rows : List Str) (c1 c2 : Cpy) : decide (c2.2 < c1.2 ∨ (c2.2 = c1.2 ∧ ((rows.idxOf c2.1 : Nat) : Int) < ((rows.idxOf c1.1 : Nat) : Int))) = Lat.plt rows c2 c1 := by
  unfold Lat.plt
  rw [Bool.eq_iff_iff]
  simp only [decide_eq_true_eq, Bool.or_eq_true, Bool.and_eq_true]
  omega
def fits (bar : Cpy → Cpy → Bool) (hs : List Cpy) (c : Cpy) : Bool := hs.all fun x => !bar x c && !bar c x
section
variable {P : Program} {w : World} {K : PySem.W.Frag} {mg : Str → Option Value} {base : Heap}
def spBarsL (K : PySem.W.Frag) : Sp := fun vs H Q _ => ∃ (p B : Addr) (v1 v2 : V) (c1 c2 : Cpy) (rows : List Str) (pl : Str → List Str), vs = [.ref p, .ref B, v1, v2] ∧ PairV v1 c1 H ∧ PairV v2 c2 H ∧ PlanAt H p rows pl ∧ LBelow H B rows pl ∧ c1.1 ∈ rows ∧ c2.1 ∈ rows ∧
  ∀ H', Same H H' → Q (.bl (bars rows pl c1 c2)) H'
abbrev n_barsL : List Str := ["_law_plan_here", "_law_below_here", "_law_one", "_law_other"]
theorem sc_barsL : FnScope n_barsL n_barsL (defScope s_law_bars) := ⟨rfl, rfl, rfl, by decide +kernel, rfl, by decide +kernel, by decide +kernel⟩
abbrev rGt2 (K : PySem.W.Frag) : R2 := fun x y H Q => ∃ (a b : Addr) (i j k l : Int), x = .ref a ∧ y = .ref b ∧ SqT K H a [.int i, .int j] ∧ SqT K H b [.int k, .int l] ∧ Q (.bl (decide (k < i ∨ (k = i ∧ l < j)))) H
theorem ok_barsL (T : Tx K mg) : Pr P w K mg base 1 (He.ga K "_law_bars") (spBarsL K) := by
  obtain ⟨fd, F⟩ := T.f_law_bars
  refine pr_of (fn_t F sc_barsL (fun _ _ _ _ _ _ us hl => match us, hl with | [_, _, _, _], _ => rfl) (fun vs H Q E h => ?_) fun cdv A outer s H vs Q E hr h => ?_)
  · obtain ⟨p, B, v1, v2, c1, c2, rows, pl, rfl, _⟩ := h
    rfl
  · obtain ⟨p, B, v1, v2, c1, c2, rows, pl, rfl, p1, p2, ⟨R, N, kvs, h1, h2, h3, h4, h5, h6⟩, ⟨bk, hb, hbl⟩, m1, m2, q⟩ := h
    have hu := hu_of hr
    obtain ⟨a1, rfl, e1⟩ := id p1
    obtain ⟨a2, rfl, e2⟩ := id p2
    obtain ⟨sd, ss, hv, hsd, hdep⟩ := hbl c2.1 m2
    have dB : DGet H B (.str c2.1) (some (.ref sd)) := by
      have z := DGet.k (k := Sum.inr c2.1) hb
      rwa [hv] at z
    refine ⟨_, pss_cons (ps_if (PW.pt (pw_and (pt_cmpR op_ne (pe_ix ix_tup (pv 2) pe_int (fun _ _ => rfl)) (pe_ix ix_tup (pv 3) pe_int (fun _ _ => rfl)) (nomark _))
        (pw_and1 (pt_cmpR op_notIn_seq (pe_ix ix_tup (pv 2) pe_int (fun _ _ => rfl)) (pe_dget hu (pv 1) (pe_ix ix_tup (pv 3) pe_int (fun _ _ => rfl)) (fun _ _ => rfl)) (by rfl))))) (pss_one (ps_ret pe_bl)) pss_nil)
      (pss_one (ps_ret (pe_cmpR (op_gtT2 (Nat.lt_of_succ_lt hu))
        (pe_tup (pa_cons (pe_ix ix_tup (pv 2) pe_int (fun _ _ => rfl)) (pa_cons (pe_bm PySem.F.plainAttrs_list PySem.F.slot_list_index PySem.F.type_list_index mt_index (pe_dget hu (pv 0) pe_str (fun _ _ => rfl)) (pa_cons (pe_ix ix_tup (pv 2) pe_int (fun _ _ => rfl)) pa_nil)) pa_nil)))
        (pe_tup (pa_cons (pe_ix ix_tup (pv 3) pe_int (fun _ _ => rfl)) (pa_cons (pe_bm PySem.F.plainAttrs_list PySem.F.slot_list_index PySem.F.type_list_index mt_index (pe_dget hu (pv 0) pe_str (fun _ _ => rfl)) (pa_cons (pe_ix ix_tup (pv 3) pe_int (fun _ _ => rfl)) pa_nil)) pa_nil))) (nomark _)))), ?_⟩
    have i1 := idx_spec m1
    have i2 := idx_spec m2
    have last : bars rows pl c1 c2 = (true && Lat.plt rows c2 c1) → tRet (tOp (rGt2 K)
        (tTup (tCons (tOp (rIxT K) (tVar 2) (tC (.int 1))) (tCons (tBM K "list" (rIndex K) (tDGet (tVar 0) (tC (.str "rows"))) (tCons (tOp (rIxT K) (tVar 2) (tC (.int 0))) tNil)) tNil)))
        (tTup (tCons (tOp (rIxT K) (tVar 3) (tC (.int 1))) (tCons (tBM K "list" (rIndex K) (tDGet (tVar 0) (tC (.str "rows"))) (tCons (tOp (rIxT K) (tVar 3) (tC (.int 0))) tNil)) tNil)))) { nx := fun _ H' => Q .non H', rt := Q } (start n_barsL [V.ref p, V.ref B, V.ref a1, V.ref a2]) H := fun e => by
      refine ⟨_, rfl, a1, _, _, _, rfl, rfl, .of e1, rfl, _, rfl, p, .ref R, rfl, DGet.k (k := Sum.inr "rows") h1, .inl ⟨rfl, _, .of h2⟩, _, rfl, a1, _, _, _, rfl, rfl, .of e1, rfl, ?_⟩
      refine ⟨R, _, .str c1.1, rows.idxOf c1.1, .str c1.1, rfl, rfl, .of h2, rfl, flat_str rows, i1.1, beq_self_eq_true c1.1, i1.2, (by show 2 ≤ sizeLine; decide), fun t ht => ?_⟩
      have s1 := Same.new (o := .tup [V.int c1.2, V.int (rows.idxOf c1.1 : Nat)]) ht
      have ht1 : (upd H t (.tup [V.int c1.2, V.int (rows.idxOf c1.1 : Nat)])) t = some (.tup [V.int c1.2, V.int (rows.idxOf c1.1 : Nat)]) := upd_same
      refine ⟨_, rfl, a2, _, _, _, rfl, rfl, .of (s1 _ _ e2), rfl, _, rfl, p, .ref R, rfl, DGet.k (k := Sum.inr "rows") (s1 _ _ h1), .inl ⟨rfl, _, .of (s1 _ _ h2)⟩, _, rfl, a2, _, _, _, rfl, rfl, .of (s1 _ _ e2), rfl, ?_⟩
      refine ⟨R, _, .str c2.1, rows.idxOf c2.1, .str c2.1, rfl, rfl, .of (s1 _ _ h2), rfl, flat_str rows, i2.1, beq_self_eq_true c2.1, i2.2, (by show 2 ≤ sizeLine; decide), fun u hu => ?_⟩
      have s2 := Same.new (o := .tup [V.int c2.2, V.int (rows.idxOf c2.1 : Nat)]) hu
      refine ⟨t, u, _, _, _, _, rfl, rfl, .of (s2 _ _ ht1), .of upd_same, ?_⟩
      have z := q _ (s1.trans s2)
      rw [e, Bool.true_and, ← plt_eq2] at z
      exact z
    refine ⟨_, rfl, a1, _, _, _, rfl, rfl, .of e1, rfl, _, rfl, a2, _, _, _, rfl, rfl, .of e2, rfl, rfl, _, rfl, ?_⟩
    refine iB (fun hne => ?_) (fun he => ?_)
    · have ne : c1.1 ≠ c2.1 := by
        intro z
        rw [z] at hne
        simp at hne
      refine ⟨_, rfl, a1, _, _, _, rfl, rfl, .of e1, rfl, _, rfl, _, rfl, a2, _, _, _, rfl, rfl, .of e2, rfl, B, .ref sd, rfl, dB, sd, _, rfl, .inl (.of hsd), rfl, flat_str ss, _, rfl, ?_⟩
      rw [inV_str]
      show if (!decide (c1.1 ∈ ss)) = true then _ else _
      refine iB (fun hn => ?_) (fun hy => ?_)
      · have z := q H (Same.refl H)
        have e : bars rows pl c1 c2 = false := by
          have h3 : depB pl c1.1 c2.1 = false := by
            cases h4 : depB pl c1.1 c2.1 with
            | false => rfl
            | true =>
              have h5 := (hdep c1.1).mpr (depB_iff.mp h4)
              rw [decide_eq_true h5] at hn
              cases hn
          show ((decide (c1.1 = c2.1) || depB pl c1.1 c2.1) && _) = false
          rw [h3, decide_eq_false ne]
          rfl
        rw [e] at z
        exact z
      · have h5 : c1.1 ∈ ss := by
          rcases Classical.em (c1.1 ∈ ss) with z | z
          · exact z
          · rw [decide_eq_false z] at hy; cases hy
        refine last ?_
        show ((decide (c1.1 = c2.1) || depB pl c1.1 c2.1) && _) = _
        rw [depB_iff.mpr ((hdep c1.1).mp h5), Bool.or_true]
    · have e : c1.1 = c2.1 := by simpa using he
      refine last ?_
      show ((decide (c1.1 = c2.1) || depB pl c1.1 c2.1) && _) = _
      rw [decide_eq_true e, Bool.true_or]
def spFits (K : PySem.W.Frag) : Sp := fun vs H Q _ => ∃ (p B hd : Addr) (v : V) (c : Cpy) (rows : List Str) (pl : Str → List Str) (xs : List V) (hs : List Cpy), vs = [.ref p, .ref B, .ref hd, v] ∧ H hd = some (.tup xs) ∧ All2 (fun v c => PairV v c H) xs hs ∧ PairV v c H ∧ PlanAt H p rows pl ∧ LBelow H B rows pl ∧
  c.1 ∈ rows ∧ (∀ x ∈ hs, x.1 ∈ rows) ∧ ∀ H', Same H H' → Q (.bl (fits (bars rows pl) hs c)) H'
abbrev n_fits : List Str := ["_law_plan_here", "_law_below_here", "_law_held", "_law_copy", "_law_one"]
theorem sc_fits : FnScope n_fits ["_law_plan_here", "_law_below_here", "_law_held", "_law_copy"] (defScope s_law_fits) := ⟨rfl, rfl, rfl, by decide +kernel, rfl, by decide +kernel, by decide +kernel⟩
theorem ok_fits (T : Tx K mg) : Pr P w K mg base 2 (He.ga K "_law_fits") (spFits K) := by
  obtain ⟨fd, F⟩ := T.f_law_fits
  obtain ⟨_, FB⟩ := T.f_law_bars
  refine pr_of (fn_t F sc_fits (fun _ _ _ _ _ _ us hl => match us, hl with | [_, _, _, _], _ => rfl) (fun vs H Q E h => ?_) fun cdv A outer s H vs Q E hr h => ?_)
  · obtain ⟨p, B, hd, v, c, rows, pl, xs, hs, rfl, _⟩ := h
    rfl
  · obtain ⟨p, B, hd, v, c, rows, pl, xs, hs, rfl, hh, al, pv', PA, LB, mc, mh, q⟩ := h
    have hu := hu_of hr
    refine ⟨_, pss_cons (ps_for PassesOwn.never rfl (pi_tup (pv 2)) (pg_name (i := 4) sc_fits.nd rfl (Or.inl rfl))
        (pss_one (ps_if (PW.pt (pw_or (pt_val (pc (ok_barsL T) hr FB.kp T.g_law_bars (pa_cons (pv 0) (pa_cons (pv 1) (pa_cons (pv 4) (pa_cons (pv 3) pa_nil)))))) (pw_or1 (pt_val (pc (ok_barsL T) hr FB.kp T.g_law_bars (pa_cons (pv 0) (pa_cons (pv 1) (pa_cons (pv 3) (pa_cons (pv 4) pa_nil))))))))) (pss_one (ps_ret pe_bl)) pss_nil)))
      (pss_one (ps_ret pe_bl)), ?_⟩
    have lxs := al.len
    refine ⟨_, rfl, hd, rfl, ⟨_, .of hh⟩, ?_⟩
    refine for_it (n := xs.length) walk_tup (fun i σ' H' => (∃ x4, σ' = [some (.ref p), some (.ref B), some (.ref hd), some v, x4]) ∧ Same H H' ∧ ((hs.take i).all fun x => !bars rows pl x c && !bars rows pl c x) = true) ⟨⟨none, rfl⟩, Same.refl _, rfl⟩ (fun i σ' H' _ h => .of (h.2.1 _ _ hh)) ?_ ?_
    · rintro i x σ' _ H1 hi ⟨⟨x4, rfl⟩, s1, ha⟩ ⟨rfl, hx⟩
      obtain ⟨e, he, hp⟩ := al.get hx
      have hme : e ∈ hs := List.mem_of_getElem? he
      have key : ∀ b : Bool, (!bars rows pl e c && !bars rows pl c e) = b → ((hs.take (i + 1)).all fun x => !bars rows pl x c && !bars rows pl c x) = b := fun b hb => by
        rw [List.take_add_one, he, List.all_append, ha, Bool.true_and]
        show (List.all [e] _) = b
        rw [List.all_cons, List.all_nil, Bool.and_true]
        exact hb
      have no : (!bars rows pl e c && !bars rows pl c e) = false → fits (bars rows pl) hs c = false := fun hb => by
        unfold fits
        cases hf : hs.all fun x => !bars rows pl x c && !bars rows pl c x with
        | false => rfl
        | true =>
          have := List.all_eq_true.mp hf e hme
          rw [hb] at this
          cases this
      refine ⟨_, rfl, _, rfl, _, rfl, _, rfl, p, B, x, v, e, c, rows, pl, rfl, hp.same s1, pv'.same s1, PA.same s1, LB.same s1, mh e hme, mc, fun H2 s2 => ⟨_, rfl, ?_⟩⟩
      refine iB (fun b1 => ?_) (fun b1 => ?_)
      · have z := q H2 (s1.trans s2)
        rw [no (by rw [b1]; rfl)] at z
        exact z
      have s12 := s1.trans s2
      refine ⟨_, rfl, _, rfl, _, rfl, _, rfl, p, B, v, x, c, e, rows, pl, rfl, pv'.same s12, hp.same s12, PA.same s12, LB.same s12, mc, mh e hme, fun H3 s3 => ⟨_, rfl, ?_⟩⟩
      refine iB (fun b2 => ?_) (fun b2 => ?_)
      · have z := q H3 (s12.trans s3)
        rw [no (by rw [b2]; exact Bool.and_false _)] at z
        exact z
      · exact ⟨⟨_, rfl⟩, s12.trans s3, key true (by rw [b1, b2]; rfl)⟩
    · rintro σ' H1 ⟨_, s1, ha⟩
      rw [lxs, List.take_length] at ha
      have z := q H1 s1
      unfold fits at z
      rw [ha] at z
      exact z
end
end Pw
end
section
set_option maxRecDepth 100000
set_option maxHeartbeats 4000000
/-! The law's helpers: all keeps, one by one. -/
namespace Pw
open PySem PySem.Spec PyProof.Rows L2
/-- v is a tuple of copies -/
def KeyV (v : V) (ks : List Cpy) (H : Hp) : Prop := ∃ (a : Addr) (xs : List V), v = .ref a ∧ H a = some (.tup xs) ∧ All2 (fun v c => PairV v c H) xs ks
theorem KeyV.mono : Mono KeyV where
  same := fun v t H H' s ⟨a, xs, e, h, al⟩ => ⟨a, xs, e, s _ _ h, al.mono fun v c p => p.same s⟩
  lst := fun v t D ys H H' hD s ⟨a, xs, e, h, al⟩ => ⟨a, xs, e, s _ _ (ne_of h hD (by intro z; cases z)) h, al.mono fun v c p => PairV.mono.lst _ _ _ _ _ _ hD s p⟩
theorem KeyV.same {v : V} {ks : List Cpy} {H H' : Hp} (h : KeyV v ks H) (s : Same H H') : KeyV v ks H' := KeyV.mono.same _ _ _ _ s h
/-- the longer ones -/
def ext1 (bar : Cpy → Cpy → Bool) (so : List Cpy) (cs : List Cpy) : List (List Cpy) := (cs.filter (fits bar so)).map fun c => so ++ [c]
def lng (bar : Cpy → Cpy → Bool) (k : Nat) (r : Str) (found : List (List Cpy)) : List (List Cpy) := found.flatMap fun so => ext1 bar so (Lat.cps k r)
def stepK (bar : Cpy → Cpy → Bool) (k : Nat) (found : List (List Cpy)) (r : Str) : List (List Cpy) := found ++ lng bar k r found
def keepsL (bar : Cpy → Cpy → Bool) (k : Nat) (rows : List Str) : List (List Cpy) := rows.foldl (stepK bar k) [[]]
theorem keepsL_snoc (bar : Cpy → Cpy → Bool) (k : Nat) (rows : List Str) (r : Str) : keepsL bar k (rows ++ [r]) = stepK bar k (keepsL bar k rows) r := by
  unfold keepsL
  rw [List.foldl_append]
  rfl
theorem cps_len (k : Nat) (r : Str) : (Lat.cps k r).length = k := by
  unfold Lat.cps
  rw [List.length_map, List.length_range]
theorem ext1_len (bar : Cpy → Cpy → Bool) (so : List Cpy) (cs : List Cpy) : (ext1 bar so cs).length ≤ cs.length := by
  unfold ext1
  rw [List.length_map]
  exact List.length_filter_le _ _
theorem lng_len (bar : Cpy → Cpy → Bool) (k : Nat) (r : Str) : ∀ found : List (List Cpy), (lng bar k r found).length ≤ found.length * k
  | [] => by simp [lng]
  | so :: l => by
    have h1 := ext1_len bar so (Lat.cps k r)
    rw [cps_len] at h1
    have h2 := lng_len bar k r l
    unfold lng at *
    rw [List.flatMap_cons, List.length_append, List.length_cons, Nat.succ_mul]
    omega
theorem succ_pow (k : Nat) : k + 1 ≤ 2 ^ k := by
  induction k with
  | zero => exact Nat.le_refl _
  | succ n ih => rw [Nat.pow_succ]; omega
theorem keepsL_len (bar : Cpy → Cpy → Bool) (k : Nat) (rows : List Str) : ∀ i, (keepsL bar k (rows.take i)).length ≤ 2 ^ (k * i)
  | 0 => by simp [keepsL]
  | i + 1 => by
    have ih := keepsL_len bar k rows i
    rw [List.take_add_one]
    cases h : rows[i]? with
    | none =>
      simp only [Option.toList_none, List.append_nil]
      exact Nat.le_trans ih (Nat.pow_le_pow_right (by decide) (Nat.mul_le_mul_left _ (Nat.le_succ i)))
    | some r =>
      simp only [Option.toList_some]
      rw [keepsL_snoc]
      unfold stepK
      rw [List.length_append]
      have h1 := lng_len bar k r (keepsL bar k (rows.take i))
      generalize (keepsL bar k (rows.take i)).length = n at ih h1
      have h2 : n + n * k ≤ 2 ^ (k * i) * 2 ^ k := by
        rw [show n + n * k = n * (k + 1) by rw [Nat.mul_succ]; omega]
        exact Nat.mul_le_mul ih (succ_pow k)
      rw [Nat.mul_succ, Nat.pow_add]
      omega
theorem lng_snoc (bar : Cpy → Cpy → Bool) (k : Nat) (r : Str) (l : List (List Cpy)) (so : List Cpy) : lng bar k r (l ++ [so]) = lng bar k r l ++ ext1 bar so (Lat.cps k r) := by
  unfold lng
  rw [List.flatMap_append, List.flatMap_cons, List.flatMap_nil, List.append_nil]
theorem ext1_snoc (bar : Cpy → Cpy → Bool) (so : List Cpy) (cs : List Cpy) (c : Cpy) : ext1 bar so (cs ++ [c]) = ext1 bar so cs ++ (if fits bar so c = true then [so ++ [c]] else []) := by
  unfold ext1
  rw [List.filter_append, List.map_append]
  congr 1
  by_cases h : fits bar so c = true
  · rw [if_pos h, List.filter_cons, if_pos h]; rfl
  · rw [if_neg h, List.filter_cons, if_neg h]; rfl
/-- the rows of the copies of the keeps -/
theorem keepsL_row (bar : Cpy → Cpy → Bool) (k : Nat) (rows : List Str) : ∀ i, ∀ so ∈ keepsL bar k (rows.take i), ∀ x ∈ so, x.1 ∈ rows
  | 0 => by simp [keepsL]
  | i + 1 => by
    have ih := keepsL_row bar k rows i
    rw [List.take_add_one]
    cases h : rows[i]? with
    | none => simpa using ih
    | some r =>
      simp only [Option.toList_some]
      rw [keepsL_snoc]
      unfold stepK
      intro so hso x hx
      rcases List.mem_append.mp hso with h1 | h1
      · exact ih so h1 x hx
      · unfold lng at h1
        obtain ⟨s0, hs0, h2⟩ := List.mem_flatMap.mp h1
        unfold ext1 at h2
        obtain ⟨c, hc, rfl⟩ := List.mem_map.mp h2
        rcases List.mem_append.mp hx with h3 | h3
        · exact ih s0 hs0 x h3
        · rw [List.mem_singleton.mp h3, (Lat.mem_cps.mp (List.mem_filter.mp hc).1).1]
          exact List.mem_of_getElem? h
theorem keepsL_slen (bar : Cpy → Cpy → Bool) (k : Nat) (rows : List Str) : ∀ i, ∀ so ∈ keepsL bar k (rows.take i), so.length ≤ i
  | 0 => by simp [keepsL]
  | i + 1 => by
    have ih := keepsL_slen bar k rows i
    rw [List.take_add_one]
    cases h : rows[i]? with
    | none => exact fun so hso => Nat.le_succ_of_le (ih so (by simpa using hso))
    | some r =>
      simp only [Option.toList_some]
      rw [keepsL_snoc]
      unfold stepK
      intro so hso
      rcases List.mem_append.mp hso with h1 | h1
      · exact Nat.le_succ_of_le (ih so h1)
      · unfold lng at h1
        obtain ⟨s0, hs0, h2⟩ := List.mem_flatMap.mp h1
        unfold ext1 at h2
        obtain ⟨c, hc, rfl⟩ := List.mem_map.mp h2
        rw [List.length_append, List.length_singleton]
        exact Nat.succ_le_succ (ih s0 hs0)
section
variable {P : Program} {w : World} {K : PySem.W.Frag} {mg : Str → Option Value} {base : Heap}
def spKeepsL (K : PySem.W.Frag) : Sp := fun vs H Q _ => ∃ (p B : Addr) (k : Nat) (rows : List Str) (pl : Str → List Str), vs = [.ref p, .ref B, .int k] ∧ PlanAt H p rows pl ∧ LBelow H B rows pl ∧ Sh rows pl ∧ Sz rows k ∧
  ∀ H' D out, Same H H' → H' D = some (.lst out) → All2 (fun v ks => KeyV v ks H') out (keepsL (bars rows pl) k rows) → (keepsL (bars rows pl) k rows).length ≤ 4096 → Q (.ref D) H'
abbrev n_keepsL : List Str := ["_law_plan_here", "_law_below_here", "_law_laps", "_law_found", "_law_row", "_law_longer", "_law_some", "_law_number"]
theorem sc_keepsL : FnScope n_keepsL ["_law_plan_here", "_law_below_here", "_law_laps"] (defScope s_law_keeps) := ⟨rfl, rfl, rfl, by decide +kernel, rfl, by decide +kernel, by decide +kernel⟩
theorem ok_keepsL (T : Tx K mg) : Pr P w K mg base 3 (He.ga K "_law_keeps") (spKeepsL K) := by
  obtain ⟨fd, F⟩ := T.f_law_keeps
  obtain ⟨_, FF⟩ := T.f_law_fits
  refine pr_of (fn_t F sc_keepsL (fun _ _ _ _ _ _ us hl => match us, hl with | [_, _, _], _ => rfl) (fun vs H Q E h => ?_) fun cdv A outer s H vs Q E hr h => ?_)
  · obtain ⟨p, B, k, rows, pl, rfl, _⟩ := h
    rfl
  · obtain ⟨p, B, k, rows, pl, rfl, PA, LB, S, Z, q⟩ := h
    have hu := hu_of hr
    refine ⟨_, pss_cons (ps_set (i := 3) sc_keepsL.nd rfl (Or.inl rfl) (pe_lst (pa_cons (pe_tup pa_nil) pa_nil)))
      (pss_cons (ps_for PassesOwn.never rfl (pi_list (pe_dget hu (pv 0) pe_str (fun _ _ => rfl))) (pg_name (i := 4) sc_keepsL.nd rfl (Or.inl rfl))
        (pss_cons (ps_set (i := 5) sc_keepsL.nd rfl (Or.inl rfl) (pe_lst pa_nil))
        (pss_cons (ps_for PassesOwn.never rfl (pi_list (pv 3)) (pg_name (i := 6) sc_keepsL.nd rfl (Or.inl rfl))
          (pss_one (ps_for PassesOwn.never rfl (pi_range2 (by rfl) T.b_range (pa_cons pe_int (pa_cons (pe_op op_add (pv 2) pe_int) pa_nil))) (pg_name (i := 7) sc_keepsL.nd rfl (Or.inl rfl))
            (pss_one (ps_if (pt_val (pc (ok_fits T) hr FF.kp T.g_law_fits (pa_cons (pv 0) (pa_cons (pv 1) (pa_cons (pv 6) (pa_cons (pe_tup (pa_cons (pv 4) (pa_cons (pv 7) pa_nil))) pa_nil))))))
              (pss_one (ps_expr (pe_bm PySem.F.plainAttrs_list PySem.F.slot_list_append PySem.F.type_list_append mt_append (pv 5) (pa_cons (pe_op op_catA (pv 6) (pe_tup (pa_cons (pe_tup (pa_cons (pv 4) (pa_cons (pv 7) pa_nil))) pa_nil))) pa_nil)))) pss_nil)))))
        (pss_one (ps_set (i := 3) sc_keepsL.nd rfl (Or.inl rfl) (pe_op op_cat (pv 3) (pv 5)))))))
      (pss_one (ps_ret (pv 3)))), ?_⟩
    have hk1 := Z.k1
    have hk12 := Z.k12
    have hsmall : ∀ i, i ≤ rows.length → (keepsL (bars rows pl) k (rows.take i)).length ≤ 4096 := fun i hi => by
      refine Nat.le_trans (keepsL_len _ k rows i) (Nat.le_trans (Nat.pow_le_pow_right (by decide) (?_ : k * i ≤ 12)) (by decide : 2 ^ 12 ≤ 4096))
      have h1 := Nat.mul_le_mul_left k hi
      have h2 := Z.rk
      rw [Nat.mul_comm] at h2
      omega
    refine ⟨(by show 0 ≤ sizeLine; decide), fun t0 ht0 => ?_⟩
    have s1 := Same.new (o := .tup []) ht0
    refine ⟨(by show 1 ≤ sizeLine; decide), fun F0 hF0 => ?_⟩
    have s2 := s1.trans (Same.new (o := .lst [V.ref t0]) hF0)
    have hF2 : (upd (upd H t0 (.tup [])) F0 (.lst [V.ref t0])) F0 = some (.lst [V.ref t0]) := upd_same
    have ht2 : (upd (upd H t0 (.tup [])) F0 (.lst [V.ref t0])) t0 = some (.tup []) := Same.new hF0 _ _ upd_same
    show tSeq _ _ _ _ (upd (upd H t0 (.tup [])) F0 (.lst [V.ref t0]))
    generalize upd (upd H t0 (.tup [])) F0 (.lst [V.ref t0]) = H2 at s2 hF2 ht2
    obtain ⟨R, N, kvs, h1, h2, _⟩ := id (PA.same s2)
    refine ⟨_, rfl, p, .ref R, rfl, DGet.k (k := Sum.inr "rows") h1, R, rfl, ⟨_, .of h2⟩, ?_⟩
    refine for_it (n := (rows.map V.str).length) walk_list (fun i σ' H' => ∃ (Fd : Addr) (x4 x5 x6 x7 : Option V) (out : List V), σ' = [some (.ref p), some (.ref B), some (.int k), some (.ref Fd), x4, x5, x6, x7] ∧ Same H2 H' ∧ H' Fd = some (.lst out) ∧ All2 (fun v ks => KeyV v ks H') out (keepsL (bars rows pl) k (rows.take i)))
      ⟨F0, none, none, none, none, [.ref t0], rfl, Same.refl _, hF2, ⟨t0, [], rfl, ht2, trivial⟩, trivial⟩ (fun i σ' H' _ h => by obtain ⟨_, _, _, _, _, _, _, s', _⟩ := h; exact .of (s' _ _ h2)) ?_ ?_
    · rintro i x σ' _ H3 hi ⟨Fd, x4, x5, x6, x7, out, rfl, s3, hFd, al⟩ ⟨rfl, hx⟩
      rw [List.length_map] at hi
      have hrow : rows[i]? = some rows[i] := List.getElem?_eq_getElem hi
      rw [List.getElem?_map, hrow] at hx
      cases hx
      generalize hrr : rows[i] = r at hrow
      have hrm : r ∈ rows := List.mem_of_getElem? hrow
      have hsm := hsmall i (by omega)
      have hro := keepsL_row (bars rows pl) k rows i
      have hsl := keepsL_slen (bars rows pl) k rows i
      have hnext : keepsL (bars rows pl) k (rows.take (i + 1)) = stepK (bars rows pl) k (keepsL (bars rows pl) k (rows.take i)) r := by
        rw [List.take_add_one, hrow]
        exact keepsL_snoc _ _ _ _
      rw [hnext]
      generalize hfo : keepsL (bars rows pl) k (rows.take i) = found at al hsm hro hsl
      have hlen := al.len
      refine ⟨(by show 0 ≤ sizeLine; decide), fun D hD => ?_⟩
      have hFD : Fd ≠ D := fun z => by rw [← z, hFd] at hD; cases hD
      refine ⟨_, rfl, Fd, rfl, ⟨_, .of (Same.new hD _ _ hFd)⟩, ?_⟩
      refine for_it (n := out.length) walk_list (fun j σ' H' => ∃ (x6 x7 : Option V), σ' = [some (.ref p), some (.ref B), some (.int k), some (.ref Fd), some (.str r), some (.ref D), x6, x7] ∧ GrR KeyV H3 D (lng (bars rows pl) k r (found.take j)) H')
        ⟨x6, x7, rfl, GrR.start hD⟩ (fun j σ' H' _ h => by obtain ⟨_, _, _, g⟩ := h; exact .of (g.1 _ _ hFd)) ?_ ?_
      · rintro j x σ' _ H4 hj ⟨x6, x7, rfl, g⟩ ⟨rfl, hx⟩
        obtain ⟨so, hso, kv⟩ := al.get hx
        have hsom : so ∈ found := List.mem_of_getElem? hso
        have etk : found.take (j + 1) = found.take j ++ [so] := by rw [List.take_add_one, hso]; rfl
        have hb0 := lng_len (bars rows pl) k r (found.take j)
        rw [List.length_take] at hb0
        have hb1 : min j found.length * k ≤ 4096 * 12 := Nat.mul_le_mul (by omega) hk12
        refine ⟨_, rfl, _, _, rfl, rfl, 1, (k : Int) + 1, rfl, ⟨by omega, by omega, by omega, by omega⟩, ?_⟩
        rw [show ((k : Int) + 1 - 1).toNat = k by omega]
        refine for_it (n := k) walk_range (fun n σ' H' => ∃ (x7 : Option V), σ' = [some (.ref p), some (.ref B), some (.int k), some (.ref Fd), some (.str r), some (.ref D), some x, x7] ∧ GrR KeyV H3 D (lng (bars rows pl) k r (found.take j) ++ ext1 (bars rows pl) so ((Lat.cps k r).take n)) H')
          ⟨x7, rfl, by simpa [ext1] using g⟩ (fun _ _ _ _ _ => trivial) ?_ ?_
        · rintro n y σ' _ H5 hn ⟨x7, rfl, g5⟩ ⟨rfl, rfl⟩
          have hcn : (Lat.cps k r)[n]? = some (r, ((n : Nat) : Int) + 1) := by
            unfold Lat.cps
            rw [List.getElem?_map, List.getElem?_range hn]
            rfl
          have ecn : (Lat.cps k r).take (n + 1) = (Lat.cps k r).take n ++ [(r, ((n : Nat) : Int) + 1)] := by rw [List.take_add_one, hcn]; rfl
          rw [ecn, ext1_snoc, ← List.append_assoc]
          have s35 := g5.1
          have hb2 := ext1_len (bars rows pl) so ((Lat.cps k r).take n)
          rw [List.length_take] at hb2
          obtain ⟨a, xs, rfl, ha, hal⟩ := id (kv.same s35)
          refine ⟨_, rfl, _, rfl, _, rfl, _, rfl, _, rfl, (by show 2 ≤ sizeLine; decide), fun t ht => ?_⟩
          have uT := Same.new (o := .tup [V.str r, .int (1 + (n : Int))]) ht
          have pT : PairV (.ref t) (r, ((n : Nat) : Int) + 1) (upd H5 t (.tup [V.str r, .int (1 + (n : Int))])) := ⟨t, rfl, by rw [upd_same, Int.add_comm]⟩
          have s25 := s2.trans (s3.trans (s35.trans uT))
          refine ⟨p, B, a, .ref t, (r, ((n : Nat) : Int) + 1), rows, pl, xs, so, rfl, uT _ _ ha, hal.mono fun v c h => h.same uT, pT, PA.same s25, LB.same s25, hrm, hro so hsom, fun H6 s6 => ⟨_, rfl, ?_⟩⟩
          have s56 := uT.trans s6
          refine iB (fun hf => ?_) (fun hf => ?_)
          · rw [if_pos hf]
            have gk := g5.keep KeyV.mono s56
            obtain ⟨_, vs0, e0, al0⟩ := id gk
            have l0 := al0.len
            refine ⟨_, rfl, .inl ⟨rfl, _, .of e0⟩, _, rfl, _, rfl, _, rfl, (by show 2 ≤ sizeLine; decide), fun t2 ht2 => ?_⟩
            have u7 := Same.new (o := .tup [V.str r, .int (1 + (n : Int))]) ht2
            have p7 : PairV (.ref t2) (r, ((n : Nat) : Int) + 1) (upd H6 t2 (.tup [V.str r, .int (1 + (n : Int))])) := ⟨t2, rfl, by rw [upd_same, Int.add_comm]⟩
            generalize upd H6 t2 (.tup [V.str r, .int (1 + (n : Int))]) = H7 at u7 p7
            refine ⟨(by show 1 ≤ sizeLine; decide), fun t3 ht3 => ?_⟩
            have u8 := Same.new (o := .tup [V.ref t2]) ht3
            have p8 := p7.same u8
            have h38 : (upd H7 t3 (.tup [V.ref t2])) t3 = some (.tup [V.ref t2]) := upd_same
            show rCatA K _ _ (upd H7 t3 (.tup [V.ref t2])) _
            generalize upd H7 t3 (.tup [V.ref t2]) = H8 at u8 p8 h38
            have s58 := (s56.trans u7).trans u8
            have s68 := u7.trans u8
            have hxl := hal.len
            have hout : (lng (bars rows pl) k r (found.take j) ++ ext1 (bars rows pl) so ((Lat.cps k r).take n)).length < sizeLine := by
              rw [List.length_append, sizeLine_eq]
              omega
            -- the longer keep, at an address z
            have fin : ∀ (z : Addr) (H9 : Hp), Same H8 H9 → KeyV (.ref z) (so ++ [(r, ((n : Nat) : Int) + 1)]) H9 → ∃ l xs' y, V.ref D = .ref l ∧ [V.ref z] = [y] ∧ H9 l = some (.lst xs') ∧ xs'.length < sizeLine ∧
                ∃ (x7 : Option V), [some (V.ref p), some (.ref B), some (.int k), some (.ref Fd), some (.str r), some (.ref D), some (.ref a), some (.int (1 + (n : Int)))] = [some (.ref p), some (.ref B), some (.int k), some (.ref Fd), some (.str r), some (.ref D), some (.ref a), x7] ∧
                GrR KeyV H3 D ((lng (bars rows pl) k r (found.take j) ++ ext1 (bars rows pl) so ((Lat.cps k r).take n)) ++ [so ++ [(r, ((n : Nat) : Int) + 1)]]) (upd H9 l (.lst (xs' ++ [y]))) := fun z H9 s9 kz => by
              obtain ⟨acc, b1, b2, b3⟩ := gk.add KeyV.mono hD (s68.trans s9) kz hout
              exact ⟨D, acc, _, rfl, rfl, b1, b2, _, rfl, b3⟩
            have hso12 : xs.length ≤ 4096 := by
              have h1 := hsl so hsom
              have h2 := S.le
              omega
            refine ⟨a, t3, xs, [V.ref t2], rfl, rfl, .of (s58 _ _ ha), .of h38, by rw [sizeLine_eq]; simp only [List.length_cons, List.length_nil]; omega, fun hxe => ?_, fun _ e => (by cases e), fun hxe _ z hz => ?_⟩
            · subst hxe
              cases so with
              | cons c cs => cases hal
              | nil => exact fin t3 H8 (Same.refl _) ⟨t3, [V.ref t2], rfl, h38, p8, trivial⟩
            · have u9 := Same.new (o := .tup (xs ++ [V.ref t2])) hz
              refine fin z _ u9 ⟨z, _, rfl, upd_same, All2.append (hal.mono fun v c h => (h.same s58).same u9) ⟨p8.same u9, trivial⟩⟩
          · rw [if_neg (by rw [hf]; exact Bool.false_ne_true), List.append_nil]
            exact ⟨_, rfl, g5.keep KeyV.mono s56⟩
        · rintro σ' H5 ⟨x7, rfl, g5⟩
          refine ⟨_, _, rfl, ?_⟩
          rw [etk, lng_snoc]
          rw [List.take_of_length_le (l := Lat.cps k r) (by rw [cps_len]; exact Nat.le_refl _)] at g5
          exact g5
      · rintro σ' H4 ⟨x6, x7, rfl, g⟩
        rw [hlen, List.take_length] at g
        obtain ⟨s34, vs, e, al4⟩ := g
        have hl4 := al4.len
        have hb0 := lng_len (bars rows pl) k r found
        have hb1 : found.length * k ≤ 4096 * 12 := Nat.mul_le_mul hsm hk12
        refine ⟨_, rfl, _, rfl, Fd, D, _, _, rfl, rfl, s34 _ _ hFd, e, by rw [sizeLine_eq]; omega, fun G hG => ?_⟩
        have u5 := Same.new (o := .lst (out ++ vs)) hG
        exact ⟨G, _, _, _, _, out ++ vs, rfl, s3.trans (s34.trans u5), upd_same, (al.mono fun v ks h => h.same (s34.trans u5)).append (al4.mono fun v ks h => h.same u5)⟩
    · rintro σ' H3 ⟨Fd, x4, x5, x6, x7, out, rfl, s3, hFd, al⟩
      rw [List.length_map, List.take_length] at al
      have hsm := hsmall rows.length (Nat.le_refl _)
      rw [List.take_length] at hsm
      exact ⟨_, rfl, q H3 Fd out (s2.trans s3) hFd al hsm⟩
end
end Pw
end
section
set_option maxRecDepth 100000
set_option maxHeartbeats 4000000
/-! The law's helpers: the best keeps, the sizes. -/
namespace Pw
open PySem PySem.Spec PyProof.Rows L2
section
variable {P : Program} {w : World} {K : PySem.W.Frag} {mg : Str → Option Value} {base : Heap}
def spBest (K : PySem.W.Frag) : Sp := fun vs H Q _ => ∃ (a : Addr) (xs : List V) (kss : List (List Cpy)), vs = [.ref a] ∧ H a = some (.lst xs) ∧ All2 (fun v ks => KeyV v ks H) xs kss ∧ kss ≠ [] ∧ kss.length ≤ 4096 ∧
  ∀ H' D out (m : Nat), Same H H' → (∃ ks ∈ kss, ks.length = m) → (∀ ks ∈ kss, ks.length ≤ m) → H' D = some (.lst out) → All2 (fun v ks => KeyV v ks H') out (kss.filter fun ks => decide (ks.length = m)) → Q (.ref D) H'
abbrev n_best : List Str := ["_law_keeps_here", "_law_most", "_law_some"]
theorem sc_best : FnScope n_best ["_law_keeps_here"] (defScope s_law_best) := ⟨rfl, rfl, rfl, by decide +kernel, rfl, by decide +kernel, by decide +kernel⟩
theorem ok_best (T : Tx K mg) : Pr P w K mg base 1 (He.ga K "_law_best") (spBest K) := by
  obtain ⟨fd, F⟩ := T.f_law_best
  refine pr_of (fn_t F sc_best (fun _ _ _ _ _ _ us hl => match us, hl with | [_], _ => rfl) (fun vs H Q E h => ?_) fun cdv A outer s H vs Q E hr h => ?_)
  · obtain ⟨a, xs, kss, rfl, _⟩ := h
    rfl
  · obtain ⟨a, xs, kss, rfl, ha, al, hne, hle, q⟩ := h
    have hu := hu_of hr
    refine ⟨_, pss_cons (ps_set (i := 1) sc_best.nd rfl (Or.inr rfl) (pe_callB (cr_max rfl) (by rfl) T.b_max (by decide +kernel) (pa_cons (pe_lc (own := [("_law_some", 2)]) (g := gName 2) (tt := tYes) (te := tCB (rLenQ K) (tCons (tVar 2) tNil)) rfl sc_best.nd (pi_list (pv 0)) (blkOk_by (N := n_best) (sc := defScope s_law_best) (by decide +kernel))
            (fun _ _ _ _ _ => pg_name (i := 2) sc_best.nd rfl (Or.inl rfl)) (fun _ _ _ _ _ => pts_nil) (fun _ _ _ _ _ => pe_callB call_len_seq (by rfl) T.b_len (by decide +kernel) (pa_cons (pv 2) pa_nil))) pa_nil)))
      (pss_one (ps_ret (pe_lc (own := [("_law_some", 2)]) (g := gName 2) (tt := tTest (tOp rEq (tCB (rLenQ K) (tCons (tVar 2) tNil)) (tVar 1))) (te := tVar 2) rfl sc_best.nd (pi_list (pv 0)) (blkOk_by (N := n_best) (sc := defScope s_law_best) (by decide +kernel))
            (fun _ _ _ _ _ => pg_name (i := 2) sc_best.nd rfl (Or.inl rfl)) (fun _ _ _ _ _ => pts_one (pt_cmpR op_eq (pe_callB call_len_seq (by rfl) T.b_len (by decide +kernel) (pa_cons (pv 2) pa_nil)) (pv 1) (nomark _))) (fun _ _ _ _ _ => pv 2)))), ?_⟩
    have lxs := al.len
    refine ⟨_, rfl, a, rfl, ⟨_, .of ha⟩, fun D hD => ?_⟩
    refine lc_gr (Mono.eq fun n : Nat => V.int n) (walk_list (K := K) (a := a) (xs := xs)) (g := gName 2) (tt := tYes) (te := tCB (rLenQ K) (tCons (tVar 2) tNil)) hD (by rw [sizeLine_eq]; omega) (fun _ => true) (fun i => (kss.getD i []).length) (fun H9 s9 => .of (s9 _ _ ha)) (fun _ _ _ _ _ y => by rw [y.1]; exact Same.refl _) ?_ ?_
    · rintro i x _ H9 A3 B3 hi s9 _ ⟨rfl, hx⟩ hA _
      obtain ⟨ks, hks, kv⟩ := al.get hx
      have eg : kss.getD i [] = ks := by rw [List.getD_eq_getElem?_getD, hks]; rfl
      rw [eg] at hA
      obtain ⟨b, ys, rfl, hb, hal⟩ := kv.same s9
      refine ⟨rfl, yes ⟨_, rfl, b, ys, rfl, .inr (.of hb), hA rfl _ _ (Same.refl _) ?_⟩⟩
      rw [hal.len]
    · intro out H2 s2 e2 al2
      rw [outs_all, lxs] at al2
      have e3 : out = (kss.map fun ks => (ks.length : Int)).map V.int := by
        have z := outs_list ([] : List Cpy) (fun _ => true) (fun ks => ks.length) kss
        rw [outs_all, List.filter_eq_self.mpr (fun _ _ => rfl)] at z
        rw [al2.eq, z, List.map_map, List.map_map]
        rfl
      subst e3
      refine ⟨D, kss.map fun ks => (ks.length : Int), rfl, .of e2, ?_, fun mz hm hmx => ?_⟩
      · rw [List.length_map]
        exact List.length_pos_iff.mpr hne
      obtain ⟨k0, hk0, rfl⟩ := List.mem_map.mp hm
      have hall : ∀ ks ∈ kss, ks.length ≤ k0.length := fun ks hks => by
        have := hmx _ (List.mem_map.mpr ⟨ks, hks, rfl⟩)
        omega
      refine ⟨_, rfl, a, rfl, ⟨_, .of (s2 _ _ ha)⟩, fun G hG => ?_⟩
      refine lc_gr KeyV.mono (walk_list (K := K) (a := a) (xs := xs)) (g := gName 2) (tt := tTest (tOp rEq (tCB (rLenQ K) (tCons (tVar 2) tNil)) (tVar 1))) (te := tVar 2) hG (by rw [sizeLine_eq]; omega) (fun i => decide ((kss.getD i []).length = k0.length)) (fun i => kss.getD i []) (fun H9 s9 => .of (s9 _ _ (s2 _ _ ha))) (fun _ _ _ _ _ y => by rw [y.1]; exact Same.refl _) ?_ ?_
      · rintro i x _ H9 A3 B3 hi s9 _ ⟨rfl, hx⟩ hA hB
        obtain ⟨ks, hks, kv⟩ := al.get hx
        have eg : kss.getD i [] = ks := by rw [List.getD_eq_getElem?_getD, hks]; rfl
        rw [eg] at hA hB
        have kv9 := kv.same (s2.trans s9)
        obtain ⟨b, ys, rfl, hb, hal⟩ := id kv9
        have hyl := hal.len
        refine ⟨rfl, ?_⟩
        refine ⟨_, rfl, b, ys, rfl, .inr (.of hb), _, rfl, rfl, _, rfl, ?_⟩
        have ed : decide (V.int (ys.length : Nat) = V.int (k0.length : Nat)) = decide (ks.length = k0.length) := by
          rw [hyl]
          refine decide_eq_decide.mpr ⟨fun z => ?_, fun z => by rw [z]⟩
          injection z with z1
          omega
        rw [ed]
        exact iB (fun hp => ⟨_, rfl, hA hp _ _ (Same.refl _) kv9⟩) (fun hp => hB hp _ (Same.refl _))
      · intro out H3 s3 e3 al3
        rw [lxs] at al3
        have ek : outs (fun i => decide ((kss.getD i []).length = k0.length)) (fun i => kss.getD i []) kss.length = kss.filter fun ks => decide (ks.length = k0.length) := by
          have z := outs_list ([] : List Cpy) (fun ks => decide (ks.length = k0.length)) id kss
          rw [List.map_id] at z
          exact z
        rw [ek] at al3
        exact q H3 G out k0.length (s2.trans s3) ⟨k0, hk0, rfl⟩ hall e3 al3
def szs : List (Nat × Nat) := [(6, 2), (4, 3), (3, 4), (12, 1), (5, 2), (2, 6), (8, 1), (0, 3)]
def szsI : List (Int × Int) := szs.map fun p => ((p.1 : Int), (p.2 : Int))
def spSize : Sp := fun vs H Q _ => ∃ (a L : Addr) (n : Nat), vs = [.ref a] ∧ PenAt H a L n ∧ n ≤ 99999 ∧
  ∀ H' t n' (many laps : Nat), SameX a H H' → H' t = some (.tup [.int many, .int laps]) → (many, laps) ∈ szs → PenAt H' a L n' → n' ≤ n + 1 → Q (.ref t) H'
theorem sc_size : FnScope ["_law_pen_here", "_law_some"] ["_law_pen_here"] (defScope s_law_size) := ⟨rfl, rfl, rfl, by decide +kernel, rfl, by decide +kernel, by decide +kernel⟩
theorem ok_size (T : Tx K mg) : Pr P w K mg base 2 (He.ga K "_law_size") spSize := by
  obtain ⟨fd, F⟩ := T.f_law_size
  obtain ⟨_, FD⟩ := T.f_law_draw
  refine pr_of (fn_t F sc_size (fun _ _ _ _ _ _ us hl => match us, hl with | [_], _ => rfl) (fun vs H Q E h => ?_) fun cdv A outer s H vs Q E hr h => ?_)
  · obtain ⟨a, L, n, rfl, _⟩ := h
    rfl
  · obtain ⟨a, L, n, rfl, pa, hn, q⟩ := h
    have hu := hu_of hr
    refine ⟨_, pss_cons (ps_set (i := 1) sc_size.nd rfl (Or.inl rfl) (pe_lst (pa_cons (pe_tup (pa_cons pe_int (pa_cons pe_int pa_nil))) (pa_cons (pe_tup (pa_cons pe_int (pa_cons pe_int pa_nil))) (pa_cons (pe_tup (pa_cons pe_int (pa_cons pe_int pa_nil))) (pa_cons (pe_tup (pa_cons pe_int (pa_cons pe_int pa_nil)))
          (pa_cons (pe_tup (pa_cons pe_int (pa_cons pe_int pa_nil))) (pa_cons (pe_tup (pa_cons pe_int (pa_cons pe_int pa_nil))) (pa_cons (pe_tup (pa_cons pe_int (pa_cons pe_int pa_nil))) (pa_cons (pe_tup (pa_cons pe_int (pa_cons pe_int pa_nil))) pa_nil))))))))))
      (pss_one (ps_ret (pe_ix ix_list (pv 1) (pc (ok_draw T) hr FD.kp T.g_law_draw (pa_cons (pv 0) (pa_cons pe_int pa_nil))) (fun _ _ => rfl)))), ?_⟩
    have two : (2 : Nat) ≤ sizeLine := by decide
    -- eight tuples, one behind the other
    have put : ∀ (H1 : Hp) (ts : List Addr) (l : List (Int × Int)) (x y : Int) (t : Addr), Same H H1 → All2 (fun v p => ∃ t, v = V.ref t ∧ H1 t = some (.tup [V.int (p : Int × Int).1, V.int p.2])) (ts.map V.ref) l → H1 t = none →
        Same H (upd H1 t (.tup [V.int x, V.int y])) ∧ All2 (fun v p => ∃ t', v = V.ref t' ∧ (upd H1 t (.tup [V.int x, V.int y])) t' = some (.tup [V.int (p : Int × Int).1, V.int p.2])) ((ts ++ [t]).map V.ref) (l ++ [(x, y)]) := fun H1 ts l x y t s1 al ht => by
      have u := Same.new (o := .tup [V.int x, V.int y]) ht
      refine ⟨s1.trans u, ?_⟩
      rw [List.map_append]
      exact (al.mono fun v p ⟨t', e1, e2⟩ => ⟨t', e1, u _ _ e2⟩).append ⟨⟨t, rfl, upd_same⟩, trivial⟩
    refine ⟨two, fun t0 g0 => ?_⟩
    obtain ⟨s0, a0⟩ := put H [] [] 6 2 t0 (Same.refl _) trivial g0
    generalize upd H t0 (.tup [V.int 6, V.int 2]) = H0 at s0 a0
    refine ⟨two, fun t1 g1 => ?_⟩
    obtain ⟨s1, a1⟩ := put H0 [t0] [(6, 2)] 4 3 t1 s0 a0 g1
    generalize upd H0 t1 (.tup [V.int 4, V.int 3]) = H1 at s1 a1
    refine ⟨two, fun t2 g2 => ?_⟩
    obtain ⟨s2, a2⟩ := put H1 [t0, t1] [(6, 2), (4, 3)] 3 4 t2 s1 a1 g2
    generalize upd H1 t2 (.tup [V.int 3, V.int 4]) = H2 at s2 a2
    refine ⟨two, fun t3 g3 => ?_⟩
    obtain ⟨s3, a3⟩ := put H2 [t0, t1, t2] [(6, 2), (4, 3), (3, 4)] 12 1 t3 s2 a2 g3
    generalize upd H2 t3 (.tup [V.int 12, V.int 1]) = H3 at s3 a3
    refine ⟨two, fun t4 g4 => ?_⟩
    obtain ⟨s4, a4⟩ := put H3 [t0, t1, t2, t3] [(6, 2), (4, 3), (3, 4), (12, 1)] 5 2 t4 s3 a3 g4
    generalize upd H3 t4 (.tup [V.int 5, V.int 2]) = H4 at s4 a4
    refine ⟨two, fun t5 g5 => ?_⟩
    obtain ⟨s5, a5⟩ := put H4 [t0, t1, t2, t3, t4] [(6, 2), (4, 3), (3, 4), (12, 1), (5, 2)] 2 6 t5 s4 a4 g5
    generalize upd H4 t5 (.tup [V.int 2, V.int 6]) = H5 at s5 a5
    refine ⟨two, fun t6 g6 => ?_⟩
    obtain ⟨s6, a6⟩ := put H5 [t0, t1, t2, t3, t4, t5] [(6, 2), (4, 3), (3, 4), (12, 1), (5, 2), (2, 6)] 8 1 t6 s5 a5 g6
    generalize upd H5 t6 (.tup [V.int 8, V.int 1]) = H6 at s6 a6
    refine ⟨two, fun t7 g7 => ?_⟩
    obtain ⟨s7, a7⟩ := put H6 [t0, t1, t2, t3, t4, t5, t6] [(6, 2), (4, 3), (3, 4), (12, 1), (5, 2), (2, 6), (8, 1)] 0 3 t7 s6 a6 g7
    generalize upd H6 t7 (.tup [V.int 0, V.int 3]) = H7 at s7 a7
    refine ⟨(by show 8 ≤ sizeLine; decide), fun l hl => ?_⟩
    have u8 := Same.new (o := .lst [V.ref t0, .ref t1, .ref t2, .ref t3, .ref t4, .ref t5, .ref t6, .ref t7]) hl
    have hl8 : (upd H7 l (.lst [V.ref t0, .ref t1, .ref t2, .ref t3, .ref t4, .ref t5, .ref t6, .ref t7])) l = some (.lst [V.ref t0, .ref t1, .ref t2, .ref t3, .ref t4, .ref t5, .ref t6, .ref t7]) := upd_same
    have a8 : All2 (fun v p => ∃ t, v = V.ref t ∧ (upd H7 l (.lst [V.ref t0, .ref t1, .ref t2, .ref t3, .ref t4, .ref t5, .ref t6, .ref t7])) t = some (.tup [V.int (p : Int × Int).1, V.int p.2])) [V.ref t0, .ref t1, .ref t2, .ref t3, .ref t4, .ref t5, .ref t6, .ref t7] szsI := All2.mono (fun v p ⟨t', e1, e2⟩ => ⟨t', e1, u8 _ _ e2⟩) a7
    have s8 := s7.trans u8
    generalize upd H7 l (.lst [V.ref t0, .ref t1, .ref t2, .ref t3, .ref t4, .ref t5, .ref t6, .ref t7]) = H8 at u8 hl8 a8 s8
    have pa8 := pa.same s8
    refine ⟨_, rfl, _, rfl, a, L, 8, n, rfl, by decide, by decide, by omega, pa8, fun H9 d n9 sx9 pa9 hn9 hd => ?_⟩
    obtain ⟨v, hv⟩ : ∃ v, [V.ref t0, V.ref t1, V.ref t2, V.ref t3, V.ref t4, V.ref t5, V.ref t6, V.ref t7][d]? = some v := ⟨_, List.getElem?_eq_getElem hd⟩
    obtain ⟨pr, hpr, tv, rfl, htv⟩ := a8.get hv
    have hla := pa8.ne_lst hl8
    refine ⟨l, _, _, _, rfl, rfl, .of (sx9 _ _ hla hl8), atI_nat hv, ?_⟩
    obtain ⟨p2, hp2, rfl⟩ := List.mem_map.mp (List.mem_of_getElem? hpr)
    exact q H9 tv n9 p2.1 p2.2 ((Pw.Same.x s8).trans sx9) (sx9 _ _ (pa8.ne_tup htv) htv) hp2 pa9 hn9
end
end Pw
end
section
set_option maxRecDepth 100000
set_option maxHeartbeats 4000000
/-! The law's helpers: three best keeps. -/
namespace Pw
open PySem PySem.Spec PyProof.Rows L2
abbrev Bst (rows : List Str) (nd : Str → List Str) (k : Nat) (a : List Cpy) : Prop := Lat.BestKey rows (depB nd) k a
/-- a best keep stands at q -/
def KB (K : PySem.W.Frag) (H : Hp) (q p : Addr) (rows : List Str) (nd : Str → List Str) (k : Nat) (a : List Cpy) : Prop := KeepAt K H q p rows nd k a ∧ Bst rows nd k a
section
variable {K : PySem.W.Frag} {H H' : Hp} {q1 q2 q p : Addr} {rows : List Str} {nd : Str → List Str} {k : Nat} {a b c : List Cpy} {Q : VK}
theorem KB.same (h : KB K H q p rows nd k a) (s : Same H H') : KB K H' q p rows nd k a := ⟨h.1.same s, h.2⟩
theorem KB.ins (h : KB K H q p rows nd k a) : ∃ dx fs, H q = some (.ins (He.ga K "Keep") dx fs) := let ⟨dx, _, _, _, _, _, _, h1, _⟩ := h.1; ⟨dx, _, h1⟩
theorem KB.insL (h : KB K H q p rows nd k a) : ∃ dx fs, H q = some (.ins (He.ga K "Keep") dx fs) ∧ fs.lookup ("earlier_than" : Str) = none := let ⟨dx, _, _, _, _, _, _, h1, _⟩ := h.1; ⟨dx, _, h1, rfl⟩
theorem Bst.cps (S : Sh rows nd) (h : Bst rows nd k a) : Cps rows k a := ⟨Lat.filter_self S.nodup h.can, fun c hc => h.key.mem hc⟩
theorem KB.two (S : Sh rows nd) (Z : Sz rows k) (h1 : KB K H q1 p rows nd k a) (h2 : KB K H q2 p rows nd k b) : Two K H q1 q2 p rows nd k a b := ⟨h1.1, h2.1, S, Z, h1.2.cps S, h2.2.cps S⟩
theorem or_rd (S : Sh rows nd) (Z : Sz rows k) (h1 : KB K H q1 p rows nd k a) (h2 : KB K H q2 p rows nd k b) (g : ∀ q H', Same H H' → KB K H' q p rows nd k (Lat.joinK rows (depB nd) k a b) → Q (.ref q) H') : rTwo (He.ga K "Keep") (spKor K) (.ref q1) (.ref q2) H Q := by
  obtain ⟨dx, fs, e1⟩ := h1.ins
  obtain ⟨dy, gs, e2⟩ := h2.ins
  exact ⟨q1, q2, dx, dy, fs, gs, rfl, rfl, e1, e2, q1, q2, p, rows, nd, k, a, b, rfl, h1.two S Z h2, fun q H' s hk => g q H' s ⟨hk, Lat.joinK_best S.dp h1.2 h2.2⟩⟩
theorem and_rd (S : Sh rows nd) (Z : Sz rows k) (h1 : KB K H q1 p rows nd k a) (h2 : KB K H q2 p rows nd k b) (g : ∀ q H', Same H H' → KB K H' q p rows nd k (Lat.meetK rows (depB nd) k a b) → Q (.ref q) H') : rTwo (He.ga K "Keep") (spKand K) (.ref q1) (.ref q2) H Q := by
  obtain ⟨dx, fs, e1⟩ := h1.ins
  obtain ⟨dy, gs, e2⟩ := h2.ins
  exact ⟨q1, q2, dx, dy, fs, gs, rfl, rfl, e1, e2, q1, q2, p, rows, nd, k, a, b, rfl, h1.two S Z h2, fun q H' s hk => g q H' s ⟨hk, Lat.meetK_best S.dp h1.2 h2.2⟩⟩
theorem eq_rd (S : Sh rows nd) (Z : Sz rows k) (h1 : KB K H q1 p rows nd k a) (h2 : KB K H q2 p rows nd k b) (g : ∀ H', Same H H' → Q (.bl (decide (a = b))) H') : rTwo (He.ga K "Keep") (spKEq K) (.ref q1) (.ref q2) H Q := by
  obtain ⟨dx, fs, e1⟩ := h1.ins
  obtain ⟨dy, gs, e2⟩ := h2.ins
  exact ⟨q1, q2, dx, dy, fs, gs, rfl, rfl, e1, e2, q1, q2, p, rows, nd, k, a, b, rfl, h1.two S Z h2, g⟩
theorem ne_rd (S : Sh rows nd) (Z : Sz rows k) (h1 : KB K H q1 p rows nd k a) (h2 : KB K H q2 p rows nd k b) (e : a = b) (g : ∀ H', Same H H' → Q (.bl true) H') : ∃ (x y dx dy : Addr) (fs gs : List (Str × V)), V.ref q1 = .ref x ∧ V.ref q2 = .ref y ∧ H x = some (.ins (He.ga K "Keep") dx fs) ∧ H y = some (.ins (He.ga K "Keep") dy gs) ∧ spKEq K [.ref q1, .ref q2] H Q E0 := by
  obtain ⟨dx, fs, e1⟩ := h1.ins
  obtain ⟨dy, gs, e2⟩ := h2.ins
  refine ⟨q1, q2, dx, dy, fs, gs, rfl, rfl, e1, e2, q1, q2, p, rows, nd, k, a, b, rfl, h1.two S Z h2, fun H' s => ?_⟩
  rw [decide_eq_true e]
  exact g H' s
/-- q1.earlier_than(q2), from the place where q1 is evaluated -/
theorem ea_rd (S : Sh rows nd) (Z : Sz rows k) (h1 : KB K H q1 p rows nd k a) (h2 : KB K H q2 p rows nd k b) (e : Lat.EarlierK rows (depB nd) k a b) (g : ∀ H', Same H H' → Q (.bl true) H') : spEarlier K [.ref q1, .ref q2] H Q E0 := by
  refine ⟨q1, q2, p, rows, nd, k, a, b, rfl, h1.two S Z h2, fun H' s => ?_⟩
  have c1 := h1.2.cps S
  have c2 := h2.2.cps S
  have z : (a.all fun c => Lat.under (bars rows nd) b c) = true := (Lat.earlier_all c1.sub c2.sub).mpr e
  rw [z]
  exact g H' s
theorem nil_rd {σ : L2.St} {H : Hp} {R : List V → Hp → Prop} (h : R [] H) : tNil σ H R := h
theorem dpk_of : ∀ {xs : List V} {kss : List (List Cpy)}, All2 (fun v ks => KeyV v ks H) xs kss → DpAll K H xs (kss.map kD)
  | [], [], _ => .nil
  | _ :: _, _ :: _, al => by
    obtain ⟨⟨a, ys, rfl, ha, hal⟩, r⟩ := al
    exact .cons (dp_k (.of ha) hal) (dpk_of r)
  | [], _ :: _, a => a.elim
  | _ :: _, [], a => a.elim
end
section
variable {P : Program} {w : World} {K : PySem.W.Frag} {mg : Str → Option Value} {base : Heap}
def spThree (K : PySem.W.Frag) : Sp := fun vs H Q _ => ∃ (q1 q2 q3 b p : Addr) (rows : List Str) (nd : Str → List Str) (k : Nat) (a1 a2 a3 : List Cpy) (xs : List V) (kss : List (List Cpy)), vs = [.ref q1, .ref q2, .ref q3, .ref b] ∧ Sh rows nd ∧ Sz rows k ∧
  KB K H q1 p rows nd k a1 ∧ KB K H q2 p rows nd k a2 ∧ KB K H q3 p rows nd k a3 ∧ H b = some (.lst xs) ∧ All2 (fun v ks => KeyV v ks H) xs kss ∧ (∀ ks, Bst rows nd k ks ↔ ks ∈ kss) ∧ ∀ H', Same H H' → Q (.bl true) H'
abbrev n_three : List Str := ["_law_one", "_law_two", "_law_three", "_law_best_here", "_law_join", "_law_meet"]
theorem sc_three : FnScope n_three ["_law_one", "_law_two", "_law_three", "_law_best_here"] (defScope s_law_three_right) := ⟨rfl, rfl, rfl, by decide +kernel, rfl, by decide +kernel, by decide +kernel⟩
theorem ok_three (T : Tx K mg) : Pr P w K mg base 9 (He.ga K "_law_three_right") (spThree K) := by
  obtain ⟨fd, F⟩ := T.f_law_three_right
  obtain ⟨_, FC⟩ := ok_kcopies (P := P) (w := w) (base := base) T
  refine pr_of (fn_t F sc_three (fun _ _ _ _ _ _ us hl => match us, hl with | [_, _, _, _], _ => rfl) (fun vs H Q E h => ?_) fun cdv A outer s H vs Q E hr h => ?_)
  · obtain ⟨q1, q2, q3, b, p, rows, nd, k, a1, a2, a3, xs, kss, rfl, _⟩ := h
    rfl
  · obtain ⟨q1, q2, q3, b, p, rows, nd, k, a1, a2, a3, xs, kss, rfl, S, Z, k1, k2, k3, hb, al, hk, q⟩ := h
    have hu := hu_of hr
    refine ⟨_, pss_cons (ps_par (i := 4) (j := 5) rfl sc_three.nd rfl rfl (by decide) rfl rfl (pa_cons (pe_op (op := .BitOr) (op_bin T.sp_Keep_or.1 T.sp_Keep_or.2 T.sf_Keep (ok_kor T) hr) (pv 0) (pv 1)) (pa_cons (pe_op (op := .BitAnd) (op_bin T.sp_Keep_and.1 T.sp_Keep_and.2 T.sf_Keep (ok_kand T) hr) (pv 0) (pv 1)) pa_nil)) (by rfl))
      (pss_cons (ps_if (PW.pt (pw_or (pt_cmpR (op_notInD (hu65 hr)) (pprop (pv 4) T.cl_Keep T.pr_Keep_copies FC (hr.mono (by decide))) (pv 3) (by rfl)) (pw_or (pt_cmpR (op_notInD (hu65 hr)) (pprop (pv 5) T.cl_Keep T.pr_Keep_copies FC (hr.mono (by decide))) (pv 3) (by rfl))
          (pw_or (pt_cmpR (op_neC T.is_Keep T.ne_Keep T.sp_Keep_eq.1 T.sp_Keep_eq.2 (ok_keq T) (hr.mono (by decide))) (pv 4) (pe_op (op := .BitOr) (op_bin T.sp_Keep_or.1 T.sp_Keep_or.2 T.sf_Keep (ok_kor T) hr) (pv 1) (pv 0)) (nomark _))
          (pw_or1 (pt_cmpR (op_neC T.is_Keep T.ne_Keep T.sp_Keep_eq.1 T.sp_Keep_eq.2 (ok_keq T) (hr.mono (by decide))) (pv 5) (pe_op (op := .BitAnd) (op_bin T.sp_Keep_and.1 T.sp_Keep_and.2 T.sf_Keep (ok_kand T) hr) (pv 1) (pv 0)) (nomark _))))))) pss_never pss_nil)
      (pss_cons (ps_if (pt_not (PW.pt (pw_and (pt_val (pm (pv 5) T.cl_Keep T.mt_Keep_earlier_than (ok_earlier T) (hr.mono (by decide)) (pa_cons (pv 0) pa_nil))) (pw_and (pt_val (pm (pv 5) T.cl_Keep T.mt_Keep_earlier_than (ok_earlier T) (hr.mono (by decide)) (pa_cons (pv 1) pa_nil)))
          (pw_and (pt_val (pm (pv 0) T.cl_Keep T.mt_Keep_earlier_than (ok_earlier T) (hr.mono (by decide)) (pa_cons (pv 4) pa_nil))) (pw_and1 (pt_val (pm (pv 1) T.cl_Keep T.mt_Keep_earlier_than (ok_earlier T) (hr.mono (by decide)) (pa_cons (pv 4) pa_nil))))))))) pss_never pss_nil)
      (pss_cons (ps_if (PW.pt (pw_or (pt_cmpR (op_neC T.is_Keep T.ne_Keep T.sp_Keep_eq.1 T.sp_Keep_eq.2 (ok_keq T) (hr.mono (by decide))) (pe_op (op := .BitOr) (op_bin T.sp_Keep_or.1 T.sp_Keep_or.2 T.sf_Keep (ok_kor T) hr) (pv 0) (pv 5)) (pv 0) (nomark _))
          (pw_or1 (pt_cmpR (op_neC T.is_Keep T.ne_Keep T.sp_Keep_eq.1 T.sp_Keep_eq.2 (ok_keq T) (hr.mono (by decide))) (pe_op (op := .BitAnd) (op_bin T.sp_Keep_and.1 T.sp_Keep_and.2 T.sf_Keep (ok_kand T) hr) (pv 0) (pv 4)) (pv 0) (nomark _))))) pss_never pss_nil)
      (pss_cons (ps_if (pt_cmpR (op_neC T.is_Keep T.ne_Keep T.sp_Keep_eq.1 T.sp_Keep_eq.2 (ok_keq T) (hr.mono (by decide))) (pe_op (op := .BitAnd) (op_bin T.sp_Keep_and.1 T.sp_Keep_and.2 T.sf_Keep (ok_kand T) hr) (pv 0) (pe_op (op := .BitOr) (op_bin T.sp_Keep_or.1 T.sp_Keep_or.2 T.sf_Keep (ok_kor T) hr) (pv 1) (pv 2)))
          (pe_op (op := .BitOr) (op_bin T.sp_Keep_or.1 T.sp_Keep_or.2 T.sf_Keep (ok_kor T) hr) (pe_op (op := .BitAnd) (op_bin T.sp_Keep_and.1 T.sp_Keep_and.2 T.sf_Keep (ok_kand T) hr) (pv 0) (pv 1)) (pe_op (op := .BitAnd) (op_bin T.sp_Keep_and.1 T.sp_Keep_and.2 T.sf_Keep (ok_kand T) hr) (pv 0) (pv 2))) (nomark _)) pss_never pss_nil)
      (pss_one (ps_ret (pe_cmpR (op_eqC T.sp_Keep_eq.1 T.sp_Keep_eq.2 (ok_keq T) (hr.mono (by decide))) (pe_op (op := .BitOr) (op_bin T.sp_Keep_or.1 T.sp_Keep_or.2 T.sf_Keep (ok_kor T) hr) (pv 0) (pe_op (op := .BitAnd) (op_bin T.sp_Keep_and.1 T.sp_Keep_and.2 T.sf_Keep (ok_kand T) hr) (pv 1) (pv 2)))
          (pe_op (op := .BitAnd) (op_bin T.sp_Keep_and.1 T.sp_Keep_and.2 T.sf_Keep (ok_kand T) hr) (pe_op (op := .BitOr) (op_bin T.sp_Keep_or.1 T.sp_Keep_or.2 T.sf_Keep (ok_kor T) hr) (pv 0) (pv 1)) (pe_op (op := .BitOr) (op_bin T.sp_Keep_or.1 T.sp_Keep_or.2 T.sf_Keep (ok_kor T) hr) (pv 0) (pv 2))) (nomark _)))))))), ?_⟩
    have D := S.dp
    have okc : ∀ ks, Bst rows nd k ks → ∀ c ∈ ks, Ok c.1 := fun ks h c hc => (S.ok _ ((h.cps S).row hc)).strOk
    -- the join and the meet
    refine ⟨_, rfl, _, rfl, or_rd S Z k1 k2 fun j H1 s1 kj => ?_⟩
    refine ⟨_, rfl, _, rfl, and_rd S Z (k1.same s1) (k2.same s1) fun m H2 s2 km => ?_⟩
    have s02 := s1.trans s2
    have kj2 := kj.same s2
    refine ⟨_, _, rfl, ?_⟩
    -- both are among the best
    have notin : ∀ (z : Addr) (ks : List Cpy) (H' : Hp) (Q' : V → Hp → Prop) (aK : Addr) (ys : List V), Same H H' → Bst rows nd k ks → H' aK = some (.tup ys) → All2 (fun v c => PairV v c H') ys ks → (Q' (.bl false) H') → rNotInD K (.ref aK) (.ref b) H' Q' := fun z ks H' Q' aK ys s hz h5 h6 hq => by
      refine ⟨kD ks, .map kD kss, dp_k (.of h5) h6, .lst (.of (s _ _ hb)) (dpk_of (al.mono fun v ks h => h.same s)), kD_shaped (okc ks hz), klD_shaped fun l hl => okc l ((hk l).mpr hl), ?_⟩
      rw [any_kD, decide_eq_true ((hk ks).mp hz)]
      exact hq
    obtain ⟨dxj, fsj, ej, lj⟩ := kj2.insL
    obtain ⟨dxm, fsm, em, lm⟩ := km.insL
    refine ⟨_, rfl, j, dxj, fsj, rfl, ej, j, p, rows, nd, k, _, rfl, kj2.1, fun aK ys h5 h6 => ⟨_, rfl, notin j _ H2 _ aK ys s02 kj2.2 h5 h6 ⟨_, rfl, iteF ?_⟩⟩⟩
    refine ⟨_, rfl, m, dxm, fsm, rfl, em, m, p, rows, nd, k, _, rfl, km.1, fun aK ys h5 h6 => ⟨_, rfl, notin m _ H2 _ aK ys s02 km.2 h5 h6 ⟨_, rfl, iteF ?_⟩⟩⟩
    refine ⟨_, rfl, _, rfl, _, rfl, or_rd S Z (k2.same s02) (k1.same s02) fun z1 H3 s3 kz1 => ?_⟩
    refine ne_rd S Z (kj2.same s3) kz1 (Lat.joinK_comm D k1.2 k2.2) fun H4 s4 => ⟨_, rfl, _, rfl, iteF ?_⟩
    have s34 := s3.trans s4
    refine ⟨_, rfl, _, rfl, _, rfl, and_rd S Z ((k2.same s02).same s34) ((k1.same s02).same s34) fun z2 H5 s5 kz2 => ?_⟩
    refine ne_rd S Z (km.same (s34.trans s5)) kz2 (Lat.meetK_comm D k1.2 k2.2) fun H6 s6 => ⟨_, rfl, _, rfl, iteF ?_⟩
    have s26 := (s34.trans s5).trans s6
    have s06 := s02.trans s26
    -- the order
    have j6 := kj2.same s26
    have m6 := km.same s26
    have k16 := k1.same s06
    have k26 := k2.same s06
    have k36 := k3.same s06
    obtain ⟨dx1, fs1, e1, l1⟩ := k16.insL
    obtain ⟨dx2, fs2, e2, l2⟩ := k26.insL
    refine ⟨_, rfl, m, dxm, fsm, rfl, s26 _ _ em, lm, _, rfl, nil_rd (ea_rd S Z m6 k16 (Lat.meetK_earlier D k1.2 k2.2) fun H7 s7 => ⟨_, rfl, iteT ?_⟩)⟩
    refine ⟨_, rfl, m, dxm, fsm, rfl, (s26.trans s7) _ _ em, lm, _, rfl, nil_rd (ea_rd S Z (m6.same s7) (k26.same s7) (Lat.meetK_earlier' D k1.2 k2.2) fun H8 s8 => ⟨_, rfl, iteT ?_⟩)⟩
    have s68 := s7.trans s8
    refine ⟨_, rfl, q1, dx1, fs1, rfl, s68 _ _ e1, l1, _, rfl, nil_rd (ea_rd S Z (k16.same s68) (j6.same s68) (Lat.earlierK_join D k1.2 k2.2) fun H9 s9 => ⟨_, rfl, iteT ?_⟩)⟩
    have s69 := s68.trans s9
    refine ⟨_, rfl, q2, dx2, fs2, rfl, s69 _ _ e2, l2, _, rfl, nil_rd (ea_rd S Z (k26.same s69) (j6.same s69) (Lat.earlierK_join' D k1.2 k2.2) fun H10 s10 => ⟨_, rfl, iteF ?_⟩)⟩
    have s6a := s69.trans s10
    have ja := j6.same s6a
    have ma := m6.same s6a
    have k1a := k16.same s6a
    have k2a := k26.same s6a
    have k3a := k36.same s6a
    have s0a := s06.trans s6a
    -- absorbed
    refine ⟨_, rfl, _, rfl, or_rd S Z k1a ma fun z3 Hb sb kz3 => ⟨_, rfl, ?_⟩⟩
    refine ne_rd S Z kz3 (k1a.same sb) (Lat.absorb1 D k1.2 k2.2) fun Hc sc => ⟨_, rfl, _, rfl, iteF ?_⟩
    have sac := sb.trans sc
    refine ⟨_, rfl, _, rfl, and_rd S Z (k1a.same sac) (ja.same sac) fun z4 Hd sd kz4 => ⟨_, rfl, ?_⟩⟩
    refine ne_rd S Z kz4 (k1a.same (sac.trans sd)) (Lat.absorb2 D k1.2 k2.2) fun He' se => ⟨_, rfl, _, rfl, iteF ?_⟩
    have sae := (sac.trans sd).trans se
    have k1e := k1a.same sae
    have k2e := k2a.same sae
    have k3e := k3a.same sae
    -- distribute
    refine ⟨_, rfl, _, rfl, _, rfl, or_rd S Z k2e k3e fun y1 Hf sf ky1 => and_rd S Z (k1e.same sf) ky1 fun y2 Hg sg ky2 => ?_⟩
    have seg := sf.trans sg
    refine ⟨_, rfl, _, rfl, and_rd S Z (k1e.same seg) (k2e.same seg) fun y3 Hh sh ky3 => ?_⟩
    have seh := seg.trans sh
    refine ⟨_, rfl, _, rfl, and_rd S Z (k1e.same seh) (k3e.same seh) fun y4 Hi si ky4 => or_rd S Z (ky3.same si) ky4 fun y5 Hj sj ky5 => ?_⟩
    have sei := seh.trans si
    have sej := sei.trans sj
    refine ne_rd S Z (ky2.same ((sh.trans si).trans sj)) ky5 (Lat.distrib1 D k1.2 k2.2 k3.2) fun Hk sk => ⟨_, rfl, _, rfl, iteF ?_⟩
    have sek := sej.trans sk
    have k1k := k1e.same sek
    have k2k := k2e.same sek
    have k3k := k3e.same sek
    refine ⟨_, rfl, _, rfl, _, rfl, and_rd S Z k2k k3k fun x1 Hl sl kx1 => or_rd S Z (k1k.same sl) kx1 fun x2 Hm sm kx2 => ?_⟩
    have skm := sl.trans sm
    refine ⟨_, rfl, _, rfl, or_rd S Z (k1k.same skm) (k2k.same skm) fun x3 Hn sn kx3 => ?_⟩
    have skn := skm.trans sn
    refine ⟨_, rfl, _, rfl, or_rd S Z (k1k.same skn) (k3k.same skn) fun x4 Ho so kx4 => and_rd S Z (kx3.same so) kx4 fun x5 Hp sp' kx5 => ?_⟩
    have skp := (skn.trans so).trans sp'
    refine eq_rd S Z (kx2.same ((sn.trans so).trans sp')) kx5 fun Hq sq => ?_
    rw [decide_eq_true (Lat.distrib2 D k1.2 k2.2 k3.2)]
    exact q Hq (((((s0a.trans sae).trans sek).trans skp)).trans sq)
end
end Pw
end
section
set_option maxRecDepth 100000
/-! Plain: the law's keeps are the keys, and its best ones the best. -/
namespace Pw
open PySem Lat
set_option autoImplicit false
section
variable {dep : Str → Str → Bool} {rows : List Str} {k : Nat}
theorem allC_snoc (l : List Str) (r : Str) (k : Nat) : allC (l ++ [r]) k = allC l k ++ cps k r := by
  unfold allC
  rw [List.flatMap_append, List.flatMap_cons, List.flatMap_nil, List.append_nil]
theorem fits_iff {bar : Cpy → Cpy → Bool} {hs : List Cpy} {c : Cpy} : fits bar hs c = true ↔ ∀ x ∈ hs, bar x c = false ∧ bar c x = false := by
  unfold fits
  rw [List.all_eq_true]
  constructor
  · intro h x hx
    have z := h x hx
    rw [Bool.and_eq_true, Bool.not_eq_true', Bool.not_eq_true'] at z
    exact z
  · intro h x hx
    rw [Bool.and_eq_true, Bool.not_eq_true', Bool.not_eq_true']
    exact h x hx
/-- among l, in its order, and none bars another one -/
def KeyOf (bar : Cpy → Cpy → Bool) (l : List Str) (k : Nat) (ks : List Cpy) : Prop := ks = (allC l k).filter (mems ks) ∧ ∀ a ∈ ks, ∀ b ∈ ks, bar a b = false
theorem filter_mems_append {A B C : List Cpy} (hA : A = (B).filter (mems A)) (hd : ∀ x ∈ C, x ∉ B) : B.filter (mems (A ++ C)) = A := by
  refine Eq.trans (List.filter_congr fun x hx => ?_) hA.symm
  rw [Bool.eq_iff_iff, mems_iff, mems_iff, List.mem_append]
  exact ⟨fun h => h.resolve_right fun z => hd x z hx, .inl⟩
theorem keepsL_iff (hn : rows.Nodup) : ∀ i ks, ks ∈ keepsL (barC rows dep) k (rows.take i) ↔ KeyOf (barC rows dep) (rows.take i) k ks
  | 0, ks => by
    rw [List.take_zero]
    show ks ∈ [[]] ↔ ks = ([] : List Cpy).filter (mems ks) ∧ _
    rw [List.mem_singleton, List.filter_nil]
    exact ⟨fun h => ⟨h, by rw [h]; simp⟩, fun h => h.1⟩
  | i + 1, ks => by
    have ih := keepsL_iff hn i
    rw [List.take_add_one]
    cases hr : rows[i]? with
    | none => simpa using ih ks
    | some r =>
      simp only [Option.toList_some]
      have hil : i < rows.length := (List.getElem?_eq_some_iff.mp hr).1
      have hnew : r ∉ rows.take i := fun hm => by
        obtain ⟨j, hj, ej⟩ := List.mem_iff_getElem.mp hm
        rw [List.length_take] at hj
        rw [List.getElem_take] at ej
        have e2 : rows[i] = r := (List.getElem?_eq_some_iff.mp hr).2
        have := (List.getElem_inj hn).mp (ej.trans e2.symm)
        omega
      have sep : ∀ x ∈ cps k r, x ∉ allC (rows.take i) k := fun x hx h => hnew ((mem_cps.mp hx).1 ▸ (mem_allC.mp h).1)
      rw [keepsL_snoc]
      unfold stepK
      generalize hf : keepsL (barC rows dep) k (rows.take i) = found at ih
      unfold KeyOf
      rw [allC_snoc, List.filter_append, List.mem_append]
      constructor
      · rintro (h | h)
        · obtain ⟨h1, h2⟩ := (ih ks).mp h
          refine ⟨?_, h2⟩
          have e : (cps k r).filter (mems ks) = [] := List.filter_eq_nil_iff.mpr fun x hx hm => by
            have hx2 := mems_iff.mp hm
            rw [h1] at hx2
            exact sep x hx (List.mem_filter.mp hx2).1
          rw [e, List.append_nil]
          exact h1
        · unfold lng at h
          obtain ⟨s0, hs0, h⟩ := List.mem_flatMap.mp h
          unfold ext1 at h
          obtain ⟨c, hc, rfl⟩ := List.mem_map.mp h
          obtain ⟨hc1, hc2⟩ := List.mem_filter.mp hc
          have hfit := fits_iff.mp hc2
          obtain ⟨h1, h2⟩ := (ih s0).mp hs0
          have hs0sub : ∀ x ∈ s0, x ∈ allC (rows.take i) k := fun x hx => by rw [h1] at hx; exact (List.mem_filter.mp hx).1
          refine ⟨?_, fun a ha b hb => ?_⟩
          · have e1 : (allC (rows.take i) k).filter (mems (s0 ++ [c])) = s0 := filter_mems_append h1 fun x hx => by rw [List.mem_singleton.mp hx]; exact sep c hc1
            have e2 : (cps k r).filter (mems (s0 ++ [c])) = [c] := filter_one (cps_nodup k r) hc1 fun y hy => by
              rw [mems_iff, List.mem_append, List.mem_singleton]
              exact ⟨fun z => z.resolve_left fun w => sep y hy (hs0sub y w), .inr⟩
            rw [e1, e2]
          · rcases List.mem_append.mp ha with ha | ha
            · rcases List.mem_append.mp hb with hb | hb
              · exact h2 a ha b hb
              · rw [List.mem_singleton.mp hb]
                exact (hfit a ha).1
            · rw [List.mem_singleton.mp ha]
              rcases List.mem_append.mp hb with hb | hb
              · exact (hfit b hb).2
              · rw [List.mem_singleton.mp hb]
                unfold barC
                rw [plt_irr, Bool.and_false]
      · rintro ⟨h1, h2⟩
        have dist := one_row h2
        generalize he : (cps k r).filter (mems ks) = tl at h1
        generalize hs : (allC (rows.take i) k).filter (mems ks) = s0 at h1
        have hs0 : s0 ∈ found := (ih s0).mpr ⟨?_, fun a ha b hb => h2 a (by rw [h1]; exact List.mem_append_left _ ha) b (by rw [h1]; exact List.mem_append_left _ hb)⟩
        · cases tl with
          | nil =>
            rw [List.append_nil] at h1
            exact .inl (by rw [h1]; exact hs0)
          | cons c cs =>
            have hc : c ∈ cps k r := by
              have : c ∈ (cps k r).filter (mems ks) := by rw [he]; exact List.mem_cons_self
              exact (List.mem_filter.mp this).1
            have hcs : cs = [] := by
              cases cs with
              | nil => rfl
              | cons d ds =>
                exfalso
                have hd : d ∈ cps k r := by
                  have : d ∈ (cps k r).filter (mems ks) := by rw [he]; exact List.mem_cons_of_mem _ List.mem_cons_self
                  exact (List.mem_filter.mp this).1
                have hnd : (c :: d :: ds).Nodup := by rw [← he]; exact (cps_nodup k r).filter _
                have e := dist c (by rw [h1]; exact List.mem_append_right _ List.mem_cons_self) d (by rw [h1]; exact List.mem_append_right _ (List.mem_cons_of_mem _ List.mem_cons_self)) ((mem_cps.mp hc).1.trans (mem_cps.mp hd).1.symm)
                rw [e] at hnd
                exact (List.nodup_cons.mp hnd).1 List.mem_cons_self
            subst hcs
            refine .inr ?_
            unfold lng
            refine List.mem_flatMap.mpr ⟨s0, hs0, ?_⟩
            unfold ext1
            refine List.mem_map.mpr ⟨c, List.mem_filter.mpr ⟨hc, fits_iff.mpr fun x hx => ?_⟩, h1.symm⟩
            have hx' : x ∈ ks := by rw [h1]; exact List.mem_append_left _ hx
            have hc' : c ∈ ks := by rw [h1]; exact List.mem_append_right _ List.mem_cons_self
            exact ⟨h2 x hx' c hc', h2 c hc' x hx'⟩
        · rw [← hs]
          exact filter_can
theorem keepsL_key (hn : rows.Nodup) (ks : List Cpy) : ks ∈ keepsL (barC rows dep) k rows ↔ IsKey rows dep k ks := by
  have h := keepsL_iff (dep := dep) (k := k) hn rows.length ks
  rw [List.take_length] at h
  rw [h]
  constructor
  · rintro ⟨h1, h2⟩
    exact ⟨h1, fun a _ b _ x y => h2 a (mems_iff.mp x) b (mems_iff.mp y)⟩
  · rintro h
    exact ⟨h.can, fun a ha b hb => h.bar ha hb⟩
theorem best_key {m : Nat} (hn : rows.Nodup) (hex : ∃ ks ∈ keepsL (barC rows dep) k rows, ks.length = m) (hmx : ∀ ks ∈ keepsL (barC rows dep) k rows, ks.length ≤ m) (ks : List Cpy) :
    BestKey rows dep k ks ↔ ks ∈ (keepsL (barC rows dep) k rows).filter fun ks => decide (ks.length = m) := by
  rw [List.mem_filter, decide_eq_true_eq, keepsL_key hn]
  constructor
  · intro h
    refine ⟨h.key, ?_⟩
    obtain ⟨k0, h0, rfl⟩ := hex
    have i0 := (keepsL_key hn k0).mp h0
    have h1 := hmx ks ((keepsL_key hn ks).mpr h.key)
    have h2 := h.best.most (mems k0) i0.anti
    rw [← key_len i0.can, ← key_len h.can] at h2
    omega
  · rintro ⟨h, rfl⟩
    refine ⟨h.can, h.anti, fun T hT => ?_⟩
    have ht := isKey_of (rows := rows) (dep := dep) (k := k) hT
    have h1 := hmx _ ((keepsL_key hn _).mpr ht)
    rw [key_len h.can, ← List.countP_eq_length_filter] at h1
    exact h1
theorem keepsL_ne (bar : Cpy → Cpy → Bool) (k : Nat) (rows : List Str) : keepsL bar k rows ≠ [] := by
  have : ∀ (l : List Str) (f : List (List Cpy)), f ≠ [] → l.foldl (stepK bar k) f ≠ [] := by
    intro l
    induction l with
    | nil => exact fun f h => h
    | cons r l ih =>
      intro f h
      refine ih _ ?_
      unfold stepK
      intro z
      exact h (List.append_eq_nil_iff.mp z).1
  exact this rows [[]] (by simp)
end
end Pw
end
section
set_option maxRecDepth 100000
set_option maxHeartbeats 4000000
/-! What stands beside the pen. -/
namespace Pw
open PySem PySem.Spec PyProof.Rows L2
def Firm (o : HO) : Prop := (∃ C dx fs, o = .ins C dx fs) ∨ (∃ xs, o = .tup xs) ∨ ∃ kvs, o = .dK kvs
def SoftS (H H' : Hp) : Prop := ∀ b o, Firm o → H b = some o → H' b = some o
theorem soft_lk {a : Addr} {H : Hp} {o : Obj} {u : HO} (h : H a = some (.frz o u)) : SoftS H (off a H) := fun b x f e => by
  refine off_at (fun z => ?_) e
  rw [z, h] at e
  cases e
  rcases f with ⟨_, _, _, f⟩ | ⟨_, f⟩ | ⟨_, f⟩ <;> cases f
theorem soft_lst {D : Addr} {H H' : Hp} {xs : List V} (h : H D = some (.lst xs)) (s : SameX D H H') : SoftS H H' := fun b x f e => by
  refine s b x (fun z => ?_) e
  rw [z, h] at e
  cases e
  rcases f with ⟨_, _, _, f⟩ | ⟨_, f⟩ | ⟨_, f⟩ <;> cases f
section
variable {K : PySem.W.Frag} {H H' : Hp} (s : SoftS H H')
include s
theorem SoftS.tup {b : Addr} {xs : List V} (e : H b = some (.tup xs)) : H' b = some (.tup xs) := s _ _ (.inr (.inl ⟨_, rfl⟩)) e
theorem SoftS.dK {b : Addr} {xs : List (Key × V)} (e : H b = some (.dK xs)) : H' b = some (.dK xs) := s _ _ (.inr (.inr ⟨_, rfl⟩)) e
theorem SoftS.ins {b C dx : Addr} {fs : List (Str × V)} (e : H b = some (.ins C dx fs)) : H' b = some (.ins C dx fs) := s _ _ (.inl ⟨_, _, _, rfl⟩) e
theorem PairV.soft {v : V} {c : Cpy} (h : PairV v c H) : PairV v c H' := let ⟨a, e, h⟩ := h; ⟨a, e, s.tup h⟩
theorem KeyV.soft {v : V} {ks : List Cpy} (h : KeyV v ks H) : KeyV v ks H' := let ⟨a, xs, e, h, al⟩ := h; ⟨a, xs, e, s.tup h, al.mono fun v c p => p.soft s⟩
theorem SheetAt.soft {p : Addr} {rows : List Str} {nd : Str → List Str} (h : SheetAt K H p rows nd) : SheetAt K H' p rows nd := by
  obtain ⟨dx, aN, aD, aO, z, h1, h2, ⟨vs, h3, h5⟩, h4⟩ := h
  exact ⟨dx, aN, aD, aO, z, s.ins h1, s.tup h2, ⟨vs, s.dK h3, h5.mono fun v r ⟨t, e1, e2⟩ => ⟨t, e1, s.tup e2⟩⟩, s.dK h4⟩
theorem BelowAt.soft {a : Addr} {rows : List Str} {nd : Str → List Str} (h : BelowAt H a rows nd) : BelowAt H' a rows nd := by
  obtain ⟨kvs, e, g⟩ := h
  exact ⟨kvs, s.dK e, fun r hr => let ⟨d, ks, h1, h2, h3⟩ := g r hr; ⟨d, ks, h1, s.dK h2, h3⟩⟩
theorem KeepAt.soft {q p : Addr} {rows : List Str} {nd : Str → List Str} {k : Nat} {ks : List Cpy} (h : KeepAt K H q p rows nd k ks) : KeepAt K H' q p rows nd k ks := by
  obtain ⟨dx, aO, aB, aY, aK, z, vs, h1, h2, h3, h4, h5, h6⟩ := h
  exact ⟨dx, aO, aB, aY, aK, z, vs, s.ins h1, h2.soft s, s.dK h3, h4.soft s, s.tup h5, h6.mono fun v c e => e.soft s⟩
theorem KB.soft {q p : Addr} {rows : List Str} {nd : Str → List Str} {k : Nat} {ks : List Cpy} (h : KB K H q p rows nd k ks) : KB K H' q p rows nd k ks := ⟨h.1.soft s, h.2⟩
end
/-- v is a best keep -/
def KBV (K : PySem.W.Frag) (p : Addr) (rows : List Str) (nd : Str → List Str) (k : Nat) (v : V) (ks : List Cpy) (H : Hp) : Prop := ∃ q, v = .ref q ∧ KB K H q p rows nd k ks
theorem KBV.mono {K : PySem.W.Frag} {p : Addr} {rows : List Str} {nd : Str → List Str} {k : Nat} : Mono (KBV K p rows nd k) where
  same := fun v t H H' s ⟨q, e, h⟩ => ⟨q, e, h.same s⟩
  lst := fun v t D xs H H' hD s ⟨q, e, h⟩ => ⟨q, e, h.soft (soft_lst hD s)⟩
theorem KBV.same {K : PySem.W.Frag} {p : Addr} {rows : List Str} {nd : Str → List Str} {k : Nat} {v : V} {ks : List Cpy} {H H' : Hp} (h : KBV K p rows nd k v ks H) (s : Same H H') : KBV K p rows nd k v ks H' := KBV.mono.same _ _ _ _ s h
/-- a statement while the pen is locked -/
theorem seq_lock {t u2 : TS} {D : Ends} {σ : L2.St} {H : Hp} {a L : Addr} {n : Nat} (pa : PenAt H a L n)
    (h : ∀ (o : Obj) (u : HO) (HL : Hp), Same (off a H) HL → (∀ H', Same HL H' → H' a = some (.frz o u) ∧ PenAt (upd H' a u) a L n ∧ off a (upd H' a u) = off a H') →
      t ⟨fun σ' H' => H' a = some (.frz o u) ∧ u2 D σ' (upd H' a u), fun v H' => H' a = some (.frz o u) ∧ D.rt v (upd H' a u), fun σ' H' => H' a = some (.frz o u) ∧ D.bk σ' (upd H' a u), fun σ' H' => H' a = some (.frz o u) ∧ D.ct σ' (upd H' a u)⟩ σ HL) : tSeq (tLock t) u2 D σ H := by
  obtain ⟨ns, r, e1, e2, e3⟩ := pa
  refine ⟨a, _, e1, trivial, fun o => h o _ _ (fun b x e => ?_) fun H' s => ?_⟩
  · have hb : b ≠ a := fun z => by
      unfold off at e
      rw [if_pos z] at e
      cases e
    rw [upd_ne hb]
    exact off_same _ _ e
  · have ha := s _ _ (upd_same (H := H) (a := a) (o := .frz o (.dK (penK L n r))))
    have hLa : L ≠ a := ne_of e2 e1 (by intro z; cases z)
    refine ⟨ha, ⟨ns, r, upd_same, ?_, e3⟩, ?_⟩
    · rw [upd_ne hLa]
      exact s _ _ (by rw [upd_ne hLa]; exact e2)
    · funext b
      unfold off
      by_cases hb : b = a
      · rw [if_pos hb, if_pos hb]
      · rw [if_neg hb, if_neg hb, upd_ne hb]
theorem dep_perm {pl nd : Str → List Str} (h : ∀ r, (nd r).Perm (pl r)) : depB pl = depB nd := by
  have one : ∀ {f g : Str → List Str}, (∀ r o, o ∈ f r → o ∈ g r) → ∀ {x y}, Dep f x y → Dep g x y := by
    intro f g hfg x y d
    induction d with
    | one e => exact .one (hfg _ _ e)
    | step e _ ih => exact .step (hfg _ _ e) ih
  funext a b
  rw [Bool.eq_iff_iff, depB_iff, depB_iff]
  exact ⟨one fun r o => (h r).mem_iff.mpr, one fun r o => (h r).mem_iff.mp⟩
end Pw
end
section
set_option maxRecDepth 100000
set_option maxHeartbeats 8000000
/-! The law itself. -/
namespace Pw
open PySem PySem.Spec PyProof.Rows L2
theorem szs_ok : ∀ p ∈ szs, p.1 ≤ 12 ∧ 1 ≤ p.2 ∧ p.2 ≤ 12 ∧ p.1 * p.2 ≤ 12 := by decide
theorem off_off {a : Addr} {H H' : Hp} (s : Same (off a H) H') : Same (off a H) (off a H') := fun b o e => by
  refine off_at (fun z => ?_) (s _ _ e)
  unfold off at e
  rw [if_pos z] at e
  cases e
theorem cut40 (xs : List V) : cutV xs none (some (40 : Int)) = xs.take 40 := by
  rw [show (40 : Int) = ((40 : Nat) : Int) from rfl]
  unfold cutV
  rw [HT.sIx_none, HT.sIx_nat, List.drop_zero, Nat.sub_zero, ← List.take_eq_take_min]
abbrev n_law : List Str := ["_law_script", "_law_pen_here", "_law_turn", "_law_many", "_law_laps", "_law_plan_here", "_law_page_here", "_law_best_here", "_law_low", "_law_high", "_law_every", "_law_meet", "_law_join", "_law_one", "_law_again", "_law_two", "_law_three", "_law_some", "_law_k"]
section
variable {P : Program} {w : World} {K : PySem.W.Frag} {mg : Str → Option Value} {base : Heap}
def spLaw (K : PySem.W.Frag) : Sp := fun vs H Q _ => ∃ (a : Addr) (ns : List Int), vs = [.ref a] ∧ SqL K H a (ns.map V.int) ∧ ns.length ≤ 63 ∧ ∀ H', Q (.bl true) H'
theorem sc_law : FnScope n_law ["_law_script"] (defScope s_law) := ⟨rfl, rfl, rfl, by decide +kernel, rfl, by decide +kernel, by decide +kernel⟩
theorem ok_law' (T : Tx K mg) {fd : FuncData} (F : FnT K "law" "law" s_law [] (He.ga K "law") fd) : FnOk P w K mg base CX0 10 (He.ga K "law") fd ["_law_script"] (spLaw K) := by
  obtain ⟨_, F1⟩ := T.f_law_pen
  obtain ⟨_, F2⟩ := T.f_law_size
  obtain ⟨_, F3⟩ := T.f_law_plan
  obtain ⟨_, F4⟩ := T.f_law_page
  obtain ⟨_, F5⟩ := T.f_law_best
  obtain ⟨_, F6⟩ := T.f_law_keeps
  obtain ⟨_, F7⟩ := T.f_law_below
  obtain ⟨_, F8⟩ := T.f_first_keep
  obtain ⟨_, F9⟩ := T.f_last_keep
  obtain ⟨_, F10⟩ := T.f_fewest_moves
  obtain ⟨_, F11⟩ := T.f_law_draw
  obtain ⟨_, F12⟩ := T.f_law_three_right
  refine (fn_t F sc_law (fun _ _ _ _ _ _ us hl => match us, hl with | [_], _ => rfl) (fun vs H Q E h => ?_) fun cdv A outer s H vs Q E hr h => ?_).1
  · obtain ⟨a, ns, rfl, _⟩ := h
    rfl
  · obtain ⟨s0, ns, rfl, hs0, hns, q⟩ := h
    have hu := hu_of hr
    refine ⟨_, pss_cons (ps_set (i := 1) sc_law.nd rfl (Or.inr rfl) (pc (ok_pen T) (hr.mono (by decide)) F1.kp T.g_law_pen (pa_cons (pv 0) pa_nil)))
      (pss_cons (ps_for PassesOwn.never rfl (pi_range1 (by rfl) T.b_range (pa_cons pe_int pa_nil)) (pg_name (i := 2) sc_law.nd rfl (Or.inl rfl))
        (pss_cons (ps_asg (pc (ok_size T) (hr.mono (by decide)) F2.kp T.g_law_size (pa_cons (pv 1) pa_nil)) (pg_tup rfl (pgs_cons (pg_name (i := 3) sc_law.nd rfl (Or.inl rfl)) (pgs_cons (pg_name (i := 4) sc_law.nd rfl (Or.inr rfl)) pgs_nil))))
        (pss_cons (ps_set (i := 5) sc_law.nd rfl (Or.inl rfl) (pc (ok_plan T) (hr.mono (by decide)) F3.kp T.g_law_plan (pa_cons (pv 1) (pa_cons (pv 3) pa_nil))))
        (pss_cons (ps_lock (ps_set (i := 6) sc_law.nd rfl (Or.inr rfl) (pc (ok_page T) (hr.mono (by decide)) F4.kp T.g_law_page (pa_cons (pv 5) pa_nil))))
        (pss_cons (ps_lock (ps_set (i := 7) sc_law.nd rfl (Or.inl rfl) (pc (ok_best T) (hr.mono (by decide)) F5.kp T.g_law_best (pa_cons (pc (ok_keepsL T) (hr.mono (by decide)) F6.kp T.g_law_keeps (pa_cons (pv 5) (pa_cons (pc (ok_below T) (hr.mono (by decide)) F7.kp T.g_law_below (pa_cons (pv 5) pa_nil)) (pa_cons (pv 4) pa_nil)))) pa_nil))))
        (pss_cons (ps_lock (ps_par (i := 8) (j := 9) rfl sc_law.nd rfl rfl (by decide) rfl rfl (pa_cons (pc (ok_fk T) hr F8.kp T.g_first_keep (pa_cons (pv 6) (pa_cons (pv 4) pa_nil))) (pa_cons (pc (ok_lk T) hr F9.kp T.g_last_keep (pa_cons (pv 6) (pa_cons (pv 4) pa_nil))) pa_nil)) (by rfl)))
        (pss_cons (ps_if (PW.pt (pw_or (pt_cmpR op_ne (pe_op op_sub (pv 3) (pe_callB call_len_seq (by rfl) T.b_len (by decide +kernel) (pa_cons (pe_ix ix_list (pv 7) pe_int (fun _ _ => rfl)) pa_nil))) (pc (ok_fewest T) (hr.mono (by decide)) F10.kp T.g_fewest_moves (pa_cons (pv 6) (pa_cons (pv 4) pa_nil))) (nomark _)) (pw_or (pt_cmpR op_ne (pe_callB (call_lenC T.sp_Keep_len.1 T.sp_Keep_len.2 (ok_klen T) (hr.mono (by decide))) (by rfl) T.b_len (by decide +kernel) (pa_cons (pv 8) pa_nil)) (pe_callB call_len_seq (by rfl) T.b_len (by decide +kernel) (pa_cons (pe_ix ix_list (pv 7) pe_int (fun _ _ => rfl)) pa_nil)) (nomark _)) (pw_or1 (pt_cmpR op_ne (pe_callB (call_lenC T.sp_Keep_len.1 T.sp_Keep_len.2 (ok_klen T) (hr.mono (by decide))) (by rfl) T.b_len (by decide +kernel) (pa_cons (pv 9) pa_nil)) (pe_callB call_len_seq (by rfl) T.b_len (by decide +kernel) (pa_cons (pe_ix ix_list (pv 7) pe_int (fun _ _ => rfl)) pa_nil)) (nomark _)))))) pss_never pss_nil)
        (pss_cons (ps_lock (ps_set (i := 10) sc_law.nd rfl (Or.inr rfl) (pe_lc (own := [("_law_some", 17)]) (g := gName 17) (tt := tYes) (te := ClX.tCMeth (He.ga K "Keep") (spKeepOf K) E0 (tC (.ref (He.ga K "Keep"))) (tCons (tVar 6) (tCons (tVar 4) (tCons (tVar 17) tNil)))) rfl sc_law.nd (pi_list (pe_slice sl_list (pv 7) po_none (po_some pe_int))) (blkOk_by (N := n_law) (sc := defScope s_law) (by decide +kernel))
            (fun _ _ _ _ _ => (pg_name (i := 17) sc_law.nd rfl (Or.inl rfl))) (fun _ _ _ _ _ => pts_nil) (fun _ _ _ _ _ => ClX.pe_cmeth (CX := CX0) (E := E0) (pe_glob (v := .ref (He.ga K "Keep")) (by rfl) T.g_Keep rfl) T.cm_Keep_of.1 T.cm_Keep_of.2 (ok_Keep_of T) (hr.mono (by decide)) pass0 (pa_cons (pv 6) (pa_cons (pv 4) (pa_cons (pv 17) pa_nil)))))))
        (pss_cons (ps_par (i := 11) (j := 12) rfl sc_law.nd rfl rfl (by decide) rfl rfl (pa_cons (pe_ix ix_list (pv 10) pe_int (fun _ _ => rfl)) (pa_cons (pe_ix ix_list (pv 10) pe_int (fun _ _ => rfl)) pa_nil)) (by rfl))
        (pss_cons (ps_lock (ps_for PassesOwn.never rfl (pi_list (pv 10)) (pg_name (i := 13) sc_law.nd rfl (Or.inl rfl))
          (pss_cons (ps_par (i := 11) (j := 12) rfl sc_law.nd rfl rfl (by decide) rfl rfl (pa_cons (pe_op (op := .BitAnd) (op_bin T.sp_Keep_and.1 T.sp_Keep_and.2 T.sf_Keep (ok_kand T) (hr.mono (by decide))) (pv 11) (pv 13)) (pa_cons (pe_op (op := .BitOr) (op_bin T.sp_Keep_or.1 T.sp_Keep_or.2 T.sf_Keep (ok_kor T) (hr.mono (by decide))) (pv 12) (pv 13)) pa_nil)) (by rfl))
          (pss_one (ps_if (PW.pt (pw_or (pt_not (pt_val (pm (pv 8) T.cl_Keep T.mt_Keep_earlier_than (ok_earlier T) (hr.mono (by decide)) (pa_cons (pv 13) pa_nil)))) (pw_or (pt_not (pt_val (pm (pv 13) T.cl_Keep T.mt_Keep_earlier_than (ok_earlier T) (hr.mono (by decide)) (pa_cons (pv 9) pa_nil)))) (pw_or (pt_cmpR (op_neC T.is_Keep T.ne_Keep T.sp_Keep_eq.1 T.sp_Keep_eq.2 (ok_keq T) (hr.mono (by decide))) (pe_op (op := .BitOr) (op_bin T.sp_Keep_or.1 T.sp_Keep_or.2 T.sf_Keep (ok_kor T) (hr.mono (by decide))) (pv 8) (pv 13)) (pv 13) (nomark _)) (pw_or1 (pt_cmpR (op_neC T.is_Keep T.ne_Keep T.sp_Keep_eq.1 T.sp_Keep_eq.2 (ok_keq T) (hr.mono (by decide))) (pe_op (op := .BitAnd) (op_bin T.sp_Keep_and.1 T.sp_Keep_and.2 T.sf_Keep (ok_kand T) (hr.mono (by decide))) (pv 9) (pv 13)) (pv 13) (nomark _))))))) pss_never pss_nil)))))
        (pss_cons (ps_if (PW.pt (pw_and (pt_cmpR op_le (pe_callB call_len_seq (by rfl) T.b_len (by decide +kernel) (pa_cons (pv 7) pa_nil)) pe_int (nomark _)) (pw_and1 (PW.pt (pw_or (pt_cmpR (op_neC T.is_Keep T.ne_Keep T.sp_Keep_eq.1 T.sp_Keep_eq.2 (ok_keq T) (hr.mono (by decide))) (pv 11) (pv 8) (nomark _)) (pw_or1 (pt_cmpR (op_neC T.is_Keep T.ne_Keep T.sp_Keep_eq.1 T.sp_Keep_eq.2 (ok_keq T) (hr.mono (by decide))) (pv 12) (pv 9) (nomark _)))))))) pss_never pss_nil)
        (pss_one (ps_for PassesOwn.never rfl (pi_range1 (by rfl) T.b_range (pa_cons pe_int pa_nil)) (pg_name (i := 14) sc_law.nd rfl (Or.inl rfl))
          (pss_cons (ps_asg (pe_lc (own := [("_law_k", 18)]) (g := gName 18) (tt := tYes) (te := tOp (rIxL K) (tVar 10) (tCl spDraw (tCons (tVar 1) (tCons (tCB (rLenQ K) (tCons (tVar 10) tNil)) tNil)))) rfl sc_law.nd (pi_range1 (by rfl) T.b_range (pa_cons pe_int pa_nil)) (blkOk_by (N := n_law) (sc := defScope s_law) (by decide +kernel))
              (fun _ _ _ _ _ => (pg_name (i := 18) sc_law.nd rfl (Or.inl rfl))) (fun _ _ _ _ _ => pts_nil) (fun _ _ _ _ _ => pe_ix ix_list (pv 10) (pc (ok_draw T) (hr.mono (by decide)) F11.kp T.g_law_draw (pa_cons (pv 1) (pa_cons (pe_callB call_len_seq (by rfl) T.b_len (by decide +kernel) (pa_cons (pv 10) pa_nil)) pa_nil))) (fun _ _ => rfl)))
            (pg_unl rfl (pgs_cons (pg_name (i := 13) sc_law.nd rfl (Or.inl rfl)) (pgs_cons (pg_name (i := 15) sc_law.nd rfl (Or.inl rfl)) (pgs_cons (pg_name (i := 16) sc_law.nd rfl (Or.inl rfl)) pgs_nil)))))
          (pss_one (ps_if (pt_not (pt_val (pc (ok_three T) hr F12.kp T.g_law_three_right (pa_cons (pv 13) (pa_cons (pv 15) (pa_cons (pv 16) (pa_cons (pv 7) pa_nil))))))) pss_never pss_nil))))))))))))))))
      (pss_one (ps_ret pe_bl))), ?_⟩
    refine ⟨_, rfl, s0, ns, rfl, hs0, hns, fun H1 a L s1 pa1 => ?_⟩
    refine ⟨2, rfl, by decide, by decide, ?_⟩
    refine for_it (n := 2) walk_range (fun i σ' H' => ∃ (x2 x3 x4 x5 x6 x7 x8 x9 x10 x11 x12 x13 x14 x15 x16 x17 x18 : Option V) (n' : Nat), σ' = [some (.ref s0), some (.ref a), x2, x3, x4, x5, x6, x7, x8, x9, x10, x11, x12, x13, x14, x15, x16, x17, x18] ∧ PenAt H' a L n' ∧ n' ≤ 2000 * i) ⟨none, none, none, none, none, none, none, none, none, none, none, none, none, none, none, none, none, 0, rfl, pa1, by omega⟩ (fun _ _ _ _ _ => trivial) ?_ (fun σ' H' _ => q H')
    rintro i xt σ' _ H2 hi ⟨x2,x3,x4,x5,x6,x7,x8,x9,x10,x11,x12,x13,x14,x15,x16,x17,x18, n0, rfl, pa2, hn0⟩ ⟨rfl, hxt⟩
    clear hxt
    -- how many rows and passes
    refine ⟨_, rfl, a, L, n0, rfl, pa2, by omega, fun H3 t n1 many laps sx3 ht hm pa3 hn1 => ?_⟩
    show gTup K 2 (gCons (gName 3) (gCons (gName 4) gNil)) _ _ H3 _
    refine ⟨t, _, rfl, .of ht, rfl, _, _, rfl, _, _, rfl, rfl, ?_⟩
    obtain ⟨z1, z2, z3, z4⟩ := szs_ok _ hm
    have z1 : many ≤ 12 := z1
    have z2 : 1 ≤ laps := z2
    have z3 : laps ≤ 12 := z3
    have z4 : many * laps ≤ 12 := z4
    -- the plan
    refine ⟨_, rfl, _, rfl, a, L, many, n1, rfl, pa3, z1, by omega, fun H4 pn rows pl n2 sx4 S hrl PA pa4 hn2 => ?_⟩
    have Z : Sz rows laps := ⟨z2, z3, by rw [hrl]; exact z4⟩
    -- the sheet
    refine seq_lock pa4 fun o u HL sL un => ?_
    refine ⟨_, rfl, pn, rows, pl, rfl, PA.same sL, S, fun pg nd H' hnd s' hs => ?_⟩
    obtain ⟨hfr, pa5, eo⟩ := un H' s'
    refine ⟨hfr, ?_⟩
    have sO : Same (off a H4) (off a (upd H' a u)) := by rw [eo]; exact off_off (sL.trans s')
    have SG : SheetAt K (off a (upd H' a u)) pg rows nd := by rw [eo]; exact hs.soft (soft_lk hfr)
    have PA := PA.same sO
    generalize upd H' a u = H5 at pa5 SG PA
    clear un sO sL s' hs hfr eo
    have Sn := S.perm hnd
    have ed := dep_perm hnd
    -- the best keeps
    refine seq_lock pa5 fun o u HL sL un => ?_
    refine ⟨_, rfl, _, rfl, pn, rows, pl, rfl, PA.same sL, S, fun B HB sB LB => ?_⟩
    refine ⟨_, rfl, pn, B, laps, rows, pl, rfl, PA.same (sL.trans sB), LB, S, Z, fun HC D out sC hD al hle => ?_⟩
    refine ⟨D, out, _, rfl, hD, al, keepsL_ne _ _ _, hle, fun H' BL outB m sE hex hmx hBL alB => ?_⟩
    have bk := best_key (dep := depB pl) (k := laps) S.nodup hex hmx
    have klen : ∀ ks ∈ (keepsL (bars rows pl) laps rows).filter (fun ks => decide (ks.length = m)), ks.length = m := fun ks h => of_decide_eq_true (List.mem_filter.mp h).2
    have kne : (keepsL (bars rows pl) laps rows).filter (fun ks => decide (ks.length = m)) ≠ [] := by
      obtain ⟨k0, h0, h1⟩ := hex
      exact List.ne_nil_of_mem (List.mem_filter.mpr ⟨h0, decide_eq_true h1⟩)
    have kle : ((keepsL (bars rows pl) laps rows).filter (fun ks => decide (ks.length = m))).length ≤ 4096 := Nat.le_trans (List.length_filter_le _ _) hle
    have bk2 : ∀ ks, Bst rows nd laps ks ↔ ks ∈ (keepsL (bars rows pl) laps rows).filter fun ks => decide (ks.length = m) := by
      intro ks
      show Lat.BestKey rows (depB nd) laps ks ↔ _
      rw [← ed]
      exact bk ks
    generalize (keepsL (bars rows pl) laps rows).filter (fun ks => decide (ks.length = m)) = kss at alB klen kne kle bk2
    clear bk hex hmx
    have sH' := (sB.trans sC).trans sE
    obtain ⟨hfr, pa6, eo⟩ := un H' sH'
    refine ⟨hfr, ?_⟩
    have sO : Same (off a H5) (off a (upd H' a u)) := by rw [eo]; exact off_off (sL.trans sH')
    have BG : off a (upd H' a u) BL = some (.lst outB) := by rw [eo]; exact off_at (fun z => by rw [z, hfr] at hBL; cases hBL) hBL
    have AG : All2 (fun v ks => KeyV v ks (off a (upd H' a u))) outB kss := by rw [eo]; exact alB.mono fun v ks h => h.soft (soft_lk hfr)
    have SG := SG.same sO
    generalize upd H' a u = H6 at pa6 SG BG AG
    clear un sO sL sH' sB sC sE alB hBL hfr eo al hD LB PA hle
    -- the first and the last
    refine seq_lock pa6 fun o u HL sL un => ?_
    refine ⟨_, rfl, _, rfl, pg, rows, nd, laps, rfl, Sn, SG.same sL, Z, fun lo HB ko sB klo blo elo => ?_⟩
    refine ⟨_, rfl, _, rfl, pg, rows, nd, laps, rfl, Sn, SG.same (sL.trans sB), Z, fun hi' H' kh sC khi bhi ehi => ?_⟩
    refine ⟨_, _, rfl, ?_⟩
    have sH' := sB.trans sC
    obtain ⟨hfr, pa7, eo⟩ := un H' sH'
    refine ⟨hfr, ?_⟩
    have sO : Same (off a H6) (off a (upd H' a u)) := by rw [eo]; exact off_off (sL.trans sH')
    have LO : KB K (off a (upd H' a u)) lo pg rows nd laps ko := by rw [eo]; exact ⟨(klo.same sC).soft (soft_lk hfr), blo⟩
    have HI : KB K (off a (upd H' a u)) hi' pg rows nd laps kh := by rw [eo]; exact ⟨khi.soft (soft_lk hfr), bhi⟩
    have SG := SG.same sO
    have BG := sO _ _ BG
    have AG : All2 (fun v ks => KeyV v ks (off a (upd H' a u))) outB kss := AG.mono fun v ks h => h.same sO
    generalize upd H' a u = H7 at pa7 SG BG AG LO HI
    clear un sO sL sH' sB sC klo khi hfr eo
    have D := Sn.dp
    -- so many rows are moved
    obtain ⟨k0, kr, hk0⟩ : ∃ k0 kr, kss = k0 :: kr := by
      cases kss with
      | nil => exact absurd rfl kne
      | cons k0 kr => exact ⟨k0, kr, rfl⟩
    have hk0i : kss[0]? = some k0 := by rw [hk0]; rfl
    have hk0m : k0 ∈ kss := List.mem_of_getElem? hk0i
    obtain ⟨v0, hv0, kv0⟩ := AG.get' hk0i
    obtain ⟨b0, ys0, rfl, hb0, al0⟩ := kv0
    have ly0 : ys0.length = m := by rw [al0.len]; exact klen k0 hk0m
    have blen : ∀ {ks}, Bst rows nd laps ks → ks.length = m := fun {ks} h => klen ks ((bk2 ks).mp h)
    have o7 : Same (off a H7) H7 := off_same
    obtain ⟨dxl, fsl, el, ll⟩ := LO.insL
    obtain ⟨dxh, fsh, eh, lh⟩ := HI.insL
    have best0 : ∀ H', Same H7 H' → H' BL = some (.lst outB) ∧ H' b0 = some (.tup ys0) := fun H' s => ⟨s _ _ (o7 _ _ BG), s _ _ (o7 _ _ hb0)⟩
    have at0 : atI outB (0 : Int) = some (.ref b0) := atI_nat (j := 0) hv0
    refine ⟨_, rfl, _, rfl, BL, outB, _, .ref b0, rfl, rfl, .of (best0 H7 (Same.refl _)).1, at0, b0, ys0, rfl, .inr (.of (best0 H7 (Same.refl _)).2), _, _, rfl, rfl, ?_⟩
    refine ⟨_, rfl, _, rfl, pg, rows, nd, laps, rfl, Sn, SG.same o7, Z, fun H8 ks s8 hbst => ⟨rfl, _, rfl, iteNS ?_ ?_⟩⟩
    · rw [ly0, blen hbst, hrl]
    have l12 : ∀ {ks}, Bst rows nd laps ks → ks.length < 1000000 := fun {ks} h => Nat.lt_of_le_of_lt ((h.cps Sn).len Z.rk) (by decide)
    have b8 := best0 H8 s8
    refine ⟨_, rfl, lo, dxl, fsl, rfl, s8 _ _ (o7 _ _ el), lo, pg, rows, nd, laps, ko, rfl, (LO.1.same o7).same s8, ko.length, rfl, l12 LO.2, ?_⟩
    refine ⟨_, rfl, BL, outB, _, .ref b0, rfl, rfl, .of b8.1, at0, b0, ys0, rfl, .inr (.of b8.2), rfl, _, rfl, iteNS ?_ ?_⟩
    · rw [ly0, blen LO.2]
    refine ⟨_, rfl, hi', dxh, fsh, rfl, s8 _ _ (o7 _ _ eh), hi', pg, rows, nd, laps, kh, rfl, (HI.1.same o7).same s8, kh.length, rfl, l12 HI.2, ?_⟩
    refine ⟨_, rfl, BL, outB, _, .ref b0, rfl, rfl, .of b8.1, at0, b0, ys0, rfl, .inr (.of b8.2), rfl, _, rfl, iteNS ?_ ?_⟩
    · rw [ly0, blen HI.2]
    have sO := off_mono (Pw.Same.x s8 (a := a))
    have pa8 := pa7.same s8
    have SG := SG.same sO
    have BG := sO _ _ BG
    have AG : All2 (fun v ks => KeyV v ks (off a H8)) outB kss := AG.mono fun v ks h => h.same sO
    have LO := LO.same sO
    have HI := HI.same sO
    clear sO best0 b8 el eh hb0 al0 hv0 s8
    -- the best keeps as keeps
    refine seq_lock pa8 fun o u HL sL un => ?_
    have BL1 := sL _ _ BG
    refine ⟨_, rfl, (40 : Int), rfl, BL, outB, rfl, .of BL1, fun l4 hl4 => ?_⟩
    rw [cut40]
    have u4 := Same.new (o := .lst (outB.take 40)) hl4
    have hl4' : (upd HL l4 (.lst (outB.take 40))) l4 = some (.lst (outB.take 40)) := upd_same
    generalize upd HL l4 (.lst (outB.take 40)) = HM at u4 hl4'
    have sLM := sL.trans u4
    have al40 : All2 (fun v ks => KeyV v ks (off a H8)) (outB.take 40) (kss.take 40) := AG.take 40
    have l40 := al40.len
    have k40 : (kss.take 40).length ≤ 40 := by rw [List.length_take]; omega
    refine ⟨l4, rfl, ⟨_, .of hl4'⟩, fun G hG => ?_⟩
    refine lc_gr (KBV.mono (K := K) (p := pg) (rows := rows) (nd := nd) (k := laps)) (walk_list (K := K) (a := l4) (xs := outB.take 40)) (g := gName 17) (tt := tYes) (te := ClX.tCMeth (He.ga K "Keep") (spKeepOf K) E0 (tC (.ref (He.ga K "Keep"))) (tCons (tVar 6) (tCons (tVar 4) (tCons (tVar 17) tNil)))) hG (by rw [sizeLine_eq]; omega) (fun _ => true) (fun i => (kss.take 40).getD i []) (fun H9 s9 => .of (s9 _ _ hl4')) (fun _ _ _ _ _ y => by rw [y.1]; exact Same.refl _) ?_ ?_
    · rintro j x _ H9 A3 B3 hj s9 _ ⟨rfl, hx⟩ hA _
      obtain ⟨ks, hks, kv⟩ := al40.get hx
      have eg : (kss.take 40).getD j [] = ks := by rw [List.getD_eq_getElem?_getD, hks]; rfl
      rw [eg] at hA
      have hkm : ks ∈ kss := List.mem_of_mem_take (List.mem_of_getElem? hks)
      have hbk := (bk2 ks).mpr hkm
      have s99 := sLM.trans s9
      obtain ⟨aa, ys, rfl, haa, hal⟩ := kv.same s99
      have cK := hbk.cps Sn
      refine ⟨rfl, yes ⟨rfl, _, rfl, _, rfl, _, rfl, pg, aa, rows, nd, laps, ys, ks, rfl, SG.same s99, Sn, Z, .inl haa, hal, cK, fun x hx y hy => hbk.key.bar hx hy, fun q' H' s' hk => hA rfl _ _ s' ⟨q', rfl, ?_, hbk⟩⟩⟩
      rw [← hbk.can] at hk
      exact hk
    intro evs H' s9 e9 al9
    have ek : outs (fun _ => true) (fun i => (kss.take 40).getD i []) (outB.take 40).length = kss.take 40 := by
      rw [l40]
      have z := outs_list ([] : List Cpy) (fun _ => true) id (kss.take 40)
      rw [List.map_id, List.filter_eq_self.mpr (fun _ _ => rfl)] at z
      exact z
    rw [ek] at al9
    have sH' := u4.trans s9
    obtain ⟨hfr, pa9, eo⟩ := un H' sH'
    refine ⟨hfr, ?_⟩
    have sO : Same (off a H8) (off a (upd H' a u)) := by rw [eo]; exact off_off (sL.trans sH')
    have EG : off a (upd H' a u) G = some (.lst evs) := by rw [eo]; exact off_at (fun z => by rw [z, hfr] at e9; cases e9) e9
    have EA : All2 (fun v ks => KBV K pg rows nd laps v ks (off a (upd H' a u))) evs (kss.take 40) := by rw [eo]; exact al9.mono fun v ks ⟨q', e, h⟩ => ⟨q', e, h.soft (soft_lk hfr)⟩
    have SG := SG.same sO
    have BG := sO _ _ BG
    have AG : All2 (fun v ks => KeyV v ks (off a (upd H' a u))) outB kss := AG.mono fun v ks h => h.same sO
    have LO := LO.same sO
    have HI := HI.same sO
    generalize upd H' a u = H9 at pa9 SG BG AG LO HI EG EA
    clear un sO sL sH' s9 e9 al9 hfr eo u4 hl4' sLM BL1 al40 l40
    -- the first of them
    have e40 : (kss.take 40)[0]? = some k0 := by rw [hk0]; rfl
    obtain ⟨w0, hw0, e0, rfl, ke0⟩ := EA.get' e40
    have ae0 : atI evs (0 : Int) = some (.ref e0) := atI_nat (j := 0) hw0
    have o9 : Same (off a H9) H9 := off_same
    have g9 := o9 _ _ EG
    refine ⟨_, rfl, G, evs, _, .ref e0, rfl, rfl, .of g9, ae0, _, rfl, G, evs, _, .ref e0, rfl, rfl, .of g9, ae0, _, _, rfl, ?_⟩
    have lev := EA.len
    have epos : 1 ≤ evs.length := by
      have := (List.getElem?_eq_some_iff.mp hw0).1
      omega
    have e40' : evs.length ≤ 40 := by omega
    -- meets and joins of all
    refine seq_lock pa9 fun o u HL sL un => ?_
    refine ⟨_, rfl, G, rfl, ⟨_, .of (sL _ _ EG)⟩, ?_⟩
    obtain ⟨dxl, fsl, el, ll⟩ := LO.insL
    refine for_it (n := evs.length) walk_list (fun j σ' H' => ∃ (mq jq : Addr) (am aj : List Cpy) (x13 : Option V), σ' = [some (.ref s0), some (.ref a), some xt, some (.int (many : Nat)), some (.int (laps : Nat)), some (.ref pn), some (.ref pg), some (.ref BL), some (.ref lo), some (.ref hi'), some (.ref G), some (.ref mq), some (.ref jq), x13, x14, x15, x16, x17, x18] ∧ Same HL H' ∧ KB K H' mq pg rows nd laps am ∧ KB K H' jq pg rows nd laps aj ∧
        (∀ z ∈ (kss.take 40).take j, Lat.EarlierK rows (depB nd) laps am z) ∧ ∀ z ∈ (kss.take 40).take j, Lat.EarlierK rows (depB nd) laps z aj)
      ⟨e0, e0, k0, k0, _, rfl, Same.refl _, ke0.same sL, ke0.same sL, fun z hz => by simp at hz, fun z hz => by simp at hz⟩ (fun j σ' H' _ h => by obtain ⟨_, _, _, _, _, _, s', _⟩ := h; exact .of (s' _ _ (sL _ _ EG))) ?_ ?_
    · rintro j x σ' _ Ha hj ⟨mq, jq, am, aj, y13, rfl, sa, km, kj, em, ej⟩ ⟨rfl, hx⟩
      obtain ⟨ka, hka, wa, rfl, kwa⟩ := EA.get hx
      have sLa := sL.trans sa
      have kw := kwa.same sLa
      have etk : (kss.take 40).take (j + 1) = (kss.take 40).take j ++ [ka] := by rw [List.take_add_one, hka]; rfl
      refine ⟨_, rfl, _, rfl, and_rd Sn Z km kw fun mq' Hb sb kmb => ?_⟩
      refine ⟨_, rfl, _, rfl, or_rd Sn Z (kj.same sb) (kw.same sb) fun jq' Hc sc kjc => ?_⟩
      refine ⟨_, _, rfl, ?_⟩
      have sac := sb.trans sc
      have kmc := kmb.same sc
      have kwc := kw.same sac
      have sLc := sLa.trans sac
      have loc := LO.same sLc
      have hic := HI.same sLc
      obtain ⟨dxw, fsw, ew, lw⟩ := kwc.insL
      refine ⟨_, rfl, lo, dxl, fsl, rfl, sLc _ _ el, ll, _, rfl, nil_rd (ea_rd Sn Z loc kwc (elo ka kw.2) fun Hd sd => ⟨_, rfl, iteF ?_⟩)⟩
      refine ⟨_, rfl, wa, dxw, fsw, rfl, sd _ _ ew, lw, _, rfl, nil_rd (ea_rd Sn Z (kwc.same sd) (hic.same sd) (ehi ka kw.2) fun He' se => ⟨_, rfl, iteF ?_⟩)⟩
      have sce := sd.trans se
      refine ⟨_, rfl, _, rfl, or_rd Sn Z (loc.same sce) (kwc.same sce) fun z1 Hf sf kz1 => ⟨_, rfl, ?_⟩⟩
      refine ne_rd Sn Z kz1 (kwc.same (sce.trans sf)) (Lat.joinK_of D LO.2 kw.2 (elo ka kw.2)) fun Hg sg => ⟨_, rfl, _, rfl, iteF ?_⟩
      have scg := (sce.trans sf).trans sg
      refine ⟨_, rfl, _, rfl, and_rd Sn Z (hic.same scg) (kwc.same scg) fun z2 Hh sh kz2 => ⟨_, rfl, ?_⟩⟩
      refine ne_rd Sn Z kz2 (kwc.same (scg.trans sh)) (Lat.meetK_of D HI.2 kw.2 (ehi ka kw.2)) fun Hi si => ⟨_, rfl, _, rfl, iteF ?_⟩
      have sci := (scg.trans sh).trans si
      refine ⟨mq', jq', _, _, _, rfl, sa.trans (sac.trans sci), kmc.same sci, kjc.same sci, fun z hz => ?_, fun z hz => ?_⟩
      · rw [etk] at hz
        rcases List.mem_append.mp hz with h | h
        · have hz' := (bk2 z).mpr (List.mem_of_mem_take (List.mem_of_mem_take h))
          exact Lat.earlierK_trans D kmc.2 km.2 hz' (Lat.meetK_earlier D km.2 kw.2) (em z h)
        · rw [List.mem_singleton.mp h]
          exact Lat.meetK_earlier' D km.2 kw.2
      · rw [etk] at hz
        rcases List.mem_append.mp hz with h | h
        · have hz' := (bk2 z).mpr (List.mem_of_mem_take (List.mem_of_mem_take h))
          exact Lat.earlierK_trans D hz' kj.2 kjc.2 (ej z h) (Lat.earlierK_join D kj.2 kw.2)
        · rw [List.mem_singleton.mp h]
          exact Lat.earlierK_join' D kj.2 kw.2
    rintro σ' H' ⟨mq, jq, am, aj, y13, rfl, sa, km, kj, em, ej⟩
    rw [lev, List.take_length] at em ej
    obtain ⟨hfr, pa10, eo⟩ := un H' sa
    refine ⟨hfr, ?_⟩
    have sO : Same (off a H9) (off a (upd H' a u)) := by rw [eo]; exact off_off (sL.trans sa)
    have MQ : KB K (off a (upd H' a u)) mq pg rows nd laps am := by rw [eo]; exact km.soft (soft_lk hfr)
    have JQ : KB K (off a (upd H' a u)) jq pg rows nd laps aj := by rw [eo]; exact kj.soft (soft_lk hfr)
    have BG := sO _ _ BG
    have EG := sO _ _ EG
    have AG : All2 (fun v ks => KeyV v ks (off a (upd H' a u))) outB kss := AG.mono fun v ks h => h.same sO
    have EA : All2 (fun v ks => KBV K pg rows nd laps v ks (off a (upd H' a u))) evs (kss.take 40) := EA.mono fun v ks h => h.same sO
    have LO := LO.same sO
    have HI := HI.same sO
    generalize upd H' a u = H10 at pa10 BG AG LO HI EG EA MQ JQ
    clear un sO sL sa km kj hfr eo o9 g9 SG o7 el ke0
    have oX : Same (off a H10) H10 := off_same
    -- the meet and the join of all
    refine ⟨_, rfl, BL, outB, rfl, .inl (.of (oX _ _ BG)), _, _, rfl, rfl, _, rfl, iB (fun h40 => ?_) (fun h40 => ?_)⟩
    · have hle : (outB.length : Int) ≤ 40 := of_decide_eq_true h40
      have hlb := AG.len
      have ekk : kss.take 40 = kss := List.take_of_length_le (by omega)
      rw [ekk] at em ej
      have eM : am = ko := Lat.earlierK_antisymm D MQ.2 LO.2 (em ko ((bk2 ko).mp LO.2)) (elo am MQ.2)
      have eJ : aj = kh := Lat.earlierK_antisymm D JQ.2 HI.2 (ehi aj JQ.2) (ej kh ((bk2 kh).mp HI.2))
      refine ⟨_, rfl, _, rfl, ne_rd Sn Z (MQ.same oX) (LO.same oX) eM fun H11 s11 => ⟨_, rfl, _, rfl, iteF ?_⟩⟩
      refine ⟨_, rfl, _, rfl, ne_rd Sn Z ((JQ.same oX).same s11) ((HI.same oX).same s11) eJ fun H12 s12 => ⟨_, rfl, _, rfl, iteF ?_⟩⟩
      have s1012 := s11.trans s12
      have paK := pa10.same s1012
      have sK : Same (off a H10) (off a H12) := off_mono (Pw.Same.x s1012)
      refine ⟨6, rfl, by decide, by decide, ?_⟩
      refine for_it (n := 6) walk_range (fun r σ' H' => ∃ (x13 x14 x15 x16 : Option V) (n' : Nat), σ' = [some (.ref s0), some (.ref a), some xt, some (.int (many : Nat)), some (.int (laps : Nat)), some (.ref pn), some (.ref pg), some (.ref BL), some (.ref lo), some (.ref hi'), some (.ref G), some (.ref mq), some (.ref jq), x13, x14, x15, x16, x17, x18] ∧ PenAt H' a L n' ∧ n' ≤ n2 + 3 * r ∧ Same (off a H10) (off a H')) ⟨_, _, _, _, n2, rfl, paK, by omega, sK⟩ (fun _ _ _ _ _ => trivial) ?_ ?_
      · rintro r xr σ' _ Hs hr6 ⟨y13, y14, y15, y16, n5, rfl, pas, hn5, sKs⟩ ⟨rfl, _⟩
        have oS : Same (off a Hs) Hs := off_same
        refine ⟨3, rfl, by decide, by decide, fun D2 hD2 => ?_⟩
        have hDa := pas.ne hD2
        have hGs : off a Hs G = some (.lst evs) := sKs _ _ EG
        have hGa : G ≠ a := fun z => by
          unfold off at hGs
          rw [if_pos z] at hGs
          cases hGs
        have hGD : G ≠ D2 := fun z => by
          have := oS _ _ hGs
          rw [z, hD2] at this
          cases this
        refine walk_gen (n := 3) walk_range (fun j H' => ∃ (out3 : List V) (n6 : Nat), H' D2 = some (.lst out3) ∧ out3.length = j ∧ (∀ v ∈ out3, v ∈ evs) ∧ PenAt H' a L n6 ∧ n6 ≤ n5 + j ∧ ∀ c o, c ≠ a → Hs c = some o → H' c = some o) ⟨[], n5, upd_same, rfl, fun _ h => (by cases h), pas.same (Same.new hD2), Nat.le_refl _, fun c o _ e => Same.new hD2 _ _ e⟩ (fun _ _ _ _ => trivial) ?_ ?_
        · rintro j xj _ Ht hj ⟨out3, n6, gD, gl, gm, gp, gn, gx⟩ ⟨rfl, _⟩
          have hGt := gx _ _ hGa (oS _ _ hGs)
          refine ⟨rfl, yes ⟨_, rfl, _, rfl, _, rfl, G, evs, rfl, .inl (.of hGt), ?_⟩⟩
          refine ⟨a, L, evs.length, n6, rfl, epos, by omega, by omega, gp, fun Hu d n7 sxu pau hnu hd => ?_⟩
          have hvd : evs[d]? = some evs[d] := List.getElem?_eq_getElem hd
          refine ⟨G, evs, _, _, rfl, rfl, .of (sxu _ _ hGa hGt), atI_nat hvd, ?_⟩
          refine ⟨out3, sxu _ _ hDa.1 gD, by rw [gl, sizeLine_eq]; omega, out3 ++ [evs[d]], n7, upd_same, by rw [List.length_append, gl]; rfl, fun v hv => ?_, pau.upd hDa.1 hDa.2, by omega, fun c o hc e => ?_⟩
          · rcases List.mem_append.mp hv with h | h
            · exact gm v h
            · rw [List.mem_singleton.mp h]
              exact List.getElem_mem hd
          · rw [upd_ne (fun z => by rw [z, hD2] at e; cases e)]
            exact sxu _ _ hc (gx _ _ hc e)
        · rintro Ht ⟨out3, n6, gD, gl, gm, gp, gn, gx⟩
          obtain ⟨v1, v2, v3, rfl⟩ : ∃ v1 v2 v3, out3 = [v1, v2, v3] := by
            match out3, gl with
            | [v1, v2, v3], _ => exact ⟨v1, v2, v3, rfl⟩
          have sKt : Same (off a H10) (off a Ht) := sKs.trans (off_mono fun c o hc e => gx c o hc e)
          have oT : Same (off a Ht) Ht := off_same
          have kb : ∀ v ∈ evs, ∃ (z : Addr) (ks : List Cpy), v = .ref z ∧ KB K Ht z pg rows nd laps ks := fun v hv => by
            obtain ⟨i', hi', ei'⟩ := List.mem_iff_getElem.mp hv
            obtain ⟨ks, hks, z, ez, hz⟩ := EA.get (show evs[i']? = some v by rw [List.getElem?_eq_getElem hi', ei'])
            exact ⟨z, ks, ez, (hz.same sKt).same oT⟩
          obtain ⟨w1, c1, rfl, k1⟩ := kb v1 (gm v1 (by simp))
          obtain ⟨w2, c2, rfl, k2⟩ := kb v2 (gm v2 (by simp))
          obtain ⟨w3, c3, rfl, k3⟩ := kb v3 (gm v3 (by simp))
          refine ⟨D2, _, rfl, .of gD, rfl, _, _, rfl, _, _, rfl, _, _, rfl, rfl, ?_⟩
          refine ⟨_, rfl, _, rfl, _, rfl, _, rfl, w1, w2, w3, BL, pg, rows, nd, laps, c1, c2, c3, outB, kss, rfl, Sn, Z, k1, k2, k3, oT _ _ (sKt _ _ BG), AG.mono fun v ks h => (h.same sKt).same oT, bk2, fun Hv sv => ⟨true, rfl, iteF ?_⟩⟩
          exact ⟨_, _, _, _, n6, rfl, gp.same sv, by omega, sKt.trans (off_mono (Pw.Same.x sv))⟩
      · rintro σ' Hs ⟨y13, y14, y15, y16, n5, rfl, pas, hn5, sKs⟩
        exact ⟨_, _, _, _, _, _, _, _, _, _, _, _, _, _, _, _, _, n5, rfl, pas, by omega⟩
    · have paK := pa10
      have sK : Same (off a H10) (off a H10) := Same.refl _
      refine ⟨6, rfl, by decide, by decide, ?_⟩
      refine for_it (n := 6) walk_range (fun r σ' H' => ∃ (x13 x14 x15 x16 : Option V) (n' : Nat), σ' = [some (.ref s0), some (.ref a), some xt, some (.int (many : Nat)), some (.int (laps : Nat)), some (.ref pn), some (.ref pg), some (.ref BL), some (.ref lo), some (.ref hi'), some (.ref G), some (.ref mq), some (.ref jq), x13, x14, x15, x16, x17, x18] ∧ PenAt H' a L n' ∧ n' ≤ n2 + 3 * r ∧ Same (off a H10) (off a H')) ⟨_, _, _, _, n2, rfl, paK, by omega, sK⟩ (fun _ _ _ _ _ => trivial) ?_ ?_
      · rintro r xr σ' _ Hs hr6 ⟨y13, y14, y15, y16, n5, rfl, pas, hn5, sKs⟩ ⟨rfl, _⟩
        have oS : Same (off a Hs) Hs := off_same
        refine ⟨3, rfl, by decide, by decide, fun D2 hD2 => ?_⟩
        have hDa := pas.ne hD2
        have hGs : off a Hs G = some (.lst evs) := sKs _ _ EG
        have hGa : G ≠ a := fun z => by
          unfold off at hGs
          rw [if_pos z] at hGs
          cases hGs
        have hGD : G ≠ D2 := fun z => by
          have := oS _ _ hGs
          rw [z, hD2] at this
          cases this
        refine walk_gen (n := 3) walk_range (fun j H' => ∃ (out3 : List V) (n6 : Nat), H' D2 = some (.lst out3) ∧ out3.length = j ∧ (∀ v ∈ out3, v ∈ evs) ∧ PenAt H' a L n6 ∧ n6 ≤ n5 + j ∧ ∀ c o, c ≠ a → Hs c = some o → H' c = some o) ⟨[], n5, upd_same, rfl, fun _ h => (by cases h), pas.same (Same.new hD2), Nat.le_refl _, fun c o _ e => Same.new hD2 _ _ e⟩ (fun _ _ _ _ => trivial) ?_ ?_
        · rintro j xj _ Ht hj ⟨out3, n6, gD, gl, gm, gp, gn, gx⟩ ⟨rfl, _⟩
          have hGt := gx _ _ hGa (oS _ _ hGs)
          refine ⟨rfl, yes ⟨_, rfl, _, rfl, _, rfl, G, evs, rfl, .inl (.of hGt), ?_⟩⟩
          refine ⟨a, L, evs.length, n6, rfl, epos, by omega, by omega, gp, fun Hu d n7 sxu pau hnu hd => ?_⟩
          have hvd : evs[d]? = some evs[d] := List.getElem?_eq_getElem hd
          refine ⟨G, evs, _, _, rfl, rfl, .of (sxu _ _ hGa hGt), atI_nat hvd, ?_⟩
          refine ⟨out3, sxu _ _ hDa.1 gD, by rw [gl, sizeLine_eq]; omega, out3 ++ [evs[d]], n7, upd_same, by rw [List.length_append, gl]; rfl, fun v hv => ?_, pau.upd hDa.1 hDa.2, by omega, fun c o hc e => ?_⟩
          · rcases List.mem_append.mp hv with h | h
            · exact gm v h
            · rw [List.mem_singleton.mp h]
              exact List.getElem_mem hd
          · rw [upd_ne (fun z => by rw [z, hD2] at e; cases e)]
            exact sxu _ _ hc (gx _ _ hc e)
        · rintro Ht ⟨out3, n6, gD, gl, gm, gp, gn, gx⟩
          obtain ⟨v1, v2, v3, rfl⟩ : ∃ v1 v2 v3, out3 = [v1, v2, v3] := by
            match out3, gl with
            | [v1, v2, v3], _ => exact ⟨v1, v2, v3, rfl⟩
          have sKt : Same (off a H10) (off a Ht) := sKs.trans (off_mono fun c o hc e => gx c o hc e)
          have oT : Same (off a Ht) Ht := off_same
          have kb : ∀ v ∈ evs, ∃ (z : Addr) (ks : List Cpy), v = .ref z ∧ KB K Ht z pg rows nd laps ks := fun v hv => by
            obtain ⟨i', hi', ei'⟩ := List.mem_iff_getElem.mp hv
            obtain ⟨ks, hks, z, ez, hz⟩ := EA.get (show evs[i']? = some v by rw [List.getElem?_eq_getElem hi', ei'])
            exact ⟨z, ks, ez, (hz.same sKt).same oT⟩
          obtain ⟨w1, c1, rfl, k1⟩ := kb v1 (gm v1 (by simp))
          obtain ⟨w2, c2, rfl, k2⟩ := kb v2 (gm v2 (by simp))
          obtain ⟨w3, c3, rfl, k3⟩ := kb v3 (gm v3 (by simp))
          refine ⟨D2, _, rfl, .of gD, rfl, _, _, rfl, _, _, rfl, _, _, rfl, rfl, ?_⟩
          refine ⟨_, rfl, _, rfl, _, rfl, _, rfl, w1, w2, w3, BL, pg, rows, nd, laps, c1, c2, c3, outB, kss, rfl, Sn, Z, k1, k2, k3, oT _ _ (sKt _ _ BG), AG.mono fun v ks h => (h.same sKt).same oT, bk2, fun Hv sv => ⟨true, rfl, iteF ?_⟩⟩
          exact ⟨_, _, _, _, n6, rfl, gp.same sv, by omega, sKt.trans (off_mono (Pw.Same.x sv))⟩
      · rintro σ' Hs ⟨y13, y14, y15, y16, n5, rfl, pas, hn5, sKs⟩
        exact ⟨_, _, _, _, _, _, _, _, _, _, _, _, _, _, _, _, _, n5, rfl, pas, by omega⟩
end
end Pw
end
set_option maxRecDepth 100000
set_option maxHeartbeats 0
namespace Pw
open PySem PySem.Spec PyProof.Rows L2
theorem facts {P : Program} {w : World} {K : PySem.W.Frag} {h : Heap} {mg : Str → Option Value} {f : Addr} (X : K.In h) (G : h.Ns mainGlobals mg) (hfa : mg ("law" : Str) = some (.ref f)) (c : SaysM K) :
    ∃ fd : FuncData, (∀ (s : Shared) (v : Value), BindsTo s fd ⟨[v], []⟩ [("_law_script", v)]) ∧ ∀ base : Heap, K.In base → base.Ns mainGlobals mg → FnOk P w K mg base CX0 10 f fd ["_law_script"] (spLaw K) := by
  have T := tx_of X G c
  have e := hfa.symm.trans T.g_law
  cases e
  obtain ⟨fd, F⟩ := T.f_law
  have b := FunD.bindsA (ps := ["_law_script"]) F fun _ _ _ _ _ _ us hl => match us, hl with | [_], _ => rfl
  exact ⟨fd, fun s v => b s [v] rfl, fun base _ _ => ok_law' T F⟩
end Pw
open PySem PySem.W PySem.Calls PyProof.Rows
set_option maxRecDepth 100000 in
set_option maxHeartbeats 0 in
theorem PySem.Challenge.cw_passwidth_k61_whole_lattice_of_best_keep_holds : PySem.Challenge.rw_passwidth_k61_whole_lattice_of_best_keep.Holds := by
  w_on; o_law
  refine HandSHeadRun.head_any (r := OpenLaw.row PySem.Challenge.rw_passwidth_k61_whole_lattice_of_best_keep) (q := PwH.qv) (H := Pw.hk) (ob := Pw.ob) (M := 8000) (loose := PwH.nm) (d := HandSHeadRun.topDef (OpenLaw.row PySem.Challenge.rw_passwidth_k61_whole_lattice_of_best_keep).prog 78) (kwd := []) Pw.ob_eq
    (by kernel_rfl) (fun s => by kernel_rfl) PwH.run (by kernel_rfl) (by kernel_rfl) (by kernel_rfl) (by rfl) (by first | assumption | decide +kernel) (by decide +kernel) ⟨rfl, rfl, rfl, rfl, rfl, by decide +kernel⟩ ?hw ?hc
  case hw => w_witness2
  case hc =>
    refine L2.walk_ofE (l := PySem.Challenge.rw_passwidth_k61_whole_lattice_of_best_keep) (n := 63) (k := 10) (x := "_law_script") (CX := L2.CX0) rfl (by decide) (by kernel_rfl) ⟨rfl, by decide, by decide⟩ ?F (fun _ _ _ _ z => z)
    intro w mg fa h Y G hmg0
    obtain ⟨K, KX, c⟩ := Y
    have hmg : mg ("law" : PySem.Str) = some (.ref fa) := by
      have e : (HandSHeadRun.topDef (OpenLaw.row PySem.Challenge.rw_passwidth_k61_whole_lattice_of_best_keep).prog 78).name = ("law" : PySem.Str) := by kernel_rfl
      rw [← e]
      exact hmg0
    obtain ⟨fd, hb, hF⟩ := Pw.facts (P := (PySem.Challenge.rw_passwidth_k61_whole_lattice_of_best_keep).prog) (w := w) KX G hmg c
    exact ⟨K, fd, Pw.spLaw K, KX, hb, fun H a ns hl _ hS => ⟨a, ns, rfl, hS, hl, fun _ => rfl⟩, hF⟩
