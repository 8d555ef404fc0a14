import PyProof.Rows.All
import Wide.All
import OpenK.AllK
import Wide.FinOn
import KE.KStateDown
import Lean
import HandS.Words
import HandS.Property
import HandS.Defaults
import HandS.Head0
import HandS.Head1
import HandS.Head2
import HandS.Head3
import HandS.HeadHook1
import HandS.HeadHook2
import HandS.ForMost
import HandS.Walk
import HandS.Wide
import HandS.Gcd
import HandS.IsInst
import HandS.FStr
import HandS.OwnEq
import HandS.Conv
import HandS.Flow
import KE.KOpsOwn
import KE.KMathG
import PyProof.ReprNest
import HandS.Ends
import HandS.HeadEnd
import PySem.Challenge.RW_tracewords_k34_whole_noughts_and_images
set_option Elab.async false
set_option linter.all false
set_option maxRecDepth 100000
/-! Tp: the text's places. -/
namespace TW
open PySem L2
def top (i : Nat) : Stmt := PySem.Challenge.pw_tracewords_k34_whole_noughts_and_images.main.body.getD i (.Pass ⟨0, 0, 0, 0⟩)
end TW
set_option Elab.async false
set_option linter.all false
set_option maxRecDepth 100000
set_option maxHeartbeats 0
/-! Hd1: what the head tells, by names. -/
namespace TW
open PySem L2
/-! ### a property's getter -/
def pAd (K : PySem.W.Frag) (x : Str) : Addr := match PySem.W.findIn K (.ref (He.ga K "Ratio")) x with
  | some (some (.ref p)) => p
  | _ => 0
def gAd (K : PySem.W.Frag) (x : Str) : Addr := match PySem.W.recIn K (pAd K x) "property" with
  | some (.ref g :: _) => g
  | _ => 0
def fdOf (K : PySem.W.Frag) (a : Addr) : Option FuncData := (K.lookup a).bind fun o => match o.data with
  | .func d => some d
  | _ => none
def seenF (K : PySem.W.Frag) (a : Addr) : He.FnW := (fdOf K a).map fun d => (d.name, d.qualname, d.params, d.body, d.scope, d.globals, d.closure, d.builtins)
def okF (K : PySem.W.Frag) (a : Addr) (q : Str) : Bool := PySem.W.keepIn K (.ref a) && (match fdOf K a with
  | some d => PySem.W.codeIn K d.code q && (He.dflB K d.defaults [] && He.kwdB K d.kwdefaults [])
  | none => false)
def propOk (K : PySem.W.Frag) (x q : Str) : Bool := okF K (gAd K x) q && (He.eqO (PySem.W.findIn K (.ref (He.ga K "Ratio")) x) (some (some (.ref (pAd K x)))) && (He.eqO (PySem.W.specialIn K (.ref (pAd K x)) "__get__") (some (some (.builtin "property.__get__"))) &&
  (decide (PySem.W.takesIn K (.ref (pAd K x)) = some true) && (match PySem.W.recIn K (pAd K x) "property" with
    | some (.ref g :: _) => decide (g = gAd K x)
    | _ => false))))
/-- facts of the two classes -/
def xtra (K : PySem.W.Frag) : List Bool :=
  [He.eqO (PySem.W.findIn K (.ref (He.ga K "Ratio")) "__class__") (some (some (.builtin "object.__class__"))),
   He.eqO (PySem.W.findIn K (.ref (He.ga K "House")) "__class__") (some (some (.builtin "object.__class__"))),
   He.eqO (PySem.W.specialIn K (.builtin "object.__class__") "__get__") (some (some (.builtin "getset_descriptor.__get__"))),
   decide (PySem.W.takesIn K (.builtin "object.__class__") = some true),
   decide (PySem.W.mroIn K (He.ga K "Ratio") (.type "object") = some true),
   decide (PySem.W.mroIn K (He.ga K "House") (.type "object") = some true),
   decide (PySem.W.kitOne K (.ref (He.ga K "Ratio")) (.type "int") = some false),
   decide (PySem.W.kitOne K (.type "int") (.ref (He.ga K "Ratio")) = some false),
   decide (PySem.W.kitOne K (.ref (He.ga K "Ratio")) (.ref (He.ga K "Ratio")) = some true),
   decide (PySem.W.kitOne K (.ref (He.ga K "House")) (.ref (He.ga K "House")) = some true),
   PySem.W.selfFirst K (He.ga K "Ratio"),
   He.eqO (PySem.W.nsIn K mainGlobals "gcd") (some (some (.builtin "math.gcd"))),
   He.eqO (PySem.W.nsIn K mainGlobals "lcm") (some (some (.builtin "math.lcm"))),
   propOk K "top" "Ratio.top",
   propOk K "sign" "Ratio.sign"]
theorem funF {K : PySem.W.Frag} {a : Addr} {x q : Str} {st : Stmt} (e : seenF K a = some (x, q, defArgs st, .stmts (defBody st), defScope st, mainGlobals, [], builtinsNs)) (c : okF K a q = true) : ∃ fd, FunD K x q (defArgs st) (defBody st) (defScope st) [] [] a fd := by
  obtain ⟨kp, c2⟩ := He.ba c
  unfold seenF at e
  cases z : fdOf K a with
  | none => rw [z] at c2; cases c2
  | some d =>
    rw [z] at c2 e
    have lk : ∃ o, K.lookup a = some o ∧ o.data = .func d := by
      unfold fdOf at z
      obtain ⟨o, h1, h2⟩ := Option.bind_eq_some_iff.mp z
      refine ⟨o, h1, ?_⟩
      cases h : o.data with
      | func d' => rw [h] at h2; cases h2; rfl
      | _ => rw [h] at h2; cases h2
    obtain ⟨o, lk, ed⟩ := lk
    obtain ⟨oc, od, dt, osl⟩ := o
    have ed : dt = .func d := ed
    subst ed
    obtain ⟨n1, n2, n3, n4, n5, n6, n7, n8, n9, n10, n11, n12, n13, n14, n15⟩ := d
    have e2 : (some (n1, n2, n3, n4, n5, n6, n7, n15) : He.FnW) = some (x, q, defArgs st, .stmts (defBody st), defScope st, mainGlobals, [], builtinsNs) := e
    simp only [Option.some.injEq, Prod.mk.injEq] at e2
    obtain ⟨h1, h2, h3, h4, h5, h6, h7, h8⟩ := e2
    subst h1 h2 h3 h4 h5 h6 h7 h8
    have c3 : (PySem.W.codeIn K n13 n2 && (He.dflB K n8 [] && He.kwdB K n9 [])) = true := c2
    obtain ⟨k1, k2⟩ := He.ba c3
    obtain ⟨k3, k4⟩ := He.ba k2
    exact ⟨_, ⟨oc, od, n8, n9, n10, n11, n12, n13, n14, osl, rfl, lk, k1, He.dflB_ok k3, He.kwdB_ok k4⟩, kp⟩
theorem propOf {K : PySem.W.Frag} {x q : Str} {st : Stmt} (e : seenF K (gAd K x) = some (x, q, defArgs st, .stmts (defBody st), defScope st, mainGlobals, [], builtinsNs)) (c : propOk K x q = true) : ∃ fd, FunD K x q (defArgs st) (defBody st) (defScope st) [] [] (gAd K x) fd ∧ PropOf K (He.ga K "Ratio") x (pAd K x) (gAd K x) := by
  obtain ⟨c0, c⟩ := He.ba c
  obtain ⟨c1, c⟩ := He.ba c
  obtain ⟨c2, c⟩ := He.ba c
  obtain ⟨c3, c4⟩ := He.ba c
  obtain ⟨fd, F⟩ := funF e c0
  refine ⟨fd, F, He.eqO_ok c1, He.eqO_ok c2, of_decide_eq_true c3, ?_⟩
  split at c4
  · rename_i g rest h
    have := of_decide_eq_true c4
    subst this
    exact ⟨rest, h⟩
  · cases c4
/-! ### the defs -/
def fn0 : List He.DefD := [
  ⟨("is_integer", none), "is_integer", "is_integer", defArgs (top 14), defBody (top 14), defScope (top 14), [], []⟩,
  ⟨("is_list", none), "is_list", "is_list", defArgs (top 16), defBody (top 16), defScope (top 16), [], []⟩,
  ⟨("divisor_of", none), "divisor_of", "divisor_of", defArgs (top 20), defBody (top 20), defScope (top 20), [], []⟩,
  ⟨("told_pair", none), "told_pair", "told_pair", defArgs (top 22), defBody (top 22), defScope (top 22), [], []⟩,
  ⟨("is_number", none), "is_number", "is_number", defArgs (top 23), defBody (top 23), defScope (top 23), [], []⟩,
  ⟨("ratio_of", none), "ratio_of", "ratio_of", defArgs (top 24), defBody (top 24), defScope (top 24), [], []⟩,
  ⟨("wholes", none), "wholes", "wholes", defArgs (top 25), defBody (top 25), defScope (top 25), [], []⟩,
  ⟨("ints_of", none), "ints_of", "ints_of", defArgs (top 27), defBody (top 27), defScope (top 27), [], []⟩,
  ⟨("bare_row", none), "bare_row", "bare_row", defArgs (top 28), defBody (top 28), defScope (top 28), [], []⟩,
  ⟨("cleared", none), "cleared", "cleared", defArgs (top 29), defBody (top 29), defScope (top 29), [], []⟩,
  ⟨("first_at", none), "first_at", "first_at", defArgs (top 30), defBody (top 30), defScope (top 30), [], []⟩,
  ⟨("headed_row", none), "headed_row", "headed_row", defArgs (top 31), defBody (top 31), defScope (top 31), [], []⟩,
  ⟨("int_steps", none), "int_steps", "int_steps", defArgs (top 32), defBody (top 32), defScope (top 32), [], []⟩]
def fn1 : List He.DefD := [
  ⟨("head_of", none), "head_of", "head_of", defArgs (top 33), defBody (top 33), defScope (top 33), [], []⟩,
  ⟨("told_rows", none), "told_rows", "told_rows", defArgs (top 34), defBody (top 34), defScope (top 34), [], []⟩,
  ⟨("steps_of", none), "steps_of", "steps_of", defArgs (top 35), defBody (top 35), defScope (top 35), [], []⟩,
  ⟨("kernel_of", none), "kernel_of", "kernel_of", defArgs (top 36), defBody (top 36), defScope (top 36), [], []⟩,
  ⟨("are_numbers", none), "are_numbers", "are_numbers", defArgs (top 37), defBody (top 37), defScope (top 37), [], []⟩,
  ⟨("table_in", none), "table_in", "table_in", defArgs (top 40), defBody (top 40), defScope (top 40), [], []⟩,
  ⟨("want_sized", none), "want_sized", "want_sized", defArgs (top 41), defBody (top 41), defScope (top 41), [], []⟩,
  ⟨("bare_table", none), "bare_table", "bare_table", defArgs (top 42), defBody (top 42), defScope (top 42), [], []⟩,
  ⟨("int_product", none), "int_product", "int_product", defArgs (top 43), defBody (top 43), defScope (top 43), [], []⟩,
  ⟨("over_bottom", none), "over_bottom", "over_bottom", defArgs (top 44), defBody (top 44), defScope (top 44), [], []⟩,
  ⟨("product_of", none), "product_of", "product_of", defArgs (top 46), defBody (top 46), defScope (top 46), [], []⟩,
  ⟨("about_of", none), "about_of", "about_of", defArgs (top 47), defBody (top 47), defScope (top 47), [], []⟩,
  ⟨("led_by", none), "led_by", "led_by", defArgs (top 48), defBody (top 48), defScope (top 48), [], []⟩]
def fn2 : List He.DefD := [
  ⟨("letters_in", none), "letters_in", "letters_in", defArgs (top 52), defBody (top 52), defScope (top 52), [], []⟩,
  ⟨("want_house", none), "want_house", "want_house", defArgs (top 54), defBody (top 54), defScope (top 54), [], []⟩,
  ⟨("heads_of", none), "heads_of", "heads_of", defArgs (top 60), defBody (top 60), defScope (top 60), [], []⟩,
  ⟨("numbers_in", none), "numbers_in", "numbers_in", defArgs (top 61), defBody (top 61), defScope (top 61), [], []⟩,
  ⟨("less_room", none), "less_room", "less_room", defArgs (top 62), defBody (top 62), defScope (top 62), [], []⟩,
  ⟨("held", none), "held", "held", defArgs (top 63), defBody (top 63), defScope (top 63), [], []⟩,
  ⟨("first_out", none), "first_out", "first_out", defArgs (top 64), defBody (top 64), defScope (top 64), [], []⟩,
  ⟨("is_kept", none), "is_kept", "is_kept", defArgs (top 65), defBody (top 65), defScope (top 65), [], []⟩,
  ⟨("commutes", none), "commutes", "commutes", defArgs (top 66), defBody (top 66), defScope (top 66), [], []⟩,
  ⟨("rows_in", none), "rows_in", "rows_in", defArgs (top 67), defBody (top 67), defScope (top 67), [], []⟩,
  ⟨("room_in", none), "room_in", "room_in", defArgs (top 68), defBody (top 68), defScope (top 68), [], []⟩,
  ⟨("want_kept", none), "want_kept", "want_kept", defArgs (top 69), defBody (top 69), defScope (top 69), [], []⟩,
  ⟨("want_commuting", none), "want_commuting", "want_commuting", defArgs (top 70), defBody (top 70), defScope (top 70), [], []⟩]
def fn3 : List He.DefD := [
  ⟨("is_room", none), "is_room", "is_room", defArgs (top 71), defBody (top 71), defScope (top 71), [], []⟩,
  ⟨("sum_room", none), "sum_room", "sum_room", defArgs (top 72), defBody (top 72), defScope (top 72), [], []⟩,
  ⟨("meet_room", none), "meet_room", "meet_room", defArgs (top 73), defBody (top 73), defScope (top 73), [], []⟩,
  ⟨("noughts", none), "noughts", "noughts", defArgs (top 74), defBody (top 74), defScope (top 74), [], []⟩,
  ⟨("images", none), "images", "images", defArgs (top 75), defBody (top 75), defScope (top 75), [], []⟩,
  ⟨("_law_draw", none), "_law_draw", "_law_draw", defArgs (top 78), defBody (top 78), defScope (top 78), [], []⟩,
  ⟨("_law_pick", none), "_law_pick", "_law_pick", defArgs (top 79), defBody (top 79), defScope (top 79), [], []⟩,
  ⟨("_law_number", none), "_law_number", "_law_number", defArgs (top 90), defBody (top 90), defScope (top 90), [], []⟩,
  ⟨("_law_gcd", none), "_law_gcd", "_law_gcd", defArgs (top 80), defBody (top 80), defScope (top 80), [], []⟩,
  ⟨("_law_bare", none), "_law_bare", "_law_bare", defArgs (top 81), defBody (top 81), defScope (top 81), [], []⟩,
  ⟨("_law_cleared", none), "_law_cleared", "_law_cleared", defArgs (top 82), defBody (top 82), defScope (top 82), [], []⟩,
  ⟨("_law_head", none), "_law_head", "_law_head", defArgs (top 84), defBody (top 84), defScope (top 84), [], []⟩,
  ⟨("_law_told", none), "_law_told", "_law_told", defArgs (top 85), defBody (top 85), defScope (top 85), [], []⟩]
def fn4 : List He.DefD := [
  ⟨("_law_steps", none), "_law_steps", "_law_steps", defArgs (top 83), defBody (top 83), defScope (top 83), [], []⟩,
  ⟨("_law_dot", none), "_law_dot", "_law_dot", defArgs (top 86), defBody (top 86), defScope (top 86), [], []⟩,
  ⟨("_law_led", none), "_law_led", "_law_led", defArgs (top 87), defBody (top 87), defScope (top 87), [], []⟩,
  ⟨("_law_times", none), "_law_times", "_law_times", defArgs (top 88), defBody (top 88), defScope (top 88), [], []⟩,
  ⟨("_law_units", none), "_law_units", "_law_units", defArgs (top 89), defBody (top 89), defScope (top 89), [], []⟩,
  ⟨("_law_letter", none), "_law_letter", "_law_letter", defArgs (top 92), defBody (top 92), defScope (top 92), [], []⟩,
  ⟨("_law_as", none), "_law_as", "_law_as", defArgs (top 93), defBody (top 93), defScope (top 93), [], []⟩,
  ⟨("_law_given", none), "_law_given", "_law_given", defArgs (top 94), defBody (top 94), defScope (top 94), [], []⟩,
  ⟨("_law_house", none), "_law_house", "_law_house", defArgs (top 95), defBody (top 95), defScope (top 95), [], []⟩,
  ⟨("_law_noughts", none), "_law_noughts", "_law_noughts", defArgs (top 96), defBody (top 96), defScope (top 96), [], []⟩,
  ⟨("_law_twice", none), "_law_twice", "_law_twice", defArgs (top 97), defBody (top 97), defScope (top 97), [], []⟩,
  ⟨("_law_sum", none), "_law_sum", "_law_sum", defArgs (top 98), defBody (top 98), defScope (top 98), [], []⟩,
  ⟨("_law_commuting", none), "_law_commuting", "_law_commuting", defArgs (top 99), defBody (top 99), defScope (top 99), [], []⟩]
def fn5 : List He.DefD := [
  ⟨("_law_turned", none), "_law_turned", "_law_turned", defArgs (top 91), defBody (top 91), defScope (top 91), [], []⟩,
  ⟨("digits_of", none), "digits_of", "digits_of", defArgs (top 19), defBody (top 19), defScope (top 19), [], []⟩,
  ⟨("_law_right", none), "_law_right", "_law_right", defArgs (top 100), defBody (top 100), defScope (top 100), [], []⟩,
  ⟨("_law_pot", none), "_law_pot", "_law_pot", defArgs (top 77), defBody (top 77), defScope (top 77), [], []⟩,
  ⟨("law", none), "law", "law", defArgs (top 101), defBody (top 101), defScope (top 101), [], []⟩,
  ⟨("Ratio", some "__init__"), "__init__", "Ratio.__init__", defArgs (inClass (top 21) 0), defBody (inClass (top 21) 0), defScope (inClass (top 21) 0), [.int 1], []⟩,
  ⟨("Ratio", some "__sub__"), "__sub__", "Ratio.__sub__", defArgs (inClass (top 21) 8), defBody (inClass (top 21) 8), defScope (inClass (top 21) 8), [], []⟩,
  ⟨("Ratio", some "__mul__"), "__mul__", "Ratio.__mul__", defArgs (inClass (top 21) 10), defBody (inClass (top 21) 10), defScope (inClass (top 21) 10), [], []⟩,
  ⟨("Ratio", some "__neg__"), "__neg__", "Ratio.__neg__", defArgs (inClass (top 21) 12), defBody (inClass (top 21) 12), defScope (inClass (top 21) 12), [], []⟩,
  ⟨("Ratio", some "__eq__"), "__eq__", "Ratio.__eq__", defArgs (inClass (top 21) 17), defBody (inClass (top 21) 17), defScope (inClass (top 21) 17), [], []⟩,
  ⟨("Ratio", some "__repr__"), "__repr__", "Ratio.__repr__", defArgs (inClass (top 21) 19), defBody (inClass (top 21) 19), defScope (inClass (top 21) 19), [], []⟩,
  ⟨("House", some "__init__"), "__init__", "House.__init__", defArgs (inClass (top 53) 0), defBody (inClass (top 53) 0), defScope (inClass (top 53) 0), [], []⟩,
  ⟨("House", some "__repr__"), "__repr__", "House.__repr__", defArgs (inClass (top 53) 7), defBody (inClass (top 53) 7), defScope (inClass (top 53) 7), [], []⟩]
def fn : List He.DefD := fn0 ++ (fn1 ++ (fn2 ++ (fn3 ++ (fn4 ++ (fn5)))))
def fa0 : List He.Fa := [.glo "is_integer", .glo "is_list", .glo "divisor_of", .glo "told_pair", .glo "is_number", .glo "ratio_of", .glo "wholes", .glo "ints_of", .glo "bare_row", .glo "cleared", .glo "first_at", .glo "headed_row", .glo "int_steps"]
def fa1 : List He.Fa := [.glo "head_of", .glo "told_rows", .glo "steps_of", .glo "kernel_of", .glo "are_numbers", .glo "table_in", .glo "want_sized", .glo "bare_table", .glo "int_product", .glo "over_bottom", .glo "product_of", .glo "about_of", .glo "led_by"]
def fa2 : List He.Fa := [.glo "letters_in", .glo "want_house", .glo "heads_of", .glo "numbers_in", .glo "less_room", .glo "held", .glo "first_out", .glo "is_kept", .glo "commutes", .glo "rows_in", .glo "room_in", .glo "want_kept", .glo "want_commuting"]
def fa3 : List He.Fa := [.glo "is_room", .glo "sum_room", .glo "meet_room", .glo "noughts", .glo "images", .glo "_law_draw", .glo "_law_pick", .glo "_law_number", .glo "_law_gcd", .glo "_law_bare", .glo "_law_cleared", .glo "_law_head", .glo "_law_told"]
def fa4 : List He.Fa := [.glo "_law_steps", .glo "_law_dot", .glo "_law_led", .glo "_law_times", .glo "_law_units", .glo "_law_letter", .glo "_law_as", .glo "_law_given", .glo "_law_house", .glo "_law_noughts", .glo "_law_twice", .glo "_law_sum", .glo "_law_commuting"]
def fa5 : List He.Fa := [.glo "_law_turned", .glo "digits_of", .glo "_law_right", .glo "_law_pot", .glo "law", .glo "Ratio", .glo "House", .free "isinstance", .free "int", .free "bool", .free "list", .free "tuple", .free "str"]
def fa6 : List He.Fa := [.free "len", .free "sum", .free "all", .free "any", .free "abs", .free "max", .free "zip", .free "enumerate", .free "range", .free "divmod", .free "repr", .int "PART" (10 ^ 60), .int "MOST_SIZE" 4]
def fa7 : List He.Fa := [.int "MOST_LETTERS" 3, .int "MOST_ROWS" 40, .cls "Ratio", .cls "House", .noat "Ratio" "own_top", .noat "Ratio" "own_bottom", .noat "House" "own_letters", .noat "House" "own_width", .meth "Ratio" "__sub__", .meth "Ratio" "__mul__", .meth "Ratio" "__neg__", .meth "Ratio" "__eq__", .meth "Ratio" "__repr__"]
def fa8 : List He.Fa := [.meth "House" "__repr__", .mkr "Ratio", .mkr "House", .keep "Ratio", .keep "House"]
def fa : List He.Fa := fa0 ++ (fa1 ++ (fa2 ++ (fa3 ++ (fa4 ++ (fa5 ++ (fa6 ++ (fa7 ++ (fa8))))))))
/-! ### the Hook -/
def nextA (g : Addr → Option Obj) (as : List Addr) : List Addr := as.flatMap fun a => match g a with
  | some o => He.refsD o
  | none => []
def forceL {α : Type} : List Addr → (List Addr → α) → α
  | [], k => k []
  | a :: l, k => HandSHeadRun.frNat a fun a => forceL l fun l => k (a :: l)
theorem forceL_eq {α : Type} : ∀ (l : List Addr) (k : List Addr → α), forceL l k = k l
  | [], _ => rfl
  | a :: l, k => by unfold forceL; rw [HandSHeadRun.frNat_eq, forceL_eq l]
def asT (g : Addr → Option Obj) : List Addr :=
  let f0 := [mainGlobals]
  let f1 := nextA g f0
  let f2 := nextA g f1
  let f3 := nextA g f2
  let f4 := nextA g f3
  let f5 := nextA g f4
  f0 ++ (f1 ++ (f2 ++ (f3 ++ (f4 ++ f5))))
def withA {α : Type} (g : Addr → Option Obj) (k : List Addr → α) : α :=
  forceL (nextA g [mainGlobals]) fun f1 => forceL (nextA g f1) fun f2 => forceL (nextA g f2) fun f3 => forceL (nextA g f3) fun f4 => forceL (nextA g f4) fun f5 => forceL ([mainGlobals] ++ (f1 ++ (f2 ++ (f3 ++ (f4 ++ f5))))) k
theorem withA_eq {α : Type} (g : Addr → Option Obj) (k : List Addr → α) : withA g k = k (asT g) := by
  unfold withA
  rw [forceL_eq, forceL_eq, forceL_eq, forceL_eq, forceL_eq, forceL_eq]
  rfl
def withK {α : Type} (g : Addr → Option Obj) : List Addr → (PySem.W.Frag → α) → α
  | [], k => k []
  | a :: l, k => match g a with
    | some ⟨c, d, dt, sl⟩ => withK g l fun r => k ((a, ⟨c, d, dt, sl⟩) :: r)
    | none => withK g l k
theorem withK_eq {α : Type} (g : Addr → Option Obj) : ∀ (l : List Addr) (k : PySem.W.Frag → α), withK g l k = k (He.frG g l)
  | [], _ => rfl
  | a :: l, k => by
    unfold withK He.frG
    rw [List.filterMap_cons]
    cases g a with
    | none => exact withK_eq g l k
    | some o => exact withK_eq g l _
abbrev AlT : Type := He.AlD × (List Bool × List He.FnW)
def obsT (K : PySem.W.Frag) : AlT := (He.obsD fa fn K, (xtra K, [seenF K (gAd K "top"), seenF K (gAd K "sign")]))
def propV (x q : Str) (st : Stmt) : He.FnW := some (x, q, defArgs st, .stmts (defBody st), defScope st, mainGlobals, [], builtinsNs)
def valT : AlT := (He.valD fn, ([true, true, true, true, true, true, true, true, true, true, true, true, true, true, true], [propV "top" "Ratio.top" (inClass (top 21) 1), propV "sign" "Ratio.sign" (inClass (top 21) 3)]))
def hookT : PySem.W.Hook where
  α := AlT
  obs := fun s => obsT (He.frG s.heap.get? (asT s.heap.get?))
  val := fun _ => valT
  says := fun _ h => ∃ K : PySem.W.Frag, K.In h ∧ obsT K = valT
  of := fun _ _ e => ⟨_, He.frG_in, e⟩
  keeps := fun _ _ _ ⟨K, hK, c⟩ k => ⟨K, PySem.W.Frag.In.keeps hK k, c⟩
def obT (s : PySem.W.SharedT) : AlT := withA (HandSHeadRun.getT s) fun as => withK (HandSHeadRun.getT s) as obsT
theorem obT_eq (s : PySem.W.SharedT) : obT s = hookT.obs s.abs := by
  have e : HandSHeadRun.getT s = s.abs.heap.get? := funext (HandSHeadRun.getT_eq s)
  unfold obT
  rw [withA_eq, withK_eq, e]
  rfl
end TW
set_option Elab.async false
set_option linter.all false
set_option maxRecDepth 100000
set_option maxHeartbeats 0
/-! Hd2: the run of boot, import and top, twice: what the library looks at, and the facts. -/
namespace TW
open PySem PySem.W PySem.Calls PyProof.Rows
abbrev R0 : OpenRow := OpenLaw.row PySem.Challenge.rw_tracewords_k34_whole_noughts_and_images
abbrev qv : Program := view R0.prog [0, 101]
def names0 : List PySem.Str := ["gcd", "lcm", "_wall", "__name__", "TableError", "StateError", "InvalidHouse", "InvalidNumber", "InvalidRoom", "InvalidTable", "InvalidWord", "DividedByZero"]
def names1 : List PySem.Str := ["InvalidLetters", "NotCommuting", "is_integer", "is_count", "is_list", "PART", "digits_of", "divisor_of", "Ratio", "told_pair", "is_number", "ratio_of"]
def names2 : List PySem.Str := ["wholes", "ints_of", "bare_row", "cleared", "first_at", "headed_row", "int_steps", "head_of", "told_rows", "steps_of", "kernel_of", "are_numbers"]
def names3 : List PySem.Str := ["MOST_SIZE", "table_in", "want_sized", "bare_table", "int_product", "over_bottom", "idle_of", "product_of", "about_of", "led_by", "MOST_LETTERS", "MOST_WORD"]
def names4 : List PySem.Str := ["letters_in", "House", "want_house", "word_in", "want_word", "word_table", "MOST_ROWS", "heads_of", "numbers_in", "less_room", "held", "first_out"]
def names5 : List PySem.Str := ["is_kept", "commutes", "rows_in", "room_in", "want_kept", "want_commuting", "is_room", "sum_room", "meet_room", "noughts", "images", "_law_pot"]
def names6 : List PySem.Str := ["_law_draw", "_law_pick", "_law_gcd", "_law_bare", "_law_cleared", "_law_steps", "_law_head", "_law_told", "_law_dot", "_law_led", "_law_times", "_law_units"]
def names7 : List PySem.Str := ["_law_number", "_law_turned", "_law_letter", "_law_as", "_law_given", "_law_house", "_law_noughts", "_law_twice", "_law_sum", "_law_commuting", "_law_right"]
def names : List PySem.Str := names0 ++ names1 ++ names2 ++ names3 ++ names4 ++ names5 ++ names6 ++ names7
theorem run1 (w : World) : HandSHeadRun.RunEqI R0 qv Hook.none (fun _ => ()) 8000 names w := by
  unfold HandSHeadRun.RunEqI
  kernel_rfl
theorem run2 (w : World) : (HandSHeadRun.wholeF (fun p => HandSHeadRun.stepQ (HandSHeadRun.denQ HandSHeadRun.tabQ) p w) HandSHeadRun.fenceQ 8000 R0.prog).map (fun x => obT x.2) = some valT := by
  kernel_rfl
theorem run0 (w : World) : HandSHeadRun.RunEqI R0 qv hookT obT 8000 names w := by
  have h1 := run1 w
  have h2 := run2 w
  unfold HandSHeadRun.RunEqI at h1 ⊢
  generalize HandSHeadRun.wholeF (fun p => HandSHeadRun.stepQ (HandSHeadRun.denQ HandSHeadRun.tabQ) p w) HandSHeadRun.fenceQ 8000 R0.prog = z at h1 h2 ⊢
  cases z with
  | none => cases h1
  | some x =>
    have e1 := Option.some.inj h1
    have e2 : obT x.2 = valT := Option.some.inj h2
    have a := congrArg (fun z => z.1) e1
    have b := congrArg (fun z => z.2.1) e1
    exact congrArg some (Prod.ext a (Prod.ext b e2))
end TW
set_option Elab.async false
set_option linter.all false
set_option maxRecDepth 100000
set_option maxHeartbeats 4000000
/-! Fw1: values as data (T), how they lie in a heap (Rep), the frozen part B of a heap H, steps. -/
namespace TW
open PySem L2

inductive T where
  | non
  | bl (b : Bool)
  | int (i : Int)
  | str (s : Str)
  | rat (q : Rat)
  | lst (xs : List T)
  | tup (xs : List T)
  | house (ls : T) (w : Int)
  | pot
  | new (t : T)
  | at (a : Addr) (t : T)

/-- the classes of Ratio and House, the pot's place -/
structure Pm where
  CR : Addr
  CH : Addr
  p0 : Option Addr
  h0 : Hp

def rF (q : Rat) : List (Str × V) := [("own_top", .int q.num), ("own_bottom", .int (q.den : Int))]
def hF (l : V) (w : Int) : List (Str × V) := [("own_letters", l), ("own_width", .int w)]

mutual
def Rep (m : Pm) : T → V → Hp → Prop
  | .non, v, _ => v = .non
  | .bl b, v, _ => v = .bl b
  | .int i, v, _ => v = .int i
  | .str s, v, _ => v = .str s
  | .rat q, v, H => ∃ a dx, v = .ref a ∧ H a = some (.ins m.CR dx (rF q))
  | .lst xs, v, H => ∃ a vs, v = .ref a ∧ H a = some (.lst vs) ∧ RepL m xs vs H
  | .tup xs, v, H => ∃ a vs, v = .ref a ∧ H a = some (.tup vs) ∧ RepL m xs vs H
  | .house ls w, v, H => ∃ a dx l, v = .ref a ∧ H a = some (.ins m.CH dx (hF l w)) ∧ Rep m ls l H
  | .pot, v, _ => ∃ p, m.p0 = some p ∧ v = .ref p
  | .new t, v, H => Rep m t v H ∧ ∃ a, v = .ref a ∧ m.h0 a = none
  | .at a t, v, H => v = .ref a ∧ Rep m t v H
def RepL (m : Pm) : List T → List V → Hp → Prop
  | [], [], _ => True
  | t :: ts, v :: vs, H => Rep m t v H ∧ RepL m ts vs H
  | [], _ :: _, _ => False
  | _ :: _, [], _ => False
end

mutual
theorem Rep.mono {m : Pm} {H H' : Hp} (e : Same H H') : ∀ {t : T} {v : V}, Rep m t v H → Rep m t v H'
  | .non, _, h => by simp only [Rep] at h ⊢; exact h
  | .bl _, _, h => by simp only [Rep] at h ⊢; exact h
  | .int _, _, h => by simp only [Rep] at h ⊢; exact h
  | .str _, _, h => by simp only [Rep] at h ⊢; exact h
  | .rat _, _, h => by simp only [Rep] at h ⊢; obtain ⟨a, dx, h1, h2⟩ := h; exact ⟨a, dx, h1, e _ _ h2⟩
  | .lst xs, _, h => by simp only [Rep] at h ⊢; obtain ⟨a, vs, h1, h2, h3⟩ := h; exact ⟨a, vs, h1, e _ _ h2, RepL.mono e h3⟩
  | .tup xs, _, h => by simp only [Rep] at h ⊢; obtain ⟨a, vs, h1, h2, h3⟩ := h; exact ⟨a, vs, h1, e _ _ h2, RepL.mono e h3⟩
  | .house ls w, _, h => by simp only [Rep] at h ⊢; obtain ⟨a, dx, l, h1, h2, h3⟩ := h; exact ⟨a, dx, l, h1, e _ _ h2, Rep.mono e h3⟩
  | .pot, _, h => by simp only [Rep] at h ⊢; exact h
  | .new t, _, h => by simp only [Rep] at h ⊢; exact ⟨Rep.mono e h.1, h.2⟩
  | .at a t, _, h => by simp only [Rep] at h ⊢; exact ⟨h.1, Rep.mono e h.2⟩
theorem RepL.mono {m : Pm} {H H' : Hp} (e : Same H H') : ∀ {ts : List T} {vs : List V}, RepL m ts vs H → RepL m ts vs H'
  | [], [], _ => by simp only [RepL]
  | t :: ts, v :: vs, h => by simp only [RepL] at h ⊢; exact ⟨Rep.mono e h.1, RepL.mono e h.2⟩
  | [], _ :: _, h => by simp only [RepL] at h
  | _ :: _, [], h => by simp only [RepL] at h
end

section
variable {m : Pm} {H : Hp}
theorem rep_non {v : V} : Rep m .non v H ↔ v = .non := by simp only [Rep]
theorem rep_bl {b : Bool} {v : V} : Rep m (.bl b) v H ↔ v = .bl b := by simp only [Rep]
theorem rep_int {i : Int} {v : V} : Rep m (.int i) v H ↔ v = .int i := by simp only [Rep]
theorem rep_str {s : Str} {v : V} : Rep m (.str s) v H ↔ v = .str s := by simp only [Rep]
theorem rep_rat {q : Rat} {v : V} : Rep m (.rat q) v H ↔ ∃ a dx, v = .ref a ∧ H a = some (.ins m.CR dx (rF q)) := by simp only [Rep]
theorem rep_lst {xs : List T} {v : V} : Rep m (.lst xs) v H ↔ ∃ a vs, v = .ref a ∧ H a = some (.lst vs) ∧ RepL m xs vs H := by simp only [Rep]
theorem rep_tup {xs : List T} {v : V} : Rep m (.tup xs) v H ↔ ∃ a vs, v = .ref a ∧ H a = some (.tup vs) ∧ RepL m xs vs H := by simp only [Rep]
theorem rep_house {ls : T} {w : Int} {v : V} : Rep m (.house ls w) v H ↔ ∃ a dx l, v = .ref a ∧ H a = some (.ins m.CH dx (hF l w)) ∧ Rep m ls l H := by simp only [Rep]
theorem rep_pot {v : V} : Rep m .pot v H ↔ ∃ p, m.p0 = some p ∧ v = .ref p := by simp only [Rep]
theorem rep_new {t : T} {v : V} : Rep m (.new t) v H ↔ Rep m t v H ∧ ∃ a, v = .ref a ∧ m.h0 a = none := by simp only [Rep]
theorem rep_at {t : T} {a : Addr} {v : V} : Rep m (.at a t) v H ↔ v = .ref a ∧ Rep m t v H := by simp only [Rep]
theorem repL_nil {vs : List V} : RepL m [] vs H ↔ vs = [] := by cases vs <;> simp [RepL]
theorem repL_cons {t : T} {ts : List T} {vs : List V} : RepL m (t :: ts) vs H ↔ ∃ v r, vs = v :: r ∧ Rep m t v H ∧ RepL m ts r H := by
  cases vs with
  | nil => simp [RepL]
  | cons v r =>
    simp only [RepL]
    constructor
    · intro h; exact ⟨v, r, rfl, h.1, h.2⟩
    · rintro ⟨v', r', e, h1, h2⟩; cases e; exact ⟨h1, h2⟩
theorem RepL.length {ts : List T} {vs : List V} (h : RepL m ts vs H) : vs.length = ts.length := by
  induction ts generalizing vs with
  | nil => rw [repL_nil] at h; subst h; rfl
  | cons t ts ih =>
    obtain ⟨v, r, rfl, _, h2⟩ := repL_cons.mp h
    simp [ih h2]
theorem RepL.get {ts : List T} {vs : List V} (h : RepL m ts vs H) {i : Nat} {t : T} (e : ts[i]? = some t) : ∃ v, vs[i]? = some v ∧ Rep m t v H := by
  induction ts generalizing vs i with
  | nil => simp at e
  | cons a ts ih =>
    obtain ⟨v, r, rfl, h1, h2⟩ := repL_cons.mp h
    cases i with
    | zero => simp at e; subst e; exact ⟨v, rfl, h1⟩
    | succ i => simp at e; obtain ⟨w, e1, e2⟩ := ih h2 e; exact ⟨w, by simpa using e1, e2⟩
theorem RepL.get' {ts : List T} {vs : List V} (h : RepL m ts vs H) {i : Nat} {v : V} (e : vs[i]? = some v) : ∃ t, ts[i]? = some t ∧ Rep m t v H := by
  have hi : i < ts.length := by
    rw [← h.length]
    exact (List.getElem?_eq_some_iff.mp e).1
  obtain ⟨w, e1, e2⟩ := h.get (List.getElem?_eq_getElem hi)
  rw [e] at e1
  cases e1
  exact ⟨_, List.getElem?_eq_getElem hi, e2⟩
theorem RepL.append {ts us : List T} {vs ws : List V} (h : RepL m ts vs H) (h' : RepL m us ws H) : RepL m (ts ++ us) (vs ++ ws) H := by
  induction ts generalizing vs with
  | nil => rw [repL_nil] at h; subst h; simpa using h'
  | cons t ts ih =>
    obtain ⟨v, r, rfl, h1, h2⟩ := repL_cons.mp h
    show RepL m (t :: (ts ++ us)) (v :: (r ++ ws)) H
    exact repL_cons.mpr ⟨_, _, rfl, h1, ih h2⟩
theorem RepL.drop {ts : List T} {vs : List V} (h : RepL m ts vs H) : ∀ n, RepL m (ts.drop n) (vs.drop n) H := by
  induction ts generalizing vs with
  | nil => intro n; rw [repL_nil] at h; subst h; simp [repL_nil]
  | cons t ts ih =>
    intro n
    obtain ⟨v, r, rfl, h1, h2⟩ := repL_cons.mp h
    cases n with
    | zero => exact h
    | succ n => exact ih h2 n
theorem RepL.take {ts : List T} {vs : List V} (h : RepL m ts vs H) : ∀ n, RepL m (ts.take n) (vs.take n) H := by
  induction ts generalizing vs with
  | nil => intro n; rw [repL_nil] at h; subst h; simp [repL_nil]
  | cons t ts ih =>
    intro n
    obtain ⟨v, r, rfl, h1, h2⟩ := repL_cons.mp h
    cases n with
    | zero => simp [repL_nil]
    | succ n => exact repL_cons.mpr ⟨_, _, rfl, h1, ih h2 n⟩
theorem RepL.set {ts : List T} {vs : List V} {t : T} {v : V} (h : RepL m ts vs H) (ht : Rep m t v H) : ∀ n, RepL m (ts.set n t) (vs.set n v) H := by
  induction ts generalizing vs with
  | nil => intro n; rw [repL_nil] at h; subst h; simp [repL_nil]
  | cons t ts ih =>
    intro n
    obtain ⟨v, r, rfl, h1, h2⟩ := repL_cons.mp h
    cases n with
    | zero => exact repL_cons.mpr ⟨_, _, rfl, ht, h2⟩
    | succ n => exact repL_cons.mpr ⟨_, _, rfl, h1, ih h2 n⟩
theorem repL_ints {ns : List Int} {vs : List V} : RepL m (ns.map T.int) vs H ↔ vs = ns.map V.int := by
  induction ns generalizing vs with
  | nil => simp [repL_nil]
  | cons n ns ih =>
    rw [List.map_cons, repL_cons]
    constructor
    · rintro ⟨v, r, rfl, h1, h2⟩
      rw [rep_int.mp h1, ih.mp h2]
      rfl
    · intro h
      exact ⟨_, _, h, rep_int.mpr rfl, ih.mpr rfl⟩
theorem repL_bools {ns : List Bool} {vs : List V} : RepL m (ns.map T.bl) vs H ↔ vs = ns.map V.bl := by
  induction ns generalizing vs with
  | nil => simp [repL_nil]
  | cons n ns ih =>
    rw [List.map_cons, repL_cons]
    constructor
    · rintro ⟨v, r, rfl, h1, h2⟩
      rw [rep_bl.mp h1, ih.mp h2]
      rfl
    · intro h
      exact ⟨_, _, h, rep_bl.mpr rfl, ih.mpr rfl⟩
end

/-! ### the frozen part -/
/-- the state of the draws: two ints, within their bounds -/
structure Pot where
  a : Int
  b : Int
  pa : 0 ≤ a
  pb : 0 ≤ b ∧ b ≤ 2147483563
def P0 : Pot := ⟨0, 0, by decide, by decide⟩
structure Sit (m : Pm) (c : Pot) (B H : Hp) : Prop where
  sub : Same B H
  old : ∀ a, m.h0 a ≠ none → H a ≠ none
  pot : ∀ p, m.p0 = some p → B p = none ∧ H p = some (.lst [.int c.1, .int c.2])
structure Stp (m : Pm) (B H B' H' : Hp) : Prop where
  b : Same B B'
  h : ∀ a o, H a = some o → m.p0 ≠ some a → H' a = some o
  n : ∀ a, B' a ≠ none → B a ≠ none ∨ H a = none
  d : ∀ a, H a ≠ none → H' a ≠ none
theorem Stp.refl (m : Pm) (B H : Hp) : Stp m B H B H := ⟨Same.refl B, fun _ _ h _ => h, fun _ h => .inl h, fun _ h => h⟩
theorem Stp.trans {m : Pm} {B H B1 H1 B2 H2 : Hp} (x : Stp m B H B1 H1) (y : Stp m B1 H1 B2 H2) : Stp m B H B2 H2 := by
  refine ⟨x.b.trans y.b, fun a o h hp => y.h a o (x.h a o h hp) hp, fun a h => ?_, fun a h => y.d a (x.d a h)⟩
  rcases y.n a h with h | h
  · exact x.n a h
  · refine .inr ?_
    cases e : H a with
    | none => rfl
    | some o => exact absurd h (x.d a (by rw [e]; exact fun z => nomatch z))
/-- a new frozen object -/
theorem Stp.new {m : Pm} {B H : Hp} {p : Addr} {o : HO} (h : H p = none) (s : Same B H) : Stp m B H (upd B p o) (upd H p o) := by
  have hb : B p = none := s.free h
  refine ⟨fun a u e => by rw [upd_ne (ne_of_none e hb)]; exact e, fun a u e _ => by rw [upd_ne (ne_of_none e h)]; exact e, fun a ha => ?_, fun a ha => ?_⟩
  · by_cases q : a = p
    · subst q; exact .inr h
    · rw [upd_ne q] at ha; exact .inl ha
  · by_cases q : a = p
    · subst q; exact absurd h ha
    · rw [upd_ne q]; exact ha
theorem dom_upd {H : Hp} {p : Addr} {o : HO} {a : Addr} (h : H a ≠ none) : upd H p o a ≠ none := by
  by_cases z : a = p
  · subst z; rw [upd_same]; exact fun y => nomatch y
  · rw [upd_ne z]; exact h
theorem Sit.new {m : Pm} {c : Pot} {B H : Hp} {p : Addr} {o : HO} (h : H p = none) (s : Sit m c B H) : Sit m c (upd B p o) (upd H p o) := by
  refine ⟨fun a u e => ?_, fun a ha => dom_upd (s.old a ha), fun q hq => ?_⟩
  · by_cases z : a = p
    · subst z; rw [upd_same] at e ⊢; exact e
    · rw [upd_ne z] at e ⊢; exact s.sub a u e
  · have z : q ≠ p := ne_of_none (s.pot q hq).2 h
    rw [upd_ne z, upd_ne z]
    exact s.pot q hq
/-- what is no longer known of the heap's own part: H changed outside B -/
theorem Sit.same {m : Pm} {c : Pot} {B H H' : Hp} (s : Sit m c B H) (h : ∀ a o, H a = some o → H' a = some o) : Sit m c B H' :=
  ⟨fun a o e => h a o (s.sub a o e), fun a ha => by
    have := s.old a ha
    cases e : H a with
    | none => exact absurd e this
    | some o => rw [h a o e]; exact (fun y => (nomatch y)), fun p hp => ⟨(s.pot p hp).1, h p _ (s.pot p hp).2⟩⟩
theorem Sit.fresh {m : Pm} {c : Pot} {B H : Hp} (s : Sit m c B H) {p : Addr} (h : H p = none) : m.h0 p = none := by
  cases e : m.h0 p with
  | none => rfl
  | some o => exact absurd h (s.old p (by rw [e]; exact fun y => nomatch y))
theorem Stp.same {m : Pm} {B H H' : Hp} (h : ∀ a o, H a = some o → H' a = some o) : Stp m B H B H' :=
  ⟨Same.refl B, fun a o e _ => h a o e, fun _ h => .inl h, fun a ha => by
    cases e : H a with
    | none => exact absurd e ha
    | some o => rw [h a o e]; exact fun z => nomatch z⟩

/-! ### slots -/
inductive Sl where
  | un
  | val (t : T)
  | own (ts : List T)
  | raw (v : V)
abbrev TEnv := List Sl
structure RepE (m : Pm) (e : TEnv) (σ : L2.St) (B H : Hp) : Prop where
  len : e.length = σ.length
  val : ∀ (i : Nat) (t : T), e[i]? = some (Sl.val t) → ∃ v, σ[i]? = some (some v) ∧ Rep m t v B
  own : ∀ (i : Nat) (ts : List T), e[i]? = some (Sl.own ts) → ∃ a vs, σ[i]? = some (some (V.ref a)) ∧ H a = some (.lst vs) ∧ B a = none ∧ m.p0 ≠ some a ∧ RepL m ts vs B ∧ m.h0 a = none
  raw : ∀ (i : Nat) (v : V), e[i]? = some (Sl.raw v) → σ[i]? = some (some v)
  dis : ∀ (i j : Nat) (ts us : List T) (a : Addr), i ≠ j → e[i]? = some (Sl.own ts) → e[j]? = some (Sl.own us) → σ[i]? = some (some (V.ref a)) → σ[j]? = some (some (V.ref a)) → False
theorem RepE.step {m : Pm} {e : TEnv} {σ : L2.St} {B H B' H' : Hp} (r : RepE m e σ B H) (s : Stp m B H B' H') : RepE m e σ B' H' := by
  refine ⟨r.len, fun i t h => ?_, fun i ts h => ?_, r.raw, r.dis⟩
  · obtain ⟨v, h1, h2⟩ := r.val i t h
    exact ⟨v, h1, h2.mono s.b⟩
  · obtain ⟨a, vs, h1, h2, h3, h4, h5, h6⟩ := r.own i ts h
    refine ⟨a, vs, h1, s.h a _ h2 h4, ?_, h4, h5.mono s.b, h6⟩
    cases q : B' a with
    | none => rfl
    | some o =>
      rcases s.n a (by rw [q]; exact fun z => nomatch z) with z | z
      · exact absurd h3 z
      · rw [h2] at z; cases z
theorem RepE.set {m : Pm} {e : TEnv} {σ : L2.St} {B H : Hp} {t : T} {v : V} (r : RepE m e σ B H) (h : Rep m t v B) (k : Nat) : RepE m (e.set k (Sl.val t)) (σ.set k (some v)) B H := by
  refine ⟨by simp [r.len], fun i t' q => ?_, fun i ts q => ?_, fun i rv q => ?_, fun i j ts us a hij q1 q2 q3 q4 => ?_⟩
  · by_cases z : k = i
    · subst z
      have hl : k < e.length := by
        have := (List.getElem?_eq_some_iff.mp q).1
        simpa using this
      rw [List.getElem?_set_self hl] at q
      cases q
      exact ⟨v, by rw [List.getElem?_set_self (r.len ▸ hl)], h⟩
    · rw [List.getElem?_set_ne z] at q ⊢
      exact r.val i t' q
  · by_cases z : k = i
    · subst z
      have hl : k < e.length := by
        have := (List.getElem?_eq_some_iff.mp q).1
        simpa using this
      rw [List.getElem?_set_self hl] at q
      cases q
    · rw [List.getElem?_set_ne z] at q ⊢
      exact r.own i ts q
  · by_cases z : k = i
    · subst z
      have hl : k < e.length := by
        have := (List.getElem?_eq_some_iff.mp q).1
        simpa using this
      rw [List.getElem?_set_self hl] at q
      cases q
    · rw [List.getElem?_set_ne z] at q ⊢
      exact r.raw i _ q
  · have z1 : k ≠ i := fun z => by
      subst z
      have hl : k < e.length := by
        have := (List.getElem?_eq_some_iff.mp q1).1
        simpa using this
      rw [List.getElem?_set_self hl] at q1
      cases q1
    have z2 : k ≠ j := fun z => by
      subst z
      have hl : k < e.length := by
        have := (List.getElem?_eq_some_iff.mp q2).1
        simpa using this
      rw [List.getElem?_set_self hl] at q2
      cases q2
    rw [List.getElem?_set_ne z1] at q1 q3
    rw [List.getElem?_set_ne z2] at q2 q4
    exact r.dis i j ts us a hij q1 q2 q3 q4
/-- a new owned list -/
theorem RepE.setOwn {m : Pm} {e : TEnv} {σ : L2.St} {B H : Hp} {ts : List T} {vs : List V} {p : Addr} (r : RepE m e σ B H) (hp : H p = none) (s : Same B H) (h0 : m.p0 ≠ some p) (hn : m.h0 p = none) (h : RepL m ts vs B) (k : Nat) :
    RepE m (e.set k (Sl.own ts)) (σ.set k (some (V.ref p))) B (upd H p (.lst vs)) := by
  refine ⟨by simp [r.len], fun i t' q => ?_, fun i ts' q => ?_, fun i rv q => ?_, fun i j ts' us a hij q1 q2 q3 q4 => ?_⟩
  · by_cases z : k = i
    · subst z
      have hl : k < e.length := by
        have := (List.getElem?_eq_some_iff.mp q).1
        simpa using this
      rw [List.getElem?_set_self hl] at q
      cases q
    · rw [List.getElem?_set_ne z] at q ⊢
      exact r.val i t' q
  · by_cases z : k = i
    · subst z
      have hl : k < e.length := by
        have := (List.getElem?_eq_some_iff.mp q).1
        simpa using this
      rw [List.getElem?_set_self hl] at q
      cases q
      exact ⟨p, vs, by rw [List.getElem?_set_self (r.len ▸ hl)], upd_same, s.free hp, h0, h, hn⟩
    · rw [List.getElem?_set_ne z] at q ⊢
      obtain ⟨a, ws, h1, h2, h3, h4, h5, h6⟩ := r.own i ts' q
      exact ⟨a, ws, h1, by rw [upd_ne (ne_of_none h2 hp)]; exact h2, h3, h4, h5, h6⟩
  · by_cases z : k = i
    · subst z
      have hl : k < e.length := by
        have := (List.getElem?_eq_some_iff.mp q).1
        simpa using this
      rw [List.getElem?_set_self hl] at q
      cases q
    · rw [List.getElem?_set_ne z] at q ⊢
      exact r.raw i _ q
  · have fresh : ∀ {l : Nat} {ws : List T}, k ≠ l → (e.set k (Sl.own ts))[l]? = some (Sl.own ws) → (σ.set k (some (V.ref p)))[l]? = some (some (V.ref p)) → False := fun {l ws} z w1 w2 => by
      rw [List.getElem?_set_ne z] at w1 w2
      obtain ⟨a, _, h1, h2, _⟩ := r.own _ _ w1
      rw [w2] at h1
      cases h1
      rw [hp] at h2
      cases h2
    have self : ∀ {l : Nat} {b : Addr}, k = l → l < σ.length → (σ.set k (some (V.ref p)))[l]? = some (some (V.ref b)) → b = p := fun {l b} z hl w => by
      subst z
      rw [List.getElem?_set_self hl] at w
      cases w
      rfl
    have lt : ∀ {l : Nat} {b : Addr}, (σ.set k (some (V.ref p)))[l]? = some (some (V.ref b)) → l < σ.length := fun {l b} w => by
      have := (List.getElem?_eq_some_iff.mp w).1
      simpa using this
    by_cases z1 : k = i
    · have e1 := self z1 (lt q3) q3
      subst e1
      exact fresh (fun z => hij (z1.symm.trans z)) q2 q4
    · by_cases z2 : k = j
      · have e2 := self z2 (lt q4) q4
        subst e2
        exact fresh z1 q1 q3
      · rw [List.getElem?_set_ne z1] at q1 q3
        rw [List.getElem?_set_ne z2] at q2 q4
        exact r.dis i j ts' us a hij q1 q2 q3 q4
/-- an owned list is frozen: it goes into B -/
theorem RepE.freeze {m : Pm} {e : TEnv} {σ : L2.St} {B H : Hp} {ts : List T} (r : RepE m e σ B H) {k : Nat} (hk : e[k]? = some (Sl.own ts)) :
    ∃ a vs, σ[k]? = some (some (V.ref a)) ∧ H a = some (.lst vs) ∧ B a = none ∧ m.p0 ≠ some a ∧ RepL m ts vs B ∧ RepE m (e.set k (Sl.val (.new (.lst ts)))) σ (upd B a (.lst vs)) H := by
  obtain ⟨a, vs, h1, h2, h3, h4, h5, h6⟩ := r.own k ts hk
  have sb : Same B (upd B a (.lst vs)) := fun b o q => by rw [upd_ne (ne_of_none q h3)]; exact q
  have hl : k < e.length := (List.getElem?_eq_some_iff.mp hk).1
  refine ⟨a, vs, h1, h2, h3, h4, h5, by simp [r.len], fun i t' q => ?_, fun i ts' q => ?_, fun i rv q => ?_, fun i j ts' us b hij q1 q2 q3 q4 => ?_⟩
  · by_cases z : k = i
    · subst z
      rw [List.getElem?_set_self hl] at q
      cases q
      exact ⟨_, h1, rep_new.mpr ⟨rep_lst.mpr ⟨a, vs, rfl, upd_same, h5.mono sb⟩, a, rfl, h6⟩⟩
    · rw [List.getElem?_set_ne z] at q
      obtain ⟨v, g1, g2⟩ := r.val i t' q
      exact ⟨v, g1, g2.mono sb⟩
  · by_cases z : k = i
    · subst z
      rw [List.getElem?_set_self hl] at q
      cases q
    · rw [List.getElem?_set_ne z] at q
      obtain ⟨b, ws, g1, g2, g3, g4, g5, g6⟩ := r.own i ts' q
      have hab : b ≠ a := fun y => by
        subst y
        exact r.dis k i ts ts' b z hk q h1 g1
      exact ⟨b, ws, g1, g2, by rw [upd_ne hab]; exact g3, g4, g5.mono sb, g6⟩
  · by_cases z : k = i
    · subst z
      rw [List.getElem?_set_self hl] at q
      cases q
    · rw [List.getElem?_set_ne z] at q
      exact r.raw i _ q
  · have z1 : k ≠ i := fun z => by subst z; rw [List.getElem?_set_self hl] at q1; cases q1
    have z2 : k ≠ j := fun z => by subst z; rw [List.getElem?_set_self hl] at q2; cases q2
    rw [List.getElem?_set_ne z1] at q1
    rw [List.getElem?_set_ne z2] at q2
    exact r.dis i j ts' us b hij q1 q2 q3 q4
/-- a change of an owned list -/
theorem RepE.mut {m : Pm} {e : TEnv} {σ : L2.St} {B H : Hp} {ts us : List T} {ws : List V} {a : Addr} (r : RepE m e σ B H) {k : Nat} (hk : e[k]? = some (Sl.own ts)) (ha : σ[k]? = some (some (V.ref a))) (hu : RepL m us ws B) :
    RepE m (e.set k (Sl.own us)) σ B (upd H a (.lst ws)) := by
  have hl : k < e.length := (List.getElem?_eq_some_iff.mp hk).1
  obtain ⟨a', vs, h1, h2, h3, h4, h5, h6⟩ := r.own k ts hk
  rw [ha] at h1
  cases h1
  refine ⟨by simp [r.len], fun i t' q => ?_, fun i ts' q => ?_, fun i rv q => ?_, fun i j ts' us' b hij q1 q2 q3 q4 => ?_⟩
  · by_cases z : k = i
    · subst z
      rw [List.getElem?_set_self hl] at q
      cases q
    · rw [List.getElem?_set_ne z] at q
      exact r.val i t' q
  · by_cases z : k = i
    · subst z
      rw [List.getElem?_set_self hl] at q
      cases q
      exact ⟨a, ws, ha, upd_same, h3, h4, hu, h6⟩
    · rw [List.getElem?_set_ne z] at q
      obtain ⟨b, ws', g1, g2, g3, g4, g5, g6⟩ := r.own i ts' q
      have hab : b ≠ a := fun y => by
        subst y
        exact r.dis k i ts ts' b z hk q ha g1
      exact ⟨b, ws', g1, by rw [upd_ne hab]; exact g2, g3, g4, g5, g6⟩
  · by_cases z : k = i
    · subst z
      rw [List.getElem?_set_self hl] at q
      cases q
    · rw [List.getElem?_set_ne z] at q
      exact r.raw i _ q
  · have un : ∀ {l : Nat} {xs : List T}, (e.set k (Sl.own us))[l]? = some (Sl.own xs) → ∃ ys, e[l]? = some (Sl.own ys) := fun {l xs} q => by
      by_cases z : k = l
      · subst z; exact ⟨ts, hk⟩
      · rw [List.getElem?_set_ne z] at q; exact ⟨xs, q⟩
    obtain ⟨y1, w1⟩ := un q1
    obtain ⟨y2, w2⟩ := un q2
    exact r.dis i j y1 y2 b hij w1 w2 q3 q4
end TW
set_option Elab.async false
set_option linter.all false
set_option maxRecDepth 100000
set_option maxHeartbeats 4000000
/-! Fw2: judgements over families of contexts: what an expression, a test, an argument list, a target, a walk, a statement does to data. -/
namespace TW
open PySem L2

/-- what stays the same in all contexts of a family -/
structure Stat where
  P : Program
  w : World
  K : PySem.W.Frag
  mg : Str → Option Value
  base : Heap
structure Fam (S : Stat) (N : List Str) (n : Nat) {ι : Type} (XX : ι → Cx) : Prop where
  prog : ∀ i, (XX i).prog = S.P
  w : ∀ i, (XX i).w = S.w
  k : ∀ i, (XX i).K = S.K
  mg : ∀ i, (XX i).mg = S.mg
  base : ∀ i, (XX i).base = S.base
  calm : ∀ i, (XX i).calm = true
  nd : N.Nodup
  names : ∀ i, (XX i).N = N
  room : ∀ i, Room n (XX i).A

/-! ### denotations -/
section
variable (m : Pm)
def Den (te : TE) (e : TEnv) (c : Pot) (t : T) (c' : Pot) : Prop :=
  ∀ σ B H, Sit m c B H → RepE m e σ B H → ∀ Q : VK, (∀ v B' H', Sit m c' B' H' → Stp m B H B' H' → Rep m t v B' → Q v H') → te σ H Q
def DenT (tt : TT) (e : TEnv) (c : Pot) (b : Bool) (c' : Pot) : Prop :=
  ∀ σ B H, Sit m c B H → RepE m e σ B H → ∀ Q : Bool → Hp → Prop, (∀ B' H', Sit m c' B' H' → Stp m B H B' H' → Q b H') → tt σ H Q
def DenA (ta : TA) (e : TEnv) (c : Pot) (ts : List T) (c' : Pot) : Prop :=
  ∀ σ B H, Sit m c B H → RepE m e σ B H → ∀ Q : List V → Hp → Prop, (∀ vs B' H', Sit m c' B' H' → Stp m B H B' H' → RepL m ts vs B' → Q vs H') → ta σ H Q
def DenO (to : TO) (e : TEnv) (c : Pot) (o : Option Int) (c' : Pot) : Prop :=
  ∀ σ B H, Sit m c B H → RepE m e σ B H → ∀ Q : Option Int → Hp → Prop, (∀ B' H', Sit m c' B' H' → Stp m B H B' H' → Q o H') → to σ H Q
/-- a walk: at turn i the i-th of xs -/
structure WalkT (J : It) (B : Hp) (xs : List T) : Prop where
  goes : ∀ i H, i < xs.length → Same B H → J.go i H
  stops : ∀ H, Same B H → J.stop xs.length H
  yields : ∀ i H x H', i < xs.length → Same B H → J.yld i H x H' → ∃ t, xs[i]? = some t ∧ ∀ c B', Sit m c B' H → Same B B' → ∃ B'', Sit m c B'' H' ∧ Stp m B' H B'' H' ∧ Rep m t x B''
def DenI (wi : TI) (e : TEnv) (c : Pot) (xs : List T) (c' : Pot) : Prop :=
  ∀ σ B H, Sit m c B H → RepE m e σ B H → ∀ R : It → Hp → Prop, (∀ J B' H', Sit m c' B' H' → Stp m B H B' H' → WalkT m J B' xs → R J H') → wi σ H R
/-- slots stored -/
def sets (σ : L2.St) : List (Nat × V) → L2.St
  | [] => σ
  | (k, v) :: r => sets (σ.set k (some v)) r
def DenG (g : TG) (ks : List Nat) (e : TEnv) (t : T) (e' : TEnv) : Prop :=
  ∀ σ B H v, Same B H → RepE m e σ B H → Rep m t v B → ∀ Q : L2.St → Hp → Prop, (∀ σ' l, σ' = sets σ l → l.map (·.1) = ks → RepE m e' σ' B H → Q σ' H) → g v σ H Q
end

/-- the state at a point of a body, seen from the body's entry -/
structure Anc (m : Pm) (B0 H0 : Hp) (e : TEnv) (c : Pot) (σ : L2.St) (B H : Hp) : Prop where
  sit : Sit m c B H
  env : RepE m e σ B H
  stp : Stp m B0 H0 B H
  own : ∀ (i : Nat) (ts : List T) (a : Addr), e[i]? = some (Sl.own ts) → σ[i]? = some (some (V.ref a)) → H0 a = none
inductive Out where
  | nx (e : TEnv) (c : Pot)
  | rt (t : T) (c : Pot)
  | raw (W : Hp → Hp → Ends → Prop)
def Ok (m : Pm) (B0 H0 B : Hp) (D : Ends) : Out → Prop
  | .nx e c => ∀ σ B' H', Anc m B0 H0 e c σ B' H' → Same B B' → D.nx σ H'
  | .rt t c => ∀ v B' H', Sit m c B' H' → Stp m B0 H0 B' H' → Rep m t v B' → D.rt v H'
  | .raw W => W B0 H0 D
def DenS (m : Pm) (ts : TS) (e : TEnv) (c : Pot) (o : Out) : Prop :=
  ∀ B0 H0 σ B H, Anc m B0 H0 e c σ B H → ∀ D : Ends, Ok m B0 H0 B D o → ts D σ H

theorem Anc.step {m : Pm} {B0 H0 B H B' H' : Hp} {e : TEnv} {c c' : Pot} {σ : L2.St} (a : Anc m B0 H0 e c σ B H) (s : Sit m c' B' H') (t : Stp m B H B' H') : Anc m B0 H0 e c' σ B' H' :=
  ⟨s, a.env.step t, a.stp.trans t, a.own⟩
theorem Anc.set {m : Pm} {B0 H0 B H : Hp} {e : TEnv} {c : Pot} {σ : L2.St} {t : T} {v : V} (a : Anc m B0 H0 e c σ B H) (h : Rep m t v B) (k : Nat) : Anc m B0 H0 (e.set k (Sl.val t)) c (σ.set k (some v)) B H := by
  refine ⟨a.sit, a.env.set h k, a.stp, fun i ts p q1 q2 => ?_⟩
  by_cases z : k = i
  · subst z
    have hl : k < e.length := by
      have := (List.getElem?_eq_some_iff.mp q1).1
      simpa using this
    rw [List.getElem?_set_self hl] at q1
    cases q1
  · rw [List.getElem?_set_ne z] at q1 q2
    exact a.own i ts p q1 q2

/-! ### the largest reading -/
section
variable {ι : Type} (XX : ι → Cx)
def rdE (e : Expr) : TE := fun σ H Q => ∃ te : TE, (∀ i, PE (XX i) e te) ∧ te σ H Q
def rdT (e : Expr) : TT := fun σ H Q => ∃ te : TT, (∀ i, PT (XX i) e te) ∧ te σ H Q
def rdW (e : Expr) : TT := fun σ H Q => ∃ te : TT, (∀ i, PW (XX i) e te) ∧ te σ H Q
def rdTs (es : List Expr) : TT := fun σ H Q => ∃ te : TT, (∀ i, PTs (XX i) es te) ∧ te σ H Q
def rdA (es : List Expr) : TA := fun σ H Q => ∃ te : TA, (∀ i, PA (XX i) es te) ∧ te σ H Q
def rdO (e : Option Expr) : TO := fun σ H Q => ∃ te : TO, (∀ i, PO (XX i) e te) ∧ te σ H Q
def rdG (tg : Expr) : TG := fun v σ H Q => ∃ g : TG, (∀ i, PG (XX i) tg g) ∧ g v σ H Q
def rdI (tg it : Expr) : TI := fun σ H R => ∃ wi : TI, (∀ i, PI (XX i) tg it wi) ∧ wi σ H R
def rdS (st : Stmt) : TS := fun D σ H => ∃ ts : TS, (∀ i, PS (XX i) st ts) ∧ ts D σ H
def rdB (sts : List Stmt) : TS := fun D σ H => ∃ ts : TS, (∀ i, PSs (XX i) sts ts) ∧ ts D σ H
variable {XX}
theorem pe_rd {e : Expr} (i : ι) : PE (XX i) e (rdE XX e) := ⟨fun pins s σ H Q I ⟨_, h, q⟩ => (h i).run pins s σ H Q I q⟩
theorem pt_rd {e : Expr} (i : ι) : PT (XX i) e (rdT XX e) := ⟨fun pins s σ H Q I ⟨_, h, q⟩ => (h i).run pins s σ H Q I q⟩
theorem pw_rd {e : Expr} (i : ι) : PW (XX i) e (rdW XX e) := ⟨fun wh pins s σ H Q I ⟨_, h, q⟩ => (h i).run wh pins s σ H Q I q⟩
theorem pts_rd {es : List Expr} (i : ι) : PTs (XX i) es (rdTs XX es) := ⟨fun pins s σ H Q I ⟨_, h, q⟩ => (h i).run pins s σ H Q I q⟩
theorem pa_rd {es : List Expr} (i : ι) : PA (XX i) es (rdA XX es) := ⟨fun pos pins s σ H Q I ⟨_, h, q⟩ => (h i).run pos pins s σ H Q I q⟩
theorem po_rd {e : Option Expr} (i : ι) : PO (XX i) e (rdO XX e) := by
  refine ⟨?_⟩
  intro pins s σ H Q I
  rintro ⟨_, h, q⟩
  exact (h i).run pins s σ H Q I q
theorem pg_rd {tg : Expr} (i : ι) : PG (XX i) tg (rdG XX tg) := by
  refine ⟨?_⟩
  intro pins s σ H v u Q I r
  rintro ⟨_, h, q⟩
  exact (h i).run pins s σ H v u Q I r q
theorem pi_rd {tg it : Expr} (i : ι) : PI (XX i) tg it (rdI XX tg it) := ⟨fun pins s σ H R I ⟨_, h, q⟩ => (h i).run pins s σ H R I q⟩
theorem ps_rd {st : Stmt} (i : ι) : PS (XX i) st (rdS XX st) := ⟨fun pins s σ H D I ⟨_, h, q⟩ => (h i).run pins s σ H D I q⟩
theorem pb_rd {sts : List Stmt} (i : ι) : PSs (XX i) sts (rdB XX sts) := ⟨fun pins s σ H D I ⟨_, h, q⟩ => (h i).run pins s σ H D I q⟩
end

/-! ### judgements -/
section
variable {ι : Type} (m : Pm) (XX : ι → Cx)
def EJ (e : Expr) (env : TEnv) (c : Pot) (t : T) (c' : Pot) : Prop := Den m (rdE XX e) env c t c'
def TJ (e : Expr) (env : TEnv) (c : Pot) (b : Bool) (c' : Pot) : Prop := DenT m (rdT XX e) env c b c'
def WJ (e : Expr) (env : TEnv) (c : Pot) (b : Bool) (c' : Pot) : Prop := DenT m (rdW XX e) env c b c'
def FJ (es : List Expr) (env : TEnv) (c : Pot) (b : Bool) (c' : Pot) : Prop := DenT m (rdTs XX es) env c b c'
def AJ (es : List Expr) (env : TEnv) (c : Pot) (ts : List T) (c' : Pot) : Prop := DenA m (rdA XX es) env c ts c'
def OJ (e : Option Expr) (env : TEnv) (c : Pot) (o : Option Int) (c' : Pot) : Prop := DenO m (rdO XX e) env c o c'
def GJ (tg : Expr) (ks : List Nat) (env : TEnv) (t : T) (env' : TEnv) : Prop := DenG m (rdG XX tg) ks env t env'
def IJ (tg it : Expr) (env : TEnv) (c : Pot) (xs : List T) (c' : Pot) : Prop := DenI m (rdI XX tg it) env c xs c'
def SJ (st : Stmt) (env : TEnv) (c : Pot) (o : Out) : Prop := DenS m (rdS XX st) env c o
def BJ (sts : List Stmt) (env : TEnv) (c : Pot) (o : Out) : Prop := DenS m (rdB XX sts) env c o
variable {m XX}
theorem EJ.of {e : Expr} {te : TE} {env : TEnv} {c c' : Pot} {t : T} (h : ∀ i, PE (XX i) e te) (d : Den m te env c t c') : EJ m XX e env c t c' := fun σ B H s r Q q => ⟨te, h, d σ B H s r Q q⟩
theorem TJ.of {e : Expr} {te : TT} {env : TEnv} {c c' : Pot} {b : Bool} (h : ∀ i, PT (XX i) e te) (d : DenT m te env c b c') : TJ m XX e env c b c' := fun σ B H s r Q q => ⟨te, h, d σ B H s r Q q⟩
theorem WJ.of {e : Expr} {te : TT} {env : TEnv} {c c' : Pot} {b : Bool} (h : ∀ i, PW (XX i) e te) (d : DenT m te env c b c') : WJ m XX e env c b c' := fun σ B H s r Q q => ⟨te, h, d σ B H s r Q q⟩
theorem FJ.of {es : List Expr} {te : TT} {env : TEnv} {c c' : Pot} {b : Bool} (h : ∀ i, PTs (XX i) es te) (d : DenT m te env c b c') : FJ m XX es env c b c' := fun σ B H s r Q q => ⟨te, h, d σ B H s r Q q⟩
theorem AJ.of {es : List Expr} {te : TA} {env : TEnv} {c c' : Pot} {ts : List T} (h : ∀ i, PA (XX i) es te) (d : DenA m te env c ts c') : AJ m XX es env c ts c' := fun σ B H s r Q q => ⟨te, h, d σ B H s r Q q⟩
theorem OJ.of {e : Option Expr} {te : TO} {env : TEnv} {c c' : Pot} {o : Option Int} (h : ∀ i, PO (XX i) e te) (d : DenO m te env c o c') : OJ m XX e env c o c' := fun σ B H s r Q q => ⟨te, h, d σ B H s r Q q⟩
theorem GJ.of {tg : Expr} {g : TG} {ks : List Nat} {env env' : TEnv} {t : T} (h : ∀ i, PG (XX i) tg g) (d : DenG m g ks env t env') : GJ m XX tg ks env t env' := fun σ B H v s r w Q q => ⟨g, h, d σ B H v s r w Q q⟩
theorem IJ.of {tg it : Expr} {wi : TI} {env : TEnv} {c c' : Pot} {xs : List T} (h : ∀ i, PI (XX i) tg it wi) (d : DenI m wi env c xs c') : IJ m XX tg it env c xs c' := fun σ B H s r R q => ⟨wi, h, d σ B H s r R q⟩
theorem SJ.of {st : Stmt} {ts : TS} {env : TEnv} {c : Pot} {o : Out} (h : ∀ i, PS (XX i) st ts) (d : DenS m ts env c o) : SJ m XX st env c o := fun B0 H0 σ B H a D k => ⟨ts, h, d B0 H0 σ B H a D k⟩
theorem BJ.of {sts : List Stmt} {ts : TS} {env : TEnv} {c : Pot} {o : Out} (h : ∀ i, PSs (XX i) sts ts) (d : DenS m ts env c o) : BJ m XX sts env c o := fun B0 H0 σ B H a D k => ⟨ts, h, d B0 H0 σ B H a D k⟩
end

/-! ### operations on values -/
section
variable (m : Pm)
def DenR (r : R2) (x y z : T) : Prop := ∀ c B H v w, Sit m c B H → Rep m x v B → Rep m y w B → ∀ Q : VK, (∀ u B' H', Sit m c B' H' → Stp m B H B' H' → Rep m z u B' → Q u H') → r v w H Q
def DenU (r : V → Hp → VK → Prop) (x z : T) : Prop := ∀ c B H v, Sit m c B H → Rep m x v B → ∀ Q : VK, (∀ u B' H', Sit m c B' H' → Stp m B H B' H' → Rep m z u B' → Q u H') → r v H Q
def DenC (r : List V → Hp → VK → Prop) (xs : List T) (z : T) : Prop := ∀ c B H vs, Sit m c B H → RepL m xs vs B → ∀ Q : VK, (∀ u B' H', Sit m c B' H' → Stp m B H B' H' → Rep m z u B' → Q u H') → r vs H Q
end
section
variable {m : Pm}
theorem den_op {r : R2} {ta tb : TE} {e : TEnv} {c c1 c2 : Pot} {x y z : T} (ha : Den m ta e c x c1) (hb : Den m tb e c1 y c2) (hr : DenR m r x y z) : Den m (tOp r ta tb) e c z c2 := by
  intro σ B H s r Q q
  refine ha σ B H s r _ fun v B1 H1 s1 t1 rv => ?_
  refine hb σ B1 H1 s1 (r.step t1) _ fun w B2 H2 s2 t2 rw => ?_
  exact hr c2 B2 H2 v w s2 (rv.mono t2.b) rw Q fun u B3 H3 s3 t3 ru => q u B3 H3 s3 ((t1.trans t2).trans t3) ru
theorem den_un {r : V → Hp → VK → Prop} {ta : TE} {e : TEnv} {c c1 : Pot} {x z : T} (ha : Den m ta e c x c1) (hr : DenU m r x z) : Den m (tUn r ta) e c z c1 := by
  intro σ B H s r Q q
  refine ha σ B H s r _ fun v B1 H1 s1 t1 rv => ?_
  exact hr c1 B1 H1 v s1 rv Q fun u B3 H3 s3 t3 ru => q u B3 H3 s3 (t1.trans t3) ru
theorem den_cb {r : List V → Hp → VK → Prop} {ta : TA} {e : TEnv} {c c1 : Pot} {xs : List T} {z : T} (ha : DenA m ta e c xs c1) (hr : DenC m r xs z) : Den m (tCB r ta) e c z c1 := by
  intro σ B H s r Q q
  refine ha σ B H s r _ fun vs B1 H1 s1 t1 rv => ?_
  exact hr c1 B1 H1 vs s1 rv Q fun u B3 H3 s3 t3 ru => q u B3 H3 s3 (t1.trans t3) ru
theorem denR_I {C : Int → Int → Prop} {g : Int → Int → Int} {i j : Int} (h : C i j) : DenR m (rI C fun a b => .int (g a b)) (.int i) (.int j) (.int (g i j)) := by
  intro c B H v w s hv hw Q q
  exact ⟨i, j, rep_int.mp hv, rep_int.mp hw, h, q _ B H s (Stp.refl m B H) (rep_int.mpr rfl)⟩
theorem denR_I0 {g : Int → Int → Int} {i j : Int} : DenR m (rI0 fun a b => .int (g a b)) (.int i) (.int j) (.int (g i j)) := by
  intro c B H v w s hv hw Q q
  exact ⟨i, j, rep_int.mp hv, rep_int.mp hw, q _ B H s (Stp.refl m B H) (rep_int.mpr rfl)⟩
theorem denR_B0 {g : Int → Int → Bool} {i j : Int} : DenR m (rI0 fun a b => .bl (g a b)) (.int i) (.int j) (.bl (g i j)) := by
  intro c B H v w s hv hw Q q
  exact ⟨i, j, rep_int.mp hv, rep_int.mp hw, q _ B H s (Stp.refl m B H) (rep_bl.mpr rfl)⟩
theorem denR_eqI {i j : Int} : DenR m rEq (.int i) (.int j) (.bl (decide (i = j))) := by
  intro c B H v w s hv hw Q q
  rw [rep_int.mp hv, rep_int.mp hw]
  refine ⟨rfl, ?_⟩
  have e : decide (V.int i = V.int j) = decide (i = j) := by
    by_cases z : i = j
    · subst z; simp
    · have : ¬ V.int i = V.int j := fun y => z (by cases y; rfl)
      simp [z, this]
  rw [e]
  exact q _ B H s (Stp.refl m B H) (rep_bl.mpr rfl)
theorem denR_neI {i j : Int} : DenR m rNe (.int i) (.int j) (.bl (!decide (i = j))) := by
  intro c B H v w s hv hw Q q
  rw [rep_int.mp hv, rep_int.mp hw]
  refine ⟨rfl, ?_⟩
  have e : decide (V.int i = V.int j) = decide (i = j) := by
    by_cases z : i = j
    · subst z; simp
    · have : ¬ V.int i = V.int j := fun y => z (by cases y; rfl)
      simp [z, this]
  rw [e]
  exact q _ B H s (Stp.refl m B H) (rep_bl.mpr rfl)
theorem denR_neB {i j : Bool} : DenR m rNe (.bl i) (.bl j) (.bl (i != j)) := by
  intro c B H v w s hv hw Q q
  rw [rep_bl.mp hv, rep_bl.mp hw]
  refine ⟨rfl, ?_⟩
  have e : (!decide (V.bl i = V.bl j)) = (i != j) := by
    cases i <;> cases j <;> rfl
  rw [e]
  exact q _ B H s (Stp.refl m B H) (rep_bl.mpr rfl)
theorem denR_neS {i j : Str} : DenR m rNe (.str i) (.str j) (.bl (!decide (i = j))) := by
  intro c B H v w s hv hw Q q
  rw [rep_str.mp hv, rep_str.mp hw]
  refine ⟨rfl, ?_⟩
  have e : decide (V.str i = V.str j) = decide (i = j) := by
    by_cases z : i = j
    · subst z; simp
    · have : ¬ V.str i = V.str j := fun y => z (by cases y; rfl)
      simp [z, this]
  rw [e]
  exact q _ B H s (Stp.refl m B H) (rep_bl.mpr rfl)
theorem denR_eqS {i j : Str} : DenR m rEq (.str i) (.str j) (.bl (decide (i = j))) := by
  intro c B H v w s hv hw Q q
  rw [rep_str.mp hv, rep_str.mp hw]
  refine ⟨rfl, ?_⟩
  have e : decide (V.str i = V.str j) = decide (i = j) := by
    by_cases z : i = j
    · subst z; simp
    · have : ¬ V.str i = V.str j := fun y => z (by cases y; rfl)
      simp [z, this]
  rw [e]
  exact q _ B H s (Stp.refl m B H) (rep_bl.mpr rfl)
/-- whether a value is None -/
def isNon : T → Bool
  | .non => true
  | _ => false
theorem rep_isNon {t : T} {v : V} {H : Hp} (h : Rep m t v H) : decide (v = .non) = isNon t := by
  cases t <;> simp only [Rep] at h
  · subst h; rfl
  · subst h; rfl
  · subst h; rfl
  · subst h; rfl
  all_goals (first | (obtain ⟨a, _, h, _⟩ := h; subst h; rfl) | (obtain ⟨a, _, _, h, _⟩ := h; subst h; rfl) | (obtain ⟨_, a, h, _⟩ := h; subst h; rfl) | (obtain ⟨a, _, h⟩ := h; subst h; rfl) | (obtain ⟨h, _⟩ := h; subst h; rfl))
theorem denR_isN {t : T} : DenR m (fun x y H Q => y = .non ∧ Q (.bl (decide (x = .non))) H) t .non (.bl (isNon t)) := by
  intro c B H v w s hv hw Q q
  refine ⟨rep_non.mp hw, ?_⟩
  rw [rep_isNon hv]
  exact q _ B H s (Stp.refl m B H) (rep_bl.mpr rfl)
theorem denR_notN {t : T} : DenR m (fun x y H Q => y = .non ∧ Q (.bl (!decide (x = .non))) H) t .non (.bl (!isNon t)) := by
  intro c B H v w s hv hw Q q
  refine ⟨rep_non.mp hw, ?_⟩
  rw [rep_isNon hv]
  exact q _ B H s (Stp.refl m B H) (rep_bl.mpr rfl)
theorem atI_get {ts : List T} {vs : List V} {B : Hp} (h : RepL m ts vs B) {i : Int} {t : T} (e : atI ts i = some t) : ∃ v, atI vs i = some v ∧ Rep m t v B := by
  unfold atI at e ⊢
  rw [h.length]
  cases q : ixN ts.length i with
  | none => rw [q] at e; cases e
  | some j =>
    rw [q] at e
    exact h.get e
theorem denR_ixL {K : PySem.W.Frag} {ts : List T} {i : Int} {t : T} (e : atI ts i = some t) : DenR m (rIxL K) (.lst ts) (.int i) t := by
  intro c B H v w s hv hw Q q
  obtain ⟨a, vs, rfl, h1, h2⟩ := rep_lst.mp hv
  obtain ⟨u, e1, e2⟩ := atI_get h2 e
  exact ⟨a, vs, i, u, rfl, rep_int.mp hw, SqL.of (s.sub _ _ h1), e1, q u B H s (Stp.refl m B H) e2⟩
theorem denR_ixT {K : PySem.W.Frag} {ts : List T} {i : Int} {t : T} (e : atI ts i = some t) : DenR m (rIxT K) (.tup ts) (.int i) t := by
  intro c B H v w s hv hw Q q
  obtain ⟨a, vs, rfl, h1, h2⟩ := rep_tup.mp hv
  obtain ⟨u, e1, e2⟩ := atI_get h2 e
  exact ⟨a, vs, i, u, rfl, rep_int.mp hw, SqT.of (s.sub _ _ h1), e1, q u B H s (Stp.refl m B H) e2⟩
/-- a new list of frozen items -/
theorem new_lst {c : Pot} {B H : Hp} {ts : List T} {vs : List V} {p : Addr} (s : Sit m c B H) (hp : H p = none) (h : RepL m ts vs B) :
    Sit m c (upd B p (.lst vs)) (upd H p (.lst vs)) ∧ Stp m B H (upd B p (.lst vs)) (upd H p (.lst vs)) ∧ Rep m (.lst ts) (.ref p) (upd B p (.lst vs)) :=
  ⟨s.new hp, Stp.new hp s.sub, rep_lst.mpr ⟨p, vs, rfl, upd_same, h.mono (Stp.new (m := m) hp s.sub).b⟩⟩
theorem new_tup {c : Pot} {B H : Hp} {ts : List T} {vs : List V} {p : Addr} (s : Sit m c B H) (hp : H p = none) (h : RepL m ts vs B) :
    Sit m c (upd B p (.tup vs)) (upd H p (.tup vs)) ∧ Stp m B H (upd B p (.tup vs)) (upd H p (.tup vs)) ∧ Rep m (.tup ts) (.ref p) (upd B p (.tup vs)) :=
  ⟨s.new hp, Stp.new hp s.sub, rep_tup.mpr ⟨p, vs, rfl, upd_same, h.mono (Stp.new (m := m) hp s.sub).b⟩⟩
theorem denR_cat {ts us : List T} (hz : ts.length + us.length ≤ sizeLine) : DenR m rCat (.lst ts) (.lst us) (.lst (ts ++ us)) := by
  intro c B H v w s hv hw Q q
  obtain ⟨a, vs, rfl, h1, h2⟩ := rep_lst.mp hv
  obtain ⟨b, ws, rfl, g1, g2⟩ := rep_lst.mp hw
  refine ⟨a, b, vs, ws, rfl, rfl, s.sub _ _ h1, s.sub _ _ g1, by rw [h2.length, g2.length]; exact hz, fun p hp => ?_⟩
  obtain ⟨n1, n2, n3⟩ := new_lst s hp (h2.append g2)
  exact q _ _ _ n1 n2 n3
theorem denR_repI {i k : Int} (hk : 0 ≤ k) (hk2 : k < 1000) : DenR m rRep (.lst [.int i]) (.int k) (.lst (List.replicate k.toNat (.int i))) := by
  intro c B H v w s hv hw Q q
  obtain ⟨a, vs, rfl, h1, h2⟩ := rep_lst.mp hv
  have hvs : vs = [V.int i] := (repL_ints (ns := [i])).mp h2
  subst hvs
  refine ⟨a, k, _, rfl, rep_int.mp hw, s.sub _ _ h1, by omega, by omega, ?_, fun p hp => ?_⟩
  · show 1 * k.toNat ≤ sizeLine
    have : sizeLine = 16777216 := by decide
    omega
  · have e : ((List.replicate k.toNat [V.int i]).flatten) = (List.replicate k.toNat i).map V.int := by
      induction k.toNat with
      | zero => rfl
      | succ n ih => rw [List.replicate_succ, List.flatten_cons, ih]; rfl
    have hr : RepL m (List.replicate k.toNat (T.int i)) ((List.replicate k.toNat [V.int i]).flatten) B := by
      rw [e]
      have := (repL_ints (m := m) (H := B) (ns := List.replicate k.toNat i) (vs := (List.replicate k.toNat i).map V.int)).mpr rfl
      simpa using this
    obtain ⟨n1, n2, n3⟩ := new_lst s hp hr
    exact q _ _ _ n1 n2 n3
/-- what has a length -/
def lenT : T → Option Nat
  | .lst xs => some xs.length
  | .tup xs => some xs.length
  | _ => none
theorem denC_len {K : PySem.W.Frag} {t : T} {n : Nat} (h : lenT t = some n) : DenC m (fun xs H Q => ∃ x n, xs = [x] ∧ LenV K x H n ∧ Q (.int (n : Int)) H) [t] (.int n) := by
  intro c B H vs s hv Q q
  obtain ⟨v, r, rfl, h1, h2⟩ := repL_cons.mp hv
  rw [repL_nil] at h2
  subst h2
  have fin := q (.int n) B H s (Stp.refl m B H) (rep_int.mpr rfl)
  cases t <;> simp only [lenT] at h
  · cases h
  · cases h
  · cases h
  · cases h
  · cases h
  · cases h
    obtain ⟨a, vs, rfl, g1, g2⟩ := rep_lst.mp h1
    exact ⟨_, _, rfl, .inl ⟨vs, SqL.of (s.sub _ _ g1), g2.length.symm⟩, fin⟩
  · cases h
    obtain ⟨a, vs, rfl, g1, g2⟩ := rep_tup.mp h1
    exact ⟨_, _, rfl, .inr ⟨vs, SqT.of (s.sub _ _ g1), g2.length.symm⟩, fin⟩
  all_goals cases h
theorem denC_sum {K : PySem.W.Frag} {ns : List Int} : DenC m (rSum K) [.lst (ns.map T.int)] (.int ns.sum) := by
  intro c B H vs s hv Q q
  obtain ⟨v, r, rfl, h1, h2⟩ := repL_cons.mp hv
  rw [repL_nil] at h2
  subst h2
  obtain ⟨a, vs, rfl, g1, g2⟩ := rep_lst.mp h1
  rw [repL_ints] at g2
  subst g2
  exact ⟨a, ns, rfl, SqL.of (s.sub _ _ g1), q _ B H s (Stp.refl m B H) (rep_int.mpr rfl)⟩
theorem denC_all {K : PySem.W.Frag} {ns : List Bool} : DenC m (rAll K) [.lst (ns.map T.bl)] (.bl (ns.all id)) := by
  intro c B H vs s hv Q q
  obtain ⟨v, r, rfl, h1, h2⟩ := repL_cons.mp hv
  rw [repL_nil] at h2
  subst h2
  obtain ⟨a, vs, rfl, g1, g2⟩ := rep_lst.mp h1
  rw [repL_bools] at g2
  subst g2
  exact ⟨a, ns, rfl, SqL.of (s.sub _ _ g1), q _ B H s (Stp.refl m B H) (rep_bl.mpr rfl)⟩
theorem denC_any {K : PySem.W.Frag} {ns : List Bool} : DenC m (rAny K) [.lst (ns.map T.bl)] (.bl (ns.any id)) := by
  intro c B H vs s hv Q q
  obtain ⟨v, r, rfl, h1, h2⟩ := repL_cons.mp hv
  rw [repL_nil] at h2
  subst h2
  obtain ⟨a, vs, rfl, g1, g2⟩ := rep_lst.mp h1
  rw [repL_bools] at g2
  subst g2
  exact ⟨a, ns, rfl, SqL.of (s.sub _ _ g1), q _ B H s (Stp.refl m B H) (rep_bl.mpr rfl)⟩
theorem denC_abs {i : Int} : DenC m (fun xs H Q => ∃ i, xs = [V.int i] ∧ Q (V.int (if i < 0 then -i else i)) H) [.int i] (.int (if i < 0 then -i else i)) := by
  intro c B H vs s hv Q q
  have e : vs = [V.int i] := (repL_ints (ns := [i])).mp hv
  exact ⟨i, e, q _ B H s (Stp.refl m B H) (rep_int.mpr rfl)⟩
theorem denC_max2 {i j : Int} : DenC m (fun xs H Q => ∃ i j, xs = [V.int i, V.int j] ∧ Q (V.int (if j > i then j else i)) H) [.int i, .int j] (.int (if j > i then j else i)) := by
  intro c B H vs s hv Q q
  have e : vs = [V.int i, V.int j] := (repL_ints (ns := [i, j])).mp hv
  exact ⟨i, j, e, q _ B H s (Stp.refl m B H) (rep_int.mpr rfl)⟩
abbrev rInt1 : List V → Hp → VK → Prop := fun xs H Q => (∃ i, xs = [V.int i] ∧ Q (V.int i) H) ∨ ∃ k, xs = [V.bl k] ∧ Q (V.int (if k = true then 1 else 0)) H
theorem denC_intI {i : Int} : DenC m rInt1 [.int i] (.int i) := by
  intro c B H vs s hv Q q
  have e : vs = [V.int i] := (repL_ints (ns := [i])).mp hv
  exact .inl ⟨i, e, q _ B H s (Stp.refl m B H) (rep_int.mpr rfl)⟩
def b2i (b : Bool) : Int := if b = true then 1 else 0
theorem denC_intB {b : Bool} : DenC m rInt1 [.bl b] (.int (b2i b)) := by
  intro c B H vs s hv Q q
  have e : vs = [V.bl b] := (repL_bools (ns := [b])).mp hv
  exact .inr ⟨b, e, q _ B H s (Stp.refl m B H) (rep_int.mpr rfl)⟩
theorem denC_gcd {i j : Int} : DenC m rGcd [.int i, .int j] (.int (Nat.gcd i.natAbs j.natAbs : Nat)) := by
  intro c B H vs s hv Q q
  have e : vs = [V.int i, V.int j] := (repL_ints (ns := [i, j])).mp hv
  exact ⟨i, j, e, q _ B H s (Stp.refl m B H) (rep_int.mpr rfl)⟩
theorem denC_str {i : Int} (h : i.natAbs.log2 < 1920) : DenC m (fun xs H Q => ∃ i : Int, xs = [V.int i] ∧ i.natAbs.log2 < 1920 ∧ Q (V.str (Str.ofString (toString i))) H) [.int i] (.str (Str.ofString (toString i))) := by
  intro c B H vs s hv Q q
  have e : vs = [V.int i] := (repL_ints (ns := [i])).mp hv
  exact ⟨i, e, h, q _ B H s (Stp.refl m B H) (rep_str.mpr rfl)⟩
/-- list(xs), tuple(xs) -/
def itemsT : T → Option (List T)
  | .lst xs => some xs
  | .tup xs => some xs
  | _ => none
theorem denC_list {K : PySem.W.Frag} {t : T} {xs : List T} (h : itemsT t = some xs) :
    DenC m (fun xs H Q => ∃ p ys, xs = [V.ref p] ∧ (SqL K H p ys ∨ SqT K H p ys) ∧ ∀ l, H l = none → Q (V.ref l) (upd H l (HO.lst ys))) [t] (.lst xs) := by
  intro c B H vs s hv Q q
  obtain ⟨v, r, rfl, h1, h2⟩ := repL_cons.mp hv
  rw [repL_nil] at h2
  subst h2
  cases t <;> simp only [itemsT] at h
  · cases h
  · cases h
  · cases h
  · cases h
  · cases h
  · cases h
    obtain ⟨a, vs, rfl, g1, g2⟩ := rep_lst.mp h1
    refine ⟨a, vs, rfl, .inl (SqL.of (s.sub _ _ g1)), fun p hp => ?_⟩
    obtain ⟨n1, n2, n3⟩ := new_lst s hp g2
    exact q _ _ _ n1 n2 n3
  · cases h
    obtain ⟨a, vs, rfl, g1, g2⟩ := rep_tup.mp h1
    refine ⟨a, vs, rfl, .inr (SqT.of (s.sub _ _ g1)), fun p hp => ?_⟩
    obtain ⟨n1, n2, n3⟩ := new_lst s hp g2
    exact q _ _ _ n1 n2 n3
  all_goals cases h
end
end TW
set_option Elab.async false
set_option linter.all false
set_option maxRecDepth 100000
set_option maxHeartbeats 4000000
/-! Fw3: the rules for expressions. -/
namespace TW
open PySem L2

section
variable {S : Stat} {N : List Str} {n : Nat} {ι : Type} {XX : ι → Cx} {m : Pm} {env : TEnv} {c c1 c2 c3 : Pot}

/-! ### names, constants -/
theorem den_var {k : Nat} {t : T} (h : env[k]? = some (Sl.val t)) : Den m (tVar k) env c t c := by
  intro σ B H s r Q q
  obtain ⟨v, h1, h2⟩ := r.val k t h
  exact ⟨v, h1, q v B H s (Stp.refl m B H) h2⟩
theorem e_var (F : Fam S N n XX) (k : Nat) {x : Str} {pos : Pos} {t : T} (h : env[k]? = some (Sl.val t) := by rfl) (hN : N[k]? = some x := by rfl)
    (hv : ∀ i, Vis (XX i).env.scope x := by intro _; first | exact Or.inl rfl | exact Or.inr (Or.inl rfl) | exact Or.inr (Or.inr rfl))
    (hd : (x == ("__debug__" : Str)) = false := by decide) (hcd : (x == ("__classdict__" : Str)) = false := by decide) : EJ m XX (.Name x pos) env c t c :=
  EJ.of (fun i => pe_var (by rw [F.names i]; exact hN) (hv i) hd hcd) (den_var h)
theorem den_c {v : V} {t : T} (h : ∀ B, Rep m t v B) : Den m (tC v) env c t c := fun σ B H s _ Q q => q v B H s (Stp.refl m B H) (h B)
theorem e_int {i : Int} {j : Nat} {pos : Pos} : EJ m XX (.Constant (.int i) j pos) env c (.int i) c := EJ.of (fun _ => pe_int) (den_c fun _ => rep_int.mpr rfl)
theorem e_bl {b : Bool} {j : Nat} {pos : Pos} : EJ m XX (.Constant (.bool b) j pos) env c (.bl b) c := EJ.of (fun _ => pe_bl) (den_c fun _ => rep_bl.mpr rfl)
theorem e_non {j : Nat} {pos : Pos} : EJ m XX (.Constant .none j pos) env c .non c := EJ.of (fun _ => pe_non) (den_c fun _ => rep_non.mpr rfl)
theorem e_str {z : Str} {j : Nat} {pos : Pos} : EJ m XX (.Constant (.str z) j pos) env c (.str z) c := EJ.of (fun _ => pe_str) (den_c fun _ => rep_str.mpr rfl)
/-- a constant of the module -/
theorem e_globI (F : Fam S N n XX) {x : Str} {pos : Pos} {i : Int} (hm : ∃ t, S.mg x = some (.int i t)) (hg : ∀ j, Gl (XX j) x := by intro _; rfl) (hd : (x == ("__debug__" : Str)) = false := by decide) : EJ m XX (.Name x pos) env c (.int i) c := by
  obtain ⟨t, ht⟩ := hm
  exact EJ.of (fun j => pe_glob (hg j) (v := .int i) (by rw [F.mg j]; exact ht) (show ∃ t', Value.int i t = Value.int i t' from ⟨t, rfl⟩) hd) (den_c fun _ => rep_int.mpr rfl)

/-! ### operators -/
theorem e_bin {a b : Expr} {op : Operator} {r : R2} {pos : Pos} {x y z : T} (ho : ∀ i, OpR (XX i) (binaryOp op) r) (ha : EJ m XX a env c x c1) (hb : EJ m XX b env c1 y c2) (hr : DenR m r x y z) : EJ m XX (.BinOp a op b pos) env c z c2 :=
  EJ.of (fun i => pe_op (ho i) (pe_rd i) (pe_rd i)) (den_op ha hb hr)
theorem e_add {a b : Expr} {pos : Pos} {i j : Int} (ha : EJ m XX a env c (.int i) c1) (hb : EJ m XX b env c1 (.int j) c2) : EJ m XX (.BinOp a .Add b pos) env c (.int (i + j)) c2 := e_bin (fun _ => op_add) ha hb denR_I0
theorem e_sub {a b : Expr} {pos : Pos} {i j : Int} (ha : EJ m XX a env c (.int i) c1) (hb : EJ m XX b env c1 (.int j) c2) : EJ m XX (.BinOp a .Sub b pos) env c (.int (i - j)) c2 := e_bin (fun _ => op_sub) ha hb denR_I0
theorem e_mul {a b : Expr} {pos : Pos} {i j : Int} (ha : EJ m XX a env c (.int i) c1) (hb : EJ m XX b env c1 (.int j) c2) (h : CMulW i j) : EJ m XX (.BinOp a .Mult b pos) env c (.int (i * j)) c2 := e_bin (fun _ => op_mulW) ha hb (denR_I h)
theorem e_mod {a b : Expr} {pos : Pos} {i j : Int} (ha : EJ m XX a env c (.int i) c1) (hb : EJ m XX b env c1 (.int j) c2) (h : 0 < j) : EJ m XX (.BinOp a .Mod b pos) env c (.int (i % j)) c2 := e_bin (fun _ => op_mod) ha hb (denR_I h)
theorem e_div {a b : Expr} {pos : Pos} {i j : Int} (ha : EJ m XX a env c (.int i) c1) (hb : EJ m XX b env c1 (.int j) c2) (h : CDivW i j) : EJ m XX (.BinOp a .FloorDiv b pos) env c (.int (i / j)) c2 := e_bin (fun _ => op_fdivW) ha hb (denR_I h)
theorem e_pow {a b : Expr} {pos : Pos} {i j : Int} (ha : EJ m XX a env c (.int i) c1) (hb : EJ m XX b env c1 (.int j) c2) (h : CPow i j) : EJ m XX (.BinOp a .Pow b pos) env c (.int (i ^ j.toNat)) c2 := e_bin (fun _ => op_pow) ha hb (denR_I h)
theorem e_cat {a b : Expr} {pos : Pos} {ts us : List T} (ha : EJ m XX a env c (.lst ts) c1) (hb : EJ m XX b env c1 (.lst us) c2) (h : ts.length + us.length ≤ sizeLine) : EJ m XX (.BinOp a .Add b pos) env c (.lst (ts ++ us)) c2 := e_bin (fun _ => op_cat) ha hb (denR_cat h)
theorem e_repI {a b : Expr} {pos : Pos} {i k : Int} (ha : EJ m XX a env c (.lst [.int i]) c1) (hb : EJ m XX b env c1 (.int k) c2) (h : 0 ≤ k) (h2 : k < 1000) : EJ m XX (.BinOp a .Mult b pos) env c (.lst (List.replicate k.toNat (.int i))) c2 := e_bin (fun _ => op_rep) ha hb (denR_repI h h2)
theorem e_neg {a : Expr} {pos : Pos} {i : Int} (ha : EJ m XX a env c (.int i) c1) : EJ m XX (.UnaryOp .USub a pos) env c (.int (-i)) c1 :=
  EJ.of (fun i => pe_un un_neg (pe_rd i)) (den_un ha (by
    intro c B H v s hv Q q
    exact ⟨i, rep_int.mp hv, q _ B H s (Stp.refl m B H) (rep_int.mpr rfl)⟩))
theorem e_cmp {a b : Expr} {op : CmpOp} {r : R2} {pos : Pos} {x y z : T} (ho : ∀ i, OpR (XX i) (compareOp op) r) (ha : EJ m XX a env c x c1) (hb : EJ m XX b env c1 y c2) (hr : DenR m r x y z)
    (hm : behindInMarks op b = false := by first | exact nomark _ | rfl) : EJ m XX (.Compare a [op] [b] pos) env c z c2 :=
  EJ.of (fun i => pe_cmpR (ho i) (pe_rd i) (pe_rd i) hm) (den_op ha hb hr)
theorem t_cmp {a b : Expr} {op : CmpOp} {r : R2} {pos : Pos} {x y : T} {k : Bool} (ho : ∀ i, OpR (XX i) (compareOp op) r) (ha : EJ m XX a env c x c1) (hb : EJ m XX b env c1 y c2) (hr : DenR m r x y (.bl k))
    (hm : behindInMarks op b = false := by first | exact nomark _ | rfl) : TJ m XX (.Compare a [op] [b] pos) env c k c2 :=
  TJ.of (fun i => pt_cmpR (ho i) (pe_rd i) (pe_rd i) hm) (fun σ B H s r Q q => den_op ha hb hr σ B H s r _ fun v B' H' s' t' rv => ⟨k, rep_bl.mp rv, q B' H' s' t'⟩)
theorem e_eqI {a b : Expr} {pos : Pos} {i j : Int} (ha : EJ m XX a env c (.int i) c1) (hb : EJ m XX b env c1 (.int j) c2) : EJ m XX (.Compare a [.Eq] [b] pos) env c (.bl (decide (i = j))) c2 := e_cmp (fun _ => op_eq) ha hb denR_eqI
theorem e_neI {a b : Expr} {pos : Pos} {i j : Int} (ha : EJ m XX a env c (.int i) c1) (hb : EJ m XX b env c1 (.int j) c2) : EJ m XX (.Compare a [.NotEq] [b] pos) env c (.bl (!decide (i = j))) c2 := e_cmp (fun _ => op_ne) ha hb denR_neI
theorem e_neB {a b : Expr} {pos : Pos} {i j : Bool} (ha : EJ m XX a env c (.bl i) c1) (hb : EJ m XX b env c1 (.bl j) c2) : EJ m XX (.Compare a [.NotEq] [b] pos) env c (.bl (i != j)) c2 := e_cmp (fun _ => op_ne) ha hb denR_neB
theorem e_lt {a b : Expr} {pos : Pos} {i j : Int} (ha : EJ m XX a env c (.int i) c1) (hb : EJ m XX b env c1 (.int j) c2) : EJ m XX (.Compare a [.Lt] [b] pos) env c (.bl (decide (i < j))) c2 := e_cmp (fun _ => op_lt) ha hb denR_B0
theorem e_le {a b : Expr} {pos : Pos} {i j : Int} (ha : EJ m XX a env c (.int i) c1) (hb : EJ m XX b env c1 (.int j) c2) : EJ m XX (.Compare a [.LtE] [b] pos) env c (.bl (decide (i ≤ j))) c2 := e_cmp (fun _ => op_le) ha hb denR_B0
theorem e_gt {a b : Expr} {pos : Pos} {i j : Int} (ha : EJ m XX a env c (.int i) c1) (hb : EJ m XX b env c1 (.int j) c2) : EJ m XX (.Compare a [.Gt] [b] pos) env c (.bl (decide (j < i))) c2 := e_cmp (fun _ => op_gt) ha hb denR_B0
theorem e_ge {a b : Expr} {pos : Pos} {i j : Int} (ha : EJ m XX a env c (.int i) c1) (hb : EJ m XX b env c1 (.int j) c2) : EJ m XX (.Compare a [.GtE] [b] pos) env c (.bl (decide (j ≤ i))) c2 := e_cmp (fun _ => op_ge) ha hb denR_B0
theorem TJ.to {e : Expr} {k k' : Bool} (h : TJ m XX e env c k c1) (q : k = k') : TJ m XX e env c k' c1 := q ▸ h
theorem EJ.to {e : Expr} {t t' : T} (h : EJ m XX e env c t c1) (q : t = t') : EJ m XX e env c t' c1 := q ▸ h
theorem t_eqI {a b : Expr} {pos : Pos} {i j : Int} {k : Bool} (ha : EJ m XX a env c (.int i) c1) (hb : EJ m XX b env c1 (.int j) c2) (q : decide (i = j) = k) : TJ m XX (.Compare a [.Eq] [b] pos) env c k c2 := (t_cmp (fun _ => op_eq) ha hb denR_eqI).to q
theorem t_neI {a b : Expr} {pos : Pos} {i j : Int} {k : Bool} (ha : EJ m XX a env c (.int i) c1) (hb : EJ m XX b env c1 (.int j) c2) (q : (!decide (i = j)) = k) : TJ m XX (.Compare a [.NotEq] [b] pos) env c k c2 := (t_cmp (fun _ => op_ne) ha hb denR_neI).to q
theorem t_neS {a b : Expr} {pos : Pos} {i j : Str} {k : Bool} (ha : EJ m XX a env c (.str i) c1) (hb : EJ m XX b env c1 (.str j) c2) (q : (!decide (i = j)) = k) : TJ m XX (.Compare a [.NotEq] [b] pos) env c k c2 := (t_cmp (fun _ => op_ne) ha hb denR_neS).to q
theorem e_eqS {a b : Expr} {pos : Pos} {i j : Str} (ha : EJ m XX a env c (.str i) c1) (hb : EJ m XX b env c1 (.str j) c2) : EJ m XX (.Compare a [.Eq] [b] pos) env c (.bl (decide (i = j))) c2 := e_cmp (fun _ => op_eq) ha hb denR_eqS
theorem t_lt {a b : Expr} {pos : Pos} {i j : Int} {k : Bool} (ha : EJ m XX a env c (.int i) c1) (hb : EJ m XX b env c1 (.int j) c2) (q : decide (i < j) = k) : TJ m XX (.Compare a [.Lt] [b] pos) env c k c2 := (t_cmp (fun _ => op_lt) ha hb denR_B0).to q
theorem t_le {a b : Expr} {pos : Pos} {i j : Int} {k : Bool} (ha : EJ m XX a env c (.int i) c1) (hb : EJ m XX b env c1 (.int j) c2) (q : decide (i ≤ j) = k) : TJ m XX (.Compare a [.LtE] [b] pos) env c k c2 := (t_cmp (fun _ => op_le) ha hb denR_B0).to q
theorem t_gt {a b : Expr} {pos : Pos} {i j : Int} {k : Bool} (ha : EJ m XX a env c (.int i) c1) (hb : EJ m XX b env c1 (.int j) c2) (q : decide (j < i) = k) : TJ m XX (.Compare a [.Gt] [b] pos) env c k c2 := (t_cmp (fun _ => op_gt) ha hb denR_B0).to q
theorem t_ge {a b : Expr} {pos : Pos} {i j : Int} {k : Bool} (ha : EJ m XX a env c (.int i) c1) (hb : EJ m XX b env c1 (.int j) c2) (q : decide (j ≤ i) = k) : TJ m XX (.Compare a [.GtE] [b] pos) env c k c2 := (t_cmp (fun _ => op_ge) ha hb denR_B0).to q
theorem e_isN {a b : Expr} {pos : Pos} {t : T} (ha : EJ m XX a env c t c1) (hb : EJ m XX b env c1 .non c2) : EJ m XX (.Compare a [.Is] [b] pos) env c (.bl (isNon t)) c2 := e_cmp (fun _ => op_isN) ha hb denR_isN
theorem e_notN {a b : Expr} {pos : Pos} {t : T} (ha : EJ m XX a env c t c1) (hb : EJ m XX b env c1 .non c2) : EJ m XX (.Compare a [.IsNot] [b] pos) env c (.bl (!isNon t)) c2 := e_cmp (fun _ => op_notN) ha hb denR_notN
theorem t_isN {a b : Expr} {pos : Pos} {t : T} {k : Bool} (ha : EJ m XX a env c t c1) (hb : EJ m XX b env c1 .non c2) (q : isNon t = k) : TJ m XX (.Compare a [.Is] [b] pos) env c k c2 := (t_cmp (fun _ => op_isN) ha hb denR_isN).to q
/-- x < y < z -/
theorem den_chainI {r r' : Int → Int → Bool} {ta tb tc : TE} {i j k : Int} {o : Bool} (ha : Den m ta env c (.int i) c1) (hb : Den m tb env c1 (.int j) c1) (hc : r i j = true → Den m tc env c1 (.int k) c1)
    (q : (r i j && r' j k) = o) : Den m (tChain (rI0 fun a b => .bl (r a b)) (rI0 fun a b => .bl (r' a b)) ta tb tc) env c (.bl o) c1 := by
  intro σ B H s rr Q qq
  refine ha σ B H s rr _ fun v B1 H1 s1 t1 rv => ?_
  refine hb σ B1 H1 s1 (rr.step t1) _ fun w B2 H2 s2 t2 rw_ => ?_
  refine ⟨i, j, rep_int.mp rv, rep_int.mp rw_, r i j, rfl, ?_⟩
  cases z : r i j with
  | true =>
    rw [z, Bool.true_and] at q
    rw [if_pos rfl]
    refine hc z σ B2 H2 s2 (rr.step (t1.trans t2)) _ fun u B3 H3 s3 t3 ru => ?_
    refine ⟨j, k, rep_int.mp rw_, rep_int.mp ru, ?_⟩
    show Q (V.bl (r' j k)) H3
    rw [q]
    exact qq _ B3 H3 s3 ((t1.trans t2).trans t3) (rep_bl.mpr rfl)
  | false =>
    rw [z, Bool.false_and] at q
    rw [if_neg Bool.false_ne_true]
    rw [← q] at qq
    exact qq _ B2 H2 s2 (t1.trans t2) (rep_bl.mpr rfl)
theorem t_chainLeLe {a b d : Expr} {pos : Pos} {i j k : Int} {o : Bool} (ha : EJ m XX a env c (.int i) c1) (hb : EJ m XX b env c1 (.int j) c1) (hd : EJ m XX d env c1 (.int k) c1) (q : (decide (i ≤ j) && decide (j ≤ k)) = o)
    (hm : lastMarks [.LtE, .LtE] [b, d] = false := by rfl) : TJ m XX (.Compare a [.LtE, .LtE] [b, d] pos) env c o c1 :=
  TJ.of (fun i => pt_chain op_le op_le (pe_rd i) (pe_rd i) (pe_rd i) hm) (fun σ B H s r Q qq => den_chainI ha hb (fun _ => hd) q σ B H s r _ fun v B' H' s' t' rv => ⟨o, rep_bl.mp rv, qq B' H' s' t'⟩)

/-! ### and, or, not, if -/
theorem t_val {e : Expr} {k : Bool} (h : EJ m XX e env c (.bl k) c1) (hp : ∀ i whole, PySem.isTrue e (XX i).env whole = (do let v ← whole; standAt e.pos; holding [v] (truthy v)) := by intro _ _; rfl) : TJ m XX e env c k c1 :=
  TJ.of (fun i => pt_val (pe_rd i) (hp i)) (fun σ B H s r Q q => h σ B H s r _ fun v B' H' s' t' rv => ⟨k, rep_bl.mp rv, q B' H' s' t'⟩)
theorem t_not {e : Expr} {pos : Pos} {k k' : Bool} (h : TJ m XX e env c k c1) (q : (!k) = k' := by rfl) : TJ m XX (.UnaryOp .Not e pos) env c k' c1 :=
  q ▸ TJ.of (fun i => pt_not (pt_rd i)) (fun σ B H s r Q q => h σ B H s r _ fun B' H' s' t' => q B' H' s' t')
theorem WJ.t {e : Expr} {k : Bool} (h : WJ m XX e env c k c1) : TJ m XX e env c k c1 := TJ.of (fun i => (pw_rd i).pt) h
theorem w_and1 {a : Expr} {pos : Pos} {k : Bool} (h : TJ m XX a env c k c1) : WJ m XX (.BoolOp .And [a] pos) env c k c1 := WJ.of (fun i => pw_and1 (pt_rd i)) h
theorem w_or1 {a : Expr} {pos : Pos} {k : Bool} (h : TJ m XX a env c k c1) : WJ m XX (.BoolOp .Or [a] pos) env c k c1 := WJ.of (fun i => pw_or1 (pt_rd i)) h
theorem w_andT {a b : Expr} {rest : List Expr} {pos : Pos} {k : Bool} (h : TJ m XX a env c true c1) (h2 : WJ m XX (.BoolOp .And (b :: rest) pos) env c1 k c2) : WJ m XX (.BoolOp .And (a :: b :: rest) pos) env c k c2 :=
  WJ.of (fun i => pw_and (pt_rd i) (pw_rd i)) fun σ B H s r Q q => h σ B H s r _ fun B1 H1 s1 t1 => by
    show rdW XX _ σ H1 Q
    exact h2 σ B1 H1 s1 (r.step t1) Q fun B2 H2 s2 t2 => q B2 H2 s2 (t1.trans t2)
theorem w_andF {a b : Expr} {rest : List Expr} {pos : Pos} (h : TJ m XX a env c false c1) : WJ m XX (.BoolOp .And (a :: b :: rest) pos) env c false c1 :=
  WJ.of (fun i => pw_and (pt_rd i) (pw_rd i)) fun σ B H s r Q q => h σ B H s r _ fun B1 H1 s1 t1 => q B1 H1 s1 t1
theorem w_orF {a b : Expr} {rest : List Expr} {pos : Pos} {k : Bool} (h : TJ m XX a env c false c1) (h2 : WJ m XX (.BoolOp .Or (b :: rest) pos) env c1 k c2) : WJ m XX (.BoolOp .Or (a :: b :: rest) pos) env c k c2 :=
  WJ.of (fun i => pw_or (pt_rd i) (pw_rd i)) fun σ B H s r Q q => h σ B H s r _ fun B1 H1 s1 t1 => by
    show rdW XX _ σ H1 Q
    exact h2 σ B1 H1 s1 (r.step t1) Q fun B2 H2 s2 t2 => q B2 H2 s2 (t1.trans t2)
theorem w_orT {a b : Expr} {rest : List Expr} {pos : Pos} (h : TJ m XX a env c true c1) : WJ m XX (.BoolOp .Or (a :: b :: rest) pos) env c true c1 :=
  WJ.of (fun i => pw_or (pt_rd i) (pw_rd i)) fun σ B H s r Q q => h σ B H s r _ fun B1 H1 s1 t1 => q B1 H1 s1 t1
theorem e_one {a : Expr} {op : BoolOp} {pos : Pos} {t : T} (h : EJ m XX a env c t c1) : EJ m XX (.BoolOp op [a] pos) env c t c1 := EJ.of (fun i => pe_one (pe_rd i)) h
theorem e_andT {a b : Expr} {rest : List Expr} {pos : Pos} {t : T} (h : EJ m XX a env c (.bl true) c1) (h2 : EJ m XX (.BoolOp .And (b :: rest) pos) env c1 t c2) : EJ m XX (.BoolOp .And (a :: b :: rest) pos) env c t c2 :=
  EJ.of (fun i => pe_and (pe_rd i) (pe_rd i)) fun σ B H s r Q q => h σ B H s r _ fun v B1 H1 s1 t1 rv => ⟨true, rep_bl.mp rv, by
    show rdE XX _ σ H1 Q
    exact h2 σ B1 H1 s1 (r.step t1) Q fun u B2 H2 s2 t2 => q u B2 H2 s2 (t1.trans t2)⟩
theorem e_andF {a b : Expr} {rest : List Expr} {pos : Pos} (h : EJ m XX a env c (.bl false) c1) : EJ m XX (.BoolOp .And (a :: b :: rest) pos) env c (.bl false) c1 :=
  EJ.of (fun i => pe_and (pe_rd i) (pe_rd i)) fun σ B H s r Q q => h σ B H s r _ fun v B1 H1 s1 t1 rv => ⟨false, rep_bl.mp rv, q _ B1 H1 s1 t1 (rep_bl.mpr rfl)⟩
theorem e_orF {a b : Expr} {rest : List Expr} {pos : Pos} {t : T} (h : EJ m XX a env c (.bl false) c1) (h2 : EJ m XX (.BoolOp .Or (b :: rest) pos) env c1 t c2) : EJ m XX (.BoolOp .Or (a :: b :: rest) pos) env c t c2 :=
  EJ.of (fun i => pe_or (pe_rd i) (pe_rd i)) fun σ B H s r Q q => h σ B H s r _ fun v B1 H1 s1 t1 rv => ⟨false, rep_bl.mp rv, by
    show rdE XX _ σ H1 Q
    exact h2 σ B1 H1 s1 (r.step t1) Q fun u B2 H2 s2 t2 => q u B2 H2 s2 (t1.trans t2)⟩
theorem e_orT {a b : Expr} {rest : List Expr} {pos : Pos} (h : EJ m XX a env c (.bl true) c1) : EJ m XX (.BoolOp .Or (a :: b :: rest) pos) env c (.bl true) c1 :=
  EJ.of (fun i => pe_or (pe_rd i) (pe_rd i)) fun σ B H s r Q q => h σ B H s r _ fun v B1 H1 s1 t1 rv => ⟨true, rep_bl.mp rv, q _ B1 H1 s1 t1 (rep_bl.mpr rfl)⟩
/-- and, or with a pure right side -/
theorem e_and {a b : Expr} {rest : List Expr} {pos : Pos} {x y : Bool} (h : EJ m XX a env c (.bl x) c1) (h2 : x = true → EJ m XX (.BoolOp .And (b :: rest) pos) env c1 (.bl y) c1) : EJ m XX (.BoolOp .And (a :: b :: rest) pos) env c (.bl (x && y)) c1 := by
  cases x with
  | true => exact e_andT h (h2 rfl)
  | false => exact e_andF h
theorem e_or {a b : Expr} {rest : List Expr} {pos : Pos} {x y : Bool} (h : EJ m XX a env c (.bl x) c1) (h2 : x = false → EJ m XX (.BoolOp .Or (b :: rest) pos) env c1 (.bl y) c1) : EJ m XX (.BoolOp .Or (a :: b :: rest) pos) env c (.bl (x || y)) c1 := by
  cases x with
  | true => exact e_orT h
  | false => exact e_orF h (h2 rfl)
theorem e_notV {a : Expr} {pos : Pos} {k : Bool} (h : EJ m XX a env c (.bl k) c1) : EJ m XX (.UnaryOp .Not a pos) env c (.bl (!k)) c1 :=
  EJ.of (fun i => pe_not (pe_rd i)) fun σ B H s r Q q => h σ B H s r _ fun v B1 H1 s1 t1 rv => ⟨k, rep_bl.mp rv, q _ B1 H1 s1 t1 (rep_bl.mpr rfl)⟩
theorem e_ifT {a b d : Expr} {pos : Pos} {t : T} (h : TJ m XX d env c true c1) (ha : EJ m XX a env c1 t c2) : EJ m XX (.IfExp d a b pos) env c t c2 :=
  EJ.of (fun i => pe_ifExp (pt_rd i) (pe_rd i) (pe_rd i)) fun σ B H s r Q q => h σ B H s r _ fun B1 H1 s1 t1 => by
    show rdE XX a σ H1 Q
    exact ha σ B1 H1 s1 (r.step t1) Q fun u B2 H2 s2 t2 => q u B2 H2 s2 (t1.trans t2)
theorem e_ifF {a b d : Expr} {pos : Pos} {t : T} (h : TJ m XX d env c false c1) (hb : EJ m XX b env c1 t c2) : EJ m XX (.IfExp d a b pos) env c t c2 :=
  EJ.of (fun i => pe_ifExp (pt_rd i) (pe_rd i) (pe_rd i)) fun σ B H s r Q q => h σ B H s r _ fun B1 H1 s1 t1 => by
    show rdE XX b σ H1 Q
    exact hb σ B1 H1 s1 (r.step t1) Q fun u B2 H2 s2 t2 => q u B2 H2 s2 (t1.trans t2)

/-! ### argument lists, displays -/
theorem a_nil : AJ m XX [] env c [] c := AJ.of (fun _ => pa_nil) fun σ B H s r Q q => q [] B H s (Stp.refl m B H) (by rw [repL_nil])
theorem a_cons {e : Expr} {es : List Expr} {t : T} {ts : List T} (he : EJ m XX e env c t c1) (hr : AJ m XX es env c1 ts c2)
    (hs : ∀ i, starEach (e :: es) (XX i).env = (false, eval e (XX i).env) :: starEach es (XX i).env := by intro _; rfl) : AJ m XX (e :: es) env c (t :: ts) c2 :=
  AJ.of (fun i => pa_cons (pe_rd i) (pa_rd i) (hs i)) fun σ B H s r Q q => he σ B H s r _ fun v B1 H1 s1 t1 rv => hr σ B1 H1 s1 (r.step t1) _ fun vs B2 H2 s2 t2 rvs =>
    q _ B2 H2 s2 (t1.trans t2) (repL_cons.mpr ⟨_, _, rfl, rv.mono t2.b, rvs⟩)
theorem e_tup {es : List Expr} {k : Nat} {pos : Pos} {ts : List T} (h : AJ m XX es env c ts c1) (hz : ts.length ≤ sizeLine := by exact Nat.le_of_ble_eq_true rfl) : EJ m XX (.Tuple es k pos) env c (.tup ts) c1 :=
  EJ.of (fun i => pe_tup (pa_rd i)) fun σ B H s r Q q => h σ B H s r _ fun vs B1 H1 s1 t1 rvs => ⟨by rw [rvs.length]; exact hz, fun p hp => by
    obtain ⟨n1, n2, n3⟩ := new_tup s1 hp rvs
    exact q _ _ _ n1 (t1.trans n2) n3⟩
theorem e_lst {es : List Expr} {pos : Pos} {ts : List T} (h : AJ m XX es env c ts c1) (hz : ts.length ≤ sizeLine := by exact Nat.le_of_ble_eq_true rfl) : EJ m XX (.List es pos) env c (.lst ts) c1 :=
  EJ.of (fun i => pe_lst (pa_rd i)) fun σ B H s r Q q => h σ B H s r _ fun vs B1 H1 s1 t1 rvs => ⟨by rw [rvs.length]; exact hz, fun p hp => by
    obtain ⟨n1, n2, n3⟩ := new_lst s1 hp rvs
    exact q _ _ _ n1 (t1.trans n2) n3⟩

/-! ### items, slices -/
theorem e_ixL (F : Fam S N n XX) {a b : Expr} {pos : Pos} {ts : List T} {i : Int} {t : T} (ha : EJ m XX a env c (.lst ts) c1) (hb : EJ m XX b env c1 (.int i) c2) (h : atI ts i = some t)
    (hp : PlainIx b := by exact fun _ _ => rfl) : EJ m XX (.Subscript a b pos) env c t c2 :=
  EJ.of (te := tOp (rIxL S.K) (rdE XX a) (rdE XX b)) (fun j => by
    have := pe_ix (X := XX j) (pos := pos) ix_list (pe_rd (e := a) j) (pe_rd (e := b) j) hp
    rw [F.k j] at this
    exact this) (den_op ha hb (denR_ixL h))
end
end TW
set_option Elab.async false
set_option linter.all false
set_option maxRecDepth 100000
set_option maxHeartbeats 4000000
/-! Fw4: slices, calls, isinstance, fields. -/
namespace TW
open PySem L2

/-- xs[lo:hi] -/
def cutL {α : Type} (xs : List α) (lo hi : Option Int) : List α := (xs.drop (HT.sIx xs.length 0 lo)).take (HT.sIx xs.length xs.length hi - HT.sIx xs.length 0 lo)

/-! ### what is known of the written part -/
structure KF (S : Stat) (CR CH : Addr) : Prop where
  clR : Cls S.K CR
  clH : Cls S.K CH
  nT : NoAttr S.K CR "own_top"
  nB : NoAttr S.K CR "own_bottom"
  nL : NoAttr S.K CH "own_letters"
  nW : NoAttr S.K CH "own_width"
  cR : PySem.W.findIn S.K (.ref CR) "__class__" = some (some (.builtin "object.__class__"))
  cH : PySem.W.findIn S.K (.ref CH) "__class__" = some (some (.builtin "object.__class__"))
  gC : PySem.W.specialIn S.K (.builtin "object.__class__") "__get__" = some (some (.builtin "getset_descriptor.__get__"))
  tC : PySem.W.takesIn S.K (.builtin "object.__class__") = some true
  oR : PySem.W.mroIn S.K CR (.type "object") = some true
  oH : PySem.W.mroIn S.K CH (.type "object") = some true
  kRi : PySem.W.kitOne S.K (.ref CR) (.type "int") = some false
  kiR : PySem.W.kitOne S.K (.type "int") (.ref CR) = some false
  kRR : PySem.W.kitOne S.K (.ref CR) (.ref CR) = some true
  kHH : PySem.W.kitOne S.K (.ref CH) (.ref CH) = some true
  gR : S.mg "Ratio" = some (.ref CR)
  gH : S.mg "House" = some (.ref CH)
  keR : PySem.W.keepIn S.K (.ref CR) = true
  keH : PySem.W.keepIn S.K (.ref CH) = true

/-- the type of a value -/
def tyT (m : Pm) : T → Option Value
  | .non => some (.type "NoneType")
  | .bl _ => some (.type "bool")
  | .int _ => some (.type "int")
  | .str _ => some (.type "str")
  | .rat _ => some (.ref m.CR)
  | .lst _ => some (.type "list")
  | .tup _ => some (.type "tuple")
  | .house _ _ => some (.ref m.CH)
  | .pot => none
  | .new _ => none
  | .at _ _ => none
theorem tyT_ok {S : Stat} {m : Pm} (kf : KF S m.CR m.CH) {t : T} {u : Value} (h : tyT m t = some u) {v : V} {B H : Hp} (s : Same B H) (r : Rep m t v B) : TyX S.K H v u := by
  cases t <;> simp only [tyT] at h
  · cases h; rw [rep_non.mp r]; exact .base .non
  · cases h; rw [rep_bl.mp r]; exact .base (.bl _)
  · cases h; rw [rep_int.mp r]; exact .base (.int _)
  · cases h; rw [rep_str.mp r]; exact .base (.str _)
  · cases h
    obtain ⟨a, dx, rfl, h1⟩ := rep_rat.mp r
    exact .base (.ins (s _ _ h1) kf.clR kf.cR kf.gC kf.tC kf.oR)
  · cases h
    obtain ⟨a, vs, rfl, h1, _⟩ := rep_lst.mp r
    exact .base (.lst (s _ _ h1))
  · cases h
    obtain ⟨a, vs, rfl, h1, _⟩ := rep_tup.mp r
    exact .base (.tup (s _ _ h1))
  · cases h
    obtain ⟨a, dx, l, rfl, h1, _⟩ := rep_house.mp r
    exact .base (.ins (s _ _ h1) kf.clH kf.cH kf.gC kf.tC kf.oH)
  all_goals cases h

/-! ### a def's promise upon data -/
abbrev Rel := Pot → List T → T → Pot → Prop
def spD (CR CH : Addr) (R : Rel) : Sp := fun vs H Q _ => ∃ (p0 : Option Addr) (h0 : Hp) (B : Hp) (c : Pot) (ts : List T) (t : T) (c' : Pot), R c ts t c' ∧ Sit ⟨CR, CH, p0, h0⟩ c B H ∧ RepL ⟨CR, CH, p0, h0⟩ ts vs B ∧
  ∀ v B' H', Sit ⟨CR, CH, p0, h0⟩ c' B' H' → Stp ⟨CR, CH, p0, h0⟩ B H B' H' → Rep ⟨CR, CH, p0, h0⟩ t v B' → Q v H'
structure Dn (S : Stat) (CR CH : Addr) (x : Str) (ps : List Str) (k : Nat) (R : Rel) : Prop where
  ex : ∃ f fd, FnOk S.P S.w S.K S.mg S.base CX0 k f fd ps (spD CR CH R) ∧ S.mg x = some (.ref f) ∧ PySem.W.keepIn S.K (.ref f) = true ∧ Binds S.K fd ps []
/-- no draw -/
def pureR (R : List T → T → Prop) : Rel := fun c ts t c' => c' = c ∧ R ts t

section
variable {S : Stat} {N : List Str} {n : Nat} {ι : Type} {XX : ι → Cx} {m : Pm} {env : TEnv} {c c1 c2 c3 : Pot}
theorem Fam.fn (F : Fam S N n XX) {CX : CXT} {k : Nat} {f : Addr} {fd : FuncData} {ps : List Str} {sp : Sp} (G : FnOk S.P S.w S.K S.mg S.base CX k f fd ps sp) (i : ι) : FnOk (XX i).prog (XX i).w (XX i).K (XX i).mg (XX i).base CX k f fd ps sp := by
  rw [F.prog i, F.w i, F.k i, F.mg i, F.base i]
  exact G

/-! ### slices -/
theorem den_sl {r : V → Option Int → Option Int → Hp → VK → Prop} {te : TE} {tl th : TO} {x z : T} {lo hi : Option Int} (ha : Den m te env c x c1) (hl : DenO m tl env c1 lo c1) (hh : DenO m th env c1 hi c1)
    (hr : ∀ c B H v, Sit m c B H → Rep m x v B → ∀ Q : VK, (∀ u B' H', Sit m c B' H' → Stp m B H B' H' → Rep m z u B' → Q u H') → r v lo hi H Q) : Den m (tSl r te tl th) env c z c1 := by
  intro σ B H s rr Q q
  refine ha σ B H s rr _ fun v B1 H1 s1 t1 rv => ?_
  refine hl σ B1 H1 s1 (rr.step t1) _ fun B2 H2 s2 t2 => ?_
  refine hh σ B2 H2 s2 (rr.step (t1.trans t2)) _ fun B3 H3 s3 t3 => ?_
  exact hr c1 B3 H3 v s3 ((rv.mono t2.b).mono t3.b) Q fun u B4 H4 s4 t4 ru => q u B4 H4 s4 (((t1.trans t2).trans t3).trans t4) ru
theorem o_none : OJ m XX none env c none c := OJ.of (fun _ => po_none) fun σ B H s r Q q => q B H s (Stp.refl m B H)
theorem o_some {e : Expr} {i : Int} (h : EJ m XX e env c (.int i) c1) : OJ m XX (some e) env c (some i) c1 :=
  OJ.of (fun i => po_some (pe_rd i)) fun σ B H s r Q q => h σ B H s r _ fun v B1 H1 s1 t1 rv => ⟨i, rep_int.mp rv, q B1 H1 s1 t1⟩
theorem e_slL (F : Fam S N n XX) {e : Expr} {lo hi : Option Expr} {pos p2 : Pos} {xs : List T} {l h : Option Int} (he : EJ m XX e env c (.lst xs) c1) (hl : OJ m XX lo env c1 l c1) (hh : OJ m XX hi env c1 h c1) :
    EJ m XX (.Subscript e (.Slice lo hi none p2) pos) env c (.lst (cutL xs l h)) c1 :=
  EJ.of (te := tSl (rSlL S.K) (rdE XX e) (rdO XX lo) (rdO XX hi)) (fun j => by
    have := pe_slice (X := XX j) (pos := pos) (p2 := p2) sl_list (pe_rd (e := e) j) (po_rd (e := lo) j) (po_rd (e := hi) j)
    rw [F.k j] at this
    exact this) (den_sl he hl hh (by
      intro c B H v s rv Q q
      obtain ⟨a, vs, rfl, h1, h2⟩ := rep_lst.mp rv
      refine ⟨a, vs, rfl, SqL.of (s.sub _ _ h1), fun p hp => ?_⟩
      have hc : RepL m (cutL xs l h) (cutV vs l h) B := by
        unfold cutL cutV
        rw [h2.length]
        exact (h2.drop _).take _
      obtain ⟨n1, n2, n3⟩ := new_lst s hp hc
      exact q _ _ _ n1 n2 n3))
theorem e_slS {e : Expr} {lo hi : Option Expr} {pos p2 : Pos} {z : Str} {l h : Option Int} (he : EJ m XX e env c (.str z) c1) (hl : OJ m XX lo env c1 l c1) (hh : OJ m XX hi env c1 h c1) (hz : z.length ≤ sizeLine) :
    EJ m XX (.Subscript e (.Slice lo hi none p2) pos) env c (.str (cutS z l h)) c1 :=
  EJ.of (fun j => pe_slice (pos := pos) (p2 := p2) sl_str (pe_rd (e := e) j) (po_rd (e := lo) j) (po_rd (e := hi) j)) (den_sl he hl hh (by
      intro c B H v s rv Q q
      exact ⟨z, rep_str.mp rv, hz, q _ B H s (Stp.refl m B H) (rep_str.mpr rfl)⟩))
theorem e_ixT (F : Fam S N n XX) {a b : Expr} {pos : Pos} {ts : List T} {i : Int} {t : T} (ha : EJ m XX a env c (.tup ts) c1) (hb : EJ m XX b env c1 (.int i) c2) (h : atI ts i = some t)
    (hp : PlainIx b := by exact fun _ _ => rfl) : EJ m XX (.Subscript a b pos) env c t c2 :=
  EJ.of (te := tOp (rIxT S.K) (rdE XX a) (rdE XX b)) (fun j => by
    have := pe_ix (X := XX j) (pos := pos) ix_tup (pe_rd (e := a) j) (pe_rd (e := b) j) hp
    rw [F.k j] at this
    exact this) (den_op ha hb (denR_ixT h))

/-! ### calls of built-ins by name -/
theorem e_callB (F : Fam S N n XX) {x : Str} {id : String} {p pos : Pos} {e : Expr} {es : List Expr} {ts : List T} {t : T} {r : List V → Hp → VK → Prop} (hc : ∀ i, CallR (XX i) (.builtin id) r) (hm : S.mg x = none) (hv : bootBuiltins x = some (.builtin id))
    (ha : AJ m XX (e :: es) env c ts c1) (hr : DenC m r ts t) (hg : ∀ i, Gl (XX i) x := by intro _; rfl) (hn : x ≠ "__name__" := by decide) (hdb : (x == ("__debug__" : Str)) = false := by decide)
    (he : ∀ i, starEach (e :: es) (XX i).env = (false, eval e (XX i).env) :: starEach es (XX i).env := by intro _; rfl) (hpl : ∀ i, (backTo pos (starEach es (XX i).env)).any (·.1) = false := by intro _; rfl) :
    EJ m XX (.Call (.Name x p) (e :: es) [] pos) env c t c1 :=
  EJ.of (fun i => pe_callB (hc i) (hg i) (by rw [F.mg i]; exact hm) hv (pa_rd i) hn hdb (he i) (hpl i)) (den_cb ha hr)
theorem e_callTy (F : Fam S N n XX) {x : Str} {id : String} {p pos : Pos} {e : Expr} {es : List Expr} {ts : List T} {t : T} {r : List V → Hp → VK → Prop} (hc : ∀ i, CallR (XX i) (.type id) r) (hm : S.mg x = none) (hv : bootBuiltins x = some (.type id))
    (ha : AJ m XX (e :: es) env c ts c1) (hr : DenC m r ts t) (hg : ∀ i, Gl (XX i) x := by intro _; rfl) (hn : x ≠ "__name__" := by decide) (hdb : (x == ("__debug__" : Str)) = false := by decide)
    (he : ∀ i, starEach (e :: es) (XX i).env = (false, eval e (XX i).env) :: starEach es (XX i).env := by intro _; rfl) (hpl : ∀ i, (backTo pos (starEach es (XX i).env)).any (·.1) = false := by intro _; rfl) :
    EJ m XX (.Call (.Name x p) (e :: es) [] pos) env c t c1 :=
  EJ.of (fun i => pe_callTy (hc i) (hg i) (by rw [F.mg i]; exact hm) hv (pa_rd i) hn hdb (he i) (hpl i)) (den_cb ha hr)
/-- a module's name for a built-in function (from math import gcd) -/
theorem e_callBf (F : Fam S N n XX) {x : Str} {id : String} {p pos : Pos} {e : Expr} {es : List Expr} {ts : List T} {t : T} {r : List V → Hp → VK → Prop} (hc : ∀ i, CallR (XX i) (.builtin id) r) (hm : S.mg x = some (.builtin id))
    (ha : AJ m XX (e :: es) env c ts c1) (hr : DenC m r ts t) (hg : ∀ i, Gl (XX i) x := by intro _; rfl) (hdb : (x == ("__debug__" : Str)) = false := by decide)
    (he : ∀ i, starEach (e :: es) (XX i).env = (false, eval e (XX i).env) :: starEach es (XX i).env := by intro _; rfl) (hpl : ∀ i, (backTo pos (starEach es (XX i).env)).any (·.1) = false := by intro _; rfl) :
    EJ m XX (.Call (.Name x p) (e :: es) [] pos) env c t c1 :=
  EJ.of (fun i => pe_callBfun (hc i) (hg i) (by rw [F.mg i]; exact hm) (pa_rd i) hdb (he i) (hpl i)) (den_cb ha hr)
theorem e_len (F : Fam S N n XX) {p pos : Pos} {e : Expr} {t : T} {k : Nat} (hm : S.mg "len" = none) (he : EJ m XX e env c t c1) (h : lenT t = some k) (hg : ∀ i, Gl (XX i) "len" := by intro _; rfl)
    (hs : ∀ i, starEach [e] (XX i).env = [(false, eval e (XX i).env)] := by intro _; rfl) : EJ m XX (.Call (.Name "len" p) [e] [] pos) env c (.int k) c1 :=
  e_callB F (r := fun xs H Q => ∃ x n, xs = [x] ∧ LenV S.K x H n ∧ Q (.int (n : Int)) H) (fun i => by rw [← F.k i]; exact call_len) hm (by decide +kernel) (a_cons he a_nil hs) (denC_len h) hg (he := hs)
theorem e_sum (F : Fam S N n XX) {p pos : Pos} {e : Expr} {ns : List Int} (hm : S.mg "sum" = none) (he : EJ m XX e env c (.lst (ns.map T.int)) c1) (hg : ∀ i, Gl (XX i) "sum" := by intro _; rfl)
    (hs : ∀ i, starEach [e] (XX i).env = [(false, eval e (XX i).env)] := by intro _; rfl) : EJ m XX (.Call (.Name "sum" p) [e] [] pos) env c (.int ns.sum) c1 :=
  e_callB F (r := rSum S.K) (fun i => by rw [← F.k i]; exact cr_sum (F.calm i)) hm (by decide +kernel) (a_cons he a_nil hs) denC_sum hg (he := hs)
theorem e_all (F : Fam S N n XX) {p pos : Pos} {e : Expr} {ns : List Bool} (hm : S.mg "all" = none) (he : EJ m XX e env c (.lst (ns.map T.bl)) c1) (hg : ∀ i, Gl (XX i) "all" := by intro _; rfl)
    (hs : ∀ i, starEach [e] (XX i).env = [(false, eval e (XX i).env)] := by intro _; rfl) : EJ m XX (.Call (.Name "all" p) [e] [] pos) env c (.bl (ns.all id)) c1 :=
  e_callB F (r := rAll S.K) (fun i => by rw [← F.k i]; exact cr_all (F.calm i)) hm (by decide +kernel) (a_cons he a_nil hs) denC_all hg (he := hs)
theorem e_any (F : Fam S N n XX) {p pos : Pos} {e : Expr} {ns : List Bool} (hm : S.mg "any" = none) (he : EJ m XX e env c (.lst (ns.map T.bl)) c1) (hg : ∀ i, Gl (XX i) "any" := by intro _; rfl)
    (hs : ∀ i, starEach [e] (XX i).env = [(false, eval e (XX i).env)] := by intro _; rfl) : EJ m XX (.Call (.Name "any" p) [e] [] pos) env c (.bl (ns.any id)) c1 :=
  e_callB F (r := rAny S.K) (fun i => by rw [← F.k i]; exact cr_any (F.calm i)) hm (by decide +kernel) (a_cons he a_nil hs) denC_any hg (he := hs)
theorem e_abs (F : Fam S N n XX) {p pos : Pos} {e : Expr} {i : Int} (hm : S.mg "abs" = none) (he : EJ m XX e env c (.int i) c1) (hg : ∀ i, Gl (XX i) "abs" := by intro _; rfl)
    (hs : ∀ i, starEach [e] (XX i).env = [(false, eval e (XX i).env)] := by intro _; rfl) : EJ m XX (.Call (.Name "abs" p) [e] [] pos) env c (.int (if i < 0 then -i else i)) c1 :=
  e_callB F (fun _ => call_abs) hm (by decide +kernel) (a_cons he a_nil hs) denC_abs hg (he := hs)
theorem e_intI (F : Fam S N n XX) {p pos : Pos} {e : Expr} {i : Int} (hm : S.mg "int" = none) (he : EJ m XX e env c (.int i) c1) (hg : ∀ i, Gl (XX i) "int" := by intro _; rfl)
    (hs : ∀ i, starEach [e] (XX i).env = [(false, eval e (XX i).env)] := by intro _; rfl) : EJ m XX (.Call (.Name "int" p) [e] [] pos) env c (.int i) c1 :=
  e_callTy F (fun _ => call_int1) hm (by decide +kernel) (a_cons he a_nil hs) denC_intI hg (he := hs)
theorem e_intB (F : Fam S N n XX) {p pos : Pos} {e : Expr} {b : Bool} (hm : S.mg "int" = none) (he : EJ m XX e env c (.bl b) c1) (hg : ∀ i, Gl (XX i) "int" := by intro _; rfl)
    (hs : ∀ i, starEach [e] (XX i).env = [(false, eval e (XX i).env)] := by intro _; rfl) : EJ m XX (.Call (.Name "int" p) [e] [] pos) env c (.int (b2i b)) c1 :=
  e_callTy F (fun _ => call_int1) hm (by decide +kernel) (a_cons he a_nil hs) denC_intB hg (he := hs)
theorem e_list (F : Fam S N n XX) {p pos : Pos} {e : Expr} {t : T} {xs : List T} (hm : S.mg "list" = none) (he : EJ m XX e env c t c1) (h : itemsT t = some xs) (hg : ∀ i, Gl (XX i) "list" := by intro _; rfl)
    (hs : ∀ i, starEach [e] (XX i).env = [(false, eval e (XX i).env)] := by intro _; rfl) : EJ m XX (.Call (.Name "list" p) [e] [] pos) env c (.lst xs) c1 :=
  e_callTy F (r := fun xs H Q => ∃ p ys, xs = [V.ref p] ∧ (SqL S.K H p ys ∨ SqT S.K H p ys) ∧ ∀ l, H l = none → Q (V.ref l) (upd H l (HO.lst ys))) (fun i => by rw [← F.k i]; exact call_list_of) hm (by decide +kernel) (a_cons he a_nil hs) (denC_list h) hg (he := hs)
theorem e_strI (F : Fam S N n XX) {p pos : Pos} {e : Expr} {i : Int} (hm : S.mg "str" = none) (he : EJ m XX e env c (.int i) c1) (h : i.natAbs.log2 < 1920) (hg : ∀ i, Gl (XX i) "str" := by intro _; rfl)
    (hs : ∀ i, starEach [e] (XX i).env = [(false, eval e (XX i).env)] := by intro _; rfl) : EJ m XX (.Call (.Name "str" p) [e] [] pos) env c (.str (Str.ofString (toString i))) c1 :=
  e_callTy F (fun _ => call_str_int) hm (by decide +kernel) (a_cons he a_nil hs) (denC_str h) hg (he := hs)

/-! ### isinstance -/
theorem e_isiTy (F : Fam S N n XX) (kf : KF S m.CR m.CH) {p q pos : Pos} {e : Expr} {t : T} {x : Str} {Tn : String} {u : Value} {b : Bool} (hm : S.mg "isinstance" = none) (he : EJ m XX e env c t c1) (hx : S.mg x = none) (hb : bootBuiltins x = some (.type Tn))
    (ht : tyT m t = some u) (hk : PySem.W.kitOne S.K u (.type Tn) = some b) (hg : ∀ i, Gl (XX i) "isinstance" := by intro _; rfl) (hgx : ∀ i, Gl (XX i) x := by intro _; rfl) (hn : x ≠ "__name__" := by decide) (hd : (x == ("__debug__" : Str)) = false := by decide)
    (hs : ∀ i, starEach [e, .Name x q] (XX i).env = (false, eval e (XX i).env) :: starEach [.Name x q] (XX i).env := by intro _; rfl) : EJ m XX (.Call (.Name "isinstance" p) [e, .Name x q] [] pos) env c (.bl b) c1 :=
  EJ.of (te := tCB (rIsi S.K) (tCons (rdE XX e) (tCons (tC (.ty Tn)) tNil))) (fun i => by
    rw [← F.k i]
    exact pe_callB call_isi (hg i) (by rw [F.mg i]; exact hm) (by decide +kernel) (pa_cons (pe_rd i) (pa_cons (pe_bltn (hgx i) (by rw [F.mg i]; exact hx) hb rfl hn hd) pa_nil rfl) (hs i)) (by decide) (by decide) (hs i) rfl)
    (fun σ B H s r Q k => he σ B H s r _ fun v B1 H1 s1 t1 rv => ⟨v, .ty Tn, u, .type Tn, b, rfl, .ty Tn, tyT_ok kf ht s1.sub rv, hk, k _ B1 H1 s1 t1 (rep_bl.mpr rfl)⟩)
theorem e_isiOwn (F : Fam S N n XX) (kf : KF S m.CR m.CH) {p q pos : Pos} {e : Expr} {t : T} {x : Str} {C : Addr} {u : Value} {b : Bool} (hm : S.mg "isinstance" = none) (he : EJ m XX e env c t c1) (hx : S.mg x = some (.ref C))
    (ht : tyT m t = some u) (hk : PySem.W.kitOne S.K u (.ref C) = some b) (hg : ∀ i, Gl (XX i) "isinstance" := by intro _; rfl) (hgx : ∀ i, Gl (XX i) x := by intro _; rfl) (hd : (x == ("__debug__" : Str)) = false := by decide)
    (hs : ∀ i, starEach [e, .Name x q] (XX i).env = (false, eval e (XX i).env) :: starEach [.Name x q] (XX i).env := by intro _; rfl) : EJ m XX (.Call (.Name "isinstance" p) [e, .Name x q] [] pos) env c (.bl b) c1 :=
  EJ.of (te := tCB (rIsi S.K) (tCons (rdE XX e) (tCons (tC (.ref C)) tNil))) (fun i => by
    rw [← F.k i]
    exact pe_callB call_isi (hg i) (by rw [F.mg i]; exact hm) (by decide +kernel) (pa_cons (pe_rd i) (pa_cons (pe_glob (v := .ref C) (hgx i) (by rw [F.mg i]; exact hx) rfl hd) pa_nil rfl) (hs i)) (by decide) (by decide) (hs i) rfl)
    (fun σ B H s r Q k => he σ B H s r _ fun v B1 H1 s1 t1 rv => ⟨v, .ref C, u, .ref C, b, rfl, .own C, tyT_ok kf ht s1.sub rv, hk, k _ B1 H1 s1 t1 (rep_bl.mpr rfl)⟩)
/-- isinstance(x, (list, tuple)) -/
theorem e_isiLT (F : Fam S N n XX) (kf : KF S m.CR m.CH) {p q1 q2 q3 pos : Pos} {kk : Nat} {e : Expr} {t : T} {u : Value} {b : Bool} (hm : S.mg "isinstance" = none) (hl : S.mg "list" = none) (htu : S.mg "tuple" = none) (he : EJ m XX e env c t c1)
    (ht : tyT m t = some u) (hk : PySem.W.kitAny S.K u [.type "list", .type "tuple"] = some b) (hg : ∀ i, Gl (XX i) "isinstance" := by intro _; rfl) (hgl : ∀ i, Gl (XX i) "list" := by intro _; rfl) (hgt : ∀ i, Gl (XX i) "tuple" := by intro _; rfl)
    (hs : ∀ i, starEach [e, .Tuple [.Name "list" q1, .Name "tuple" q2] kk q3] (XX i).env = (false, eval e (XX i).env) :: starEach [.Tuple [.Name "list" q1, .Name "tuple" q2] kk q3] (XX i).env := by intro _; rfl) :
    EJ m XX (.Call (.Name "isinstance" p) [e, .Tuple [.Name "list" q1, .Name "tuple" q2] kk q3] [] pos) env c (.bl b) c1 :=
  EJ.of (te := tCB (rIsiT S.K) (tCons (rdE XX e) (tCons (tTup (tCons (tC (.ty "list")) (tCons (tC (.ty "tuple")) tNil))) tNil))) (fun i => by
    rw [← F.k i]
    exact pe_callB call_isiT (hg i) (by rw [F.mg i]; exact hm) (by decide +kernel) (pa_cons (pe_rd i) (pa_cons (pe_tup (pa_cons (pe_bltn (hgl i) (by rw [F.mg i]; exact hl) (by decide +kernel) rfl) (pa_cons (pe_bltn (hgt i) (by rw [F.mg i]; exact htu) (by decide +kernel) rfl) pa_nil rfl) rfl)) pa_nil rfl) (hs i)) (by decide) (by decide) (hs i) rfl)
    (fun σ B H s r Q k => he σ B H s r _ fun v B1 H1 s1 t1 rv => ⟨by show 2 ≤ sizeLine; decide, fun p hp => by
      have sm : Same H1 (upd H1 p (.tup [.ty "list", .ty "tuple"])) := fun a o e => by rw [upd_ne (ne_of_none e hp)]; exact e
      exact ⟨v, p, _, u, _, b, rfl, upd_same, .cons (.ty _) (.cons (.ty _) .nil), tyT_ok kf ht (s1.sub.trans sm) rv, hk, k _ B1 _ (s1.same sm) (t1.trans (Stp.same sm)) (rep_bl.mpr rfl)⟩⟩)

/-! ### fields -/
theorem fcond {X : Cx} {e : Expr} {f : Str} : True := trivial
theorem e_fldR (F : Fam S N n XX) (kf : KF S m.CR m.CH) {e : Expr} {f : Str} {pos : Pos} {q : Rat} {v : Int} (he : EJ m XX e env c (.rat q) c1) (hn : NoAttr S.K m.CR f) (hl : (rF q).lookup f = some (.int v))
    (hb : ∀ i, attributeBase e f (XX i).env (eval e (XX i).env) = eval e (XX i).env := by intro _; rfl) : EJ m XX (.Attribute e f pos) env c (.int v) c1 :=
  EJ.of (te := tFld S.K (rdE XX e) f) (fun i => by
    rw [← F.k i]
    exact pe_fld (pe_rd i) (hb i)) (fun σ B H s r Q k => he σ B H s r _ fun u B1 H1 s1 t1 ru => by
    obtain ⟨a, dx, rfl, h1⟩ := rep_rat.mp ru
    exact ⟨a, m.CR, dx, _, _, rfl, s1.sub _ _ h1, kf.clR, hn, hl, k _ B1 H1 s1 t1 (rep_int.mpr rfl)⟩)
theorem e_top (F : Fam S N n XX) (kf : KF S m.CR m.CH) {e : Expr} {pos : Pos} {q : Rat} (he : EJ m XX e env c (.rat q) c1) (hb : ∀ i, attributeBase e "own_top" (XX i).env (eval e (XX i).env) = eval e (XX i).env := by intro _; rfl) :
    EJ m XX (.Attribute e "own_top" pos) env c (.int q.num) c1 := e_fldR F kf he kf.nT (by rfl) hb
theorem e_bottom (F : Fam S N n XX) (kf : KF S m.CR m.CH) {e : Expr} {pos : Pos} {q : Rat} (he : EJ m XX e env c (.rat q) c1) (hb : ∀ i, attributeBase e "own_bottom" (XX i).env (eval e (XX i).env) = eval e (XX i).env := by intro _; rfl) :
    EJ m XX (.Attribute e "own_bottom" pos) env c (.int (q.den : Int)) c1 := e_fldR F kf he kf.nB (by rfl) hb
theorem e_letters (F : Fam S N n XX) (kf : KF S m.CR m.CH) {e : Expr} {pos : Pos} {ls : T} {w : Int} (he : EJ m XX e env c (.house ls w) c1) (hb : ∀ i, attributeBase e "own_letters" (XX i).env (eval e (XX i).env) = eval e (XX i).env := by intro _; rfl) :
    EJ m XX (.Attribute e "own_letters" pos) env c ls c1 :=
  EJ.of (te := tFld S.K (rdE XX e) "own_letters") (fun i => by
    rw [← F.k i]
    exact pe_fld (pe_rd i) (hb i)) (fun σ B H s r Q k => he σ B H s r _ fun u B1 H1 s1 t1 ru => by
    obtain ⟨a, dx, l, rfl, h1, h2⟩ := rep_house.mp ru
    exact ⟨a, m.CH, dx, _, l, rfl, s1.sub _ _ h1, kf.clH, kf.nL, by rfl, k _ B1 H1 s1 t1 h2⟩)
theorem e_width (F : Fam S N n XX) (kf : KF S m.CR m.CH) {e : Expr} {pos : Pos} {ls : T} {w : Int} (he : EJ m XX e env c (.house ls w) c1) (hb : ∀ i, attributeBase e "own_width" (XX i).env (eval e (XX i).env) = eval e (XX i).env := by intro _; rfl) :
    EJ m XX (.Attribute e "own_width" pos) env c (.int w) c1 :=
  EJ.of (te := tFld S.K (rdE XX e) "own_width") (fun i => by
    rw [← F.k i]
    exact pe_fld (pe_rd i) (hb i)) (fun σ B H s r Q k => he σ B H s r _ fun u B1 H1 s1 t1 ru => by
    obtain ⟨a, dx, l, rfl, h1, h2⟩ := rep_house.mp ru
    exact ⟨a, m.CH, dx, _, .int w, rfl, s1.sub _ _ h1, kf.clH, kf.nW, by rfl, k _ B1 H1 s1 t1 (rep_int.mpr rfl)⟩)

/-! ### calls of defs -/
theorem e_call (F : Fam S N n XX) {x : Str} {ps : List Str} {k : Nat} {R : Rel} {p pos : Pos} {e : Expr} {es : List Expr} {ts : List T} {t : T} (D : Dn S m.CR m.CH x ps k R) (ha : AJ m XX (e :: es) env c ts c1) (hR : R c1 ts t c2) (hk : k ≤ n := by decide)
    (hg : ∀ i, Gl (XX i) x := by intro _; rfl) (hdb : (x == ("__debug__" : Str)) = false := by decide)
    (hs : ∀ i, starEach (e :: es) (XX i).env = (false, eval e (XX i).env) :: starEach es (XX i).env := by intro _; rfl) (hpl : ∀ i, (backTo pos (starEach es (XX i).env)).any (·.1) = false := by intro _; rfl) :
    EJ m XX (.Call (.Name x p) (e :: es) [] pos) env c t c2 := by
  obtain ⟨f, fd, G, hm, hkp, hb⟩ := D.ex
  refine EJ.of (te := tCall (spD m.CR m.CH R) [] E0 (rdA XX (e :: es))) (fun i => pe_call (F.fn G i) ((F.room i).mono hk) (hg i) (by rw [F.mg i]; exact hm) (by rw [F.k i]; exact hkp) (by rw [F.k i]; exact hb) .nil pass0 (pa_rd i) hdb (hs i) (hpl i)) ?_
  intro σ B H s r Q q
  refine ha σ B H s r _ fun vs B1 H1 s1 t1 rv => ?_
  refine ⟨m.p0, m.h0, B1, c1, ts, t, c2, hR, s1, by rw [List.append_nil]; exact rv, fun v B' H' s' t' rv' => q v B' H' s' (t1.trans t') rv'⟩
end
end TW
set_option Elab.async false
set_option linter.all false
set_option maxRecDepth 100000
set_option maxHeartbeats 4000000
/-! Fw5: walks, targets, comprehensions. -/
namespace TW
open PySem L2

section
variable {S : Stat} {N : List Str} {n : Nat} {ι : Type} {XX : ι → Cx} {m : Pm} {env : TEnv} {c c1 c2 c3 : Pot}

/-! ### walks -/
theorem walkT_list {K : PySem.W.Frag} {a : Addr} {vs : List V} {B : Hp} {xs : List T} (h : B a = some (.lst vs)) (r : RepL m xs vs B) : WalkT m (Itl K a) B xs := by
  have len := r.length
  refine ⟨fun i H hi s => ⟨vs, vs[i]'(by omega), SqL.of (s _ _ h), by simp [len, hi]⟩, fun H s => ⟨vs, SqL.of (s _ _ h), by omega⟩, fun i H x H' hi s y => ?_⟩
  obtain ⟨rfl, y⟩ := y
  have e := y vs (SqL.of (s _ _ h))
  obtain ⟨t, e1, e2⟩ := r.get' e
  exact ⟨t, e1, fun c B' s' b => ⟨B', s', Stp.refl m _ _, e2.mono b⟩⟩
theorem walkT_tup {K : PySem.W.Frag} {a : Addr} {vs : List V} {B : Hp} {xs : List T} (h : B a = some (.tup vs)) (r : RepL m xs vs B) : WalkT m (Itt K a) B xs := by
  have len := r.length
  refine ⟨fun i H hi s => ⟨vs, vs[i]'(by omega), SqT.of (s _ _ h), by simp [len, hi]⟩, fun H s => ⟨vs, SqT.of (s _ _ h), by omega⟩, fun i H x H' hi s y => ?_⟩
  obtain ⟨rfl, y⟩ := y
  have e := y vs (SqT.of (s _ _ h))
  obtain ⟨t, e1, e2⟩ := r.get' e
  exact ⟨t, e1, fun c B' s' b => ⟨B', s', Stp.refl m _ _, e2.mono b⟩⟩
def rangeT (lo : Int) (k : Nat) : List T := (List.range k).map fun (i : Nat) => T.int (lo + (i : Int))
theorem walkT_range {lo : Int} {k : Nat} {B : Hp} : WalkT m (Itr lo k) B (rangeT lo k) := by
  have len : (rangeT lo k).length = k := by simp [rangeT]
  refine ⟨fun i H hi s => by rw [len] at hi; exact hi, fun H s => by rw [len]; exact Nat.le_refl _, fun i H x H' hi s y => ?_⟩
  obtain ⟨rfl, rfl⟩ := y
  rw [len] at hi
  exact ⟨.int (lo + i), by simp [rangeT, hi], fun c B' s' b => ⟨B', s', Stp.refl m _ _, rep_int.mpr rfl⟩⟩
def pairT (p : T × T) : T := .tup [p.1, p.2]
theorem walkT_zip {K : PySem.W.Frag} {a b : Addr} {vs ws : List V} {B : Hp} {xs ys : List T} (h : B a = some (.lst vs)) (r : RepL m xs vs B) (h' : B b = some (.lst ws)) (r' : RepL m ys ws B) : WalkT m (Itz K a b) B ((xs.zip ys).map pairT) := by
  have len := r.length
  have len' := r'.length
  have ln : ((xs.zip ys).map pairT).length = min vs.length ws.length := by simp [len, len']
  have w := walk_zip (K := K) (a := a) (b := b) (xs := vs) (ys := ws) rfl
  refine ⟨fun i H hi s => w.goes i H (by rw [ln] at hi; exact hi) ⟨SqL.of (s _ _ h), SqL.of (s _ _ h')⟩, fun H s => by rw [ln]; exact w.stops H ⟨SqL.of (s _ _ h), SqL.of (s _ _ h')⟩, fun i H x H' hi s y => ?_⟩
  obtain ⟨T', v, u, rfl, hT, rfl, e1, e2⟩ := w.yields i H x H' (by rw [ln] at hi; exact hi) ⟨SqL.of (s _ _ h), SqL.of (s _ _ h')⟩ y
  obtain ⟨t, g1, g2⟩ := r.get' e1
  obtain ⟨t', g1', g2'⟩ := r'.get' e2
  refine ⟨.tup [t, t'], ?_, fun c B' s' bb => ?_⟩
  · rw [List.getElem?_map, List.getElem?_zip_eq_some (z := (t, t')) |>.mpr ⟨g1, g1'⟩]
    rfl
  · have hr : RepL m [t, t'] [v, u] B' := repL_cons.mpr ⟨_, _, rfl, g2.mono bb, repL_cons.mpr ⟨_, _, rfl, g2'.mono bb, repL_nil.mpr rfl⟩⟩
    obtain ⟨n1, n2, n3⟩ := new_tup s' hT hr
    exact ⟨_, n1, n2, n3⟩
def enumT (xs : List T) : List T := ((List.range xs.length).zip xs).map fun p => .tup [.int (p.1 : Int), p.2]
theorem walkT_enum {K : PySem.W.Frag} {a : Addr} {vs : List V} {B : Hp} {xs : List T} (h : B a = some (.lst vs)) (r : RepL m xs vs B) : WalkT m (Ite K a) B (enumT xs) := by
  have len := r.length
  have ln : (enumT xs).length = vs.length := by simp [enumT, len]
  have w := walk_enum (K := K) (a := a) (xs := vs)
  refine ⟨fun i H hi s => w.goes i H (by rw [ln] at hi; exact hi) (SqL.of (s _ _ h)), fun H s => by rw [ln]; exact w.stops H (SqL.of (s _ _ h)), fun i H x H' hi s y => ?_⟩
  rw [ln] at hi
  obtain ⟨T', v, u, rfl, hT, rfl, e1, e2⟩ := w.yields i H x H' hi (SqL.of (s _ _ h)) y
  obtain ⟨t', g1', g2'⟩ := r.get' e2
  cases e1
  refine ⟨.tup [.int (i : Int), t'], ?_, fun c B' s' bb => ?_⟩
  · unfold enumT
    have hr : (List.range xs.length)[i]? = some i := by rw [List.getElem?_range (by omega)]
    rw [List.getElem?_map, List.getElem?_zip_eq_some (z := (i, t')) |>.mpr ⟨hr, g1'⟩]
    rfl
  · have hr : RepL m [.int (i : Int), t'] [.int (i : Int), u] B' := repL_cons.mpr ⟨_, _, rfl, rep_int.mpr rfl, repL_cons.mpr ⟨_, _, rfl, g2'.mono bb, repL_nil.mpr rfl⟩⟩
    obtain ⟨n1, n2, n3⟩ := new_tup s' hT hr
    exact ⟨_, n1, n2, n3⟩
/-- over a list or a tuple -/
def iSeq (K : PySem.W.Frag) (tl : TE) : TI := fun σ H R => tl σ H fun x H1 => ∃ a, x = .ref a ∧ (((∃ xs, SqL K H1 a xs) ∧ R (Itl K a) H1) ∨ ((∃ xs, SqT K H1 a xs) ∧ R (Itt K a) H1))
theorem pi_seq {X : Cx} {tg l : Expr} {tl : TE} (hl : PE X l tl) : PI X tg l (iSeq X.K tl) := by
  refine ⟨fun pins s σ H R I h => ?_⟩
  refine thn (hl.run pins s σ H _ I h) fun v s1 ⟨x, H1, I1, r1, q1⟩ => ?_
  obtain ⟨a, e, q⟩ := q1
  subst e
  cases r1
  rcases q with ⟨⟨xs, hq⟩, q⟩ | ⟨⟨xs, hq⟩, q⟩
  · obtain ⟨its, rv, p, hz⟩ := I1.list hq
    refine wpAny_pyIter_list p.isList ?_
    refine ⟨s1.heap.objs.size, [s1.heap.objs.size], _, _, H1, rfl, I1.kept (t' := s1.toks) fun b o e => Heap.get?_push_of_some _ e, turn_list a _, ⟨_, Heap.get?_push_size _ rfl, rfl, rfl⟩, fun b hb => ?_, q⟩
    have e : b = s1.heap.objs.size := by simpa using hb
    subst e
    exact I1.fpOk (Nat.le_refl _) (I1.hok.fresh (Nat.le_refl _))
  · obtain ⟨its, rv, p, hz⟩ := I1.tuple hq
    refine wpAny_pyIter_tuple (show s1.heap.IsTuple a its.toArray from p) ?_
    refine ⟨s1.heap.objs.size, [s1.heap.objs.size], _, _, H1, rfl, I1.kept (t' := s1.toks) fun b o e => Heap.get?_push_of_some _ e, turn_tuple a _, ⟨_, Heap.get?_push_size _ rfl, rfl, rfl⟩, fun b hb => ?_, q⟩
    have e : b = s1.heap.objs.size := by simpa using hb
    subst e
    exact I1.fpOk (Nat.le_refl _) (I1.hok.fresh (Nat.le_refl _))
theorem i_seq (F : Fam S N n XX) {tg l : Expr} {t : T} {xs : List T} (hl : EJ m XX l env c t c1) (h : itemsT t = some xs) : IJ m XX tg l env c xs c1 :=
  IJ.of (wi := iSeq S.K (rdE XX l)) (fun i => by rw [← F.k i]; exact pi_seq (pe_rd i)) (fun σ B H s r R q => hl σ B H s r _ fun v B1 H1 s1 t1 rv => by
    cases t <;> simp only [itemsT] at h
    · cases h
    · cases h
    · cases h
    · cases h
    · cases h
    · cases h
      obtain ⟨a, vs, rfl, h1, h2⟩ := rep_lst.mp rv
      exact ⟨a, rfl, .inl ⟨⟨vs, SqL.of (s1.sub _ _ h1)⟩, q _ B1 H1 s1 t1 (walkT_list h1 h2)⟩⟩
    · cases h
      obtain ⟨a, vs, rfl, h1, h2⟩ := rep_tup.mp rv
      exact ⟨a, rfl, .inr ⟨⟨vs, SqT.of (s1.sub _ _ h1)⟩, q _ B1 H1 s1 t1 (walkT_tup h1 h2)⟩⟩
    all_goals cases h)
theorem i_lst (F : Fam S N n XX) {tg l : Expr} {xs : List T} (hl : EJ m XX l env c (.lst xs) c1) : IJ m XX tg l env c xs c1 := i_seq F hl rfl
theorem i_range (F : Fam S N n XX) {tg a : Expr} {p pos : Pos} {k : Nat} (hm : S.mg "range" = none) (ha : EJ m XX a env c (.int (k : Int)) c1) (hk : k < 2 ^ 62) (hg : ∀ i, Gl (XX i) "range" := by intro _; rfl)
    (hs : ∀ i, starEach [a] (XX i).env = [(false, eval a (XX i).env)] := by intro _; rfl) : IJ m XX tg (.Call (.Name "range" p) [a] [] pos) env c (rangeT 0 k) c1 :=
  IJ.of (wi := iRng1 (tCons (rdE XX a) tNil)) (fun i => pi_range1 (hg i) (by rw [F.mg i]; exact hm) (pa_cons (pe_rd i) pa_nil (hs i)) (hs i)) (fun σ B H s r R q => ha σ B H s r _ fun v B1 H1 s1 t1 rv => by
    refine ⟨k, by rw [rep_int.mp rv], by omega, by omega, ?_⟩
    have := q (Itr 0 k) B1 H1 s1 t1 walkT_range
    simpa using this)
theorem i_range2 (F : Fam S N n XX) {tg a b : Expr} {p pos : Pos} {lo hi : Int} (hm : S.mg "range" = none) (ha : EJ m XX a env c (.int lo) c1) (hb : EJ m XX b env c1 (.int hi) c1) (h1 : -(2 ^ 62) ≤ lo) (h2 : lo < 2 ^ 62) (h3 : -(2 ^ 62) ≤ hi) (h4 : hi < 2 ^ 62) (hg : ∀ i, Gl (XX i) "range" := by intro _; rfl)
    (hs : ∀ i, starEach [a, b] (XX i).env = [(false, eval a (XX i).env), (false, eval b (XX i).env)] := by intro _; rfl) (hs2 : ∀ i, starEach [b] (XX i).env = [(false, eval b (XX i).env)] := by intro _; rfl) : IJ m XX tg (.Call (.Name "range" p) [a, b] [] pos) env c (rangeT lo (hi - lo).toNat) c1 :=
  IJ.of (wi := iRng2 (tCons (rdE XX a) (tCons (rdE XX b) tNil))) (fun i => pi_range2 (hg i) (by rw [F.mg i]; exact hm) (pa_cons (pe_rd i) (pa_cons (pe_rd i) pa_nil (hs2 i)) (by rw [hs i, hs2 i])) (hs i) (hs2 i)) (fun σ B H s r R q => ha σ B H s r _ fun v B1 H1 s1 t1 rv => hb σ B1 H1 s1 (r.step t1) _ fun w B2 H2 s2 t2 rw_ => by
    exact ⟨lo, hi, by rw [rep_int.mp rv, rep_int.mp rw_], ⟨h1, h2, h3, h4⟩, q (Itr lo (hi - lo).toNat) B2 H2 s2 (t1.trans t2) walkT_range⟩)
theorem i_zip (F : Fam S N n XX) {elts : List Expr} {kk : Nat} {tpos p pos : Pos} {a b : Expr} {xs ys : List T} (hm : S.mg "zip" = none) (ha : EJ m XX a env c (.lst xs) c1) (hb : EJ m XX b env c1 (.lst ys) c2) (hg : ∀ i, Gl (XX i) "zip" := by intro _; rfl)
    (hs : ∀ i, starEach [a, b] (XX i).env = (false, eval a (XX i).env) :: starEach [b] (XX i).env := by intro _; rfl) (hs2 : ∀ i, starEach [b] (XX i).env = [(false, eval b (XX i).env)] := by intro _; rfl) :
    IJ m XX (.Tuple elts kk tpos) (.Call (.Name "zip" p) [a, b] [] pos) env c ((xs.zip ys).map pairT) c2 :=
  IJ.of (wi := iZip S.K (tCons (rdE XX a) (tCons (rdE XX b) tNil))) (fun i => by
    rw [← F.k i]
    exact pi_zip (hg i) (by rw [F.mg i]; exact hm) (pa_cons (pe_rd i) (pa_cons (pe_rd i) pa_nil (hs2 i)) (hs i)) (hs i) (by rw [hs2 i]; rfl)) (fun σ B H s r R q => ha σ B H s r _ fun v B1 H1 s1 t1 rv => hb σ B1 H1 s1 (r.step t1) _ fun w B2 H2 s2 t2 rw_ => by
    obtain ⟨a, vs, rfl, g1, g2⟩ := rep_lst.mp (rv.mono t2.b)
    obtain ⟨b, ws, rfl, k1, k2⟩ := rep_lst.mp rw_
    exact ⟨a, b, vs, ws, rfl, SqL.of (s2.sub _ _ g1), SqL.of (s2.sub _ _ k1), q _ B2 H2 s2 (t1.trans t2) (walkT_zip g1 g2 k1 k2)⟩)
theorem i_enum (F : Fam S N n XX) {elts : List Expr} {kk : Nat} {tpos p pos : Pos} {a : Expr} {xs : List T} (hm : S.mg "enumerate" = none) (ha : EJ m XX a env c (.lst xs) c1) (hg : ∀ i, Gl (XX i) "enumerate" := by intro _; rfl)
    (hs : ∀ i, starEach [a] (XX i).env = [(false, eval a (XX i).env)] := by intro _; rfl) : IJ m XX (.Tuple elts kk tpos) (.Call (.Name "enumerate" p) [a] [] pos) env c (enumT xs) c1 :=
  IJ.of (wi := iEnum S.K (tCons (rdE XX a) tNil)) (fun i => by
    rw [← F.k i]
    exact pi_enum (hg i) (by rw [F.mg i]; exact hm) (pa_cons (pe_rd i) pa_nil (hs i)) (hs i)) (fun σ B H s r R q => ha σ B H s r _ fun v B1 H1 s1 t1 rv => by
    obtain ⟨a, vs, rfl, g1, g2⟩ := rep_lst.mp rv
    exact ⟨a, vs, rfl, SqL.of (s1.sub _ _ g1), q _ B1 H1 s1 t1 (walkT_enum g1 g2)⟩)

theorem sets_append : ∀ {l l' : List (Nat × V)} {σ : L2.St}, sets (sets σ l) l' = sets σ (l ++ l')
  | [], _, _ => rfl
  | p :: l, l', σ => sets_append (l := l) (l' := l') (σ := σ.set p.1 (some p.2))

/-! ### targets -/
theorem g_name (F : Fam S N n XX) (k : Nat) {x : Str} {pos : Pos} {t : T} (hN : N[k]? = some x := by rfl) (hl : ∀ i, L2.Loc (XX i).env.scope x := by intro _; first | exact Or.inl rfl | exact Or.inr rfl)
    (hf : ∀ i, (XX i).fn x = true ∨ (XX i).env.scope.names.lookup x = some .local := by intro _; first | exact Or.inr rfl | exact Or.inl rfl) : GJ m XX (.Name x pos) [k] env t (env.set k (Sl.val t)) :=
  GJ.of (g := gName k) (fun i => pg_name (by rw [F.names i]; exact F.nd) (by rw [F.names i]; exact hN) (hl i) (hf i)) (fun σ B H v s r h Q q => q _ [(k, v)] rfl rfl (r.set h k))
theorem g_tup2 (F : Fam S N n XX) {a b : Expr} {kk : Nat} {pos : Pos} {k1 k2 : List Nat} {x y : T} {e1 e2 : TEnv} (ha : GJ m XX a k1 env x e1) (hb : GJ m XX b k2 e1 y e2)
    (h1 : ∀ i, (assignEach [a, b] (XX i).env).length = 2 := by intro _; rfl) (h2 : ∀ i, (assignEach [a, b] (XX i).env).findIdx? (·.1) = none := by intro _; rfl)
    (h3 : ∀ i, assignEach [a, b] (XX i).env = (false, assign a (XX i).env) :: assignEach [b] (XX i).env := by intro _; rfl) (h4 : ∀ i, assignEach [b] (XX i).env = [(false, assign b (XX i).env)] := by intro _; rfl) :
    GJ m XX (.Tuple [a, b] kk pos) (k1 ++ k2) env (.tup [x, y]) e2 := by
  refine GJ.of (g := gTup S.K 2 (gCons (rdG XX a) (gCons (rdG XX b) gNil))) (fun i => ?_) ?_
  · rw [← F.k i]
    exact pg_tup (F.calm i) (pgs_cons (pg_rd i) (pgs_cons (pg_rd i) pgs_nil (by rw [h4 i]; rfl)) (by rw [h3 i]; rfl)) (h1 i) (h2 i)
  · intro σ B H v s r h Q q
    obtain ⟨p, vs, rfl, g1, g2⟩ := rep_tup.mp h
    obtain ⟨v1, r1, rfl, i1, i2⟩ := repL_cons.mp g2
    obtain ⟨v2, r2, rfl, j1, j2⟩ := repL_cons.mp i2
    rw [repL_nil] at j2
    subst j2
    refine ⟨p, _, rfl, SqT.of (s _ _ g1), rfl, v1, [v2], rfl, ?_⟩
    refine ha σ B H v1 s r i1 _ fun σ1 l1 h1 h2 r1 => ?_
    refine ⟨v2, [], rfl, ?_⟩
    refine hb σ1 B H v2 s r1 j1 _ fun σ2 l2 h3 h4 r2 => ?_
    exact ⟨rfl, q σ2 (l1 ++ l2) (by rw [h3, h1, sets_append]) (by rw [List.map_append, h2, h4]) r2⟩

/-! ### comprehensions -/
theorem Stp.mutNew {B H B' H' : Hp} {D : Addr} {o : HO} (t : Stp m B H B' H') (h : H D = none) : Stp m B H B' (upd H' D o) :=
  ⟨t.b, fun a u e hp => by rw [upd_ne (ne_of_none e h)]; exact t.h a u e hp, t.n, fun a ha => by
    by_cases z : a = D
    · subst z; exact absurd h ha
    · rw [upd_ne z]; exact t.d a ha⟩
theorem Stp.frz {B H B' H' : Hp} {D : Addr} {o : HO} (t : Stp m B H B' H') (h : H D = none) (h' : B' D = none) : Stp m B H (upd B' D o) H' :=
  ⟨fun a u e => by
    have e' := t.b a u e
    rw [upd_ne (ne_of_none e' h')]; exact e', t.h, fun a ha => by
    by_cases z : a = D
    · subst z; exact .inr h
    · rw [upd_ne z] at ha; exact t.n a ha, t.d⟩
theorem Sit.frz {B H : Hp} {D : Addr} {o : HO} (s : Sit m c B H) (hB : B D = none) (hH : H D = some o) (hp : m.p0 ≠ some D) : Sit m c (upd B D o) H :=
  ⟨fun a u e => by
    by_cases z : a = D
    · subst z; rw [upd_same] at e; cases e; exact hH
    · rw [upd_ne z] at e; exact s.sub a u e, s.old, fun p h => by
    have z : p ≠ D := fun y => hp (by rw [← y]; exact h)
    rw [upd_ne z]; exact s.pot p h⟩
def wipeE (e : TEnv) : List Nat → TEnv
  | [] => e
  | v :: vs => (wipeE e vs).set v Sl.un
theorem RepE.un {e : TEnv} {σ : L2.St} {B H : Hp} (r : RepE m e σ B H) (k : Nat) (u : Option V) : RepE m (e.set k Sl.un) (σ.set k u) B H := by
  have nk : ∀ {l : Nat} {z : Sl}, z ≠ Sl.un → (e.set k Sl.un)[l]? = some z → k ≠ l := fun {l z} hz q y => by
    subst y
    have hl : k < e.length := by
      have := (List.getElem?_eq_some_iff.mp q).1
      simpa using this
    rw [List.getElem?_set_self hl] at q
    exact hz (Option.some.inj q).symm
  refine ⟨by simp [r.len], fun i t q => ?_, fun i ts q => ?_, fun i rv q => ?_, fun i j ts us a hij q1 q2 q3 q4 => ?_⟩
  · have z := nk (z := Sl.val t) (by intro y; cases y) q
    rw [List.getElem?_set_ne z] at q ⊢
    exact r.val i t q
  · have z := nk (z := Sl.own ts) (by intro y; cases y) q
    rw [List.getElem?_set_ne z] at q ⊢
    exact r.own i ts q
  · have z := nk (z := Sl.raw rv) (by intro y; cases y) q
    rw [List.getElem?_set_ne z] at q ⊢
    exact r.raw i rv q
  · have z1 := nk (z := Sl.own ts) (by intro y; cases y) q1
    have z2 := nk (z := Sl.own us) (by intro y; cases y) q2
    rw [List.getElem?_set_ne z1] at q1 q3
    rw [List.getElem?_set_ne z2] at q2 q4
    exact r.dis i j ts us a hij q1 q2 q3 q4
theorem RepE.wipe {e : TEnv} {σ : L2.St} {B H : Hp} (r : RepE m e σ B H) : ∀ vs : List Nat, RepE m (wipeE e vs) (L2.wipe σ vs) B H
  | [] => r
  | v :: vs => (RepE.wipe r vs).un v none
theorem wipe_comm {σ : L2.St} {k : Nat} {u : Option V} : ∀ {vs : List Nat}, L2.wipe (σ.set k u) vs = if k ∈ vs then L2.wipe σ vs else (L2.wipe σ vs).set k u
  | [] => by simp [L2.wipe]
  | v :: vs => by
    unfold L2.wipe
    rw [wipe_comm (vs := vs)]
    by_cases h : k ∈ vs
    · rw [if_pos h, if_pos (List.mem_cons_of_mem _ h)]
    · rw [if_neg h]
      by_cases z : k = v
      · subst z
        rw [if_pos List.mem_cons_self, List.set_set]
      · rw [if_neg (by simp [z, h]), List.set_comm _ _ (Ne.symm (fun y => z y.symm))]
theorem wipe_wipe {σ : L2.St} : ∀ {vs ws : List Nat}, (∀ v ∈ vs, v ∈ ws) → L2.wipe (L2.wipe σ vs) ws = L2.wipe σ ws
  | [], _, _ => rfl
  | v :: vs, ws, h => by
    show L2.wipe ((L2.wipe σ vs).set v none) ws = _
    rw [wipe_comm, if_pos (h v List.mem_cons_self)]
    exact wipe_wipe fun w hw => h w (List.mem_cons_of_mem _ hw)
theorem wipe_sets {vs : List Nat} : ∀ {l : List (Nat × V)} {σ : L2.St}, (∀ p ∈ l, p.1 ∈ vs) → L2.wipe (sets σ l) vs = L2.wipe σ vs
  | [], _, _ => rfl
  | p :: l, σ, h => by
    show L2.wipe (sets (σ.set p.1 (some p.2)) l) vs = _
    rw [wipe_sets (fun q hq => h q (List.mem_cons_of_mem _ hq)), wipe_comm, if_pos (h p List.mem_cons_self)]

/-- the contexts of a comprehension's block -/
abbrev BIx (ι : Type) := ι × Shared × Hp × Addr × List (Str × Addr) × List Addr
def blkF (XX : ι → Cx) (scope : Scope) (j : BIx ι) : Cx := (XX j.1).blk j.2.1 j.2.2.1 scope (compEnvC scope j.2.2.2.2.1 j.2.2.2.1 (XX j.1).env) j.2.2.2.2.2
theorem Fam.blk (F : Fam S N n XX) (scope : Scope) : Fam S N n (blkF XX scope) :=
  ⟨fun j => F.prog j.1, fun j => F.w j.1, fun j => F.k j.1, fun j => F.mg j.1, fun j => F.base j.1, fun j => F.calm j.1, F.nd, fun j => F.names j.1, fun j => F.room j.1⟩

theorem f_nil : FJ m XX [] env c true c := FJ.of (fun _ => pts_nil) fun σ B H s r Q q => q B H s (Stp.refl m B H)
theorem f_one {e : Expr} {b : Bool} (h : TJ m XX e env c b c1) : FJ m XX [e] env c b c1 := FJ.of (fun i => pts_one (pt_rd i)) h

/-- one turn: the item x, the state c: what is kept (if it is), the state behind -/
def Trn (m : Pm) (YY : BIx ι → Cx) (tg : Expr) (ifs : List Expr) (elt : Expr) (vs : List Nat) (env : TEnv) (x : T) (c : Pot) (o : Option T) (c' : Pot) : Prop :=
  ∃ ks e1, (∀ k ∈ ks, k ∈ vs) ∧ GJ m YY tg ks (wipeE env vs) x e1 ∧
    ((∃ t c1, o = some t ∧ FJ m YY ifs e1 c true c1 ∧ EJ m YY elt e1 c1 t c') ∨ (o = none ∧ FJ m YY ifs e1 c false c'))
/-- the turns one behind another -/
inductive Trns (P : T → Pot → Option T → Pot → Prop) : List T → Pot → List T → Pot → Prop where
  | nil {c : Pot} : Trns P [] c [] c
  | keep {x : T} {xs : List T} {c c1 c2 : Pot} {t : T} {ts : List T} (h : P x c (some t) c1) (r : Trns P xs c1 ts c2) : Trns P (x :: xs) c (t :: ts) c2
  | skip {x : T} {xs : List T} {c c1 c2 : Pot} {ts : List T} (h : P x c none c1) (r : Trns P xs c1 ts c2) : Trns P (x :: xs) c ts c2
theorem Trns.len {P : T → Pot → Option T → Pot → Prop} {xs ts : List T} {c c' : Pot} (h : Trns P xs c ts c') : ts.length ≤ xs.length := by
  induction h with
  | nil => exact Nat.le_refl _
  | keep _ _ ih => exact Nat.succ_le_succ ih
  | skip _ _ ih => exact Nat.le_succ_of_le ih
/-- the turns by their number -/
theorem Trns.at {P : T → Pot → Option T → Pot → Prop} {xs ts : List T} {c c' : Pot} (h : Trns P xs c ts c') :
    ∃ (cs : Nat → Pot) (acc : Nat → List T), cs 0 = c ∧ acc 0 = [] ∧ cs xs.length = c' ∧ acc xs.length = ts ∧ (∀ i, (acc i).length ≤ i) ∧
      ∀ i x, xs[i]? = some x → ∃ o, P x (cs i) o (cs (i + 1)) ∧ acc (i + 1) = acc i ++ o.toList := by
  have key : ∀ {xs ts : List T} {c c' : Pot}, Trns P xs c ts c' → ∀ a0 : List T, ∃ (cs : Nat → Pot) (acc : Nat → List T), cs 0 = c ∧ acc 0 = a0 ∧ cs xs.length = c' ∧ acc xs.length = a0 ++ ts ∧ (∀ i, (acc i).length ≤ a0.length + i) ∧
      ∀ i x, xs[i]? = some x → ∃ o, P x (cs i) o (cs (i + 1)) ∧ acc (i + 1) = acc i ++ o.toList := by
    intro xs ts c c' h
    induction h with
    | @nil c => exact fun a0 => ⟨fun _ => c, fun _ => a0, rfl, rfl, rfl, by simp, fun i => by simp, fun i x hx => by simp at hx⟩
    | @keep x xs c c1 c2 t ts h r ih =>
      intro a0
      obtain ⟨cs, acc, h1, h2, h3, h4, h5, h6⟩ := ih (a0 ++ [t])
      refine ⟨fun i => match i with | 0 => c | i + 1 => cs i, fun i => match i with | 0 => a0 | i + 1 => acc i, rfl, rfl, h3, ?_, fun i => ?_, fun i y hy => ?_⟩
      · show acc xs.length = _
        rw [h4]; simp
      · cases i with
        | zero => simp
        | succ i =>
          have := h5 i
          simp only [List.length_append, List.length_singleton] at this
          show (acc i).length ≤ _
          omega
      · cases i with
        | zero =>
          simp at hy
          subst hy
          exact ⟨some t, by show P x c (some t) (cs 0); rw [h1]; exact h, by show acc 0 = a0 ++ [t]; rw [h2]⟩
        | succ i => exact h6 i y (by simpa using hy)
    | @skip x xs c c1 c2 ts h r ih =>
      intro a0
      obtain ⟨cs, acc, h1, h2, h3, h4, h5, h6⟩ := ih a0
      refine ⟨fun i => match i with | 0 => c | i + 1 => cs i, fun i => match i with | 0 => a0 | i + 1 => acc i, rfl, rfl, h3, ?_, fun i => ?_, fun i y hy => ?_⟩
      · show acc xs.length = _
        rw [h4]
      · cases i with
        | zero => simp
        | succ i =>
          have := h5 i
          show (acc i).length ≤ _
          omega
      · cases i with
        | zero =>
          simp at hy
          subst hy
          exact ⟨none, by show P x c none (cs 0); rw [h1]; exact h, by show acc 0 = a0 ++ []; rw [h2]; simp⟩
        | succ i => exact h6 i y (by simpa using hy)
  obtain ⟨cs, acc, h1, h2, h3, h4, h5, h6⟩ := key h []
  exact ⟨cs, acc, h1, h2, h3, by simpa using h4, fun i => by simpa using h5 i, h6⟩

theorem den_lc {scope : Scope} {vs : List Nat} {tg elt it : Expr} {ifs : List Expr} {xs ts : List T} (hi : IJ m XX tg it env c xs c1) (hz : xs.length < sizeLine)
    (run : Trns (fun x c o c' => Trn m (blkF XX scope) tg ifs elt vs env x c o c') xs c1 ts c2) :
    Den m (tLc (rdI XX tg it) (rdG (blkF XX scope) tg) (rdTs (blkF XX scope) ifs) (rdE (blkF XX scope) elt) vs) env c (.new (.lst ts)) c2 := by
  intro σ B H s r Q q
  obtain ⟨cs, acc, e0, a0, e1, a1, al, turn⟩ := run.at
  refine hi σ B H s r _ fun J B1 H1 s1 t1 wk => ?_
  intro D hD
  have r1 := r.step t1
  have hp0 : m.p0 ≠ some D := fun z => by
    have := (s1.pot D z).2
    rw [hD] at this
    cases this
  -- the invariant: D is owned
  refine ⟨fun i k H' => k = xs.length - i ∧ i ≤ xs.length ∧ ∃ B' vs', Sit m (cs i) B' H' ∧ Stp m B1 H1 B' H' ∧ H' D = some (.lst vs') ∧ B' D = none ∧ RepL m (acc i) vs' B', ⟨xs.length, ?_⟩, ?_⟩
  · have sm : Same H1 (upd H1 D (.lst [])) := fun a o e => by rw [upd_ne (ne_of_none e hD)]; exact e
    refine ⟨by simp, Nat.zero_le _, B1, [], ?_, Stp.same sm, upd_same, s1.sub.free hD, ?_⟩
    · rw [e0]; exact s1.same sm
    · rw [a0, repL_nil]
  · rintro i k H' ⟨rfl, hi', B', vs', s', t', hD', hB', rl⟩
    by_cases hlt : i < xs.length
    · refine .inr ⟨wk.goes i H' hlt (t'.b.trans s'.sub), fun H'' => ∃ B'' vs'', Sit m (cs (i + 1)) B'' H'' ∧ Stp m B1 H1 B'' H'' ∧ H'' D = some (.lst vs'') ∧ B'' D = none ∧ RepL m (acc (i + 1)) vs'' B'', fun H'' ⟨B'', vs'', q1, q2, q3, q4, q5⟩ => ⟨xs.length - (i + 1), by omega, rfl, hlt, B'', vs'', q1, q2, q3, q4, q5⟩, fun x H2 y => ?_⟩
      obtain ⟨t, ht, hy⟩ := wk.yields i H' x H2 hlt (t'.b.trans s'.sub) y
      obtain ⟨B2, s2, t2, r2⟩ := hy (cs i) B' s' t'.b
      obtain ⟨o, ⟨ks, e1', hks, hg, ho⟩, hacc⟩ := turn i t ht
      have kD : ∀ {B3 H3 : Hp}, Stp m B' H' B3 H3 → H3 D = some (.lst vs') ∧ B3 D = none := fun {B3 H3} t3 => by
        refine ⟨t3.h D _ hD' hp0, ?_⟩
        cases z : B3 D with
        | none => rfl
        | some w =>
          rcases t3.n D (by rw [z]; exact fun y => nomatch y) with y | y
          · exact absurd hB' y
          · rw [hD'] at y; cases y
      have rw2 : RepE m (wipeE env vs) (L2.wipe σ vs) B2 H2 := ((r1.step t').step t2).wipe vs
      refine hg (L2.wipe σ vs) B2 H2 x s2.sub rw2 r2 _ fun σ2 l hl hlk r3 => ⟨?_, ?_⟩
      · rw [hl, wipe_sets (fun p hp => hks _ (by rw [← hlk]; exact List.mem_map_of_mem hp))]
        exact wipe_wipe fun _ h => h
      · rcases ho with ⟨tv, cm, rfl, hf, he⟩ | ⟨rfl, hf⟩
        · refine hf σ2 B2 H2 s2 r3 _ fun B3 H3 s3 t3 => ?_
          rw [if_pos rfl]
          refine he σ2 B3 H3 s3 (r3.step t3) _ fun v B4 H4 s4 t4 rv => ?_
          have tt : Stp m B' H' B4 H4 := (t2.trans t3).trans t4
          obtain ⟨k1, k2⟩ := kD tt
          have sz : vs'.length < sizeLine := by
            rw [rl.length]
            have := al i
            omega
          refine ⟨vs', k1, sz, B4, vs' ++ [v], ?_, ?_, upd_same, k2, ?_⟩
          · refine ⟨fun a o e => ?_, fun a ha => dom_upd (s4.old a ha), fun p hp => ?_⟩
            · have : a ≠ D := fun z => by subst z; rw [k2] at e; cases e
              rw [upd_ne this]; exact s4.sub a o e
            · have : p ≠ D := fun z => hp0 (by rw [← z]; exact hp)
              rw [upd_ne this]; exact s4.pot p hp
          · exact (t'.trans tt).mutNew hD
          · rw [hacc]
            exact (rl.mono tt.b).append (repL_cons.mpr ⟨_, _, rfl, rv, repL_nil.mpr rfl⟩)
        · refine hf σ2 B2 H2 s2 r3 _ fun B3 H3 s3 t3 => ?_
          rw [if_neg Bool.false_ne_true]
          have tt : Stp m B' H' B3 H3 := t2.trans t3
          obtain ⟨k1, k2⟩ := kD tt
          refine ⟨B3, vs', s3, t'.trans tt, k1, k2, ?_⟩
          rw [hacc]
          simpa using rl.mono tt.b
    · have e : i = xs.length := by omega
      subst e
      refine .inl ⟨wk.stops H' (t'.b.trans s'.sub), ?_⟩
      rw [e1] at s'
      rw [a1] at rl
      exact q (.ref D) (upd B' D (.lst vs')) H' (s'.frz hB' hD' hp0) (t1.trans (t'.frz hD hB')) (rep_new.mpr ⟨rep_lst.mpr ⟨D, vs', rfl, upd_same, rl.mono fun a o e => by rw [upd_ne (ne_of_none e hB')]; exact e⟩, D, rfl, s1.fresh hD⟩)
end
end TW
set_option Elab.async false
set_option linter.all false
set_option maxRecDepth 100000
set_option maxHeartbeats 4000000
/-! Fw6: comprehensions in use, statements, blocks. -/
namespace TW
open PySem L2

section
variable {S : Stat} {N : List Str} {n : Nat} {ι : Type} {XX : ι → Cx} {m : Pm} {env : TEnv} {c c1 c2 c3 : Pot}

/-! ### comprehensions in use -/
structure CompJ (S : Stat) (N : List Str) (m : Pm) (XX : ι → Cx) (elt tg it : Expr) (ifs : List Expr) (scope : Scope) (own : List (Str × Nat)) (env : TEnv) (c : Pot) (ts : List T) (c2 : Pot) : Prop where
  ok : ∀ i, BlkOk N (XX i).env.scope scope own
  den : Den m (tLc (rdI XX tg it) (rdG (blkF XX scope) tg) (rdTs (blkF XX scope) ifs) (rdE (blkF XX scope) elt) (own.map (·.2))) env c (.new (.lst ts)) c2
theorem e_compN (F : Fam S N n XX) {elt tg it : Expr} {ifs : List Expr} {scope : Scope} {own : List (Str × Nat)} {pos : Pos} {ts : List T} (h : CompJ S N m XX elt tg it ifs scope own env c ts c2)
    (hf : ∀ i x, foldedSetIterable it (XX i).env x = pure x := by intro _ _; rfl) : EJ m XX (.ListComp elt [⟨tg, it, ifs, 0⟩] scope pos) env c (.new (.lst ts)) c2 :=
  EJ.of (fun i => pe_lc (F.calm i) (by rw [F.names i]; exact F.nd) (pi_rd i) (by have := h.ok i; rw [← F.names i] at this; exact this)
    (fun s H C cl fp => pg_rd (XX := blkF XX scope) (i, s, H, C, cl, fp)) (fun s H C cl fp => pts_rd (XX := blkF XX scope) (i, s, H, C, cl, fp)) (fun s H C cl fp => pe_rd (XX := blkF XX scope) (i, s, H, C, cl, fp)) (hf i)) h.den
theorem EJ.weak {e : Expr} {t t' : T} (h : EJ m XX e env c t c1) (w : ∀ v B, Rep m t v B → Rep m t' v B) : EJ m XX e env c t' c1 := fun σ B H s r Q q => h σ B H s r Q fun v B' H' s' st rv => q v B' H' s' st (w v B' rv)
theorem EJ.old {e : Expr} {t : T} (h : EJ m XX e env c (.new t) c1) : EJ m XX e env c t c1 := h.weak fun v B r => (rep_new.mp r).1
theorem e_comp (F : Fam S N n XX) {elt tg it : Expr} {ifs : List Expr} {scope : Scope} {own : List (Str × Nat)} {pos : Pos} {ts : List T} (h : CompJ S N m XX elt tg it ifs scope own env c ts c2)
    (hf : ∀ i x, foldedSetIterable it (XX i).env x = pure x := by intro _ _; rfl) : EJ m XX (.ListComp elt [⟨tg, it, ifs, 0⟩] scope pos) env c (.lst ts) c2 := EJ.old (e_compN F h hf)
theorem trns_map {α : Type} {P : T → Pot → Option T → Pot → Prop} {emb f : α → T} : ∀ {ys : List α}, (∀ y ∈ ys, P (emb y) c (some (f y)) c) → Trns P (ys.map emb) c (ys.map f) c
  | [], _ => .nil
  | y :: ys, h => .keep (h y List.mem_cons_self) (trns_map fun z hz => h z (List.mem_cons_of_mem _ hz))
theorem trns_filter {α : Type} {P : T → Pot → Option T → Pot → Prop} {emb f : α → T} {p : α → Bool} : ∀ {ys : List α}, (∀ y ∈ ys, P (emb y) c (if p y = true then some (f y) else none) c) → Trns P (ys.map emb) c ((ys.filter p).map f) c
  | [], _ => .nil
  | y :: ys, h => by
    have h1 := h y List.mem_cons_self
    have h2 := trns_filter (ys := ys) fun z hz => h z (List.mem_cons_of_mem _ hz)
    cases q : p y with
    | true =>
      rw [q, if_pos rfl] at h1
      rw [List.filter_cons_of_pos q]
      exact .keep h1 h2
    | false =>
      rw [q, if_neg Bool.false_ne_true] at h1
      rw [List.filter_cons_of_neg (by rw [q]; exact Bool.false_ne_true)]
      exact .skip h1 h2
/-- draws along a list -/
def mapP {α β : Type} (f : α → Pot → β × Pot) : List α → Pot → List β × Pot
  | [], c => ([], c)
  | y :: ys, c => let r := f y c; let rs := mapP f ys r.2; (r.1 :: rs.1, rs.2)
theorem trns_mapP {α β : Type} {P : T → Pot → Option T → Pot → Prop} {emb : α → T} {emb' : β → T} {f : α → Pot → β × Pot} : ∀ {ys : List α} {c : Pot}, (∀ y ∈ ys, ∀ c, P (emb y) c (some (emb' (f y c).1)) (f y c).2) → Trns P (ys.map emb) c ((mapP f ys c).1.map emb') (mapP f ys c).2
  | [], _, _ => .nil
  | y :: ys, c, h => .keep (h y List.mem_cons_self c) (trns_mapP fun z hz => h z (List.mem_cons_of_mem _ hz))
/-- [elt for x in it] -/
theorem c_name (F : Fam S N n XX) {α : Type} {elt it : Expr} {scope : Scope} {x : Str} {k : Nat} {pos : Pos} {emb f : α → T} {ys : List α} (hi : IJ m XX (.Name x pos) it env c (ys.map emb) c1) (hz : ys.length < sizeLine)
    (he : ∀ y ∈ ys, EJ m (blkF XX scope) elt ((wipeE env [k]).set k (Sl.val (emb y))) c1 (f y) c1)
    (ok : ∀ i, BlkOk N (XX i).env.scope scope [(x, k)] := by intro _; exact blkOk_by (by kernel_rfl)) (hN : N[k]? = some x := by rfl)
    (hl : ∀ j, L2.Loc (blkF XX scope j).env.scope x := by intro _; first | exact Or.inl rfl | exact Or.inr rfl)
    (hfn : ∀ j, (blkF XX scope j).fn x = true ∨ (blkF XX scope j).env.scope.names.lookup x = some .local := by intro _; first | exact Or.inr rfl | exact Or.inl rfl) :
    CompJ S N m XX elt (.Name x pos) it [] scope [(x, k)] env c (ys.map f) c1 :=
  ⟨ok, den_lc hi (by rw [List.length_map]; exact hz) (trns_map fun y hy => ⟨[k], _, fun _ h => h, g_name (F.blk scope) k hN hl hfn, .inl ⟨_, _, rfl, f_nil, he y hy⟩⟩)⟩
/-- the same with draws -/
theorem c_nameP (F : Fam S N n XX) {α β : Type} {elt it : Expr} {scope : Scope} {x : Str} {k : Nat} {pos : Pos} {emb : α → T} {emb' : β → T} {f : α → Pot → β × Pot} {ys : List α} (hi : IJ m XX (.Name x pos) it env c (ys.map emb) c1) (hz : ys.length < sizeLine)
    (he : ∀ y ∈ ys, ∀ c, EJ m (blkF XX scope) elt ((wipeE env [k]).set k (Sl.val (emb y))) c (emb' (f y c).1) (f y c).2)
    (ok : ∀ i, BlkOk N (XX i).env.scope scope [(x, k)] := by intro _; exact blkOk_by (by kernel_rfl)) (hN : N[k]? = some x := by rfl)
    (hl : ∀ j, L2.Loc (blkF XX scope j).env.scope x := by intro _; first | exact Or.inl rfl | exact Or.inr rfl)
    (hfn : ∀ j, (blkF XX scope j).fn x = true ∨ (blkF XX scope j).env.scope.names.lookup x = some .local := by intro _; first | exact Or.inr rfl | exact Or.inl rfl) :
    CompJ S N m XX elt (.Name x pos) it [] scope [(x, k)] env c ((mapP f ys c1).1.map emb') (mapP f ys c1).2 :=
  ⟨ok, den_lc hi (by rw [List.length_map]; exact hz) (trns_mapP fun y hy c => ⟨[k], _, fun _ h => h, g_name (F.blk scope) k hN hl hfn, .inl ⟨_, _, rfl, f_nil, he y hy c⟩⟩)⟩
/-- [elt for x in it if cond] -/
theorem c_nameF (F : Fam S N n XX) {α : Type} {elt it cond : Expr} {scope : Scope} {x : Str} {k : Nat} {pos : Pos} {emb f : α → T} {p : α → Bool} {ys : List α} (hi : IJ m XX (.Name x pos) it env c (ys.map emb) c1) (hz : ys.length < sizeLine)
    (ht : ∀ y ∈ ys, TJ m (blkF XX scope) cond ((wipeE env [k]).set k (Sl.val (emb y))) c1 (p y) c1)
    (he : ∀ y ∈ ys, p y = true → EJ m (blkF XX scope) elt ((wipeE env [k]).set k (Sl.val (emb y))) c1 (f y) c1)
    (ok : ∀ i, BlkOk N (XX i).env.scope scope [(x, k)] := by intro _; exact blkOk_by (by kernel_rfl)) (hN : N[k]? = some x := by rfl)
    (hl : ∀ j, L2.Loc (blkF XX scope j).env.scope x := by intro _; first | exact Or.inl rfl | exact Or.inr rfl)
    (hfn : ∀ j, (blkF XX scope j).fn x = true ∨ (blkF XX scope j).env.scope.names.lookup x = some .local := by intro _; first | exact Or.inr rfl | exact Or.inl rfl) :
    CompJ S N m XX elt (.Name x pos) it [cond] scope [(x, k)] env c ((ys.filter p).map f) c1 :=
  ⟨ok, den_lc hi (by rw [List.length_map]; exact hz) (trns_filter fun y hy => by
    have h := ht y hy
    refine ⟨[k], _, fun _ h => h, g_name (F.blk scope) k hN hl hfn, ?_⟩
    cases q : p y with
    | true => rw [q] at h; exact .inl ⟨_, _, rfl, f_one h, he y hy q⟩
    | false => rw [q] at h; exact .inr ⟨rfl, f_one h⟩)⟩
/-- [elt for x, y in it] -/
theorem c_pair (F : Fam S N n XX) {α : Type} {elt it : Expr} {scope : Scope} {x y : Str} {k l kk : Nat} {pos px py : Pos} {ea eb f : α → T} {ys : List α} (hi : IJ m XX (.Tuple [.Name x px, .Name y py] kk pos) it env c (ys.map fun z => .tup [ea z, eb z]) c1) (hz : ys.length < sizeLine)
    (he : ∀ z ∈ ys, EJ m (blkF XX scope) elt (((wipeE env [k, l]).set k (Sl.val (ea z))).set l (Sl.val (eb z))) c1 (f z) c1)
    (ok : ∀ i, BlkOk N (XX i).env.scope scope [(x, k), (y, l)] := by intro _; exact blkOk_by (by kernel_rfl)) (hN : N[k]? = some x := by rfl) (hN2 : N[l]? = some y := by rfl)
    (hl : ∀ j, L2.Loc (blkF XX scope j).env.scope x := by intro _; first | exact Or.inl rfl | exact Or.inr rfl) (hl2 : ∀ j, L2.Loc (blkF XX scope j).env.scope y := by intro _; first | exact Or.inl rfl | exact Or.inr rfl)
    (hfn : ∀ j, (blkF XX scope j).fn x = true ∨ (blkF XX scope j).env.scope.names.lookup x = some .local := by intro _; first | exact Or.inr rfl | exact Or.inl rfl)
    (hfn2 : ∀ j, (blkF XX scope j).fn y = true ∨ (blkF XX scope j).env.scope.names.lookup y = some .local := by intro _; first | exact Or.inr rfl | exact Or.inl rfl) :
    CompJ S N m XX elt (.Tuple [.Name x px, .Name y py] kk pos) it [] scope [(x, k), (y, l)] env c (ys.map f) c1 :=
  ⟨ok, den_lc hi (by rw [List.length_map]; exact hz) (trns_map fun z hz => ⟨[k] ++ [l], _, fun _ h => h, g_tup2 (F.blk scope) (g_name (F.blk scope) k hN hl hfn) (g_name (F.blk scope) l hN2 hl2 hfn2), .inl ⟨_, _, rfl, f_nil, he z hz⟩⟩)⟩
/-- [elt for x, y in it if cond] -/
theorem c_pairF (F : Fam S N n XX) {α : Type} {elt it cond : Expr} {scope : Scope} {x y : Str} {k l kk : Nat} {pos px py : Pos} {ea eb f : α → T} {p : α → Bool} {ys : List α} (hi : IJ m XX (.Tuple [.Name x px, .Name y py] kk pos) it env c (ys.map fun z => .tup [ea z, eb z]) c1) (hz : ys.length < sizeLine)
    (ht : ∀ z ∈ ys, TJ m (blkF XX scope) cond (((wipeE env [k, l]).set k (Sl.val (ea z))).set l (Sl.val (eb z))) c1 (p z) c1)
    (he : ∀ z ∈ ys, p z = true → EJ m (blkF XX scope) elt (((wipeE env [k, l]).set k (Sl.val (ea z))).set l (Sl.val (eb z))) c1 (f z) c1)
    (ok : ∀ i, BlkOk N (XX i).env.scope scope [(x, k), (y, l)] := by intro _; exact blkOk_by (by kernel_rfl)) (hN : N[k]? = some x := by rfl) (hN2 : N[l]? = some y := by rfl)
    (hl : ∀ j, L2.Loc (blkF XX scope j).env.scope x := by intro _; first | exact Or.inl rfl | exact Or.inr rfl) (hl2 : ∀ j, L2.Loc (blkF XX scope j).env.scope y := by intro _; first | exact Or.inl rfl | exact Or.inr rfl)
    (hfn : ∀ j, (blkF XX scope j).fn x = true ∨ (blkF XX scope j).env.scope.names.lookup x = some .local := by intro _; first | exact Or.inr rfl | exact Or.inl rfl)
    (hfn2 : ∀ j, (blkF XX scope j).fn y = true ∨ (blkF XX scope j).env.scope.names.lookup y = some .local := by intro _; first | exact Or.inr rfl | exact Or.inl rfl) :
    CompJ S N m XX elt (.Tuple [.Name x px, .Name y py] kk pos) it [cond] scope [(x, k), (y, l)] env c ((ys.filter p).map f) c1 :=
  ⟨ok, den_lc hi (by rw [List.length_map]; exact hz) (trns_filter fun z hz => by
    have h := ht z hz
    refine ⟨[k] ++ [l], _, fun _ h => h, g_tup2 (F.blk scope) (g_name (F.blk scope) k hN hl hfn) (g_name (F.blk scope) l hN2 hl2 hfn2), ?_⟩
    cases q : p z with
    | true => rw [q] at h; exact .inl ⟨_, _, rfl, f_one h, he z hz q⟩
    | false => rw [q] at h; exact .inr ⟨rfl, f_one h⟩)⟩

/-! ### statements -/
theorem Ok.mono {B0 H0 B B' : Hp} {D : Ends} {o : Out} (k : Ok m B0 H0 B D o) (s : Same B B') : Ok m B0 H0 B' D o := by
  cases o with
  | nx e c => exact fun σ B'' H'' a b => k σ B'' H'' a (s.trans b)
  | rt t c => exact k
  | raw W => exact k
theorem den_asg {te : TE} {k : Nat} {t : T} (h : Den m te env c t c1) : DenS m (tAsg te (gName k)) env c (.nx (env.set k (Sl.val t)) c1) := by
  intro B0 H0 σ B H a D q
  refine h σ B H a.sit a.env _ fun v B1 H1 s1 t1 rv => ?_
  exact q _ B1 H1 ((a.step s1 t1).set rv k) t1.b
theorem s_set (F : Fam S N n XX) (k : Nat) {x : Str} {e : Expr} {pos pos' : Pos} {t : T} (h : EJ m XX e env c t c1) (hN : N[k]? = some x := by rfl) (hl : ∀ i, L2.Loc (XX i).env.scope x := by intro _; first | exact Or.inl rfl | exact Or.inr rfl)
    (hsw : ∀ i, swapsWith e (some (.Name x pos')) pos.line (XX i).env = pure false := by intro _; rfl)
    (hf : ∀ i, (XX i).fn x = true ∨ (XX i).env.scope.names.lookup x = some .local := by intro _; first | exact Or.inr rfl | exact Or.inl rfl) :
    SJ m XX (.Assign [.Name x pos'] e pos) env c (.nx (env.set k (Sl.val t)) c1) :=
  SJ.of (fun i => ps_set (by rw [F.names i]; exact F.nd) (by rw [F.names i]; exact hN) (hl i) (pe_rd i) (hsw i) (hf i)) (den_asg h)
/-- x = [.. for ..] -/
theorem s_setComp (F : Fam S N n XX) (k : Nat) {x : Str} {elt tg it : Expr} {ifs : List Expr} {scope : Scope} {own : List (Str × Nat)} {pos pos' spos : Pos} {ts : List T} (h : CompJ S N m XX elt tg it ifs scope own env c ts c2) (hN : N[k]? = some x := by rfl)
    (hl : ∀ i, (XX i).env.scope.names.lookup x = some .local := by intro _; rfl)
    (hsw : ∀ i, swapsWith (.ListComp elt [⟨tg, it, ifs, 0⟩] scope pos) (some (.Name x pos')) spos.line (XX i).env = pure true := by intro _; exact sw_true rfl rfl rfl (by kernel_rfl))
    (hf : ∀ i x, foldedSetIterable it (XX i).env x = pure x := by intro _ _; rfl) :
    SJ m XX (.Assign [.Name x pos'] (.ListComp elt [⟨tg, it, ifs, 0⟩] scope pos) spos) env c (.nx (env.set k (Sl.val (.lst ts))) c2) :=
  SJ.of (fun i => ps_setLc (i := k) (F.calm i) (by rw [F.names i]; exact F.nd) (by rw [F.names i]; exact hN) (hl i) (hsw i) (pi_rd i) (by have := h.ok i; rw [← F.names i] at this; exact this)
    (fun s H C cl fp => pg_rd (XX := blkF XX scope) (i, s, H, C, cl, fp)) (fun s H C cl fp => pts_rd (XX := blkF XX scope) (i, s, H, C, cl, fp)) (fun s H C cl fp => pe_rd (XX := blkF XX scope) (i, s, H, C, cl, fp)) (hf i)) (den_asg (fun σ B H s r Q q => h.den σ B H s r Q fun v B' H' s' st rv => q v B' H' s' st (rep_new.mp rv).1))
/-- a, b = e1, e2 -/
theorem s_par (F : Fam S N n XX) (k l : Nat) {x y : Str} {a b : Expr} {px py pt pt2 pos : Pos} {kt k2 : Nat} {t u : T} (ha : EJ m XX a env c t c1) (hb : EJ m XX b env c1 u c2) (hkl : k ≠ l := by decide) (hN : N[k]? = some x := by rfl) (hN2 : N[l]? = some y := by rfl)
    (hl : ∀ i, (XX i).env.scope.names.lookup x = some .local := by intro _; rfl) (hl2 : ∀ i, (XX i).env.scope.names.lookup y = some .local := by intro _; rfl)
    (hs : ∀ i, starEach [a, b] (XX i).env = (false, eval a (XX i).env) :: starEach [b] (XX i).env := by intro _; rfl) (hs2 : ∀ i, starEach [b] (XX i).env = [(false, eval b (XX i).env)] := by intro _; rfl)
    (h1 : ∀ i, swappedStores [.Tuple [.Name x px, .Name y py] kt pt] (.Tuple [a, b] k2 pt2) (XX i).env = pure (some [x, y]) := by intro _; rfl)
    (h2 : ∀ i, swapsWithSole [.Tuple [.Name x px, .Name y py] kt pt] (.Tuple [a, b] k2 pt2) pos.line (XX i).env = pure false := by intro _; rfl) :
    SJ m XX (.Assign [.Tuple [.Name x px, .Name y py] kt pt] (.Tuple [a, b] k2 pt2) pos) env c (.nx ((env.set k (Sl.val t)).set l (Sl.val u)) c2) :=
  SJ.of (fun i => ps_par (F.calm i) (by rw [F.names i]; exact F.nd) (by rw [F.names i]; exact hN) (by rw [F.names i]; exact hN2) hkl (hl i) (hl2 i) (pa_cons (pe_rd i) (pa_cons (pe_rd i) pa_nil (hs2 i)) (hs i)) (h1 i) (h2 i)) (by
    intro B0 H0 σ B H an D q
    refine ha σ B H an.sit an.env _ fun v B1 H1 s1 t1 rv => ?_
    have a1 := an.step s1 t1
    refine hb σ B1 H1 s1 a1.env _ fun w B2 H2 s2 t2 rw_ => ?_
    have a2 := a1.step s2 t2
    exact ⟨v, w, rfl, q _ B2 H2 ((a2.set (rv.mono t2.b) k).set rw_ l) (t1.b.trans t2.b)⟩)
/-- a, b = e -/
theorem s_asg (F : Fam S N n XX) {tg e : Expr} {pos : Pos} {t : T} {ks : List Nat} {e1 : TEnv} (h : EJ m XX e env c t c1) (g : GJ m XX tg ks env t e1)
    (own : ∀ (i : Nat) (ts : List T), e1[i]? = some (Sl.own ts) → env[i]? = some (Sl.own ts) ∧ i ∉ ks)
    (h1 : ∀ i, swapsWithSole [tg] e pos.line (XX i).env = pure false := by intro _; rfl) (h2 : ∀ i, swappedStores [tg] e (XX i).env = pure none := by intro _; rfl)
    (h3 : ∀ i, (assignEach [tg] (XX i).env).map (·.2) = [assign tg (XX i).env] := by intro _; rfl) : SJ m XX (.Assign [tg] e pos) env c (.nx e1 c1) :=
  SJ.of (fun i => ps_asg (pe_rd i) (pg_rd i) (h1 i) (h2 i) (h3 i)) (by
    intro B0 H0 σ B H an D q
    refine h σ B H an.sit an.env _ fun v B1 H1 s1 t1 rv => ?_
    have a1 := an.step s1 t1
    refine g σ B1 H1 v s1.sub a1.env rv _ fun σ' l hl hk r => ?_
    refine q σ' B1 H1 ⟨s1, r, a1.stp, fun i ts a q1 q2 => ?_⟩ t1.b
    obtain ⟨o1, o2⟩ := own i ts q1
    refine a1.own i ts a o1 ?_
    have : ∀ {l : List (Nat × V)} {σ : L2.St}, (∀ p ∈ l, p.1 ≠ i) → (sets σ l)[i]? = σ[i]? := by
      intro l
      induction l with
      | nil => intro σ _; rfl
      | cons p l ih =>
        intro σ h
        show (sets (σ.set p.1 (some p.2)) l)[i]? = _
        rw [ih fun q hq => h q (List.mem_cons_of_mem _ hq), List.getElem?_set_ne (h p List.mem_cons_self)]
    rw [hl, this (fun p hp z => o2 (by rw [← hk, ← z]; exact List.mem_map_of_mem hp))] at q2
    exact q2)
theorem s_ret {e : Expr} {pos : Pos} {t : T} (h : EJ m XX e env c t c1) : SJ m XX (.Return (some e) pos) env c (.rt t c1) :=
  SJ.of (fun i => ps_ret (pe_rd i)) (by
    intro B0 H0 σ B H an D q
    exact h σ B H an.sit an.env _ fun v B1 H1 s1 t1 rv => q v B1 H1 s1 (an.stp.trans t1) rv)
theorem s_ifT {d : Expr} {a b : List Stmt} {pos : Pos} {o : Out} (h : TJ m XX d env c true c1) (ha : BJ m XX a env c1 o) : SJ m XX (.If d a b pos) env c o :=
  SJ.of (fun i => ps_if (pt_rd i) (pb_rd i) (pb_rd i)) (by
    intro B0 H0 σ B H an D q
    refine h σ B H an.sit an.env _ fun B1 H1 s1 t1 => ?_
    rw [if_pos rfl]
    exact ha B0 H0 σ B1 H1 (an.step s1 t1) D (q.mono t1.b))
theorem s_ifF {d : Expr} {a b : List Stmt} {pos : Pos} {o : Out} (h : TJ m XX d env c false c1) (hb : BJ m XX b env c1 o) : SJ m XX (.If d a b pos) env c o :=
  SJ.of (fun i => ps_if (pt_rd i) (pb_rd i) (pb_rd i)) (by
    intro B0 H0 σ B H an D q
    refine h σ B H an.sit an.env _ fun B1 H1 s1 t1 => ?_
    rw [if_neg Bool.false_ne_true]
    exact hb B0 H0 σ B1 H1 (an.step s1 t1) D (q.mono t1.b))
theorem s_expr {e : Expr} {pos : Pos} {t : T} (h : EJ m XX e env c t c1) (hs : ∀ i, swapsWith e none pos.line (XX i).env = pure false := by intro _; rfl) : SJ m XX (.Expr e pos) env c (.nx env c1) :=
  SJ.of (fun i => ps_expr (pe_rd i) (hs i)) (by
    intro B0 H0 σ B H an D q
    exact h σ B H an.sit an.env _ fun v B1 H1 s1 t1 rv => q σ B1 H1 (an.step s1 t1) t1.b)
theorem b_nil : BJ m XX [] env c (.nx env c) := BJ.of (fun _ => pss_nil) fun B0 H0 σ B H an D q => q σ B H an (Same.refl B)
theorem b_cons {st : Stmt} {rest : List Stmt} {e1 : TEnv} {o : Out} (h : SJ m XX st env c (.nx e1 c1)) (hr : BJ m XX rest e1 c1 o) : BJ m XX (st :: rest) env c o :=
  BJ.of (fun i => pss_cons (ps_rd i) (pb_rd i)) fun B0 H0 σ B H an D q => h B0 H0 σ B H an { D with nx := rdB XX rest D } fun σ' B' H' an' sb => hr B0 H0 σ' B' H' an' D (q.mono sb)
theorem b_one {st : Stmt} {o : Out} (h : SJ m XX st env c o) : BJ m XX [st] env c o := BJ.of (fun i => pss_one (ps_rd i)) h
/-- the block is left by its first statement -/
theorem b_ret {st : Stmt} {rest : List Stmt} {t : T} (h : SJ m XX st env c (.rt t c1)) : BJ m XX (st :: rest) env c (.rt t c1) :=
  BJ.of (fun i => pss_cons (ps_rd i) (pb_rd i)) fun B0 H0 σ B H an D q => h B0 H0 σ B H an { D with nx := rdB XX rest D } q
theorem Anc.freeze {B0 H0 : Hp} {σ : L2.St} {B H : Hp} {ts : List T} {k : Nat} (an : Anc m B0 H0 env c σ B H) (hk : env[k]? = some (Sl.own ts)) :
    ∃ B', Anc m B0 H0 (env.set k (Sl.val (.new (.lst ts)))) c σ B' H ∧ Same B B' := by
  obtain ⟨a, vs, h1, h2, h3, h4, h5, h6⟩ := an.env.freeze hk
  have hl : k < env.length := (List.getElem?_eq_some_iff.mp hk).1
  have h0 := an.own k ts a hk h1
  refine ⟨upd B a (.lst vs), ⟨an.sit.frz h3 h2 h4, h6, an.stp.frz h0 h3, fun i us b q1 q2 => ?_⟩, fun b o q => by rw [upd_ne (ne_of_none q h3)]; exact q⟩
  have z : k ≠ i := fun z => by subst z; rw [List.getElem?_set_self hl] at q1; cases q1
  rw [List.getElem?_set_ne z] at q1
  exact an.own i us b q1 q2
theorem b_freezeN {sts : List Stmt} {o : Out} {ts : List T} (k : Nat) (h : BJ m XX sts (env.set k (Sl.val (.new (.lst ts)))) c o) (hk : env[k]? = some (Sl.own ts) := by rfl) : BJ m XX sts env c o := by
  intro B0 H0 σ B H an D q
  obtain ⟨B', an', sb⟩ := an.freeze hk
  exact h B0 H0 σ B' H an' D (q.mono sb)
theorem RepE.weak {e : TEnv} {σ : L2.St} {B H : Hp} {k : Nat} {t t' : T} (r : RepE m (e.set k (Sl.val t)) σ B H) (w : ∀ v B, Rep m t v B → Rep m t' v B) : RepE m (e.set k (Sl.val t')) σ B H := by
  have other : ∀ {i : Nat}, k ≠ i → (e.set k (Sl.val t'))[i]? = (e.set k (Sl.val t))[i]? := fun {i} z => by rw [List.getElem?_set_ne z, List.getElem?_set_ne z]
  have here : ∀ {z : Sl}, (e.set k (Sl.val t'))[k]? = some z → k < e.length ∧ z = Sl.val t' := fun {z} q => by
    have hl : k < e.length := by
      have := (List.getElem?_eq_some_iff.mp q).1
      simpa using this
    rw [List.getElem?_set_self hl] at q
    exact ⟨hl, (Option.some.inj q).symm⟩
  refine ⟨by simpa using r.len, fun i u q => ?_, fun i ts q => ?_, fun i rv q => ?_, fun i j ts us a hij q1 q2 q3 q4 => ?_⟩
  · by_cases z : k = i
    · subst z
      obtain ⟨hl, e1⟩ := here q
      cases e1
      obtain ⟨v, g1, g2⟩ := r.val k t (by rw [List.getElem?_set_self hl])
      exact ⟨v, g1, w v B g2⟩
    · rw [other z] at q
      exact r.val i u q
  · by_cases z : k = i
    · subst z; obtain ⟨_, e1⟩ := here q; cases e1
    · rw [other z] at q; exact r.own i ts q
  · by_cases z : k = i
    · subst z; obtain ⟨_, e1⟩ := here q; cases e1
    · rw [other z] at q; exact r.raw i rv q
  · have z1 : k ≠ i := fun z => by subst z; obtain ⟨_, e1⟩ := here q1; cases e1
    have z2 : k ≠ j := fun z => by subst z; obtain ⟨_, e1⟩ := here q2; cases e1
    rw [other z1] at q1
    rw [other z2] at q2
    exact r.dis i j ts us a hij q1 q2 q3 q4
theorem Anc.weak {B0 H0 : Hp} {σ : L2.St} {B H : Hp} {k : Nat} {t t' : T} (an : Anc m B0 H0 (env.set k (Sl.val t)) c σ B H) (w : ∀ v B, Rep m t v B → Rep m t' v B) : Anc m B0 H0 (env.set k (Sl.val t')) c σ B H := by
  refine ⟨an.sit, an.env.weak w, an.stp, fun i ts a q1 q2 => ?_⟩
  have z : k ≠ i := fun z => by
    subst z
    have hl : k < env.length := by
      have := (List.getElem?_eq_some_iff.mp q1).1
      simpa using this
    rw [List.getElem?_set_self hl] at q1
    cases q1
  rw [List.getElem?_set_ne z] at q1
  exact an.own i ts a (by rw [List.getElem?_set_ne z]; exact q1) q2
theorem b_freeze {sts : List Stmt} {o : Out} {ts : List T} (k : Nat) (h : BJ m XX sts (env.set k (Sl.val (.lst ts))) c o) (hk : env[k]? = some (Sl.own ts) := by rfl) : BJ m XX sts env c o :=
  b_freezeN k (fun B0 H0 σ B H an D q => h B0 H0 σ B H (an.weak fun v B r => (rep_new.mp r).1) D q) hk
end
end TW
set_option Elab.async false
set_option linter.all false
set_option maxRecDepth 100000
set_option maxHeartbeats 4000000
/-! Fw7: owned lists, loops, defs. -/
namespace TW
open PySem L2

section
variable {S : Stat} {N : List Str} {n : Nat} {ι : Type} {XX : ι → Cx} {m : Pm} {env : TEnv} {c c1 c2 c3 : Pot}

/-! ### owned lists -/
/-- a new list, not frozen -/
def DenN (m : Pm) (te : TE) (e : TEnv) (c : Pot) (ts : List T) (c' : Pot) : Prop :=
  ∀ σ B H, Sit m c B H → RepE m e σ B H → ∀ Q : VK, (∀ p vs B' H1, Sit m c' B' H1 → Stp m B H B' H1 → H1 p = none → RepL m ts vs B' → Q (.ref p) (upd H1 p (.lst vs))) → te σ H Q
def NJ (m : Pm) (XX : ι → Cx) (e : Expr) (env : TEnv) (c : Pot) (ts : List T) (c' : Pot) : Prop := DenN m (rdE XX e) env c ts c'
theorem NJ.of {e : Expr} {te : TE} {env : TEnv} {c c' : Pot} {ts : List T} (h : ∀ i, PE (XX i) e te) (d : DenN m te env c ts c') : NJ m XX e env c ts c' := fun σ B H s r Q q => ⟨te, h, d σ B H s r Q q⟩
theorem n_lst {es : List Expr} {pos : Pos} {ts : List T} (h : AJ m XX es env c ts c1) (hz : ts.length ≤ sizeLine := by exact Nat.le_of_ble_eq_true rfl) : NJ m XX (.List es pos) env c ts c1 :=
  NJ.of (fun i => pe_lst (pa_rd i)) fun σ B H s r Q q => h σ B H s r _ fun vs B1 H1 s1 t1 rvs => ⟨by rw [rvs.length]; exact hz, fun p hp => q p vs B1 H1 s1 t1 hp rvs⟩
theorem n_list (F : Fam S N n XX) {p pos : Pos} {e : Expr} {t : T} {xs : List T} (hm : S.mg "list" = none) (he : EJ m XX e env c t c1) (h : itemsT t = some xs) (hg : ∀ i, Gl (XX i) "list" := by intro _; rfl)
    (hs : ∀ i, starEach [e] (XX i).env = [(false, eval e (XX i).env)] := by intro _; rfl) : NJ m XX (.Call (.Name "list" p) [e] [] pos) env c xs c1 :=
  NJ.of (te := tCB (fun xs H Q => ∃ p ys, xs = [V.ref p] ∧ (SqL S.K H p ys ∨ SqT S.K H p ys) ∧ ∀ l, H l = none → Q (V.ref l) (upd H l (HO.lst ys))) (tCons (rdE XX e) tNil)) (fun i => by
    rw [← F.k i]
    exact pe_callTy call_list_of (hg i) (by rw [F.mg i]; exact hm) (by decide +kernel) (pa_cons (pe_rd i) pa_nil (hs i)) (by decide) (by decide) (hs i) rfl)
    (fun σ B H s r Q q => he σ B H s r _ fun v B1 H1 s1 t1 rv => by
      cases t <;> simp only [itemsT] at h
      · cases h
      · cases h
      · cases h
      · cases h
      · cases h
      · cases h
        obtain ⟨a, vs, rfl, g1, g2⟩ := rep_lst.mp rv
        exact ⟨a, vs, rfl, .inl (SqL.of (s1.sub _ _ g1)), fun p hp => q p vs B1 H1 s1 t1 hp g2⟩
      · cases h
        obtain ⟨a, vs, rfl, g1, g2⟩ := rep_tup.mp rv
        exact ⟨a, vs, rfl, .inr (SqT.of (s1.sub _ _ g1)), fun p hp => q p vs B1 H1 s1 t1 hp g2⟩
      all_goals cases h)
theorem n_repI {a b : Expr} {pos : Pos} {i k : Int} (ha : EJ m XX a env c (.lst [.int i]) c1) (hb : EJ m XX b env c1 (.int k) c2) (hk : 0 ≤ k) (hk2 : k < 1000) : NJ m XX (.BinOp a .Mult b pos) env c (List.replicate k.toNat (.int i)) c2 :=
  NJ.of (fun i => pe_op op_rep (pe_rd i) (pe_rd i)) fun σ B H s r Q q => ha σ B H s r _ fun v B1 H1 s1 t1 rv => hb σ B1 H1 s1 (r.step t1) _ fun w B2 H2 s2 t2 rw_ => by
    obtain ⟨a, vs, rfl, h1, h2⟩ := rep_lst.mp (rv.mono t2.b)
    have hvs : vs = [V.int i] := (repL_ints (ns := [i])).mp h2
    subst hvs
    refine ⟨a, k, _, rfl, rep_int.mp rw_, s2.sub _ _ h1, by omega, by omega, ?_, fun p hp => ?_⟩
    · show 1 * k.toNat ≤ sizeLine
      have : sizeLine = 16777216 := by decide
      omega
    · have e : ((List.replicate k.toNat [V.int i]).flatten) = (List.replicate k.toNat i).map V.int := by
        induction k.toNat with
        | zero => rfl
        | succ n ih => rw [List.replicate_succ, List.flatten_cons, ih]; rfl
      have hr : RepL m (List.replicate k.toNat (T.int i)) ((List.replicate k.toNat [V.int i]).flatten) B2 := by
        rw [e]
        have := (repL_ints (m := m) (H := B2) (ns := List.replicate k.toNat i) (vs := (List.replicate k.toNat i).map V.int)).mpr rfl
        simpa using this
      exact q p _ B2 H2 s2 (t1.trans t2) hp hr
/-- a comprehension's list is new -/
theorem den_lcN {scope : Scope} {vs : List Nat} {tg elt it : Expr} {ifs : List Expr} {xs ts : List T} (h : Den m (tLc (rdI XX tg it) (rdG (blkF XX scope) tg) (rdTs (blkF XX scope) ifs) (rdE (blkF XX scope) elt) vs) env c (.lst ts) c2) : True := trivial
theorem Anc.setOwn {B0 H0 : Hp} {σ : L2.St} {B H : Hp} {ts : List T} {vs : List V} {p : Addr} (an : Anc m B0 H0 env c σ B H) (hp : H p = none) (h : RepL m ts vs B) (k : Nat) : Anc m B0 H0 (env.set k (Sl.own ts)) c (σ.set k (some (.ref p))) B (upd H p (.lst vs)) := by
  have h0 : m.p0 ≠ some p := fun z => by
    have := (an.sit.pot p z).2
    rw [hp] at this
    cases this
  have sm : Same H (upd H p (.lst vs)) := fun a o e => by rw [upd_ne (ne_of_none e hp)]; exact e
  have hH0 : H0 p = none := by
    cases z : H0 p with
    | none => rfl
    | some o => exact absurd hp (an.stp.d p (by rw [z]; exact fun y => nomatch y))
  refine ⟨an.sit.same sm, an.env.setOwn hp an.sit.sub h0 (an.sit.fresh hp) h k, an.stp.mutNew hH0, fun i us b q1 q2 => ?_⟩
  by_cases z : k = i
  · subst z
    have hl : k < σ.length := by
      have := (List.getElem?_eq_some_iff.mp q2).1
      simpa using this
    rw [List.getElem?_set_self hl] at q2
    cases q2
    exact hH0
  · rw [List.getElem?_set_ne z] at q1 q2
    exact an.own i us b q1 q2
theorem s_new (F : Fam S N n XX) (k : Nat) {x : Str} {e : Expr} {pos pos' : Pos} {ts : List T} (h : NJ m XX e env c ts c1) (hN : N[k]? = some x := by rfl) (hl : ∀ i, L2.Loc (XX i).env.scope x := by intro _; first | exact Or.inl rfl | exact Or.inr rfl)
    (hsw : ∀ i, swapsWith e (some (.Name x pos')) pos.line (XX i).env = pure false := by intro _; rfl)
    (hf : ∀ i, (XX i).fn x = true ∨ (XX i).env.scope.names.lookup x = some .local := by intro _; first | exact Or.inr rfl | exact Or.inl rfl) :
    SJ m XX (.Assign [.Name x pos'] e pos) env c (.nx (env.set k (Sl.own ts)) c1) :=
  SJ.of (fun i => ps_set (by rw [F.names i]; exact F.nd) (by rw [F.names i]; exact hN) (hl i) (pe_rd i) (hsw i) (hf i)) (by
    intro B0 H0 σ B H a D q
    refine h σ B H a.sit a.env _ fun p vs B1 H1 s1 t1 hp rv => ?_
    exact q _ B1 _ ((a.step s1 t1).setOwn hp rv k) t1.b)
/-- a, b = e1, [..] : the second new -/
theorem s_parN (F : Fam S N n XX) (k l : Nat) {x y : Str} {a b : Expr} {px py pt pt2 pos : Pos} {kt k2 : Nat} {t : T} {us : List T} (ha : EJ m XX a env c t c1) (hb : NJ m XX b env c1 us c2) (hkl : k ≠ l := by decide) (hN : N[k]? = some x := by rfl) (hN2 : N[l]? = some y := by rfl)
    (hl : ∀ i, (XX i).env.scope.names.lookup x = some .local := by intro _; rfl) (hl2 : ∀ i, (XX i).env.scope.names.lookup y = some .local := by intro _; rfl)
    (hs : ∀ i, starEach [a, b] (XX i).env = (false, eval a (XX i).env) :: starEach [b] (XX i).env := by intro _; rfl) (hs2 : ∀ i, starEach [b] (XX i).env = [(false, eval b (XX i).env)] := by intro _; rfl)
    (h1 : ∀ i, swappedStores [.Tuple [.Name x px, .Name y py] kt pt] (.Tuple [a, b] k2 pt2) (XX i).env = pure (some [x, y]) := by intro _; rfl)
    (h2 : ∀ i, swapsWithSole [.Tuple [.Name x px, .Name y py] kt pt] (.Tuple [a, b] k2 pt2) pos.line (XX i).env = pure false := by intro _; rfl) :
    SJ m XX (.Assign [.Tuple [.Name x px, .Name y py] kt pt] (.Tuple [a, b] k2 pt2) pos) env c (.nx ((env.set k (Sl.val t)).set l (Sl.own us)) c2) :=
  SJ.of (fun i => ps_par (F.calm i) (by rw [F.names i]; exact F.nd) (by rw [F.names i]; exact hN) (by rw [F.names i]; exact hN2) hkl (hl i) (hl2 i) (pa_cons (pe_rd i) (pa_cons (pe_rd i) pa_nil (hs2 i)) (hs i)) (h1 i) (h2 i)) (by
    intro B0 H0 σ B H an D q
    refine ha σ B H an.sit an.env _ fun v B1 H1 s1 t1 rv => ?_
    have a1 := an.step s1 t1
    refine hb σ B1 H1 s1 a1.env _ fun p vs B2 H2 s2 t2 hp rvs => ?_
    have a2 := a1.step s2 t2
    exact ⟨v, .ref p, rfl, q _ B2 _ ((a2.set (rv.mono t2.b) k).setOwn hp rvs l) (t1.b.trans t2.b)⟩)
/-- a, b = [..], e2 : the first new -/
theorem s_parN1 (F : Fam S N n XX) (k l : Nat) {x y : Str} {a b : Expr} {px py pt pt2 pos : Pos} {kt k2 : Nat} {u : T} {ts : List T} (ha : NJ m XX a env c ts c1) (hb : EJ m XX b env c1 u c2) (hkl : k ≠ l := by decide) (hN : N[k]? = some x := by rfl) (hN2 : N[l]? = some y := by rfl)
    (hl : ∀ i, (XX i).env.scope.names.lookup x = some .local := by intro _; rfl) (hl2 : ∀ i, (XX i).env.scope.names.lookup y = some .local := by intro _; rfl)
    (hs : ∀ i, starEach [a, b] (XX i).env = (false, eval a (XX i).env) :: starEach [b] (XX i).env := by intro _; rfl) (hs2 : ∀ i, starEach [b] (XX i).env = [(false, eval b (XX i).env)] := by intro _; rfl)
    (h1 : ∀ i, swappedStores [.Tuple [.Name x px, .Name y py] kt pt] (.Tuple [a, b] k2 pt2) (XX i).env = pure (some [x, y]) := by intro _; rfl)
    (h2 : ∀ i, swapsWithSole [.Tuple [.Name x px, .Name y py] kt pt] (.Tuple [a, b] k2 pt2) pos.line (XX i).env = pure false := by intro _; rfl) :
    SJ m XX (.Assign [.Tuple [.Name x px, .Name y py] kt pt] (.Tuple [a, b] k2 pt2) pos) env c (.nx ((env.set k (Sl.own ts)).set l (Sl.val u)) c2) :=
  SJ.of (fun i => ps_par (F.calm i) (by rw [F.names i]; exact F.nd) (by rw [F.names i]; exact hN) (by rw [F.names i]; exact hN2) hkl (hl i) (hl2 i) (pa_cons (pe_rd i) (pa_cons (pe_rd i) pa_nil (hs2 i)) (hs i)) (h1 i) (h2 i)) (by
    intro B0 H0 σ B H an D q
    refine ha σ B H an.sit an.env _ fun p vs B1 H1 s1 t1 hp rvs => ?_
    have a1 := (an.step s1 t1)
    have a1' := a1.setOwn hp rvs k
    -- the second is reckoned with the first list at p, not yet stored
    have sm : Same H1 (upd H1 p (.lst vs)) := fun a o e => by rw [upd_ne (ne_of_none e hp)]; exact e
    have r1 : RepE m env σ B1 (upd H1 p (.lst vs)) := a1.env.step (Stp.same sm)
    refine hb σ B1 (upd H1 p (.lst vs)) (s1.same sm) r1 _ fun w B2 H2 s2 t2 rw_ => ?_
    have a2 := a1'.step s2 t2
    exact ⟨.ref p, w, rfl, q _ B2 _ (a2.set rw_ l) (t1.b.trans t2.b)⟩)
/-- x.append(e), x an owned list -/
theorem s_append (F : Fam S N n XX) (k : Nat) {x : Str} {e : Expr} {px pa cp pos : Pos} {ts : List T} {t : T} (he : EJ m XX e env c t c1) (hz : ts.length < sizeLine) (hk : env[k]? = some (Sl.own ts) := by rfl) (hN : N[k]? = some x := by rfl)
    (hv : ∀ i, Vis (XX i).env.scope x := by intro _; first | exact Or.inl rfl | exact Or.inr (Or.inl rfl) | exact Or.inr (Or.inr rfl))
    (hd : (x == ("__debug__" : Str)) = false := by decide) (hcd : (x == ("__classdict__" : Str)) = false := by decide)
    (h1 : ∀ i, attributeBase (.Name x px) "append" (XX i).env (eval (.Name x px) (XX i).env) = eval (.Name x px) (XX i).env := by intro _; rfl)
    (h2 : ∀ i, ((backTo cp (starEach [e] (XX i).env)).all (fun p => !p.1) && (backToKw cp (keywordEach [] (XX i).env)).all (fun p => p.1.isSome) && decide (([e] : List Expr).length + ([] : List Keyword).length + (if ([] : List Keyword).isEmpty then 0 else 1) < 30)) = true := by intro _; rfl)
    (h3 : (pa.endLine == cp.line) = true := by rfl)
    (hs : ∀ i, starEach [e] (XX i).env = [(false, eval e (XX i).env)] := by intro _; rfl) (hsw : ∀ i, swapsWith (.Call (.Attribute (.Name x px) "append" pa) [e] [] cp) none pos.line (XX i).env = pure false := by intro _; rfl) :
    SJ m XX (.Expr (.Call (.Attribute (.Name x px) "append" pa) [e] [] cp) pos) env c (.nx (env.set k (Sl.own (ts ++ [t]))) c1) :=
  SJ.of (ts := tDrop (tBM S.K "list" rAppend (tVar k) (tCons (rdE XX e) tNil))) (fun i => by
    rw [← F.k i]
    exact ps_expr (pe_bm PySem.F.plainAttrs_list PySem.F.slot_list_append PySem.F.type_list_append mt_append (pe_var (by rw [F.names i]; exact hN) (hv i) hd hcd) (pa_cons (pe_rd i) pa_nil (hs i)) (h1 i) (h2 i) h3 (hs i) (by rfl)) (hsw i)) (by
    intro B0 H0 σ B H an D q
    obtain ⟨a, vs, g1, g2, g3, g4, g5, g6⟩ := an.env.own k ts hk
    refine ⟨_, g1, .inl ⟨rfl, _, SqL.of g2⟩, ?_⟩
    refine he σ B H an.sit an.env _ fun v B1 H1 s1 t1 rv => ?_
    have a1 := an.step s1 t1
    have e1 := t1.h a _ g2 g4
    obtain ⟨a', vs', k1, k2, k3, k4, k5, k6⟩ := a1.env.own k ts hk
    rw [g1] at k1
    cases k1
    rw [e1] at k2
    cases k2
    refine ⟨a, vs, v, rfl, rfl, e1, by rw [g5.length]; exact hz, ?_⟩
    have h0 := an.own k ts a hk g1
    refine q σ B1 _ ⟨?_, a1.env.mut hk g1 (k5.append (repL_cons.mpr ⟨_, _, rfl, rv, repL_nil.mpr rfl⟩)), a1.stp.mutNew h0, fun i us b q1 q2 => ?_⟩ t1.b
    · exact ⟨fun b o e => by rw [upd_ne (ne_of_none e k3)]; exact s1.sub b o e, fun b hb => dom_upd (s1.old b hb), fun p hp => by
        have z : p ≠ a := fun y => g4 (by rw [← y]; exact hp)
        rw [upd_ne z]; exact s1.pot p hp⟩
    · by_cases z : k = i
      · subst z
        rw [g1] at q2; cases q2
        exact h0
      · rw [List.getElem?_set_ne z] at q1
        exact a1.own i us b q1 q2)
/-- x[i] = e, x an owned list -/
theorem s_setIt (F : Fam S N n XX) (k : Nat) {x : Str} {e ei : Expr} {px ps pos : Pos} {ts : List T} {t : T} {i : Int} {j : Nat} (he : EJ m XX e env c t c1) (hi : EJ m XX ei env c1 (.int i) c1) (hj : ixN ts.length i = some j) (hk : env[k]? = some (Sl.own ts) := by rfl) (hN : N[k]? = some x := by rfl)
    (hv : ∀ i, Vis (XX i).env.scope x := by intro _; first | exact Or.inl rfl | exact Or.inr (Or.inl rfl) | exact Or.inr (Or.inr rfl))
    (hd : (x == ("__debug__" : Str)) = false := by decide) (hcd : (x == ("__classdict__" : Str)) = false := by decide)
    (hg : ∀ q (v : Value), assign (.Subscript (.Name x px) ei ps) (XX q).env v = (do
        let ov ← holding [v] (eval (.Name x px) (XX q).env)
        let iv ← holding [v, ov] (eval ei (XX q).env)
        standAt ps
        holding [v, ov, iv] (setItem ov iv v)
        release [v, ov, iv] []) := by intro _ _; rfl)
    (h1 : ∀ i, swapsWithSole [.Subscript (.Name x px) ei ps] e pos.line (XX i).env = pure false := by intro _; rfl) (h2 : ∀ i, swappedStores [.Subscript (.Name x px) ei ps] e (XX i).env = pure none := by intro _; rfl)
    (h3 : ∀ i, (assignEach [.Subscript (.Name x px) ei ps] (XX i).env).map (·.2) = [assign (.Subscript (.Name x px) ei ps) (XX i).env] := by intro _; rfl) :
    SJ m XX (.Assign [.Subscript (.Name x px) ei ps] e pos) env c (.nx (env.set k (Sl.own (ts.set j t))) c1) :=
  SJ.of (ts := tAsg (rdE XX e) (gSub (tVar k) (rdE XX ei) rSetL)) (fun i => ps_asg (pe_rd i) (pg_sub (pe_var (by rw [F.names i]; exact hN) (hv i) hd hcd) (pe_rd i) set_list (hg i)) (h1 i) (h2 i) (h3 i)) (by
    intro B0 H0 σ B H an D q
    refine he σ B H an.sit an.env _ fun v B1 H1 s1 t1 rv => ?_
    have a1 := an.step s1 t1
    obtain ⟨a, vs, g1, g2, g3, g4, g5, g6⟩ := a1.env.own k ts hk
    refine ⟨_, g1, ?_⟩
    refine hi σ B1 H1 s1 a1.env _ fun w B2 H2 s2 t2 rw_ => ?_
    have a2 := a1.step s2 t2
    have e1 := t2.h a _ g2 g4
    obtain ⟨a', vs', k1, k2, k3, k4, k5, k6⟩ := a2.env.own k ts hk
    rw [g1] at k1
    cases k1
    rw [e1] at k2
    cases k2
    refine ⟨a, vs, i, j, rfl, rep_int.mp rw_, e1, by rw [g5.length]; exact hj, ?_⟩
    have h0 := an.own k ts a hk g1
    refine q σ B2 _ ⟨?_, a2.env.mut hk g1 (k5.set (rv.mono t2.b) j), a2.stp.mutNew h0, fun i us b q1 q2 => ?_⟩ (t1.b.trans t2.b)
    · exact ⟨fun b o e => by rw [upd_ne (ne_of_none e k3)]; exact s2.sub b o e, fun b hb => dom_upd (s2.old b hb), fun p hp => by
        have z : p ≠ a := fun y => g4 (by rw [← y]; exact hp)
        rw [upd_ne z]; exact s2.pot p hp⟩
    · by_cases z : k = i
      · subst z
        rw [g1] at q2; cases q2
        exact h0
      · rw [List.getElem?_set_ne z] at q1
        exact a2.own i us b q1 q2)

/-! ### loops -/
/-- the state behind the first i items: st; at place j (if there is one) the body hands back t -/
theorem den_for {wi : TI} {g : TG} {tb : TS} {xs : List T} {st : Nat → TEnv × Pot} {o : Out} (hi : DenI m wi env c xs c1) (h0 : st 0 = (env, c1)) (k : Nat) (hk : k ≤ xs.length)
    (turn : ∀ i x, i < k → xs[i]? = some x → ∃ ks e1, DenG m g ks (st i).1 x e1 ∧ (∀ (j : Nat) (ts : List T), e1[j]? = some (Sl.own ts) → (st i).1[j]? = some (Sl.own ts) ∧ j ∉ ks) ∧ DenS m tb e1 (st i).2 (.nx (st (i + 1)).1 (st (i + 1)).2))
    (fin : (k = xs.length ∧ o = .nx (st k).1 (st k).2) ∨ (∃ x ks e1 t c', xs[k]? = some x ∧ o = .rt t c' ∧ DenG m g ks (st k).1 x e1 ∧ (∀ (j : Nat) (ts : List T), e1[j]? = some (Sl.own ts) → (st k).1[j]? = some (Sl.own ts) ∧ j ∉ ks) ∧ DenS m tb e1 (st k).2 (.rt t c'))) :
    DenS m (tFor wi g tb) env c o := by
  intro B0 H0 σ B H an D q
  refine hi σ B H an.sit an.env _ fun J B1 H1 s1 t1 wk => ?_
  have a1 := an.step s1 t1
  -- the target's store keeps the anchors
  have store : ∀ {e e1 : TEnv} {cc : Pot} {σ : L2.St} {B' H' : Hp} {ks : List Nat} {l : List (Nat × V)} {σ' : L2.St}, Anc m B0 H0 e cc σ B' H' → (∀ (j : Nat) (ts : List T), e1[j]? = some (Sl.own ts) → e[j]? = some (Sl.own ts) ∧ j ∉ ks) → σ' = sets σ l → l.map (·.1) = ks → RepE m e1 σ' B' H' → Anc m B0 H0 e1 cc σ' B' H' := by
    intro e e1 cc σ B' H' ks l σ' an own hl hk r
    refine ⟨an.sit, r, an.stp, fun i ts a q1 q2 => ?_⟩
    obtain ⟨o1, o2⟩ := own i ts q1
    refine an.own i ts a o1 ?_
    have : ∀ {l : List (Nat × V)} {σ : L2.St}, (∀ p ∈ l, p.1 ≠ i) → (sets σ l)[i]? = σ[i]? := by
      intro l
      induction l with
      | nil => intro σ _; rfl
      | cons p l ih =>
        intro σ h
        show (sets (σ.set p.1 (some p.2)) l)[i]? = _
        rw [ih fun q hq => h q (List.mem_cons_of_mem _ hq), List.getElem?_set_ne (h p List.mem_cons_self)]
    rw [hl, this (fun p hp z => o2 (by rw [← hk, ← z]; exact List.mem_map_of_mem hp))] at q2
    exact q2
  refine ⟨fun i mm σ' H' => mm = xs.length - i ∧ i ≤ k ∧ ∃ B', Anc m B0 H0 (st i).1 (st i).2 σ' B' H' ∧ Same B1 B', ⟨xs.length, by simp, Nat.zero_le _, B1, by rw [h0]; exact a1, Same.refl B1⟩, ?_⟩
  rintro i mm σ' H' ⟨rfl, hik, B', an', sb⟩
  have walked : ∀ {x : T}, xs[i]? = some x → i < xs.length → ∀ {ks : List Nat} {e1 : TEnv} {o' : Out} {D' : Ends}, DenG m g ks (st i).1 x e1 → (∀ (j : Nat) (ts : List T), e1[j]? = some (Sl.own ts) → (st i).1[j]? = some (Sl.own ts) ∧ j ∉ ks) → DenS m tb e1 (st i).2 o' →
      (∀ B2, Same B1 B2 → Ok m B0 H0 B2 D' o') → ∀ v H2, J.yld i H' v H2 → g v σ' H2 fun σ2 H3 => tb D' σ2 H3 := by
    intro x hx hlt ks e1 o' D' hg hown hb hok v H2 y
    obtain ⟨t, ht, hy⟩ := wk.yields i H' v H2 hlt (sb.trans an'.sit.sub) y
    rw [hx] at ht
    cases ht
    obtain ⟨B2, s2, t2, r2⟩ := hy (st i).2 B' an'.sit sb
    have a2 := an'.step s2 t2
    refine hg σ' B2 H2 v s2.sub a2.env r2 _ fun σ2 l hl hlk r3 => ?_
    exact hb B0 H0 σ2 B2 H2 (store a2 hown hl hlk r3) D' (hok B2 (sb.trans t2.b))
  by_cases hlt : i < k
  · have hx : xs[i]? = some (xs[i]'(by omega)) := List.getElem?_eq_getElem (by omega)
    obtain ⟨ks, e1, hg, hown, hb⟩ := turn i _ hlt hx
    refine .inr ⟨wk.goes i H' (by omega) (sb.trans an'.sit.sub), fun σ2 H2 => ∃ B2, Anc m B0 H0 (st (i + 1)).1 (st (i + 1)).2 σ2 B2 H2 ∧ Same B1 B2, fun σ2 H2 ⟨B2, q1, q2⟩ => ⟨xs.length - (i + 1), by omega, rfl, hlt, B2, q1, q2⟩, ?_⟩
    exact walked hx (by omega) hg hown hb fun B2 sb2 σ3 B3 H3 an3 sb3 => ⟨B3, an3, sb2.trans sb3⟩
  · have e : i = k := by omega
    subst e
    rcases fin with ⟨hkn, rfl⟩ | ⟨x, ks, e1, t, c', hx, rfl, hg, hown, hb⟩
    · refine .inl ⟨by rw [hkn]; exact wk.stops H' (sb.trans an'.sit.sub), q σ' B' H' an' (t1.b.trans sb)⟩
    · have hlt2 := (List.getElem?_eq_some_iff.mp hx).1
      refine .inr ⟨wk.goes i H' hlt2 (sb.trans an'.sit.sub), fun _ _ => False, fun _ _ h => h.elim, ?_⟩
      exact walked hx hlt2 hg hown hb fun _ _ => q
end
end TW
set_option Elab.async false
set_option linter.all false
set_option maxRecDepth 100000
set_option maxHeartbeats 4000000
/-! Fw8: for, while, a def from its body. -/
namespace TW
open PySem L2

section
variable {S : Stat} {N : List Str} {n : Nat} {ι : Type} {XX : ι → Cx} {m : Pm} {env : TEnv} {c c1 c2 c3 : Pot}

/-- storing at slots that are not owned keeps what is owned -/
theorem own_set {e : TEnv} {k : Nat} {t : T} : ∀ (j : Nat) (ts : List T), (e.set k (Sl.val t))[j]? = some (Sl.own ts) → e[j]? = some (Sl.own ts) ∧ j ∉ [k] := by
  intro j ts q
  have z : k ≠ j := fun z => by
    subst z
    have hl : k < e.length := by
      have := (List.getElem?_eq_some_iff.mp q).1
      simpa using this
    rw [List.getElem?_set_self hl] at q
    cases q
  rw [List.getElem?_set_ne z] at q
  exact ⟨q, by simp; exact fun y => z y.symm⟩
theorem own_set2 {e : TEnv} {k l : Nat} {t u : T} : ∀ (j : Nat) (ts : List T), ((e.set k (Sl.val t)).set l (Sl.val u))[j]? = some (Sl.own ts) → e[j]? = some (Sl.own ts) ∧ j ∉ [k] ++ [l] := by
  intro j ts q
  obtain ⟨q1, h1⟩ := own_set j ts q
  obtain ⟨q2, h2⟩ := own_set j ts q1
  exact ⟨q2, by simp at h1 h2 ⊢; exact ⟨h2, h1⟩⟩
/-- for x in it: the state behind i items is st i -/
theorem s_for (F : Fam S N n XX) (k : Nat) {α : Type} {x : Str} {it : Expr} {body : List Stmt} {px pos : Pos} {emb : α → T} {ys : List α} (st : Nat → TEnv × Pot) (hi : IJ m XX (.Name x px) it env c (ys.map emb) c1) (h0 : st 0 = (env, c1))
    (turn : ∀ i y, ys[i]? = some y → BJ m XX body ((st i).1.set k (Sl.val (emb y))) (st i).2 (.nx (st (i + 1)).1 (st (i + 1)).2))
    (hp : ∀ i, PassesOwn (model (XX i).prog (XX i).w) (XX i).A (XX i).env (XX i).xe := by intro _; exact PassesOwn.never) (hN : N[k]? = some x := by rfl)
    (hl : ∀ i, L2.Loc (XX i).env.scope x := by intro _; first | exact Or.inl rfl | exact Or.inr rfl) (hf : ∀ i, (XX i).fn x = true ∨ (XX i).env.scope.names.lookup x = some .local := by intro _; first | exact Or.inr rfl | exact Or.inl rfl)
    (hs : ∀ i x, foldedSetIterable it (XX i).env x = pure x := by intro _ _; rfl) : SJ m XX (.For (.Name x px) it body [] pos) env c (.nx (st ys.length).1 (st ys.length).2) :=
  SJ.of (fun i => ps_for (hp i) (F.calm i) (pi_rd i) (pg_rd i) (pb_rd i) (hs i)) (den_for hi h0 ys.length (by simp) (fun i t hik ht => by
    rw [List.getElem?_map] at ht
    cases q : ys[i]? with
    | none => rw [q] at ht; cases ht
    | some y =>
      rw [q] at ht
      cases ht
      exact ⟨[k], _, g_name F k hN hl hf, own_set, turn i y q⟩) (.inl ⟨by simp, rfl⟩))
theorem s_forP (F : Fam S N n XX) (k l : Nat) {α : Type} {x y : Str} {it : Expr} {body : List Stmt} {px py pt pos : Pos} {kk : Nat} {ea eb : α → T} {ys : List α} (st : Nat → TEnv × Pot) (hi : IJ m XX (.Tuple [.Name x px, .Name y py] kk pt) it env c (ys.map fun z => .tup [ea z, eb z]) c1) (h0 : st 0 = (env, c1))
    (turn : ∀ i z, ys[i]? = some z → BJ m XX body (((st i).1.set k (Sl.val (ea z))).set l (Sl.val (eb z))) (st i).2 (.nx (st (i + 1)).1 (st (i + 1)).2))
    (hp : ∀ i, PassesOwn (model (XX i).prog (XX i).w) (XX i).A (XX i).env (XX i).xe := by intro _; exact PassesOwn.never) (hN : N[k]? = some x := by rfl) (hN2 : N[l]? = some y := by rfl)
    (hl : ∀ i, L2.Loc (XX i).env.scope x := by intro _; first | exact Or.inl rfl | exact Or.inr rfl) (hf : ∀ i, (XX i).fn x = true ∨ (XX i).env.scope.names.lookup x = some .local := by intro _; first | exact Or.inr rfl | exact Or.inl rfl)
    (hl2 : ∀ i, L2.Loc (XX i).env.scope y := by intro _; first | exact Or.inl rfl | exact Or.inr rfl) (hf2 : ∀ i, (XX i).fn y = true ∨ (XX i).env.scope.names.lookup y = some .local := by intro _; first | exact Or.inr rfl | exact Or.inl rfl)
    (hs : ∀ i x, foldedSetIterable it (XX i).env x = pure x := by intro _ _; rfl) : SJ m XX (.For (.Tuple [.Name x px, .Name y py] kk pt) it body [] pos) env c (.nx (st ys.length).1 (st ys.length).2) :=
  SJ.of (fun i => ps_for (hp i) (F.calm i) (pi_rd i) (pg_rd i) (pb_rd i) (hs i)) (den_for hi h0 ys.length (by simp) (fun i t hik ht => by
    rw [List.getElem?_map] at ht
    cases q : ys[i]? with
    | none => rw [q] at ht; cases ht
    | some z =>
      rw [q] at ht
      cases ht
      exact ⟨[k] ++ [l], _, g_tup2 F (g_name F k hN hl hf) (g_name F l hN2 hl2 hf2), own_set2, turn i z q⟩) (.inl ⟨by simp, rfl⟩))
/-- the turn at place j hands back t -/
theorem s_forPR (F : Fam S N n XX) (k l : Nat) {α : Type} {x y : Str} {it : Expr} {body : List Stmt} {px py pt pos : Pos} {kk : Nat} {ea eb : α → T} {ys : List α} (st : Nat → TEnv × Pot) {j : Nat} {z : α} {t : T} (hi : IJ m XX (.Tuple [.Name x px, .Name y py] kk pt) it env c (ys.map fun z => .tup [ea z, eb z]) c1) (h0 : st 0 = (env, c1))
    (hj : ys[j]? = some z)
    (turn : ∀ i z, i < j → ys[i]? = some z → BJ m XX body (((st i).1.set k (Sl.val (ea z))).set l (Sl.val (eb z))) (st i).2 (.nx (st (i + 1)).1 (st (i + 1)).2))
    (last : BJ m XX body (((st j).1.set k (Sl.val (ea z))).set l (Sl.val (eb z))) (st j).2 (.rt t c2))
    (hp : ∀ i, PassesOwn (model (XX i).prog (XX i).w) (XX i).A (XX i).env (XX i).xe := by intro _; exact PassesOwn.never) (hN : N[k]? = some x := by rfl) (hN2 : N[l]? = some y := by rfl)
    (hl : ∀ i, L2.Loc (XX i).env.scope x := by intro _; first | exact Or.inl rfl | exact Or.inr rfl) (hf : ∀ i, (XX i).fn x = true ∨ (XX i).env.scope.names.lookup x = some .local := by intro _; first | exact Or.inr rfl | exact Or.inl rfl)
    (hl2 : ∀ i, L2.Loc (XX i).env.scope y := by intro _; first | exact Or.inl rfl | exact Or.inr rfl) (hf2 : ∀ i, (XX i).fn y = true ∨ (XX i).env.scope.names.lookup y = some .local := by intro _; first | exact Or.inr rfl | exact Or.inl rfl)
    (hs : ∀ i x, foldedSetIterable it (XX i).env x = pure x := by intro _ _; rfl) : SJ m XX (.For (.Tuple [.Name x px, .Name y py] kk pt) it body [] pos) env c (.rt t c2) :=
  SJ.of (fun i => ps_for (hp i) (F.calm i) (pi_rd i) (pg_rd i) (pb_rd i) (hs i)) (den_for hi h0 j (by
    have := (List.getElem?_eq_some_iff.mp hj).1
    simp; omega) (fun i t hik ht => by
    rw [List.getElem?_map] at ht
    cases q : ys[i]? with
    | none => rw [q] at ht; cases ht
    | some z =>
      rw [q] at ht
      cases ht
      exact ⟨[k] ++ [l], _, g_tup2 F (g_name F k hN hl hf) (g_name F l hN2 hl2 hf2), own_set2, turn i z hik q⟩) (.inr ⟨_, [k] ++ [l], _, t, c2, by rw [List.getElem?_map, hj]; rfl, rfl, g_tup2 F (g_name F k hN hl hf) (g_name F l hN2 hl2 hf2), own_set2, last⟩))
/-- while: k turns -/
theorem s_while (F : Fam S N n XX) {d : Expr} {body : List Stmt} {pos : Pos} (k : Nat) (st : Nat → TEnv × Pot) (h0 : st 0 = (env, c))
    (test : ∀ i, i < k → TJ m XX d (st i).1 (st i).2 true (st i).2) (turn : ∀ i, i < k → BJ m XX body (st i).1 (st i).2 (.nx (st (i + 1)).1 (st (i + 1)).2)) (fin : TJ m XX d (st k).1 (st k).2 false (st k).2)
    (hp : ∀ i, PassesOwn (model (XX i).prog (XX i).w) (XX i).A (XX i).env (XX i).xe := by intro _; exact PassesOwn.never) : SJ m XX (.While d body [] pos) env c (.nx (st k).1 (st k).2) :=
  SJ.of (fun i => ps_while (hp i) (pt_rd i) (pb_rd i)) (by
    intro B0 H0 σ B H an D q
    refine ⟨fun mm σ' H' => ∃ i, mm = k - i ∧ i ≤ k ∧ ∃ B', Anc m B0 H0 (st i).1 (st i).2 σ' B' H' ∧ Same B B', ⟨k, 0, by simp, Nat.zero_le _, B, by rw [h0]; exact an, Same.refl B⟩, ?_⟩
    rintro mm σ' H' ⟨i, rfl, hik, B', an', sb⟩
    by_cases hlt : i < k
    · refine test i hlt σ' B' H' an'.sit an'.env _ fun B2 H2 s2 t2 => ?_
      rw [if_pos rfl]
      refine ⟨fun σ3 H3 => ∃ B3, Anc m B0 H0 (st (i + 1)).1 (st (i + 1)).2 σ3 B3 H3 ∧ Same B B3, fun σ3 H3 ⟨B3, q1, q2⟩ => ⟨k - (i + 1), by omega, i + 1, rfl, hlt, B3, q1, q2⟩, ?_⟩
      exact turn i hlt B0 H0 σ' B2 H2 (an'.step s2 t2) _ fun σ3 B3 H3 an3 sb3 => ⟨B3, an3, (sb.trans t2.b).trans sb3⟩
    · have e : i = k := by omega
      subst e
      refine fin σ' B' H' an'.sit an'.env _ fun B2 H2 s2 t2 => ?_
      rw [if_neg Bool.false_ne_true]
      exact q σ' B2 H2 (an'.step s2 t2) (sb.trans t2.b))
end

/-! ### a def -/
def startE (N : List Str) (ts : List T) : TEnv := ts.map Sl.val ++ List.replicate (N.length - ts.length) Sl.un
abbrev dcx (S : Stat) (N : List Str) (qual : Str) (st : Stmt) (f : Addr) (cd : Value) (A : Around) (outer : List Env) (s : Shared) (H : Hp) (E : XK) : Unit → Cx :=
  fun _ => (cxOf CX0 S.P S.w S.K S.mg S.base N qual (defScope st) f cd A outer s H E).nox
/-- the def st of the text, as the function object fd at f -/
abbrev FnS (S : Stat) (x : Str) (st : Stmt) (f : Addr) (fd : FuncData) : Prop := FunD S.K x x (defArgs st) (defBody st) (defScope st) [] [] f fd
theorem start_rep {m : Pm} {N : List Str} {ts : List T} {vs : List V} {B H : Hp} (h : RepL m ts vs B) (hl : ts.length ≤ N.length) : RepE m (startE N ts) (L2.start N vs) B H := by
  have hv := h.length
  refine ⟨by simp [startE, L2.start, hv], fun i t q => ?_, fun i ts' q => ?_, fun i rv q => ?_, fun i j us ws a _ q _ _ _ => ?_⟩
  · unfold startE at q
    by_cases hi : i < ts.length
    · rw [List.getElem?_append_left (by simpa using hi), List.getElem?_map] at q
      cases z : ts[i]? with
      | none => rw [z] at q; cases q
      | some t' =>
        rw [z] at q
        cases q
        obtain ⟨v, e1, e2⟩ := h.get z
        exact ⟨v, by unfold L2.start; rw [List.getElem?_append_left (by simp [hv]; exact hi), List.getElem?_map, e1]; rfl, e2⟩
    · rw [List.getElem?_append_right (by simpa using hi)] at q
      rw [List.getElem?_replicate] at q
      split at q <;> cases q
  · unfold startE at q
    by_cases hi : i < ts.length
    · rw [List.getElem?_append_left (by simpa using hi), List.getElem?_map] at q
      cases z : ts[i]? with
      | none => rw [z] at q; cases q
      | some t' => rw [z] at q; cases q
    · rw [List.getElem?_append_right (by simpa using hi)] at q
      rw [List.getElem?_replicate] at q
      split at q <;> cases q
  · unfold startE at q
    by_cases hi : i < ts.length
    · rw [List.getElem?_append_left (by simpa using hi), List.getElem?_map] at q
      cases z : ts[i]? with
      | none => rw [z] at q; cases q
      | some t' => rw [z] at q; cases q
    · rw [List.getElem?_append_right (by simpa using hi)] at q
      rw [List.getElem?_replicate] at q
      split at q <;> cases q
  · unfold startE at q
    by_cases hi : i < ts.length
    · rw [List.getElem?_append_left (by simpa using hi), List.getElem?_map] at q
      cases z : ts[i]? with
      | none => rw [z] at q; cases q
      | some t' => rw [z] at q; cases q
    · rw [List.getElem?_append_right (by simpa using hi)] at q
      rw [List.getElem?_replicate] at q
      split at q <;> cases q
theorem start_own {m : Pm} {N : List Str} {ts : List T} : ∀ (i : Nat) (us : List T), (startE N ts)[i]? = some (Sl.own us) → False := by
  intro i us q
  unfold startE at q
  by_cases hi : i < ts.length
  · rw [List.getElem?_append_left (by simpa using hi), List.getElem?_map] at q
    cases z : ts[i]? with
    | none => rw [z] at q; cases q
    | some t' => rw [z] at q; cases q
  · rw [List.getElem?_append_right (by simpa using hi)] at q
    rw [List.getElem?_replicate] at q
    split at q <;> cases q
/-- what a body gives: a value, or (falling off its end) None -/
inductive Gives (m : Pm) {ι : Type} (XX : ι → Cx) (body : List Stmt) (env : TEnv) (c : Pot) : T → Pot → Prop where
  | rt {t : T} {c' : Pot} (h : BJ m XX body env c (.rt t c')) : Gives m XX body env c t c'
  | nx {e : TEnv} {c' : Pot} (h : BJ m XX body env c (.nx e c')) : Gives m XX body env c .non c'
  | raw {t : T} {c' : Pot} (h : BJ m XX body env c (.raw fun B0 H0 D => Same B0 H0 ∧ ∀ v B' H', Sit m c' B' H' → Stp m B0 H0 B' H' → Rep m t v B' → D.rt v H')) : Gives m XX body env c t c'
theorem fn_spD {S : Stat} {CR CH : Addr} {x qual : Str} {st : Stmt} {f : Addr} {fd : FuncData} {N ps : List Str} {k : Nat} {R : Rel} {dvs : List V} (Fd : FunD S.K x qual (defArgs st) (defBody st) (defScope st) dvs [] f fd) (sc : FnScope N ps (defScope st)) (len : ∀ c ts t c', R c ts t c' → ts.length = ps.length)
    (body : ∀ (p0 : Option Addr) (h0 : Hp) (cdv : Value) (A : Around) (outer : List Env) (s : Shared) (H : Hp) (E : XK) (c : Pot) (ts : List T) (t : T) (c' : Pot), Fam S N k (dcx S N qual st f cdv A outer s H E) → R c ts t c' →
      Gives ⟨CR, CH, p0, h0⟩ (dcx S N qual st f cdv A outer s H E) (defBody st) (startE N ts) c t c') : FnOk S.P S.w S.K S.mg S.base CX0 (k + 1) f fd ps (spD CR CH R) := by
  refine Fd.ok sc (fun vs H Q E h => ?_) (fun cdv A outer s H vs Q E hr h => ?_)
  · obtain ⟨p0, h0, B, c, ts, t, c', hR, _, rl, _⟩ := h
    rw [rl.length, len c ts t c' hR]
  · obtain ⟨p0, h0, B, c, ts, t, c', hR, sit, rl, q⟩ := h
    have fam : Fam S N k (dcx S N qual st f cdv A outer s H E) := ⟨fun _ => rfl, fun _ => rfl, fun _ => rfl, fun _ => rfl, fun _ => rfl, fun _ => rfl, sc.nd, fun _ => rfl, fun _ => hr⟩
    have hlen : ts.length ≤ N.length := by
      rw [len c ts t c' hR]
      have := congrArg List.length sc.pre
      rw [List.length_take] at this
      omega
    have an : Anc ⟨CR, CH, p0, h0⟩ B H (startE N ts) c (L2.start N vs) B H := ⟨sit, start_rep rl hlen, Stp.refl _ _ _, fun i us a q1 _ => (start_own (m := ⟨CR, CH, p0, h0⟩) i us q1).elim⟩
    refine ⟨rdB (dcx S N qual st f cdv A outer s H E) (defBody st), PSs.nox (pb_rd (XX := dcx S N qual st f cdv A outer s H E) ()), ?_⟩
    have g := body p0 h0 cdv A outer s H E c ts t c' fam hR
    cases g with
    | rt h => exact h B H _ B H an _ fun v B' H' s' t' rv => q v B' H' s' t' rv
    | nx h => exact h B H _ B H an _ fun σ' B' H' an' _ => q _ B' H' an'.sit an'.stp (rep_non.mpr rfl)
    | raw h => exact h B H _ B H an _ ⟨sit.sub, fun v B' H' s' t' rv => q v B' H' s' t' rv⟩
theorem Dn.mk' {S : Stat} {CR CH : Addr} {x : Str} {st : Stmt} {f : Addr} {fd : FuncData} {N ps : List Str} {k : Nat} {R : Rel} (Fd : FnS S x st f fd) (hm : S.mg x = some (.ref f)) (sc : FnScope N ps (defScope st)) (len : ∀ c ts t c', R c ts t c' → ts.length = ps.length)
    (hb : ∀ (kV doc pm : Value) (an : Option Addr) (cdv ct : Value) (us : List Value), us.length = ps.length → bindArgs (PySem.W.fnOf x x (defArgs st) (defBody st) (defScope st) .none kV doc pm an cdv ct) ⟨us, []⟩ = pure (ps.zip us))
    (body : ∀ (p0 : Option Addr) (h0 : Hp) (cdv : Value) (A : Around) (outer : List Env) (s : Shared) (H : Hp) (E : XK) (c : Pot) (ts : List T) (t : T) (c' : Pot), Fam S N k (dcx S N x st f cdv A outer s H E) → R c ts t c' →
      Gives ⟨CR, CH, p0, h0⟩ (dcx S N x st f cdv A outer s H E) (defBody st) (startE N ts) c t c') : Dn S CR CH x ps (k + 1) R :=
  ⟨f, fd, fn_spD Fd sc len body, hm, Fd.kp, Fd.bindsN hb⟩
end TW
set_option Elab.async false
set_option linter.all false
set_option maxRecDepth 100000
set_option maxHeartbeats 4000000
/-! Fw9: forgetting slots; the text's places. -/
namespace TW
open PySem L2
section
variable {S : Stat} {N : List Str} {n : Nat} {ι : Type} {XX : ι → Cx} {m : Pm} {env : TEnv} {c c1 c2 c3 : Pot}
theorem RepE.forget {e : TEnv} {σ : L2.St} {B H : Hp} (r : RepE m e σ B H) (k : Nat) : RepE m (e.set k Sl.un) σ B H := by
  have nk : ∀ {l : Nat} {z : Sl}, z ≠ Sl.un → (e.set k Sl.un)[l]? = some z → k ≠ l := fun {l z} hz q y => by
    subst y
    have hl : k < e.length := by
      have := (List.getElem?_eq_some_iff.mp q).1
      simpa using this
    rw [List.getElem?_set_self hl] at q
    exact hz (Option.some.inj q).symm
  refine ⟨by simp [r.len], fun i t q => ?_, fun i ts q => ?_, fun i rv q => ?_, fun i j ts us a hij q1 q2 q3 q4 => ?_⟩
  · have z := nk (z := Sl.val t) (by intro y; cases y) q
    rw [List.getElem?_set_ne z] at q
    exact r.val i t q
  · have z := nk (z := Sl.own ts) (by intro y; cases y) q
    rw [List.getElem?_set_ne z] at q
    exact r.own i ts q
  · have z := nk (z := Sl.raw rv) (by intro y; cases y) q
    rw [List.getElem?_set_ne z] at q
    exact r.raw i rv q
  · have z1 := nk (z := Sl.own ts) (by intro y; cases y) q1
    have z2 := nk (z := Sl.own us) (by intro y; cases y) q2
    rw [List.getElem?_set_ne z1] at q1
    rw [List.getElem?_set_ne z2] at q2
    exact r.dis i j ts us a hij q1 q2 q3 q4
theorem Anc.forget {B0 H0 : Hp} {σ : L2.St} {B H : Hp} (an : Anc m B0 H0 env c σ B H) (k : Nat) : Anc m B0 H0 (env.set k Sl.un) c σ B H := by
  refine ⟨an.sit, an.env.forget k, an.stp, fun i ts a q1 q2 => ?_⟩
  have z : k ≠ i := fun z => by
    subst z
    have hl : k < env.length := by
      have := (List.getElem?_eq_some_iff.mp q1).1
      simpa using this
    rw [List.getElem?_set_self hl] at q1
    cases q1
  rw [List.getElem?_set_ne z] at q1
  exact an.own i ts a q1 q2
theorem Anc.wipeE {B0 H0 : Hp} {σ : L2.St} {B H : Hp} (an : Anc m B0 H0 env c σ B H) : ∀ vs : List Nat, Anc m B0 H0 (TW.wipeE env vs) c σ B H
  | [] => an
  | v :: vs => (Anc.wipeE an vs).forget v
theorem b_weak {sts : List Stmt} {e1 e2 : TEnv} (vs : List Nat) (h : BJ m XX sts env c (.nx e1 c1)) (w : wipeE e1 vs = e2 := by rfl) : BJ m XX sts env c (.nx e2 c1) := by
  intro B0 H0 σ B H an D q
  refine h B0 H0 σ B H an D fun σ' B' H' an' sb => q σ' B' H' ?_ sb
  rw [← w]
  exact an'.wipeE vs
/-- the slots may be forgotten ahead of a block too -/
theorem b_pre {sts : List Stmt} {e2 : TEnv} {o : Out} (vs : List Nat) (h : BJ m XX sts e2 c o) (w : wipeE env vs = e2 := by rfl) : BJ m XX sts env c o := by
  intro B0 H0 σ B H an D q
  refine h B0 H0 σ B H ?_ D q
  rw [← w]
  exact an.wipeE vs
end
/-- a def that draws nothing -/
theorem Dn.pure {S : Stat} {CR CH : Addr} {x : Str} {st : Stmt} {f : Addr} {fd : FuncData} {N ps : List Str} {k : Nat} {R : List T → T → Prop} (Fd : FnS S x st f fd) (hm : S.mg x = some (.ref f)) (sc : FnScope N ps (defScope st)) (len : ∀ ts t, R ts t → ts.length = ps.length)
    (hb : ∀ (kV doc pm : Value) (an : Option Addr) (cdv ct : Value) (us : List Value), us.length = ps.length → bindArgs (PySem.W.fnOf x x (defArgs st) (defBody st) (defScope st) .none kV doc pm an cdv ct) ⟨us, []⟩ = pure (ps.zip us))
    (body : ∀ (p0 : Option Addr) (h0 : Hp) (cdv : Value) (A : Around) (outer : List Env) (s : Shared) (H : Hp) (E : XK) (c : Pot) (ts : List T) (t : T), Fam S N k (dcx S N x st f cdv A outer s H E) → R ts t →
      Gives ⟨CR, CH, p0, h0⟩ (dcx S N x st f cdv A outer s H E) (defBody st) (startE N ts) c t c) : Dn S CR CH x ps (k + 1) (pureR R) := by
  refine Dn.mk' Fd hm sc (fun c ts t c' h => len ts t h.2) hb fun p0 h0 cdv A outer s H E c ts t c' F h => ?_
  obtain ⟨rfl, h⟩ := h
  exact body p0 h0 cdv A outer s H E _ ts t F h
/-- a weaker answer -/
theorem Dn.weak {S : Stat} {CR CH : Addr} {x : Str} {ps : List Str} {k : Nat} {R R' : Rel} (D : Dn S CR CH x ps k R) (h : ∀ c ts t' c', R' c ts t' c' → ∃ t, R c ts t c' ∧ ∀ p0 h0 v B, Rep ⟨CR, CH, p0, h0⟩ t v B → Rep ⟨CR, CH, p0, h0⟩ t' v B) : Dn S CR CH x ps k R' := by
  obtain ⟨f, fd, G, hm, hk, hb⟩ := D.ex
  refine ⟨f, fd, G.imp fun vs H Q E hs => ?_, hm, hk, hb⟩
  obtain ⟨p0, h0, B, c, ts, t', c', hR, sit, rl, q⟩ := hs
  obtain ⟨t, hR2, w⟩ := h c ts t' c' hR
  exact ⟨p0, h0, B, c, ts, t, c', hR2, sit, rl, fun v B' H' s' st rv => q v B' H' s' st (w p0 h0 v B' rv)⟩
abbrev tI (xs : List Int) : T := .lst (xs.map T.int)
abbrev tII (xs : List (List Int)) : T := .lst (xs.map tI)
abbrev tR (xs : List Rat) : T := .lst (xs.map T.rat)
abbrev tRR (xs : List (List Rat)) : T := .lst (xs.map tR)
end TW
set_option Elab.async false
set_option linter.all false
set_option maxRecDepth 100000
set_option maxHeartbeats 4000000
/-! R1: methods of Ratio as operators, properties; making a Ratio. -/
namespace TW
open PySem L2

/-- a method of a class upon data -/
structure Me (S : Stat) (CR CH C : Addr) (x : Str) (ps : List Str) (k : Nat) (R : Rel) : Prop where
  ex : ∃ f fd, FnOk S.P S.w S.K S.mg S.base CX0 k f fd ps (spD CR CH R) ∧ PySem.W.findIn S.K (.ref C) x = some (some (.ref f)) ∧ PySem.W.isFn S.K (.ref f) = true ∧ Binds S.K fd ps []
/-- a property of a class -/
structure Pr (S : Stat) (CR CH C : Addr) (x : Str) (k : Nat) (R : Rel) : Prop where
  ex : ∃ p f fd, FnOk S.P S.w S.K S.mg S.base CX0 k f fd ["self"] (spD CR CH R) ∧ PropOf S.K C x p f ∧ Binds S.K fd ["self"] []

def rOwn (C : Addr) (sp : Sp) : R2 := fun x y H Q => ∃ a b dx dy fs gs, x = .ref a ∧ y = .ref b ∧ H a = some (.ins C dx fs) ∧ H b = some (.ins C dy gs) ∧ sp [.ref a, .ref b] H Q E0
def rOwn1 (C : Addr) (sp : Sp) : V → Hp → VK → Prop := fun x H Q => ∃ a dx fs, x = .ref a ∧ H a = some (.ins C dx fs) ∧ sp [.ref a] H Q E0
theorem op_own {X : Cx} {op : Operator} {k : Nat} {C f : Addr} {fd : FuncData} {ps : List Str} {sp : Sp} (hc : PySem.W.selfFirst X.K C = true) (hs : PySem.W.findIn X.K (.ref C) (PySem.dunder op.info.2) = some (some (.ref f))) (hf : PySem.W.isFn X.K (.ref f) = true)
    (G : FnOk X.prog X.w X.K X.mg X.base CX0 k f fd ps sp) (hr : Room k X.A) (hb : Binds X.K fd ps []) : OpR X (binaryOp op) (rOwn C sp) := by
  intro pins s σ H x y u v Q I rx ry h
  obtain ⟨a, b, dx, dy, fs, gs, rfl, rfl, ha, hb', hsp⟩ := h
  cases rx
  cases ry
  obtain ⟨mA, J, _⟩ := ins_get I.hok ha
  obtain ⟨mB, J', _⟩ := ins_get I.hok hb'
  obtain ⟨od, J, _⟩ := J.look
  obtain ⟨od', J', _⟩ := J'.look
  obtain ⟨m, hF⟩ := I.fr
  refine PySem.W.binop_K hF I.ok.mod.kin J J'.type hc hs hf ?_
  refine thn (run_fn (dvs := []) (vs := [.ref a, .ref b]) G hr hb .nil pass0 I (.cons rfl (.cons rfl .nil)) hsp) fun u s' hq => ?_
  obtain ⟨z, H', I', rz, q⟩ := hq
  cases z with
  | non => cases (show u = Value.none from rz); exact ⟨.non, H', I', rfl, q⟩
  | bl y => cases (show u = Value.bool y from rz); exact ⟨.bl y, H', I', rfl, q⟩
  | int i => obtain ⟨t, e⟩ := (show ∃ t, u = Value.int i t from rz); cases e; exact ⟨.int i, H', I', ⟨t, rfl⟩, q⟩
  | str y => obtain ⟨t, e⟩ := (show ∃ t, u = Value.str y t from rz); cases e; exact ⟨.str y, H', I', ⟨t, rfl⟩, q⟩
  | byt y => obtain ⟨t, e⟩ := (show ∃ t, u = Value.bytes y t from rz); cases e; exact ⟨.byt y, H', I', ⟨t, rfl⟩, q⟩
  | flt y => obtain ⟨t, e⟩ := (show ∃ t, u = Value.float y t from rz); cases e; exact ⟨.flt y, H', I', ⟨t, rfl⟩, q⟩
  | ref p => cases (show u = Value.ref p from rz); exact ⟨.ref p, H', I', rfl, q⟩
  | ty p => cases (show u = Value.type p from rz); exact ⟨.ty p, H', I', rfl, q⟩
theorem un_own {X : Cx} {k : Nat} {C f : Addr} {fd : FuncData} {ps : List Str} {sp : Sp} (hs : PySem.W.findIn X.K (.ref C) "__neg__" = some (some (.ref f))) (hf : PySem.W.isFn X.K (.ref f) = true)
    (G : FnOk X.prog X.w X.K X.mg X.base CX0 k f fd ps sp) (hr : Room k X.A) (hb : Binds X.K fd ps []) : UnR X (unaryOp .USub) (rOwn1 C sp) := by
  intro pins s σ H x u Q I rx h
  obtain ⟨a, dx, fs, rfl, ha, hsp⟩ := h
  cases rx
  obtain ⟨mA, J, _⟩ := ins_get I.hok ha
  obtain ⟨od, J, _⟩ := J.look
  obtain ⟨m, hF⟩ := I.fr
  refine PySem.W.ksp_neg hF I.ok.mod.kin J hs hf ?_
  exact run_fn (dvs := []) (vs := [.ref a]) G hr hb .nil pass0 I (.cons rfl .nil) hsp

section
variable {S : Stat} {N : List Str} {n : Nat} {ι : Type} {XX : ι → Cx} {m : Pm} {env : TEnv} {c c1 c2 c3 : Pot}
theorem e_ownBin (F : Fam S N n XX) {op : Operator} {ps : List Str} {k : Nat} {R : Rel} {a b : Expr} {pos : Pos} {p q : Rat} {t : T} (M : Me S m.CR m.CH m.CR (PySem.dunder op.info.2) ps k R) (hc : PySem.W.selfFirst S.K m.CR = true)
    (ha : EJ m XX a env c (.rat p) c1) (hb : EJ m XX b env c1 (.rat q) c2) (hR : ∀ c, R c [.rat p, .rat q] t c) (hk : k ≤ n := by decide) : EJ m XX (.BinOp a op b pos) env c t c2 := by
  obtain ⟨f, fd, G, hs, hf, hbd⟩ := M.ex
  refine e_bin (r := rOwn m.CR (spD m.CR m.CH R)) (fun i => op_own (by rw [F.k i]; exact hc) (by rw [F.k i]; exact hs) (by rw [F.k i]; exact hf) (F.fn G i) ((F.room i).mono hk) (by rw [F.k i]; exact hbd)) ha hb ?_
  intro c B H v w s hv hw Q q
  obtain ⟨a, dx, rfl, h1⟩ := rep_rat.mp hv
  obtain ⟨b, dy, rfl, h2⟩ := rep_rat.mp hw
  exact ⟨a, b, dx, dy, _, _, rfl, rfl, s.sub _ _ h1, s.sub _ _ h2, m.p0, m.h0, B, c, _, t, c, hR c, s, repL_cons.mpr ⟨_, _, rfl, hv, repL_cons.mpr ⟨_, _, rfl, hw, repL_nil.mpr rfl⟩⟩, fun v B' H' s' t' rv => q v B' H' s' t' rv⟩
theorem e_ownNeg (F : Fam S N n XX) {ps : List Str} {k : Nat} {R : Rel} {a : Expr} {pos : Pos} {p : Rat} {t : T} (M : Me S m.CR m.CH m.CR "__neg__" ps k R)
    (ha : EJ m XX a env c (.rat p) c1) (hR : ∀ c, R c [.rat p] t c) (hk : k ≤ n := by decide) : EJ m XX (.UnaryOp .USub a pos) env c t c1 := by
  obtain ⟨f, fd, G, hs, hf, hbd⟩ := M.ex
  refine EJ.of (te := tUn (rOwn1 m.CR (spD m.CR m.CH R)) (rdE XX a)) (fun i => pe_un (un_own (by rw [F.k i]; exact hs) (by rw [F.k i]; exact hf) (F.fn G i) ((F.room i).mono hk) (by rw [F.k i]; exact hbd)) (pe_rd i)) (den_un ha ?_)
  intro c B H v s hv Q q
  obtain ⟨a, dx, rfl, h1⟩ := rep_rat.mp hv
  exact ⟨a, dx, _, rfl, s.sub _ _ h1, m.p0, m.h0, B, c, _, t, c, hR c, s, repL_cons.mpr ⟨_, _, rfl, hv, repL_nil.mpr rfl⟩, fun v B' H' s' t' rv => q v B' H' s' t' rv⟩
theorem e_prop (F : Fam S N n XX) (kf : KF S m.CR m.CH) {x : Str} {k : Nat} {R : Rel} {a : Expr} {pos : Pos} {p : Rat} {t : T} (M : Pr S m.CR m.CH m.CR x k R)
    (ha : EJ m XX a env c (.rat p) c1) (hR : ∀ c, R c [.rat p] t c) (hk : k + 1 ≤ n := by decide) (hb : ∀ i, attributeBase a x (XX i).env (eval a (XX i).env) = eval a (XX i).env := by intro _; rfl) : EJ m XX (.Attribute a x pos) env c t c1 := by
  obtain ⟨pp, f, fd, G, hp, hbd⟩ := M.ex
  refine EJ.of (te := tProp m.CR (spD m.CR m.CH R) [] E0 (rdE XX a)) (fun i => pe_prop (pe_rd i) (by rw [F.k i]; exact kf.clR) (by rw [F.k i]; exact hp) (F.fn G i) ((F.room i).mono hk) (by rw [F.k i]; exact hbd) .nil pass0 (hb i)) ?_
  intro σ B H s r Q q
  refine ha σ B H s r _ fun v B1 H1 s1 t1 rv => ?_
  obtain ⟨a, dx, rfl, h1⟩ := rep_rat.mp rv
  exact ⟨a, dx, _, rfl, s1.sub _ _ h1, m.p0, m.h0, B1, c1, _, t, c1, hR c1, s1, repL_cons.mpr ⟨_, _, rfl, rv, repL_nil.mpr rfl⟩, fun v B' H' s' t' rv => q v B' H' s' (t1.trans t') rv⟩
end

/-! ### making a Ratio -/
/-- the promise of Ratio.__init__, the bottom above 0 -/
def spRI (CR : Addr) : Sp := fun vs H Q _ => ∃ (x dx : Addr) (t b : Int), vs = [.ref x, .int t, .int b] ∧ H x = some (.ins CR dx []) ∧ 0 < b ∧ b.natAbs < 2 ^ 9000 ∧
  ∀ H', (∀ a o, H a = some o → a ≠ x → H' a = some o) → H' x = some (.ins CR dx (rF (Rat.divInt t b))) → Q .non H'
/-- Ratio as it is made: from two numbers, from one -/
structure Rm (S : Stat) (CR : Addr) : Prop where
  ex : ∃ f fd, PySem.W.findIn S.K (.ref CR) "__init__" = some (some (.ref f)) ∧ Mk S.K CR f ∧ FnOk S.P S.w S.K S.mg S.base CX0 3 f fd ["self", "top", "bottom"] (spRI CR) ∧ Binds S.K fd ["self", "top", "bottom"] [] ∧ ∃ ds, Vals [.int 1] ds ∧ Binds S.K fd ["self", "top", "bottom"] ds
section
variable {S : Stat} {N : List Str} {n : Nat} {ι : Type} {XX : ι → Cx} {m : Pm} {env : TEnv} {c c1 c2 c3 : Pot}
theorem make_den {ta : TA} {dvs : List V} {ts : List T} {t b : Int} (ha : DenA m ta env c ts c1) (hv : ∀ vs B, RepL m ts vs B → vs ++ dvs = [.int t, .int b]) (hb : 0 < b) (hz : b.natAbs < 2 ^ 9000) : Den m (tMake m.CR (spRI m.CR) dvs E0 ta) env c (.rat (Rat.divInt t b)) c1 := by
  intro σ B H s r Q q
  refine ha σ B H s r _ fun vs B1 H1 s1 t1 rv => ?_
  intro x dx hx hdx hne
  have e := hv vs B1 rv
  refine ⟨x, dx, t, b, ?_, upd_same, hb, hz, fun H' k1 k2 => ?_⟩
  · show V.ref x :: (vs ++ dvs) = _
    rw [e]
  · have sm : Same H1 H' := fun a o ea => by
      have n1 : a ≠ x := ne_of_none ea hx
      have n2 : a ≠ dx := ne_of_none ea hdx
      exact k1 a o (by rw [upd_ne n1, upd_ne n2]; exact ea) n1
    have hBx : B1 x = none := s1.sub.free hx
    have hp0 : m.p0 ≠ some x := fun z => by
      have := (s1.pot x z).2
      rw [hx] at this
      cases this
    have st : Stp m B1 H1 (upd B1 x (.ins m.CR dx (rF (Rat.divInt t b)))) H' := (Stp.same sm).frz hx hBx
    exact ⟨rfl, q (.ref x) _ H' ((s1.same sm).frz hBx k2 hp0) (t1.trans st) (rep_rat.mpr ⟨x, dx, rfl, upd_same⟩)⟩
theorem e_ratio2 (F : Fam S N n XX) (kf : KF S m.CR m.CH) (M : Rm S m.CR) {a b : Expr} {p pos : Pos} {t d : Int} (ha : EJ m XX a env c (.int t) c1) (hb : EJ m XX b env c1 (.int d) c2) (hd : 0 < d) (hz : d.natAbs < 2 ^ 9000) (hk : 4 ≤ n := by decide)
    (hg : ∀ i, Gl (XX i) "Ratio" := by intro _; rfl) (hs : ∀ i, starEach [a, b] (XX i).env = (false, eval a (XX i).env) :: starEach [b] (XX i).env := by intro _; rfl) (hs2 : ∀ i, starEach [b] (XX i).env = [(false, eval b (XX i).env)] := by intro _; rfl)
    (hpl : ∀ i, (backTo pos (starEach [b] (XX i).env)).any (·.1) = false := by intro _; rfl) : EJ m XX (.Call (.Name "Ratio" p) [a, b] [] pos) env c (.rat (Rat.divInt t d)) c2 := by
  obtain ⟨f, fd, hf, mk, G, hb1, _⟩ := M.ex
  refine EJ.of (te := tMake m.CR (spRI m.CR) [] E0 (rdA XX [a, b])) (fun i => pe_make (by rw [F.k i]; exact mk) (F.fn G i) ((F.room i).mono hk) (hg i) (by rw [F.mg i]; exact kf.gR) (by rw [F.k i]; exact hb1) .nil pass0 (pa_rd i) (by decide) (hs i) (hpl i)) ?_
  exact make_den (a_cons ha (a_cons hb a_nil hs2) hs) (fun vs B h => by
    have e : vs = [V.int t, V.int d] := (repL_ints (ns := [t, d])).mp h
    rw [e]; rfl) hd hz
theorem e_ratio1 (F : Fam S N n XX) (kf : KF S m.CR m.CH) (M : Rm S m.CR) {a : Expr} {p pos : Pos} {t : Int} (ha : EJ m XX a env c (.int t) c1) (hk : 4 ≤ n := by decide)
    (hg : ∀ i, Gl (XX i) "Ratio" := by intro _; rfl) (hs : ∀ i, starEach [a] (XX i).env = [(false, eval a (XX i).env)] := by intro _; rfl) : EJ m XX (.Call (.Name "Ratio" p) [a] [] pos) env c (.rat (t : Rat)) c1 := by
  obtain ⟨f, fd, hf, mk, G, _, ds, hds, hb2⟩ := M.ex
  have e1 : ((t : Int) : Rat) = Rat.divInt t 1 := by rw [Rat.divInt_eq_div]; grind
  rw [e1]
  refine EJ.of (te := tMake m.CR (spRI m.CR) [.int 1] E0 (rdA XX [a])) (fun i => pe_make (by rw [F.k i]; exact mk) (F.fn G i) ((F.room i).mono hk) (hg i) (by rw [F.mg i]; exact kf.gR) (by rw [F.k i]; exact hb2) hds pass0 (pa_rd i) (by decide) (hs i) (by rfl)) ?_
  exact make_den (a_cons ha a_nil hs) (fun vs B h => by
    have e : vs = [V.int t] := (repL_ints (ns := [t])).mp h
    rw [e]; rfl) (by decide) (by decide)
end
end TW
set_option Elab.async false
set_option linter.all false
set_option maxRecDepth 100000
set_option maxHeartbeats 4000000
/-! R2: is_integer, is_list, divisor_of; Ratio.__init__. -/
namespace TW
open PySem L2
/-- the module's names that are built-in ones -/
structure MG (S : Stat) : Prop where
  isi : S.mg "isinstance" = none
  int_ : S.mg "int" = none
  bool_ : S.mg "bool" = none
  list_ : S.mg "list" = none
  tuple_ : S.mg "tuple" = none
  str_ : S.mg "str" = none
  len_ : S.mg "len" = none
  sum_ : S.mg "sum" = none
  all_ : S.mg "all" = none
  any_ : S.mg "any" = none
  abs_ : S.mg "abs" = none
  max_ : S.mg "max" = none
  zip_ : S.mg "zip" = none
  enum_ : S.mg "enumerate" = none
  range_ : S.mg "range" = none
  divmod_ : S.mg "divmod" = none
  repr_ : S.mg "repr" = none
  gcd_ : S.mg "gcd" = some (.builtin "math.gcd")
  lcm_ : S.mg "lcm" = some (.builtin "math.lcm")
abbrev sIsInt : Stmt := top 14
abbrev sIsList : Stmt := top 16
abbrev sDiv : Stmt := top 20
abbrev sRInit : Stmt := inClass (top 21) 0
theorem scIsInt : FnScope ["value"] ["value"] (defScope sIsInt) := ⟨rfl, rfl, rfl, by decide +kernel, rfl, by decide +kernel, by decide +kernel⟩
theorem scIsList : FnScope ["value"] ["value"] (defScope sIsList) := ⟨rfl, rfl, rfl, by decide +kernel, rfl, by decide +kernel, by decide +kernel⟩
theorem scDiv : FnScope ["one", "other"] ["one", "other"] (defScope sDiv) := ⟨rfl, rfl, rfl, by decide +kernel, rfl, by decide +kernel, by decide +kernel⟩
theorem scRInit : FnScope ["self", "top", "bottom", "common"] ["self", "top", "bottom"] (defScope sRInit) := ⟨rfl, rfl, rfl, by decide +kernel, rfl, by decide +kernel, by decide +kernel⟩
def isIntT : T → Option Bool
  | .int _ => some true
  | .rat _ => some false
  | _ => none
def rIsInt : List T → T → Prop := fun ts t => ∃ x b, ts = [x] ∧ isIntT x = some b ∧ t = .bl b
def isListT : T → Option Bool
  | .lst _ => some true
  | .tup _ => some true
  | _ => none
def rIsList : List T → T → Prop := fun ts t => ∃ x b, ts = [x] ∧ isListT x = some b ∧ t = .bl b
def rDiv : List T → T → Prop := fun ts t => ∃ i j : Int, ts = [.int i, .int j] ∧ t = .int (Nat.gcd i.natAbs j.natAbs : Nat)
section
variable {S : Stat} {CR CH : Addr}
theorem ok_isInt {f : Addr} {fd : FuncData} (Fd : FnS S "is_integer" sIsInt f fd) (hm : S.mg "is_integer" = some (.ref f)) (g : MG S) (kf : KF S CR CH) : Dn S CR CH "is_integer" ["value"] 1 (pureR rIsInt) := by
  refine Dn.pure Fd hm scIsInt (fun ts t h => ?_) (fun _ _ _ _ _ _ us hl => match us, hl with | [_], _ => rfl) ?_
  · obtain ⟨x, b, rfl, _⟩ := h; rfl
  · rintro p0 h0 cdv A outer s H E c ts t F ⟨x, b, rfl, hx, rfl⟩
    refine .rt (b_one (s_ret ?_))
    cases x <;> simp only [isIntT] at hx
    · cases hx
    · cases hx
    · cases hx
      exact e_andT (e_isiTy F kf (Tn := "int") g.isi (e_var F 0) g.int_ (by decide +kernel) rfl (kit_ty (by decide +kernel))) (e_one (e_notV (e_isiTy F kf (Tn := "bool") g.isi (e_var F 0) g.bool_ (by decide +kernel) rfl (kit_ty (by decide +kernel)) (b := false))))
    · cases hx
    · cases hx
      exact e_andF (e_isiTy F kf (Tn := "int") g.isi (e_var F 0) g.int_ (by decide +kernel) rfl kf.kRi)
    all_goals cases hx
theorem ok_isList {f : Addr} {fd : FuncData} (Fd : FnS S "is_list" sIsList f fd) (hm : S.mg "is_list" = some (.ref f)) (g : MG S) (kf : KF S CR CH) : Dn S CR CH "is_list" ["value"] 1 (pureR rIsList) := by
  refine Dn.pure Fd hm scIsList (fun ts t h => ?_) (fun _ _ _ _ _ _ us hl => match us, hl with | [_], _ => rfl) ?_
  · obtain ⟨x, b, rfl, _⟩ := h; rfl
  · rintro p0 h0 cdv A outer s H E c ts t F ⟨x, b, rfl, hx, rfl⟩
    refine .rt (b_one (s_ret ?_))
    cases x <;> simp only [isListT] at hx
    · cases hx
    · cases hx
    · cases hx
    · cases hx
    · cases hx
    · cases hx
      exact e_isiLT F kf g.isi g.list_ g.tuple_ (e_var F 0) rfl (kitAny_cons (kit_ty (by decide +kernel)) (b := true) (fun z => nomatch z) fun _ => rfl)
    · cases hx
      exact e_isiLT F kf g.isi g.list_ g.tuple_ (e_var F 0) rfl (kitAny_cons (kit_ty (by decide +kernel)) (b := false) (fun _ => kitAny_cons (kit_ty (by decide +kernel)) (b := true) (fun z => nomatch z) fun _ => rfl) (fun z => nomatch z))
    all_goals cases hx
theorem ok_div {f : Addr} {fd : FuncData} (Fd : FnS S "divisor_of" sDiv f fd) (hm : S.mg "divisor_of" = some (.ref f)) (g : MG S) : Dn S CR CH "divisor_of" ["one", "other"] 1 (pureR rDiv) := by
  refine Dn.pure Fd hm scDiv (fun ts t h => ?_) (fun _ _ _ _ _ _ us hl => match us, hl with | [_, _], _ => rfl) ?_
  · obtain ⟨i, j, rfl, _⟩ := h; rfl
  · rintro p0 h0 cdv A outer s H E c ts t F ⟨i, j, rfl, rfl⟩
    exact .rt (b_one (s_ret (e_callBf F (fun _ => cr_gcd) g.gcd_ (a_cons (e_var F 0) (a_cons (e_var F 1) a_nil)) denC_gcd)))
theorem ok_rinit {f : Addr} {fd : FuncData} (Fd : FunD S.K "__init__" "Ratio.__init__" (defArgs sRInit) (defBody sRInit) (defScope sRInit) [.int 1] [] f fd) (kf : KF S CR CH) (DI : Dn S CR CH "is_integer" ["value"] 1 (pureR rIsInt)) (DD : Dn S CR CH "divisor_of" ["one", "other"] 1 (pureR rDiv)) :
    FnOk S.P S.w S.K S.mg S.base CX0 3 f fd ["self", "top", "bottom"] (spRI CR) := by
  refine Fd.ok scRInit (fun vs H Q E h => ?_) (fun cdv A outer s H vs Q E hr h => ?_)
  · obtain ⟨x, dx, t, b, rfl, _⟩ := h
    rfl
  · obtain ⟨x, dx, t, b, rfl, hx, hb, hz, k⟩ := h
    have F : Fam S ["self", "top", "bottom", "common"] 2 (dcx S ["self", "top", "bottom", "common"] "Ratio.__init__" sRInit f cdv A outer s H E) :=
      ⟨fun _ => rfl, fun _ => rfl, fun _ => rfl, fun _ => rfl, fun _ => rfl, fun _ => rfl, scRInit.nd, fun _ => rfl, fun _ => hr⟩
    let XX := dcx S ["self", "top", "bottom", "common"] "Ratio.__init__" sRInit f cdv A outer s H E
    let m : Pm := ⟨CR, CH, none, fun _ => none⟩
    let g : Int := (Nat.gcd t.natAbs b.natAbs : Nat)
    have gpos : 0 < g := by
      have : 0 < Nat.gcd t.natAbs b.natAbs := Nat.gcd_pos_of_pos_right _ (by omega)
      show (0 : Int) < ((Nat.gcd t.natAbs b.natAbs : Nat) : Int)
      omega
    have gle : g.natAbs < 2 ^ 9000 := by
      have : Nat.gcd t.natAbs b.natAbs ≤ b.natAbs := Nat.gcd_le_right _ (by omega)
      show ((Nat.gcd t.natAbs b.natAbs : Nat) : Int).natAbs < _
      rw [Int.natAbs_natCast]
      omega
    have cd : ∀ i, CDivW i g := fun i => ⟨gpos, PySem.Flt.log2_lt_of (by decide) gle⟩
    have hnum : (Rat.divInt t b).num = t / g := by
      rw [Rat.num_divInt, Int.sign_eq_one_of_pos hb, Int.one_mul, Int.gcd_comm]
      rfl
    have hden : ((Rat.divInt t b).den : Int) = b / g := by
      rw [Rat.den_divInt, if_neg (by omega), Int.gcd_comm]
      show ((b.natAbs / Nat.gcd t.natAbs b.natAbs : Nat) : Int) = _
      rw [Int.natCast_ediv, Int.natAbs_of_nonneg (by omega)]
    have body : BJ m XX (defBody sRInit) [Sl.raw (.ref x), Sl.val (.int t), Sl.val (.int b), Sl.un] P0 (.raw fun _ H0 D => H0 x = some (.ins CR dx []) ∧ ∀ σ H', (∀ a o, H0 a = some o → a ≠ x → H' a = some o) → H' x = some (.ins CR dx (rF (Rat.divInt t b))) → D.nx σ H') := by
      refine b_cons (s_ifF (t_not (t_val (e_call F DI (a_cons (e_var F 1) a_nil) ⟨rfl, _, true, rfl, rfl, rfl⟩))) b_nil)
        (b_cons (s_ifF (WJ.t (w_orF (t_not (t_val (e_call F DI (a_cons (e_var F 2) a_nil) ⟨rfl, _, true, rfl, rfl, rfl⟩))) (w_or1 (t_eqI (e_var F 2) e_int (by simp; omega))))) b_nil)
        (b_cons (s_set F 3 (e_call F DD (a_cons (e_var F 1) (a_cons (e_var F 2) a_nil)) ⟨rfl, _, _, rfl, rfl⟩))
        (b_cons (s_ifF (t_lt (e_var F 2) e_int (by simp; omega)) b_nil) ?_)))
      refine BJ.of (XX := XX) (ts := tSeq (sFld S.K (tVar 0) (rdE XX _) "own_top") (sFld S.K (tVar 0) (rdE XX _) "own_bottom")) (fun i => pss_cons (ps_fld (pv 0) (pe_rd (XX := XX) i) rfl) (pss_one (ps_fld (pv 0) (pe_rd (XX := XX) i) rfl))) ?_
      intro B0 H0 σ B H1 an D q
      obtain ⟨q0, q⟩ := q
      refine (e_div (e_var F 1) (e_var F 3) (cd t) : EJ m XX _ [Sl.raw (.ref x), Sl.val (.int t), Sl.val (.int b), Sl.val (.int g)] P0 (.int (t / g)) P0) σ B H1 an.sit an.env _ fun v B2 H2 s2 t2 rv => ?_
      rw [rep_int] at rv
      subst rv
      have a2 := an.step s2 t2
      refine ⟨_, a2.env.raw 0 _ rfl, x, CR, dx, [], rfl, a2.stp.h x _ q0 (fun z => nomatch z), kf.clR, kf.nT, by show 0 < 1000; decide, ?_⟩
      have s3 : Sit m P0 (fun _ => none) (upd H2 x (.ins CR dx (putF "own_top" (.int (t / g)) []))) := ⟨fun _ _ z => (nomatch z), fun _ z => absurd rfl z, fun _ z => (nomatch z)⟩
      refine (e_div (e_var F 2) (e_var F 3) (cd b) : EJ m XX _ [Sl.raw (.ref x), Sl.val (.int t), Sl.val (.int b), Sl.val (.int g)] P0 (.int (b / g)) P0) σ (fun _ => none) _ s3 ⟨a2.env.len, fun i t' h => ?_, fun i ts' h => ?_, a2.env.raw, fun i j ts us a _ h => ?_⟩ _ fun v B4 H4 s4 t4 rv => ?_
      · obtain ⟨v, e1, e2⟩ := a2.env.val i t' h
        refine ⟨v, e1, ?_⟩
        match i, h with
        | 1, h => cases h; exact rep_int.mpr (rep_int.mp e2)
        | 2, h => cases h; exact rep_int.mpr (rep_int.mp e2)
        | 3, h => cases h; exact rep_int.mpr (rep_int.mp e2)
      · match i, h with
        | 0, h => cases h
        | 1, h => cases h
        | 2, h => cases h
        | 3, h => cases h
      · match i, h with
        | 0, h => cases h
        | 1, h => cases h
        | 2, h => cases h
        | 3, h => cases h
      · rw [rep_int] at rv
        subst rv
        refine ⟨_, a2.env.raw 0 _ rfl, x, CR, dx, _, rfl, t4.h x _ upd_same (fun z => nomatch z), kf.clR, kf.nB, by show 1 < 1000; decide, ?_⟩
        refine q _ _ (fun a o e ne => ?_) ?_
        · rw [upd_ne ne]
          refine t4.h a o ?_ (fun z => nomatch z)
          rw [upd_ne ne]
          exact a2.stp.h a o e (fun z => nomatch z)
        · rw [upd_same]
          unfold rF
          rw [hnum, hden]
          rfl
    refine ⟨rdB XX (defBody sRInit), PSs.nox (pb_rd (XX := XX) ()), ?_⟩
    refine body (fun _ => none) H _ (fun _ => none) H ⟨⟨fun _ _ z => (nomatch z), fun _ z => absurd rfl z, fun _ z => (nomatch z)⟩, ⟨rfl, fun i t' h => ?_, fun i ts' h => ?_, fun i v h => ?_, fun i j ts us a _ h => ?_⟩, Stp.refl _ _ _, fun i ts a h => ?_⟩ _ ⟨hx, fun σ H' k1 k2 => k H' k1 k2⟩
    · match i, h with
      | 1, h => cases h; exact ⟨_, rfl, rep_int.mpr rfl⟩
      | 2, h => cases h; exact ⟨_, rfl, rep_int.mpr rfl⟩
      | 3, h => cases h
      | k + 4, h => simp at h
    · match i, h with
      | 0, h => cases h
      | 1, h => cases h
      | 2, h => cases h
      | 3, h => cases h
    · match i, h with
      | 0, h => cases h; rfl
      | 1, h => cases h
      | 2, h => cases h
      | 3, h => cases h
      | k + 4, h => simp at h
    · match i, h with
      | 0, h => cases h
      | 1, h => cases h
      | 2, h => cases h
      | 3, h => cases h
    · match i, h with
      | 0, h => cases h
      | 1, h => cases h
      | 2, h => cases h
      | 3, h => cases h
end
end TW
set_option Elab.async false
set_option linter.all false
set_option maxRecDepth 100000
set_option maxHeartbeats 4000000
set_option exponentiation.threshold 100000
/-! R3: lcm; told_pair, Ratio's methods, is_number, ratio_of. -/
namespace TW
open PySem L2
def rLcm : List V → Hp → VK → Prop := fun vs H Q => ∃ a b : Int, vs = [.int a, .int b] ∧ a.natAbs < 2 ^ 13000 ∧ b.natAbs < 2 ^ 13000 ∧ Q (.int (Nat.lcm a.natAbs b.natAbs : Nat)) H
theorem log2_div_small {x : Nat} (h : x < 2 ^ 13000) : ¬ x.log2 / 30 + 1 > 450 := by
  have : x.log2 ≤ 12999 := PySem.W.mg_log (k := 12999) h
  omega
theorem cr_lcm {X : Cx} : CallR X (.builtin "math.lcm") rLcm := by
  intro pins s σ H vs us Q I r h
  obtain ⟨a, b, rfl, ha, hb, q⟩ := h
  obtain ⟨t, u, rfl⟩ := Vals.int2 r
  have e1 : Nat.lcm 1 a.natAbs = a.natAbs := by simp [Nat.lcm]
  have h1 : max 1 a.natAbs < 2 ^ 13000 := by
    have : 1 < 2 ^ 13000 := Nat.one_lt_two_pow (by decide)
    omega
  have h2 : max a.natAbs b.natAbs < 2 ^ 13000 := by omega
  have hl : a.natAbs.lcm b.natAbs < 2 ^ 26000 := by
    have : a.natAbs.lcm b.natAbs ≤ a.natAbs * b.natAbs := by
      unfold Nat.lcm
      exact Nat.div_le_self _ _
    refine Nat.lt_of_le_of_lt this ?_
    rw [show (26000 : Nat) = 13000 + 13000 from rfl, Nat.pow_add]
    exact Nat.mul_lt_mul'' ha hb
  have hsz : ((((Nat.lcm 1 a.natAbs).lcm b.natAbs : Nat) : Int)).natAbs.log2 < bitsLine := by
    rw [e1, Int.natAbs_natCast]
    have : (a.natAbs.lcm b.natAbs).log2 ≤ 25999 := PySem.W.mg_log (k := 25999) hl
    have e : bitsLine = 134217728 := by decide
    omega
  have g := PySem.W.mg_run_lcm a t b u (log2_div_small h1) (log2_div_small h2) hsz
  rw [e1] at g
  exact PySem.call_function_meets PySem.W.MGF.kind_lcm PySem.W.MGF.plain_lcm PySem.W.MGF.entry_lcm (PySem.W.MGF.args_lcm _ _) g.meets ⟨.int _, H, I.tok _, ⟨_, rfl⟩, q⟩
theorem denC_lcm {m : Pm} {i j : Int} (hi : i.natAbs < 2 ^ 13000) (hj : j.natAbs < 2 ^ 13000) : DenC m rLcm [.int i, .int j] (.int (Nat.lcm i.natAbs j.natAbs : Nat)) := by
  intro c B H vs s hv Q q
  have e : vs = [V.int i, V.int j] := (repL_ints (ns := [i, j])).mp hv
  exact ⟨i, j, e, hi, hj, q _ B H s (Stp.refl m B H) (rep_int.mpr rfl)⟩

abbrev sTold : Stmt := top 22
abbrev sIsNum : Stmt := top 23
abbrev sRatioOf : Stmt := top 24
abbrev sSub : Stmt := inClass (top 21) 8
abbrev sMul : Stmt := inClass (top 21) 10
abbrev sNeg : Stmt := inClass (top 21) 12
abbrev sEq : Stmt := inClass (top 21) 17
abbrev sTop : Stmt := inClass (top 21) 1
abbrev sSign : Stmt := inClass (top 21) 3
theorem scTold : FnScope ["value"] ["value"] (defScope sTold) := ⟨rfl, rfl, rfl, by decide +kernel, rfl, by decide +kernel, by decide +kernel⟩
theorem scIsNum : FnScope ["value"] ["value"] (defScope sIsNum) := ⟨rfl, rfl, rfl, by decide +kernel, rfl, by decide +kernel, by decide +kernel⟩
theorem scRatioOf : FnScope ["number"] ["number"] (defScope sRatioOf) := ⟨rfl, rfl, rfl, by decide +kernel, rfl, by decide +kernel, by decide +kernel⟩
theorem scSub : FnScope ["self", "other", "top", "bottom"] ["self", "other"] (defScope sSub) := ⟨rfl, rfl, rfl, by decide +kernel, rfl, by decide +kernel, by decide +kernel⟩
theorem scMul : FnScope ["self", "other", "top", "bottom"] ["self", "other"] (defScope sMul) := ⟨rfl, rfl, rfl, by decide +kernel, rfl, by decide +kernel, by decide +kernel⟩
theorem scNeg : FnScope ["self"] ["self"] (defScope sNeg) := ⟨rfl, rfl, rfl, by decide +kernel, rfl, by decide +kernel, by decide +kernel⟩
theorem scEq : FnScope ["self", "other"] ["self", "other"] (defScope sEq) := ⟨rfl, rfl, rfl, by decide +kernel, rfl, by decide +kernel, by decide +kernel⟩
theorem scTop : FnScope ["self"] ["self"] (defScope sTop) := ⟨rfl, rfl, rfl, by decide +kernel, rfl, by decide +kernel, by decide +kernel⟩
theorem scSign : FnScope ["self"] ["self"] (defScope sSign) := ⟨rfl, rfl, rfl, by decide +kernel, rfl, by decide +kernel, by decide +kernel⟩

/-- a ratio's size -/
def RSz (b : Nat) (q : Rat) : Prop := q.num.natAbs < 2 ^ b ∧ q.den < 2 ^ b
def rTold : List T → T → Prop := fun ts t => ∃ q : Rat, ts = [.rat q] ∧ t = .tup [.int q.num, .int (q.den : Int)]
def rSub : List T → T → Prop := fun ts t => ∃ p q : Rat, ts = [.rat p, .rat q] ∧ t = .rat (p - q) ∧ p.den * q.den < 2 ^ 9000 ∧ RSz 100000 p ∧ RSz 100000 q
def rMul : List T → T → Prop := fun ts t => ∃ p q : Rat, ts = [.rat p, .rat q] ∧ t = .rat (p * q) ∧ p.den * q.den < 2 ^ 9000 ∧ RSz 100000 p ∧ RSz 100000 q
def rNeg : List T → T → Prop := fun ts t => ∃ p : Rat, ts = [.rat p] ∧ t = .rat (-p) ∧ p.den < 2 ^ 9000
def rEqq : List T → T → Prop := fun ts t => ∃ p q : Rat, ts = [.rat p, .rat q] ∧ t = .bl (decide (p = q))
def rTop : List T → T → Prop := fun ts t => ∃ p : Rat, ts = [.rat p] ∧ t = .int p.num
def sgn (q : Rat) : Int := b2i (decide (0 < q.num)) - b2i (decide (q.num < 0))
def rSign : List T → T → Prop := fun ts t => ∃ p : Rat, ts = [.rat p] ∧ t = .int (sgn p)
/-- a number: its worth -/
inductive Num where
  | i (n : Int)
  | r (q : Rat)
def Num.t : Num → T
  | .i n => .int n
  | .r q => .rat q
def Num.q : Num → Rat
  | .i n => (n : Rat)
  | .r q => q
def rIsNum : List T → T → Prop := fun ts t => ∃ x : Num, ts = [x.t] ∧ t = .bl true
def rRatioOf : List T → T → Prop := fun ts t => ∃ x : Num, ts = [x.t] ∧ t = .rat x.q

theorem mulW {i j : Int} {a b : Nat} (ha : i.natAbs < 2 ^ a) (hb : j.natAbs < 2 ^ b) (h0 : 0 < a := by decide) (h1 : 0 < b := by decide) (h : a + b ≤ 1000000 := by decide) : CMulW i j := wide_mul ha hb h0 h1 h
section
variable {S : Stat} {CR CH : Addr}
theorem ok_told {f : Addr} {fd : FuncData} (Fd : FnS S "told_pair" sTold f fd) (hm : S.mg "told_pair" = some (.ref f)) (g : MG S) (kf : KF S CR CH) : Dn S CR CH "told_pair" ["value"] 1 (pureR rTold) := by
  refine Dn.pure Fd hm scTold (fun ts t h => ?_) (fun _ _ _ _ _ _ us hl => match us, hl with | [_], _ => rfl) ?_
  · obtain ⟨q, rfl, _⟩ := h; rfl
  · rintro p0 h0 cdv A outer s H E c ts t F ⟨q, rfl, rfl⟩
    exact .rt (b_ret (s_ifT (t_val (e_isiOwn F kf g.isi (e_var F 0) kf.gR rfl kf.kRR)) (b_one (s_ret (e_tup (a_cons (e_top F kf (e_var F 0)) (a_cons (e_bottom F kf (e_var F 0)) a_nil)))))))
theorem ok_isNum {f : Addr} {fd : FuncData} (Fd : FnS S "is_number" sIsNum f fd) (hm : S.mg "is_number" = some (.ref f)) (g : MG S) (kf : KF S CR CH) (DI : Dn S CR CH "is_integer" ["value"] 1 (pureR rIsInt)) : Dn S CR CH "is_number" ["value"] 2 (pureR rIsNum) := by
  refine Dn.pure Fd hm scIsNum (fun ts t h => ?_) (fun _ _ _ _ _ _ us hl => match us, hl with | [_], _ => rfl) ?_
  · obtain ⟨q, rfl, _⟩ := h; rfl
  · rintro p0 h0 cdv A outer s H E c ts t F ⟨x, rfl, rfl⟩
    cases x with
    | i n => exact .rt (b_one (s_ret (e_orT (e_call F DI (a_cons (e_var F 0) a_nil) ⟨rfl, _, true, rfl, rfl, rfl⟩))))
    | r q => exact .rt (b_one (s_ret (e_orF (e_call F DI (a_cons (e_var F 0) a_nil) ⟨rfl, _, false, rfl, rfl, rfl⟩) (e_one (e_isiOwn F kf g.isi (e_var F 0) kf.gR rfl kf.kRR)))))
theorem ok_ratioOf {f : Addr} {fd : FuncData} (Fd : FnS S "ratio_of" sRatioOf f fd) (hm : S.mg "ratio_of" = some (.ref f)) (g : MG S) (kf : KF S CR CH) (M : Rm S CR) : Dn S CR CH "ratio_of" ["number"] 5 (pureR rRatioOf) := by
  refine Dn.pure Fd hm scRatioOf (fun ts t h => ?_) (fun _ _ _ _ _ _ us hl => match us, hl with | [_], _ => rfl) ?_
  · obtain ⟨q, rfl, _⟩ := h; rfl
  · rintro p0 h0 cdv A outer s H E c ts t F ⟨x, rfl, rfl⟩
    cases x with
    | i n => exact .rt (b_one (s_ret (e_ifF (t_val (e_isiOwn F kf g.isi (e_var F 0) kf.gR rfl kf.kiR)) (e_ratio1 F kf M (e_var F 0)))))
    | r q => exact .rt (b_one (s_ret (e_ifT (t_val (e_isiOwn F kf g.isi (e_var F 0) kf.gR rfl kf.kRR)) (e_var F 0))))
/-- a method's promise -/
theorem Me.mk' {C : Addr} {x qual : Str} {st : Stmt} {f : Addr} {fd : FuncData} {N ps : List Str} {k : Nat} {R : List T → T → Prop} (Fd : FunD S.K x qual (defArgs st) (defBody st) (defScope st) [] [] f fd) (hs : PySem.W.findIn S.K (.ref C) x = some (some (.ref f))) (hf : PySem.W.isFn S.K (.ref f) = true) (sc : FnScope N ps (defScope st)) (len : ∀ ts t, R ts t → ts.length = ps.length)
    (hb : ∀ (kV doc pm : Value) (an : Option Addr) (cdv ct : Value) (us : List Value), us.length = ps.length → bindArgs (PySem.W.fnOf x qual (defArgs st) (defBody st) (defScope st) .none kV doc pm an cdv ct) ⟨us, []⟩ = pure (ps.zip us))
    (body : ∀ (p0 : Option Addr) (h0 : Hp) (cdv : Value) (A : Around) (outer : List Env) (s : Shared) (H : Hp) (E : XK) (c : Pot) (ts : List T) (t : T), Fam S N k (dcx S N qual st f cdv A outer s H E) → R ts t →
      Gives ⟨CR, CH, p0, h0⟩ (dcx S N qual st f cdv A outer s H E) (defBody st) (startE N ts) c t c) : Me S CR CH C x ps (k + 1) (pureR R) :=
  ⟨f, fd, fn_spD Fd sc (fun c ts t c' h => len ts t h.2) fun p0 h0 cdv A outer s H E c ts t c' F h => by
    obtain ⟨rfl, h⟩ := h
    exact body p0 h0 cdv A outer s H E _ ts t F h, hs, hf, Fd.bindsN hb⟩
theorem ok_sub {f : Addr} {fd : FuncData} (Fd : FunD S.K "__sub__" "Ratio.__sub__" (defArgs sSub) (defBody sSub) (defScope sSub) [] [] f fd) (hs : PySem.W.findIn S.K (.ref CR) "__sub__" = some (some (.ref f))) (hf : PySem.W.isFn S.K (.ref f) = true) (g : MG S) (kf : KF S CR CH) (M : Rm S CR)
    (DT : Dn S CR CH "told_pair" ["value"] 1 (pureR rTold)) : Me S CR CH CR "__sub__" ["self", "other"] 5 (pureR rSub) := by
  refine Me.mk' Fd hs hf scSub (fun ts t h => ?_) (fun _ _ _ _ _ _ us hl => match us, hl with | [_, _], _ => rfl) ?_
  · obtain ⟨p, q, rfl, _⟩ := h; rfl
  · rintro p0 h0 cdv A outer s H E c ts t F ⟨p, q, rfl, rfl, hd, ⟨p1, p2⟩, ⟨q1, q2⟩⟩
    have e : p - q = Rat.divInt (p.num * (q.den : Int) - q.num * (p.den : Int)) ((p.den : Int) * (q.den : Int)) := by
      rw [← Rat.divInt_sub_divInt _ _ (by have := p.den_nz; omega) (by have := q.den_nz; omega), Rat.num_divInt_den, Rat.num_divInt_den]
    rw [e]
    have hpos : (0 : Int) < (p.den : Int) * (q.den : Int) := Int.mul_pos (by have := p.den_pos; omega) (by have := q.den_pos; omega)
    exact .rt (b_cons (s_asg F (e_call F DT (a_cons (e_var F 1) a_nil) ⟨rfl, _, rfl, rfl⟩) (g_tup2 F (g_name F 2) (g_name F 3)) own_set2)
      (b_one (s_ret (e_ratio2 F kf M (e_sub (e_mul (e_top F kf (e_var F 0)) (e_var F 3) (mulW p1 (b := 100000) (by simpa using q2))) (e_mul (e_var F 2) (e_bottom F kf (e_var F 0)) (mulW q1 (b := 100000) (by simpa using p2))))
        (e_mul (e_bottom F kf (e_var F 0)) (e_var F 3) (mulW (a := 100000) (b := 100000) (by simpa using p2) (by simpa using q2))) hpos (by rw [Int.natAbs_mul]; simpa using hd)))))
theorem ok_mul {f : Addr} {fd : FuncData} (Fd : FunD S.K "__mul__" "Ratio.__mul__" (defArgs sMul) (defBody sMul) (defScope sMul) [] [] f fd) (hs : PySem.W.findIn S.K (.ref CR) "__mul__" = some (some (.ref f))) (hf : PySem.W.isFn S.K (.ref f) = true) (g : MG S) (kf : KF S CR CH) (M : Rm S CR)
    (DT : Dn S CR CH "told_pair" ["value"] 1 (pureR rTold)) : Me S CR CH CR "__mul__" ["self", "other"] 5 (pureR rMul) := by
  refine Me.mk' Fd hs hf scMul (fun ts t h => ?_) (fun _ _ _ _ _ _ us hl => match us, hl with | [_, _], _ => rfl) ?_
  · obtain ⟨p, q, rfl, _⟩ := h; rfl
  · rintro p0 h0 cdv A outer s H E c ts t F ⟨p, q, rfl, rfl, hd, ⟨p1, p2⟩, ⟨q1, q2⟩⟩
    have e : p * q = Rat.divInt (p.num * q.num) ((p.den : Int) * (q.den : Int)) := by
      rw [← Rat.divInt_mul_divInt, Rat.num_divInt_den, Rat.num_divInt_den]
    rw [e]
    have hpos : (0 : Int) < (p.den : Int) * (q.den : Int) := Int.mul_pos (by have := p.den_pos; omega) (by have := q.den_pos; omega)
    exact .rt (b_cons (s_asg F (e_call F DT (a_cons (e_var F 1) a_nil) ⟨rfl, _, rfl, rfl⟩) (g_tup2 F (g_name F 2) (g_name F 3)) own_set2)
      (b_one (s_ret (e_ratio2 F kf M (e_mul (e_top F kf (e_var F 0)) (e_var F 2) (mulW p1 q1))
        (e_mul (e_bottom F kf (e_var F 0)) (e_var F 3) (mulW (a := 100000) (b := 100000) (by simpa using p2) (by simpa using q2))) hpos (by rw [Int.natAbs_mul]; simpa using hd)))))
theorem ok_neg {f : Addr} {fd : FuncData} (Fd : FunD S.K "__neg__" "Ratio.__neg__" (defArgs sNeg) (defBody sNeg) (defScope sNeg) [] [] f fd) (hs : PySem.W.findIn S.K (.ref CR) "__neg__" = some (some (.ref f))) (hf : PySem.W.isFn S.K (.ref f) = true) (g : MG S) (kf : KF S CR CH) (M : Rm S CR) : Me S CR CH CR "__neg__" ["self"] 5 (pureR rNeg) := by
  refine Me.mk' Fd hs hf scNeg (fun ts t h => ?_) (fun _ _ _ _ _ _ us hl => match us, hl with | [_], _ => rfl) ?_
  · obtain ⟨p, rfl, _⟩ := h; rfl
  · rintro p0 h0 cdv A outer s H E c ts t F ⟨p, rfl, rfl, hd⟩
    have e : -p = Rat.divInt (0 - p.num) (p.den : Int) := by
      rw [Int.zero_sub, ← Rat.neg_divInt, Rat.num_divInt_den]
    rw [e]
    exact .rt (b_one (s_ret (e_ratio2 F kf M (e_sub e_int (e_top F kf (e_var F 0))) (e_bottom F kf (e_var F 0)) (by have := p.den_pos; omega) (by simpa using hd))))
theorem ok_eqq {f : Addr} {fd : FuncData} (Fd : FunD S.K "__eq__" "Ratio.__eq__" (defArgs sEq) (defBody sEq) (defScope sEq) [] [] f fd) (hs : PySem.W.findIn S.K (.ref CR) "__eq__" = some (some (.ref f))) (hf : PySem.W.isFn S.K (.ref f) = true) (g : MG S) (kf : KF S CR CH) : Me S CR CH CR "__eq__" ["self", "other"] 1 (pureR rEqq) := by
  refine Me.mk' Fd hs hf scEq (fun ts t h => ?_) (fun _ _ _ _ _ _ us hl => match us, hl with | [_, _], _ => rfl) ?_
  · obtain ⟨p, q, rfl, _⟩ := h; rfl
  · rintro p0 h0 cdv A outer s H E c ts t F ⟨p, q, rfl, rfl⟩
    have e : decide (p = q) = (decide (p.num = q.num) && decide ((p.den : Int) = (q.den : Int))) := by
      by_cases h : p = q
      · subst h; simp
      · have : ¬ (p.num = q.num ∧ (p.den : Int) = (q.den : Int)) := fun ⟨h1, h2⟩ => h (Rat.ext h1 (by omega))
        simp only [h, decide_false]
        symm
        rw [Bool.and_eq_false_iff]
        by_cases h1 : p.num = q.num
        · right; simp; intro h2; exact this ⟨h1, by omega⟩
        · left; simp [h1]
    exact .rt (b_cons (s_ifF (t_not (t_val (e_isiOwn F kf g.isi (e_var F 1) kf.gR rfl kf.kRR))) b_nil) (b_one (s_ret (EJ.to (e_and (e_eqI (e_top F kf (e_var F 0)) (e_top F kf (e_var F 1))) fun _ => e_one (e_eqI (e_bottom F kf (e_var F 0)) (e_bottom F kf (e_var F 1)))) (by rw [e])))))
theorem Pr.mk' {C p : Addr} {x qual : Str} {st : Stmt} {f : Addr} {fd : FuncData} {N : List Str} {k : Nat} {R : List T → T → Prop} (Fd : FunD S.K x qual (defArgs st) (defBody st) (defScope st) [] [] f fd) (hp : PropOf S.K C x p f) (sc : FnScope N ["self"] (defScope st)) (len : ∀ ts t, R ts t → ts.length = 1)
    (hb : ∀ (kV doc pm : Value) (an : Option Addr) (cdv ct : Value) (us : List Value), us.length = 1 → bindArgs (PySem.W.fnOf x qual (defArgs st) (defBody st) (defScope st) .none kV doc pm an cdv ct) ⟨us, []⟩ = pure ((["self"] : List Str).zip us))
    (body : ∀ (p0 : Option Addr) (h0 : Hp) (cdv : Value) (A : Around) (outer : List Env) (s : Shared) (H : Hp) (E : XK) (c : Pot) (ts : List T) (t : T), Fam S N k (dcx S N qual st f cdv A outer s H E) → R ts t →
      Gives ⟨CR, CH, p0, h0⟩ (dcx S N qual st f cdv A outer s H E) (defBody st) (startE N ts) c t c) : Pr S CR CH C x (k + 1) (pureR R) :=
  ⟨p, f, fd, fn_spD Fd sc (fun c ts t c' h => len ts t h.2) fun p0 h0 cdv A outer s H E c ts t c' F h => by
    obtain ⟨rfl, h⟩ := h
    exact body p0 h0 cdv A outer s H E _ ts t F h, hp, Fd.bindsN hb⟩
theorem ok_top {f p : Addr} {fd : FuncData} (Fd : FunD S.K "top" "Ratio.top" (defArgs sTop) (defBody sTop) (defScope sTop) [] [] f fd) (hp : PropOf S.K CR "top" p f) (kf : KF S CR CH) : Pr S CR CH CR "top" 1 (pureR rTop) := by
  refine Pr.mk' Fd hp scTop (fun ts t h => ?_) (fun _ _ _ _ _ _ us hl => match us, hl with | [_], _ => rfl) ?_
  · obtain ⟨p, rfl, _⟩ := h; rfl
  · rintro p0 h0 cdv A outer s H E c ts t F ⟨p, rfl, rfl⟩
    exact .rt (b_one (s_ret (e_top F kf (e_var F 0))))
theorem ok_sign {f p : Addr} {fd : FuncData} (Fd : FunD S.K "sign" "Ratio.sign" (defArgs sSign) (defBody sSign) (defScope sSign) [] [] f fd) (hp : PropOf S.K CR "sign" p f) (g : MG S) (kf : KF S CR CH) : Pr S CR CH CR "sign" 1 (pureR rSign) := by
  refine Pr.mk' Fd hp scSign (fun ts t h => ?_) (fun _ _ _ _ _ _ us hl => match us, hl with | [_], _ => rfl) ?_
  · obtain ⟨p, rfl, _⟩ := h; rfl
  · rintro p0 h0 cdv A outer s H E c ts t F ⟨p, rfl, rfl⟩
    exact .rt (b_one (s_ret (e_sub (e_intB F g.int_ (e_gt (e_top F kf (e_var F 0)) e_int)) (e_intB F g.int_ (e_lt (e_top F kf (e_var F 0)) e_int)))))
end
end TW
set_option linter.all false
/-! Mir: what the program's defs and the law's own defs reckon, as plain functions. -/
namespace TW
/-! ### the program's rows of INTEGERS -/
def rowGcd (row : List Int) : Nat := row.foldl (fun g n => if n = 0 then g else Nat.gcd g n.natAbs) 0
def bareRow (row : List Int) : List Int := if 1 < rowGcd row then row.map (fun n => n / (rowGcd row : Int)) else row
def clr (head : List Int) (p : Nat) (row : List Int) : List Int :=
  if row.getD p 0 = 0 then row else bareRow ((row.zip head).map fun x => head.getD p 0 * x.1 - row.getD p 0 * x.2)
def firstAt (rows : List (List Int)) (p : Nat) : Option Nat := rows.findIdx? fun r => r.getD p 0 != 0
def headed (row : List Int) (p : Nat) : List Int := if 0 < (bareRow row).getD p 0 then bareRow row else (bareRow row).map fun n => 0 - n
def stepAt (st : List (List Int) × List (List Int)) (p : Nat) : List (List Int) × List (List Int) :=
  match firstAt st.1 p with
  | none => st
  | some i => ((st.1.take i ++ st.1.drop (i + 1)).map (clr (headed (st.1.getD i []) p) p), st.2.map (clr (headed (st.1.getD i []) p) p) ++ [headed (st.1.getD i []) p])
def wideOf (rows : List (List Int)) : Nat := (rows.headD []).length
def stg (rows : List (List Int)) (k : Nat) : List (List Int) × List (List Int) := (List.range k).foldl stepAt (rows, [])
def intSteps (rows : List (List Int)) : List (List Int) := (stg rows (wideOf rows)).2
def headOf (row : List Int) : Nat := row.findIdx fun n => n != 0
def toldRow (row : List Int) : List Rat := row.map fun n => Rat.divInt n (row.getD (headOf row) 0)
/-! ### rows of Ratios -/
def lcmDen (row : List Rat) : Nat := row.foldl (fun b q => Nat.lcm b q.den) 1
def wholesI (row : List Rat) : List Int := row.map fun q => q.num * ((lcmDen row : Int) / (q.den : Int))
def stepsOf (rows : List (List Rat)) : List (List Rat) := (intSteps (rows.map wholesI)).map toldRow
def headR (row : List Rat) : Nat := headOf (row.map fun q => q.num)
def kerRow (solved : List (List Rat)) (wide free : Nat) : List Rat :=
  solved.foldl (fun row step => row.set (headR step) (-(step.getD free 0))) ((List.range wide).map fun i => if i = free then 1 else 0)
def kerRows (solved : List (List Rat)) (wide : Nat) : List (List Rat) := ((List.range wide).filter fun f => !(solved.map headR).contains f).map (kerRow solved wide)
def kernelOf (rows : List (List Rat)) (wide : Nat) : List (List Rat) := stepsOf (kerRows (stepsOf rows) wide)
end TW
set_option Elab.async false
set_option linter.all false
set_option maxRecDepth 100000
set_option maxHeartbeats 4000000
set_option exponentiation.threshold 100000
/-! W1: the walks of wholes, ints_of, bare_row, cleared, first_at, headed_row. -/
namespace TW
open PySem L2
abbrev sWholes : Stmt := top 25
abbrev sIntsOf : Stmt := top 27
abbrev sBare : Stmt := top 28
abbrev sCleared : Stmt := top 29
abbrev sFirst : Stmt := top 30
abbrev sHeaded : Stmt := top 31
theorem scWholes : FnScope ["ratios", "bottom", "ratio"] ["ratios"] (defScope sWholes) := ⟨rfl, rfl, rfl, by decide +kernel, rfl, by decide +kernel, by decide +kernel⟩
theorem scIntsOf : FnScope ["rows", "row"] ["rows"] (defScope sIntsOf) := ⟨rfl, rfl, rfl, by decide +kernel, rfl, by decide +kernel, by decide +kernel⟩
theorem scBare : FnScope ["row", "common", "number"] ["row"] (defScope sBare) := ⟨rfl, rfl, rfl, by decide +kernel, rfl, by decide +kernel, by decide +kernel⟩
theorem scCleared : FnScope ["row", "head", "place", "near", "far"] ["row", "head", "place"] (defScope sCleared) := ⟨rfl, rfl, rfl, by decide +kernel, rfl, by decide +kernel, by decide +kernel⟩
theorem scFirst : FnScope ["rows", "place", "at", "row"] ["rows", "place"] (defScope sFirst) := ⟨rfl, rfl, rfl, by decide +kernel, rfl, by decide +kernel, by decide +kernel⟩
theorem scHeaded : FnScope ["row", "place", "found", "number"] ["row", "place"] (defScope sHeaded) := ⟨rfl, rfl, rfl, by decide +kernel, rfl, by decide +kernel, by decide +kernel⟩

theorem foldl_take {α β : Type} {f : β → α → β} {b : β} {xs : List α} {i : Nat} {x : α} (h : xs[i]? = some x) : (xs.take (i + 1)).foldl f b = f ((xs.take i).foldl f b) x := by
  rw [List.take_add_one, h, List.foldl_append]
  rfl
/-- all entries of a row below 2 ^ b -/
def Bd (b : Nat) (row : List Int) : Prop := ∀ n ∈ row, n.natAbs < 2 ^ b
theorem atI_pos {α : Type} {xs : List α} {p : Nat} {x : α} (h : xs[p]? = some x) : atI xs (p : Int) = some x := by
  have hl := (List.getElem?_eq_some_iff.mp h).1
  unfold atI ixN
  rw [if_pos (by omega), if_pos (by omega)]
  simpa using h
theorem atI_map {α β : Type} {f : α → β} {xs : List α} {p : Nat} {x : α} (h : xs[p]? = some x) : atI (xs.map f) (p : Int) = some (f x) := atI_pos (by rw [List.getElem?_map, h]; rfl)
theorem atI_int {xs : List Int} {p : Nat} (h : p < xs.length) : atI (xs.map T.int) (p : Int) = some (.int (xs.getD p 0)) := atI_map (by simp [List.getD, h])
theorem gcd_lt {row : List Int} {b : Nat} (h : Bd b row) : rowGcd row < 2 ^ b := by
  unfold rowGcd
  have key : ∀ (l : List Int) (g : Nat), g < 2 ^ b → (∀ n ∈ l, n.natAbs < 2 ^ b) → l.foldl (fun g n => if n = 0 then g else Nat.gcd g n.natAbs) g < 2 ^ b := by
    intro l
    induction l with
    | nil => intro g hg _; exact hg
    | cons n l ih =>
      intro g hg hl
      refine ih _ ?_ fun m hm => hl m (List.mem_cons_of_mem _ hm)
      show (if n = 0 then g else Nat.gcd g n.natAbs) < 2 ^ b
      by_cases z : n = 0
      · rw [if_pos z]; exact hg
      · rw [if_neg z]
        exact Nat.lt_of_le_of_lt (Nat.gcd_le_right _ (by omega)) (hl n List.mem_cons_self)
  exact key row 0 (Nat.two_pow_pos b) h
theorem bareRow_length (row : List Int) : (bareRow row).length = row.length := by unfold bareRow; split <;> simp
theorem natAbs_div_le (n : Int) (g : Nat) : (n / (g : Int)).natAbs ≤ n.natAbs := Int.natAbs_ediv_le_natAbs n g
theorem bareRow_bd {row : List Int} {b : Nat} (h : Bd b row) : Bd b (bareRow row) := by
  unfold bareRow
  split
  · intro n hn
    obtain ⟨m, hm, rfl⟩ := List.mem_map.mp hn
    exact Nat.lt_of_le_of_lt (natAbs_div_le m _) (h m hm)
  · exact h
def rWholes : List T → T → Prop := fun ts t => ∃ row : List Rat, ts = [tR row] ∧ t = .tup [.int (lcmDen row : Nat), tI (wholesI row)] ∧ row.length ≤ 1000 ∧ (∀ q ∈ row, RSz 9000 q) ∧ lcmDen row < 2 ^ 13000
def rIntsOf : List T → T → Prop := fun ts t => ∃ rows : List (List Rat), ts = [tRR rows] ∧ t = tII (rows.map wholesI) ∧ rows.length ≤ 1000 ∧ ∀ row ∈ rows, row.length ≤ 1000 ∧ (∀ q ∈ row, RSz 9000 q) ∧ lcmDen row < 2 ^ 13000
def rBare : List T → T → Prop := fun ts t => ∃ row : List Int, ts = [tI row] ∧ t = tI (bareRow row) ∧ row.length ≤ 1000 ∧ rowGcd row < 2 ^ 9000
def rCleared : List T → T → Prop := fun ts t => ∃ (row head : List Int) (p : Nat), ts = [tI row, tI head, .int p] ∧ t = tI (clr head p row) ∧ p < row.length ∧ row.length = head.length ∧ row.length ≤ 1000 ∧ Bd 4490 row ∧ Bd 4490 head
def rFirst : List T → T → Prop := fun ts t => ∃ (rows : List (List Int)) (p : Nat), ts = [tII rows, .int p] ∧ t = .int (match firstAt rows p with | none => -1 | some i => (i : Int)) ∧ rows.length ≤ 1000 ∧ ∀ r ∈ rows, p < r.length
def rHeaded : List T → T → Prop := fun ts t => ∃ (row : List Int) (p : Nat), ts = [tI row, .int p] ∧ t = tI (headed row p) ∧ p < row.length ∧ row.length ≤ 1000 ∧ rowGcd row < 2 ^ 9000

theorem sz1000 {k : Nat} (h : k ≤ 1000) : k < sizeLine := Nat.lt_of_le_of_lt h (by decide)
theorem dvd_foldl_lcm : ∀ (l : List Rat) (b : Nat), b ∣ l.foldl (fun b q => Nat.lcm b q.den) b
  | [], b => Nat.dvd_refl b
  | q :: l, b => Nat.dvd_trans (Nat.dvd_lcm_left b q.den) (dvd_foldl_lcm l (Nat.lcm b q.den))
theorem foldl_lcm_pos : ∀ (l : List Rat) (b : Nat), 0 < b → 0 < l.foldl (fun b q => Nat.lcm b q.den) b
  | [], b, h => h
  | q :: l, b, h => foldl_lcm_pos l (Nat.lcm b q.den) (Nat.lcm_pos h q.den_pos)
theorem lcmDen_take_le (row : List Rat) (i : Nat) : lcmDen (row.take i) ≤ lcmDen row := by
  have e : lcmDen row = (row.drop i).foldl (fun b q => Nat.lcm b q.den) (lcmDen (row.take i)) := by
    unfold lcmDen
    rw [← List.foldl_append, List.take_append_drop]
  rw [e]
  exact Nat.le_of_dvd (foldl_lcm_pos _ _ (foldl_lcm_pos _ _ (by decide))) (dvd_foldl_lcm _ _)
section
variable {S : Stat} {CR CH : Addr}
theorem ok_wholes {f : Addr} {fd : FuncData} (Fd : FnS S "wholes" sWholes f fd) (hm : S.mg "wholes" = some (.ref f)) (g : MG S) (kf : KF S CR CH) : Dn S CR CH "wholes" ["ratios"] 1 (pureR rWholes) := by
  refine Dn.pure Fd hm scWholes (fun ts t h => ?_) (fun _ _ _ _ _ _ us hl => match us, hl with | [_], _ => rfl) ?_
  · obtain ⟨i, rfl, _⟩ := h; rfl
  · rintro p0 h0 cdv A outer s H E c ts t F ⟨row, rfl, rfl, hlen, hq, hl⟩
    refine .rt (b_cons (s_set F 1 e_int) (b_cons (s_for F 2 (fun i => ([Sl.val (tR row), Sl.val (.int (lcmDen (row.take i) : Nat)), Sl.un], c)) (i_lst F (e_var F 0)) rfl ?_) (b_one (s_ret (e_tup (a_cons (EJ.to (e_var F 1) ?_) (a_cons (EJ.to (e_comp F (c_name F (k := 2) (f := fun q : Rat => T.int (q.num * ((lcmDen row : Int) / (q.den : Int)))) (i_lst F (e_var F 0)) (sz1000 hlen) (fun q hqm => ?_))) ?_) a_nil)))))))
    · intro i q hqi
      have hm := hq q (List.mem_of_getElem? hqi)
      have step : lcmDen (row.take (i + 1)) = Nat.lcm (lcmDen (row.take i)) q.den := foldl_take hqi
      refine b_weak [2] (b_one (s_set F 1 (e_callBf F (fun _ => cr_lcm) g.lcm_ (a_cons (e_var F 1) (a_cons (e_bottom F kf (e_var F 2)) a_nil)) (denC_lcm ?_ ?_)))) ?_
      · rw [Int.natAbs_natCast]; exact Nat.lt_of_le_of_lt (lcmDen_take_le row i) hl
      · rw [Int.natAbs_natCast]; exact Nat.lt_trans hm.2 (Nat.pow_lt_pow_right (by decide) (by decide))
      · rw [step]; rfl
    · rw [List.take_length]
    · have hm := hq q hqm
      refine e_mul (e_top (F.blk _) kf (e_var (F.blk _) 2)) (e_div (EJ.to (e_var (F.blk _) 1) (by rw [List.take_length])) (e_bottom (F.blk _) kf (e_var (F.blk _) 2)) ⟨by have := q.den_pos; omega, ?_⟩) (mulW (a := 9000) (b := 13000) hm.1 ?_)
      · rw [Int.natAbs_natCast]; exact PySem.Flt.log2_lt_of (by decide) hm.2
      · exact Nat.lt_of_le_of_lt (natAbs_div_le _ _) (by rw [Int.natAbs_natCast]; exact hl)
    · simp [wholesI]
theorem ok_intsOf {f : Addr} {fd : FuncData} (Fd : FnS S "ints_of" sIntsOf f fd) (hm : S.mg "ints_of" = some (.ref f)) (D : Dn S CR CH "wholes" ["ratios"] 1 (pureR rWholes)) : Dn S CR CH "ints_of" ["rows"] 2 (pureR rIntsOf) := by
  refine Dn.pure Fd hm scIntsOf (fun ts t h => ?_) (fun _ _ _ _ _ _ us hl => match us, hl with | [_], _ => rfl) ?_
  · obtain ⟨i, rfl, _⟩ := h; rfl
  · rintro p0 h0 cdv A outer s H E c ts t F ⟨rows, rfl, rfl, hlen, hq⟩
    refine .rt (b_one (s_ret (EJ.to (e_comp F (c_name F (k := 1) (f := fun r : List Rat => tI (wholesI r)) (i_lst F (e_var F 0)) (sz1000 hlen) (fun r hr => ?_))) ?_)))
    · obtain ⟨h1, h2, h3⟩ := hq r hr
      exact e_ixT (F.blk _) (e_call (F.blk _) D (a_cons (e_var (F.blk _) 1) a_nil) ⟨rfl, r, rfl, rfl, h1, h2, h3⟩) e_int rfl
    · simp
theorem ok_bare {f : Addr} {fd : FuncData} (Fd : FnS S "bare_row" sBare f fd) (hm : S.mg "bare_row" = some (.ref f)) (D : Dn S CR CH "divisor_of" ["one", "other"] 1 (pureR rDiv)) : Dn S CR CH "bare_row" ["row"] 2 (pureR rBare) := by
  refine Dn.pure Fd hm scBare (fun ts t h => ?_) (fun _ _ _ _ _ _ us hl => match us, hl with | [_], _ => rfl) ?_
  · obtain ⟨i, rfl, _⟩ := h; rfl
  · rintro p0 h0 cdv A outer s H E c ts t F ⟨row, rfl, rfl, hlen, hg⟩
    refine .rt (b_cons (s_set F 1 e_int) (b_cons (s_for F 2 (fun i => ([Sl.val (tI row), Sl.val (.int (rowGcd (row.take i) : Nat)), Sl.un], c)) (i_lst F (e_var F 0)) rfl ?_) (b_one (s_ret ?_))))
    · intro i y hy
      have step : rowGcd (row.take (i + 1)) = if y = 0 then rowGcd (row.take i) else Nat.gcd (rowGcd (row.take i)) y.natAbs := foldl_take hy
      by_cases hy0 : y = 0
      · refine b_weak [2] (b_one (s_ifF (t_neI (e_var F 2) e_int (by simp [hy0])) b_nil)) ?_
        rw [step, if_pos hy0]
        rfl
      · refine b_weak [2] (b_one (s_ifT (t_neI (e_var F 2) e_int (by simp [hy0])) (b_one (s_set F 1 (e_call F D (a_cons (e_var F 1) (a_cons (e_var F 2) a_nil)) ⟨rfl, _, _, rfl, rfl⟩))))) ?_
        rw [step, if_neg hy0]
        rfl
    · show EJ _ _ _ _ _ _ _
      rw [List.take_length]
      unfold bareRow
      by_cases h1 : 1 < rowGcd row
      · rw [if_pos h1]
        refine e_ifT (t_gt (e_var F 1) e_int (by simp; omega)) ?_
        refine EJ.to (e_comp F (c_name F (k := 2) (f := fun y => T.int (y / (rowGcd row : Int))) (i_lst F (e_var F 0)) (sz1000 hlen) (fun y hy => e_div (e_var (F.blk _) 2) (e_var (F.blk _) 1) ⟨by omega, ?_⟩))) ?_
        · rw [Int.natAbs_natCast]
          exact PySem.Flt.log2_lt_of (by decide) hg
        · simp
      · rw [if_neg h1]
        exact e_ifF (t_gt (e_var F 1) e_int (by simp; omega)) (e_var F 0)
theorem clr_bd {row head : List Int} {p b b' : Nat} (h1 : Bd b row) (h2 : Bd b' head) : Bd (b + b' + 1) ((row.zip head).map fun x => head.getD p 0 * x.1 - row.getD p 0 * x.2) := by
  intro n hn
  obtain ⟨⟨x, y⟩, hxy, rfl⟩ := List.mem_map.mp hn
  obtain ⟨hx, hy⟩ := List.of_mem_zip hxy
  have gd : ∀ (l : List Int) (c : Nat), Bd c l → (l.getD p 0).natAbs < 2 ^ c := fun l c hl => by
    by_cases z : p < l.length
    · have e : l.getD p 0 = l[p] := by simp [List.getD, z]
      rw [e]; exact hl _ (List.getElem_mem z)
    · have e : l.getD p 0 = 0 := by simp [List.getD, z]
      rw [e]; exact Nat.two_pow_pos c
  have a1 : (head.getD p 0 * x).natAbs < 2 ^ (b + b') := by
    rw [Int.natAbs_mul, Nat.add_comm b b', Nat.pow_add]; exact Nat.mul_lt_mul'' (gd head b' h2) (h1 x hx)
  have a2 : (row.getD p 0 * y).natAbs < 2 ^ (b + b') := by
    rw [Int.natAbs_mul, Nat.pow_add]; exact Nat.mul_lt_mul'' (gd row b h1) (h2 y hy)
  have : 2 ^ (b + b' + 1) = 2 ^ (b + b') + 2 ^ (b + b') := by rw [Nat.pow_succ]; omega
  show (head.getD p 0 * x - row.getD p 0 * y).natAbs < _
  omega
theorem getD_bd {l : List Int} {p c : Nat} (hl : Bd c l) : (l.getD p 0).natAbs < 2 ^ c := by
  by_cases z : p < l.length
  · have e : l.getD p 0 = l[p] := by simp [List.getD, z]
    rw [e]; exact hl _ (List.getElem_mem z)
  · have e : l.getD p 0 = 0 := by simp [List.getD, z]
    rw [e]; exact Nat.two_pow_pos c
theorem zip_emb {α β : Type} (f : α → T) (g : β → T) (xs : List α) (ys : List β) : ((xs.map f).zip (ys.map g)).map pairT = (xs.zip ys).map fun z => T.tup [f z.1, g z.2] := by
  rw [List.zip_map, List.map_map]
  rfl
theorem enum_emb {α : Type} (f : α → T) (xs : List α) : enumT (xs.map f) = ((List.range xs.length).zip xs).map fun z => T.tup [T.int (z.1 : Int), f z.2] := by
  unfold enumT
  rw [List.length_map]
  have : ((List.range xs.length).zip (xs.map f)) = ((List.range xs.length).zip xs).map fun z => (z.1, f z.2) := by
    have := List.zip_map (f := id) (g := f) (l₁ := List.range xs.length) (l₂ := xs)
    rw [List.map_id] at this
    rw [this]
    rfl
  rw [this, List.map_map]
  rfl
theorem IJ.to {ι : Type} {XX : ι → Cx} {m : Pm} {env : TEnv} {c c1 : Pot} {tg it : Expr} {xs ys : List T} (h : IJ m XX tg it env c xs c1) (e : xs = ys) : IJ m XX tg it env c ys c1 := e ▸ h
theorem ok_cleared {f : Addr} {fd : FuncData} (Fd : FnS S "cleared" sCleared f fd) (hm : S.mg "cleared" = some (.ref f)) (g : MG S) (D : Dn S CR CH "bare_row" ["row"] 2 (pureR rBare)) : Dn S CR CH "cleared" ["row", "head", "place"] 3 (pureR rCleared) := by
  refine Dn.pure Fd hm scCleared (fun ts t h => ?_) (fun _ _ _ _ _ _ us hl => match us, hl with | [_, _, _], _ => rfl) ?_
  · obtain ⟨_, _, _, rfl, _⟩ := h; rfl
  · rintro p0 h0 cdv A outer s H E c ts t F ⟨row, head, p, rfl, rfl, hp, hl, hlen, b1, b2⟩
    unfold clr
    by_cases hz : row.getD p 0 = 0
    · rw [if_pos hz]
      exact .rt (b_ret (s_ifT (t_eqI (e_ixL F (e_var F 0) (e_var F 2) (atI_int hp)) e_int (decide_eq_true hz)) (b_one (s_ret (e_var F 0)))))
    · rw [if_neg hz]
      have hb := clr_bd (p := p) b1 b2
      refine .rt (b_cons (s_ifF (t_eqI (e_ixL F (e_var F 0) (e_var F 2) (atI_int hp)) e_int (decide_eq_false hz)) b_nil) (b_one (s_ret (e_call F D (a_cons (EJ.to (e_comp F (c_pair F (k := 3) (l := 4) (f := fun x : Int × Int => T.int (head.getD p 0 * x.1 - row.getD p 0 * x.2)) (IJ.to (i_zip F g.zip_ (e_var F 0) (e_var F 1)) (zip_emb _ _ _ _)) ?_ (fun x hx => ?_))) (t' := tI ((row.zip head).map fun x => head.getD p 0 * x.1 - row.getD p 0 * x.2)) ?_) a_nil) ⟨rfl, _, rfl, rfl, ?_, ?_⟩))))
      · rw [List.length_zip]; exact sz1000 (by omega)
      · obtain ⟨hx1, hx2⟩ := List.of_mem_zip hx
        refine e_sub (e_mul (e_ixL (F.blk _) (e_var (F.blk _) 1) (e_var (F.blk _) 2) (atI_int (by omega))) (e_var (F.blk _) 3) (mulW (getD_bd b2) (b1 _ hx1))) (e_mul (e_ixL (F.blk _) (e_var (F.blk _) 0) (e_var (F.blk _) 2) (atI_int hp)) (e_var (F.blk _) 4) (mulW (getD_bd b1) (b2 _ hx2)))
      · simp
      · rw [List.length_map, List.length_zip]; omega
      · exact Nat.lt_trans (gcd_lt hb) (Nat.pow_lt_pow_right (by decide) (by decide))
theorem ok_first {f : Addr} {fd : FuncData} (Fd : FnS S "first_at" sFirst f fd) (hm : S.mg "first_at" = some (.ref f)) (g : MG S) : Dn S CR CH "first_at" ["rows", "place"] 1 (pureR rFirst) := by
  refine Dn.pure Fd hm scFirst (fun ts t h => ?_) (fun _ _ _ _ _ _ us hl => match us, hl with | [_, _], _ => rfl) ?_
  · obtain ⟨_, _, rfl, _⟩ := h; rfl
  · rintro p0 h0 cdv A outer s H E c ts t F ⟨rows, p, rfl, rfl, hlen, hp⟩
    have turn : ∀ (i : Nat) (z : Nat × List Int), ((List.range rows.length).zip rows)[i]? = some z → z.1 = i ∧ rows[i]? = some z.2 := fun i z hz => by
      obtain ⟨h1, h2⟩ := List.getElem?_zip_eq_some.mp hz
      rw [List.getElem?_range (by
        have := (List.getElem?_eq_some_iff.mp h2).1
        exact this)] at h1
      exact ⟨(Option.some.inj h1).symm, h2⟩
    cases hfa : firstAt rows p with
    | none =>
      have hn : ∀ r ∈ rows, r.getD p 0 = 0 := fun r hr => by
        have := List.findIdx?_eq_none_iff.mp hfa r hr
        simpa using this
      refine .rt (b_cons (s_forP F 2 3 (fun i => ([Sl.val (tII rows), Sl.val (.int p), Sl.un, Sl.un], c)) (IJ.to (i_enum F g.enum_ (e_var F 0)) (enum_emb _ _)) rfl ?_) (b_one (s_ret (e_neg e_int))))
      intro i z hz
      obtain ⟨e1, e2⟩ := turn i z hz
      have hr := List.mem_of_getElem? e2
      exact b_weak [2, 3] (b_one (s_ifF (t_neI (e_ixL F (e_var F 3) (e_var F 1) (atI_int (hp _ hr))) e_int (by simp only [hn _ hr]; rfl)) b_nil))
    | some j =>
      obtain ⟨hj, hj1, hj2⟩ := List.findIdx?_eq_some_iff_getElem.mp hfa
      have hz : ((List.range rows.length).zip rows)[j]? = some (j, rows[j]) := List.getElem?_zip_eq_some.mpr ⟨by rw [List.getElem?_range hj], List.getElem?_eq_getElem hj⟩
      refine .rt (b_ret (s_forPR F 2 3 (fun i => ([Sl.val (tII rows), Sl.val (.int p), Sl.un, Sl.un], c)) (IJ.to (i_enum F g.enum_ (e_var F 0)) (enum_emb _ _)) rfl hz ?_ (b_one (s_ifT (t_neI (e_ixL F (e_var F 3) (e_var F 1) (atI_int (hp _ (List.getElem_mem hj)))) e_int ?_) (b_one (s_ret (e_var F 2)))))))
      · intro i z hij hz
        obtain ⟨e1, e2⟩ := turn i z hz
        have hr := List.mem_of_getElem? e2
        have h0 := hj2 i hij
        obtain ⟨hil, hie⟩ := List.getElem?_eq_some_iff.mp e2
        rw [hie] at h0
        refine b_weak [2, 3] (b_one (s_ifF (t_neI (e_ixL F (e_var F 3) (e_var F 1) (atI_int (hp _ hr))) e_int ?_) b_nil))
        simpa using h0
      · simpa using hj1
theorem ok_headed {f : Addr} {fd : FuncData} (Fd : FnS S "headed_row" sHeaded f fd) (hm : S.mg "headed_row" = some (.ref f)) (D : Dn S CR CH "bare_row" ["row"] 2 (pureR rBare)) : Dn S CR CH "headed_row" ["row", "place"] 3 (pureR rHeaded) := by
  refine Dn.pure Fd hm scHeaded (fun ts t h => ?_) (fun _ _ _ _ _ _ us hl => match us, hl with | [_, _], _ => rfl) ?_
  · obtain ⟨_, _, rfl, _⟩ := h; rfl
  · rintro p0 h0 cdv A outer s H E c ts t F ⟨row, p, rfl, rfl, hp, hlen, hg⟩
    have hb := bareRow_length row
    refine .rt (b_cons (s_set F 2 (e_call F D (a_cons (e_var F 0) a_nil) ⟨rfl, row, rfl, rfl, hlen, hg⟩)) (b_one (s_ret ?_)))
    unfold headed
    by_cases h1 : 0 < (bareRow row).getD p 0
    · rw [if_pos h1]
      exact e_ifT (t_gt (e_ixL F (e_var F 2) (e_var F 1) (atI_int (by omega))) e_int (by simpa using h1)) (e_var F 2)
    · rw [if_neg h1]
      refine e_ifF (t_gt (e_ixL F (e_var F 2) (e_var F 1) (atI_int (by omega))) e_int (by simpa using h1)) (EJ.to (e_comp F (c_name F (k := 3) (f := fun n => T.int (0 - n)) (i_lst F (e_var F 2)) (sz1000 (by omega)) (fun y hy => e_sub e_int (e_var (F.blk _) 3)))) (by simp))
end
end TW
set_option Elab.async false
set_option linter.all false
set_option maxRecDepth 100000
set_option maxHeartbeats 4000000
/-! Fw10: more rules: in, ranges, owned comprehensions. -/
namespace TW
open PySem L2
section
variable {S : Stat} {N : List Str} {n : Nat} {ι : Type} {XX : ι → Cx} {m : Pm} {env : TEnv} {c c1 c2 c3 : Pot}
theorem inV_ints {i : Int} {ns : List Int} : inV (.int i) (ns.map V.int) = ns.contains i := by
  unfold inV
  induction ns with
  | nil => rfl
  | cons k ns ih =>
    rw [List.map_cons, List.any_cons, ih, List.contains_cons]
    congr 1
    show (k == i) = (i == k)
    by_cases h : k = i
    · subst h; simp
    · have h' : ¬ i = k := fun z => h z.symm
      rw [beq_eq_false_iff_ne.mpr h, beq_eq_false_iff_ne.mpr h']
theorem denR_in {K : PySem.W.Frag} {neg : Bool} {i : Int} {ns : List Int} : DenR m (rIn K neg) (.int i) (tI ns) (.bl (if neg then !ns.contains i else ns.contains i)) := by
  intro c B H v w s hv hw Q q
  rw [rep_int] at hv
  subst hv
  obtain ⟨a, vs, rfl, g1, g2⟩ := rep_lst.mp hw
  rw [repL_ints] at g2
  subst g2
  refine ⟨a, _, rfl, .inl (SqL.of (s.sub _ _ g1)), rfl, ?_, ?_⟩
  · simp [List.all_map, Function.comp_def, flatV]
  · rw [inV_ints]
    exact q _ B H s (Stp.refl m B H) (rep_bl.mpr rfl)
theorem t_notIn (F : Fam S N n XX) {a b : Expr} {pos : Pos} {i : Int} {ns : List Int} {k : Bool} (ha : EJ m XX a env c (.int i) c1) (hb : EJ m XX b env c1 (tI ns) c2) (q : (!ns.contains i) = k) (hm : behindInMarks .NotIn b = false := by rfl) : TJ m XX (.Compare a [.NotIn] [b] pos) env c k c2 :=
  (t_cmp (r := rIn S.K true) (fun j => by rw [← F.k j]; exact op_notIn_seq) ha hb denR_in hm).to q
theorem i_rangeN (F : Fam S N n XX) {tg a : Expr} {p pos : Pos} {k : Nat} (hm : S.mg "range" = none) (ha : EJ m XX a env c (.int (k : Int)) c1) (hk : k < 2 ^ 62) (hg : ∀ i, Gl (XX i) "range" := by intro _; rfl)
    (hs : ∀ i, starEach [a] (XX i).env = [(false, eval a (XX i).env)] := by intro _; rfl) : IJ m XX tg (.Call (.Name "range" p) [a] [] pos) env c ((List.range k).map fun i : Nat => T.int (i : Int)) c1 :=
  IJ.to (i_range F hm ha hk hg hs) (by unfold rangeT; congr 1; funext i; rw [Int.zero_add])
/-- a comprehension's list, not frozen -/
theorem den_lcOwn {scope : Scope} {vs : List Nat} {tg elt it : Expr} {ifs : List Expr} {xs ts : List T} (hi : IJ m XX tg it env c xs c1) (hz : xs.length < sizeLine)
    (run : Trns (fun x c o c' => Trn m (blkF XX scope) tg ifs elt vs env x c o c') xs c1 ts c2) :
    DenN m (tLc (rdI XX tg it) (rdG (blkF XX scope) tg) (rdTs (blkF XX scope) ifs) (rdE (blkF XX scope) elt) vs) env c ts c2 := by
  intro σ B H s r Q q
  obtain ⟨cs, acc, e0, a0, e1, a1, al, turn⟩ := run.at
  refine hi σ B H s r _ fun J B1 H1 s1 t1 wk => ?_
  intro D hD
  have r1 := r.step t1
  have hp0 : m.p0 ≠ some D := fun z => by
    have := (s1.pot D z).2
    rw [hD] at this
    cases this
  refine ⟨fun i k H' => k = xs.length - i ∧ i ≤ xs.length ∧ ∃ B' vs', Sit m (cs i) B' H' ∧ Stp m B1 H1 B' H' ∧ H' D = some (.lst vs') ∧ B' D = none ∧ RepL m (acc i) vs' B', ⟨xs.length, ?_⟩, ?_⟩
  · have sm : Same H1 (upd H1 D (.lst [])) := fun a o e => by rw [upd_ne (ne_of_none e hD)]; exact e
    refine ⟨by simp, Nat.zero_le _, B1, [], ?_, Stp.same sm, upd_same, s1.sub.free hD, ?_⟩
    · rw [e0]; exact s1.same sm
    · rw [a0, repL_nil]
  · rintro i k H' ⟨rfl, hi', B', vs', s', t', hD', hB', rl⟩
    by_cases hlt : i < xs.length
    · refine .inr ⟨wk.goes i H' hlt (t'.b.trans s'.sub), fun H'' => ∃ B'' vs'', Sit m (cs (i + 1)) B'' H'' ∧ Stp m B1 H1 B'' H'' ∧ H'' D = some (.lst vs'') ∧ B'' D = none ∧ RepL m (acc (i + 1)) vs'' B'', fun H'' ⟨B'', vs'', q1, q2, q3, q4, q5⟩ => ⟨xs.length - (i + 1), by omega, rfl, hlt, B'', vs'', q1, q2, q3, q4, q5⟩, fun x H2 y => ?_⟩
      obtain ⟨t, ht, hy⟩ := wk.yields i H' x H2 hlt (t'.b.trans s'.sub) y
      obtain ⟨B2, s2, t2, r2⟩ := hy (cs i) B' s' t'.b
      obtain ⟨o, ⟨ks, e1', hks, hg, ho⟩, hacc⟩ := turn i t ht
      have kD : ∀ {B3 H3 : Hp}, Stp m B' H' B3 H3 → H3 D = some (.lst vs') ∧ B3 D = none := fun {B3 H3} t3 => by
        refine ⟨t3.h D _ hD' hp0, ?_⟩
        cases z : B3 D with
        | none => rfl
        | some w =>
          rcases t3.n D (by rw [z]; exact fun y => nomatch y) with y | y
          · exact absurd hB' y
          · rw [hD'] at y; cases y
      have rw2 : RepE m (wipeE env vs) (L2.wipe σ vs) B2 H2 := ((r1.step t').step t2).wipe vs
      refine hg (L2.wipe σ vs) B2 H2 x s2.sub rw2 r2 _ fun σ2 l hl hlk r3 => ⟨?_, ?_⟩
      · rw [hl, wipe_sets (fun p hp => hks _ (by rw [← hlk]; exact List.mem_map_of_mem hp))]
        exact wipe_wipe fun _ h => h
      · rcases ho with ⟨tv, cm, rfl, hf, he⟩ | ⟨rfl, hf⟩
        · refine hf σ2 B2 H2 s2 r3 _ fun B3 H3 s3 t3 => ?_
          rw [if_pos rfl]
          refine he σ2 B3 H3 s3 (r3.step t3) _ fun v B4 H4 s4 t4 rv => ?_
          have tt : Stp m B' H' B4 H4 := (t2.trans t3).trans t4
          obtain ⟨k1, k2⟩ := kD tt
          have sz : vs'.length < sizeLine := by
            rw [rl.length]
            have := al i
            omega
          refine ⟨vs', k1, sz, B4, vs' ++ [v], ?_, ?_, upd_same, k2, ?_⟩
          · refine ⟨fun a o e => ?_, fun a ha => dom_upd (s4.old a ha), fun p hp => ?_⟩
            · have : a ≠ D := fun z => by subst z; rw [k2] at e; cases e
              rw [upd_ne this]; exact s4.sub a o e
            · have : p ≠ D := fun z => hp0 (by rw [← z]; exact hp)
              rw [upd_ne this]; exact s4.pot p hp
          · exact (t'.trans tt).mutNew hD
          · rw [hacc]
            exact (rl.mono tt.b).append (repL_cons.mpr ⟨_, _, rfl, rv, repL_nil.mpr rfl⟩)
        · refine hf σ2 B2 H2 s2 r3 _ fun B3 H3 s3 t3 => ?_
          rw [if_neg Bool.false_ne_true]
          have tt : Stp m B' H' B3 H3 := t2.trans t3
          obtain ⟨k1, k2⟩ := kD tt
          refine ⟨B3, vs', s3, t'.trans tt, k1, k2, ?_⟩
          rw [hacc]
          simpa using rl.mono tt.b
    · have e : i = xs.length := by omega
      subst e
      refine .inl ⟨wk.stops H' (t'.b.trans s'.sub), ?_⟩
      rw [e1] at s'
      rw [a1] at rl
      have eH : H' = upd (fun a => if a = D then none else H' a) D (.lst vs') := by
        funext a
        by_cases z : a = D
        · subst z; rw [upd_same, hD']
        · rw [upd_ne z, if_neg z]
      rw [eH]
      refine q D vs' B' (fun a => if a = D then none else H' a) ⟨fun a o e => ?_, fun a ha => ?_, fun p hp => ?_⟩ ⟨t1.b.trans t'.b, fun a o e hp => ?_, (t1.trans t').n, fun a ha => ?_⟩ (if_pos rfl) rl
      · have z : a ≠ D := fun z => by subst z; rw [hB'] at e; cases e
        show (if a = D then none else H' a) = _
        rw [if_neg z]; exact s'.sub a o e
      · have z : a ≠ D := fun z => by subst z; exact s1.old _ ha hD
        show (if a = D then none else H' a) ≠ _
        rw [if_neg z]; exact s'.old a ha
      · have z : p ≠ D := fun z => hp0 (by rw [← z]; exact hp)
        refine ⟨(s'.pot p hp).1, ?_⟩
        show (if p = D then none else H' p) = _
        rw [if_neg z]; exact (s'.pot p hp).2
      · have e1 := t1.h a o e hp
        have z : a ≠ D := ne_of_none e1 hD
        show (if a = D then none else H' a) = _
        rw [if_neg z]; exact t'.h a o e1 hp
      · have e1 := t1.d a ha
        have z : a ≠ D := fun z => by subst z; exact e1 hD
        show (if a = D then none else H' a) ≠ _
        rw [if_neg z]; exact t'.d a e1
structure CompN (S : Stat) (N : List Str) (m : Pm) (XX : ι → Cx) (elt tg it : Expr) (ifs : List Expr) (scope : Scope) (own : List (Str × Nat)) (env : TEnv) (c : Pot) (ts : List T) (c2 : Pot) : Prop where
  ok : ∀ i, BlkOk N (XX i).env.scope scope own
  den : DenN m (tLc (rdI XX tg it) (rdG (blkF XX scope) tg) (rdTs (blkF XX scope) ifs) (rdE (blkF XX scope) elt) (own.map (·.2))) env c ts c2
theorem cn_name (F : Fam S N n XX) {α : Type} {elt it : Expr} {scope : Scope} {x : Str} {k : Nat} {pos : Pos} {emb f : α → T} {ys : List α} (hi : IJ m XX (.Name x pos) it env c (ys.map emb) c1) (hz : ys.length < sizeLine)
    (he : ∀ y ∈ ys, EJ m (blkF XX scope) elt ((wipeE env [k]).set k (Sl.val (emb y))) c1 (f y) c1)
    (ok : ∀ i, BlkOk N (XX i).env.scope scope [(x, k)] := by intro _; exact blkOk_by (by kernel_rfl)) (hN : N[k]? = some x := by rfl)
    (hl : ∀ j, L2.Loc (blkF XX scope j).env.scope x := by intro _; first | exact Or.inl rfl | exact Or.inr rfl)
    (hfn : ∀ j, (blkF XX scope j).fn x = true ∨ (blkF XX scope j).env.scope.names.lookup x = some .local := by intro _; first | exact Or.inr rfl | exact Or.inl rfl) :
    CompN S N m XX elt (.Name x pos) it [] scope [(x, k)] env c (ys.map f) c1 :=
  ⟨ok, den_lcOwn hi (by rw [List.length_map]; exact hz) (trns_map fun y hy => ⟨[k], _, fun _ h => h, g_name (F.blk scope) k hN hl hfn, .inl ⟨_, _, rfl, f_nil, he y hy⟩⟩)⟩
/-- x = [.. for ..], the list owned -/
theorem s_newComp (F : Fam S N n XX) (k : Nat) {x : Str} {elt tg it : Expr} {ifs : List Expr} {scope : Scope} {own : List (Str × Nat)} {pos pos' spos : Pos} {ts : List T} (h : CompN S N m XX elt tg it ifs scope own env c ts c2) (hN : N[k]? = some x := by rfl)
    (hl : ∀ i, (XX i).env.scope.names.lookup x = some .local := by intro _; rfl)
    (hsw : ∀ i, swapsWith (.ListComp elt [⟨tg, it, ifs, 0⟩] scope pos) (some (.Name x pos')) spos.line (XX i).env = pure true := by intro _; exact sw_true rfl rfl rfl (by kernel_rfl))
    (hf : ∀ i x, foldedSetIterable it (XX i).env x = pure x := by intro _ _; rfl) :
    SJ m XX (.Assign [.Name x pos'] (.ListComp elt [⟨tg, it, ifs, 0⟩] scope pos) spos) env c (.nx (env.set k (Sl.own ts)) c2) :=
  SJ.of (fun i => ps_setLc (i := k) (F.calm i) (by rw [F.names i]; exact F.nd) (by rw [F.names i]; exact hN) (hl i) (hsw i) (pi_rd i) (by have := h.ok i; rw [← F.names i] at this; exact this)
    (fun s H C cl fp => pg_rd (XX := blkF XX scope) (i, s, H, C, cl, fp)) (fun s H C cl fp => pts_rd (XX := blkF XX scope) (i, s, H, C, cl, fp)) (fun s H C cl fp => pe_rd (XX := blkF XX scope) (i, s, H, C, cl, fp)) (hf i)) (by
    intro B0 H0 σ B H a D q
    refine h.den σ B H a.sit a.env _ fun p vs B1 H1 s1 t1 hp rv => ?_
    exact q _ B1 _ ((a.step s1 t1).setOwn hp rv k) t1.b)
end
end TW
set_option Elab.async false
set_option linter.all false
set_option maxRecDepth 100000
set_option maxHeartbeats 4000000
set_option exponentiation.threshold 100000
/-! W2: int_steps, head_of, told_rows, steps_of, kernel_of. -/
namespace TW
open PySem L2
abbrev sSteps : Stmt := top 32
abbrev sHeadOf : Stmt := top 33
abbrev sTR : Stmt := top 34
abbrev sStepsOf : Stmt := top 35
abbrev sKernel : Stmt := top 36
theorem scSteps : FnScope ["rows", "left", "found", "place", "at", "head", "others", "row"] ["rows"] (defScope sSteps) := ⟨rfl, rfl, rfl, by decide +kernel, rfl, by decide +kernel, by decide +kernel⟩
theorem scHeadOf : FnScope ["row", "place"] ["row"] (defScope sHeadOf) := ⟨rfl, rfl, rfl, by decide +kernel, rfl, by decide +kernel, by decide +kernel⟩
theorem scTR : FnScope ["steps_now", "found", "row", "head", "number"] ["steps_now"] (defScope sTR) := ⟨rfl, rfl, rfl, by decide +kernel, rfl, by decide +kernel, by decide +kernel⟩
theorem scStepsOf : FnScope ["rows"] ["rows"] (defScope sStepsOf) := ⟨rfl, rfl, rfl, by decide +kernel, rfl, by decide +kernel, by decide +kernel⟩
theorem scKernel : FnScope ["rows", "wide", "solved", "heads", "found", "free", "row", "head", "step", "number", "at"] ["rows", "wide"] (defScope sKernel) := ⟨rfl, rfl, rfl, by decide +kernel, rfl, by decide +kernel, by decide +kernel⟩

theorem cutL_take {α : Type} (xs : List α) (i : Nat) : cutL xs none (some (i : Int)) = xs.take i := by
  unfold cutL
  rw [HT.sIx_none, HT.sIx_nat, List.drop_zero, Nat.sub_zero]
  by_cases h : i ≤ xs.length
  · rw [Nat.min_eq_left h]
  · rw [Nat.min_eq_right (by omega), List.take_of_length_le (Nat.le_refl _), List.take_of_length_le (by omega)]
theorem cutL_drop {α : Type} (xs : List α) (i : Nat) : cutL xs (some (i : Int)) none = xs.drop i := by
  unfold cutL
  rw [HT.sIx_none, HT.sIx_nat]
  by_cases h : i ≤ xs.length
  · rw [Nat.min_eq_left h, List.take_of_length_le (by rw [List.length_drop]; exact Nat.le_refl _)]
  · rw [Nat.min_eq_right (by omega), Nat.sub_self, List.take_zero, List.drop_eq_nil_of_le (by omega)]
theorem slT {α : Type} (f : α → T) (xs : List α) (j : Nat) : T.lst (cutL (xs.map f) none (some (j : Int))) = T.lst ((xs.take j).map f) := by rw [cutL_take, List.map_take]
theorem slD {α : Type} (f : α → T) (xs : List α) (j : Nat) : T.lst (cutL (xs.map f) (some ((j : Int) + 1)) none) = T.lst ((xs.drop (j + 1)).map f) := by
  have := cutL_drop (xs.map f) (j + 1)
  rw [show ((j + 1 : Nat) : Int) = (j : Int) + 1 from by omega] at this
  rw [this, List.map_drop]
theorem cons_sz {k : Nat} (h : k ≤ 1000000) : k ≤ sizeLine := Nat.le_trans h (by decide)
theorem catM {α : Type} (f : α → T) (xs ys : List α) : T.lst (xs.map f ++ ys.map f) = T.lst ((xs ++ ys).map f) := by rw [List.map_append]
theorem map_getD {α β : Type} (f : α → β) (xs : List α) (i : Nat) (d : α) : (xs.map f).getD i (f d) = f (xs.getD i d) := by
  simp [List.getD, List.getElem?_map]
/-! ### lengths of the stages -/
theorem clr_length {head row : List Int} {p : Nat} (h : row.length = head.length) : (clr head p row).length = row.length := by
  unfold clr
  split
  · rfl
  · rw [bareRow_length, List.length_map, List.length_zip]; omega
theorem headed_length (row : List Int) (p : Nat) : (headed row p).length = row.length := by
  unfold headed
  split
  · exact bareRow_length row
  · rw [List.length_map]; exact bareRow_length row
theorem headed_bd {row : List Int} {p b : Nat} (h : Bd b row) : Bd b (headed row p) := by
  unfold headed
  split
  · exact bareRow_bd h
  · intro n hn
    obtain ⟨k, hk, rfl⟩ := List.mem_map.mp hn
    have := bareRow_bd h k hk
    rw [Int.zero_sub, Int.natAbs_neg]
    exact this
theorem firstAt_lt {rows : List (List Int)} {p i : Nat} (h : firstAt rows p = some i) : i < rows.length := (List.findIdx?_eq_some_iff_getElem.mp h).1
structure Rect (w k : Nat) (st : List (List Int) × List (List Int)) : Prop where
  l : ∀ r ∈ st.1, r.length = w
  f : ∀ r ∈ st.2, r.length = w
  ln : st.1.length + st.2.length = k
theorem getD_mem {rows : List (List Int)} {i : Nat} (h : i < rows.length) : rows.getD i [] ∈ rows := by
  have e : rows.getD i [] = rows[i] := by simp [List.getD, h]
  rw [e]
  exact List.getElem_mem h
theorem mem_cut {rows : List (List Int)} {i : Nat} {r : List Int} (h : r ∈ rows.take i ++ rows.drop (i + 1)) : r ∈ rows := by
  rcases List.mem_append.mp h with h | h
  · exact List.mem_of_mem_take h
  · exact List.mem_of_mem_drop h
theorem Rect.step {w k : Nat} {st : List (List Int) × List (List Int)} (r : Rect w k st) (p : Nat) : Rect w k (stepAt st p) := by
  unfold stepAt
  split
  · exact r
  · rename_i i hi
    have hl := firstAt_lt hi
    have hh : (headed (st.1.getD i []) p).length = w := by rw [headed_length]; exact r.l _ (getD_mem hl)
    refine ⟨fun x hx => ?_, fun x hx => ?_, ?_⟩
    · obtain ⟨y, hy, rfl⟩ := List.mem_map.mp hx
      have := r.l y (mem_cut hy)
      rw [clr_length (by rw [this, hh])]; exact this
    · rcases List.mem_append.mp hx with hx | hx
      · obtain ⟨y, hy, rfl⟩ := List.mem_map.mp hx
        have := r.f y hy
        rw [clr_length (by rw [this, hh])]; exact this
      · rw [List.mem_singleton] at hx
        rw [hx]; exact hh
    · have := r.ln
      simp only [List.length_map, List.length_append, List.length_take, List.length_drop, List.length_singleton]
      omega
theorem stg_succ (rows : List (List Int)) (p : Nat) : stg rows (p + 1) = stepAt (stg rows p) p := by
  unfold stg
  rw [List.range_succ, List.foldl_append]
  rfl
theorem stg_rect {rows : List (List Int)} {w : Nat} (h : ∀ r ∈ rows, r.length = w) : ∀ p, Rect w rows.length (stg rows p)
  | 0 => ⟨h, fun r hr => absurd hr (by show ¬ r ∈ ([] : List (List Int)); exact List.not_mem_nil), rfl⟩
  | p + 1 => by rw [stg_succ]; exact (stg_rect h p).step p
/-- the rows are fit to be brought in steps -/
structure Fit (rows : List (List Int)) : Prop where
  n : rows.length ≤ 500
  w : ∀ r ∈ rows, r.length = wideOf rows
  ww : wideOf rows ≤ 500
  bd : ∀ p, p < wideOf rows → firstAt (stg rows p).1 p ≠ none → (∀ r ∈ (stg rows p).1, Bd 4490 r) ∧ ∀ r ∈ (stg rows p).2, Bd 4490 r
def rSteps : List T → T → Prop := fun ts t => ∃ rows : List (List Int), ts = [tII rows] ∧ t = tII (intSteps rows) ∧ Fit rows
def rHeadOf : List T → T → Prop := fun ts t => ∃ row : List Int, ts = [tI row] ∧ t = .int (headOf row : Nat) ∧ headOf row < row.length
/-- rows of Ratios in a new list, the rows new, too -/
abbrev tNN (rows : List (List Rat)) : T := .new (.lst (rows.map fun r => .new (tR r)))
structure ToldOk (rows : List (List Int)) : Prop where
  n : rows.length ≤ 1000
  w : ∀ r ∈ rows, r.length ≤ 1000
  h : ∀ r ∈ rows, headOf r < r.length
  p : ∀ r ∈ rows, 0 < r.getD (headOf r) 0
  b : ∀ r ∈ rows, (r.getD (headOf r) 0).natAbs < 2 ^ 9000
def rTR : List T → T → Prop := fun ts t => ∃ rows : List (List Int), ts = [tII rows] ∧ t = tNN (rows.map toldRow) ∧ ToldOk rows
structure StepsOk (rows : List (List Rat)) : Prop where
  n : rows.length ≤ 500
  q : ∀ row ∈ rows, row.length ≤ 500 ∧ (∀ q ∈ row, RSz 9000 q) ∧ lcmDen row < 2 ^ 13000
  f : Fit (rows.map wholesI)
  t : ToldOk (intSteps (rows.map wholesI))
def rStepsOf : List T → T → Prop := fun ts t => ∃ rows : List (List Rat), ts = [tRR rows] ∧ t = tNN (stepsOf rows) ∧ StepsOk rows
section
variable {S : Stat} {CR CH : Addr}
theorem ok_steps {f : Addr} {fd : FuncData} (Fd : FnS S "int_steps" sSteps f fd) (hm : S.mg "int_steps" = some (.ref f)) (g : MG S) (D1 : Dn S CR CH "first_at" ["rows", "place"] 1 (pureR rFirst)) (D2 : Dn S CR CH "headed_row" ["row", "place"] 3 (pureR rHeaded)) (D3 : Dn S CR CH "cleared" ["row", "head", "place"] 3 (pureR rCleared)) : Dn S CR CH "int_steps" ["rows"] 4 (pureR rSteps) := by
  refine Dn.pure Fd hm scSteps (fun ts t h => ?_) (fun _ _ _ _ _ _ us hl => match us, hl with | [_], _ => rfl) ?_
  · obtain ⟨_, rfl, _⟩ := h; rfl
  · rintro p0 h0 cdv A outer s H E c ts t F ⟨rows, rfl, rfl, fit⟩
    have hr := fun p => stg_rect fit.w p
    have hn := fit.n
    refine .rt (b_cons (s_par F 1 2 (e_var F 0) (e_lst a_nil)) (b_cons (s_for F 3 (fun i => ([Sl.val (tII rows), Sl.val (tII (stg rows i).1), Sl.val (tII (stg rows i).2), Sl.un, Sl.un, Sl.un, Sl.un, Sl.un], c)) (ys := List.range (wideOf rows)) (i_rangeN F g.range_ ?_ (by have := fit.ww; omega)) rfl ?_) (b_one (s_ret (EJ.to (e_var F 2) ?_)))))
    · cases hrows : rows with
      | nil => exact e_ifF (t_gt (e_len F g.len_ (e_var F 0) rfl) e_int (by simp)) e_int
      | cons r rs => exact e_ifT (t_gt (e_len F g.len_ (e_var F 0) rfl) e_int (by simp)) (EJ.to (e_len F g.len_ (e_ixL F (e_var F 0) e_int (atI_pos (p := 0) (x := tI r) rfl)) rfl) (by simp [wideOf]))
    · intro i p hp
      have hpw : p = i ∧ i < wideOf rows := by
        have hi := (List.getElem?_eq_some_iff.mp hp).1
        rw [List.length_range] at hi
        rw [List.getElem?_range hi] at hp
        exact ⟨(Option.some.inj hp).symm, hi⟩
      obtain ⟨rfl, hpw⟩ := hpw
      have R := hr p
      have st := stg_succ rows p
      cases hfa : firstAt (stg rows p).1 p with
      | none =>
        have e : stg rows (p + 1) = stg rows p := by rw [st]; unfold stepAt; rw [hfa]
        refine b_weak [3, 4] (b_cons (s_set F 4 (e_call F D1 (a_cons (e_var F 1) (a_cons (e_var F 3) a_nil)) ⟨rfl, _, p, rfl, rfl, by have := R.ln; omega, fun r hr => by rw [R.l r hr]; exact hpw⟩)) (b_one (s_ifF (t_ge (e_var F 4) e_int ?_) b_nil))) ?_
        · rw [hfa]; decide
        · rw [e]; rfl
      | some j =>
        have hj := firstAt_lt hfa
        obtain ⟨bl, bf⟩ := fit.bd p hpw (by rw [hfa]; exact fun z => nomatch z)
        have hln := R.ln
        have hx : ((stg rows p).1.map tI)[j]? = some (tI ((stg rows p).1.getD j [])) := by simp [List.getElem?_map, List.getD, hj]
        have hwj : ((stg rows p).1.getD j []).length = wideOf rows := R.l _ (getD_mem hj)
        have hbj : Bd 4490 ((stg rows p).1.getD j []) := bl _ (getD_mem hj)
        have hhl : (headed ((stg rows p).1.getD j []) p).length = wideOf rows := by rw [headed_length]; exact hwj
        have hhb : Bd 4490 (headed ((stg rows p).1.getD j []) p) := headed_bd hbj
        have e : stg rows (p + 1) = (((stg rows p).1.take j ++ (stg rows p).1.drop (j + 1)).map (clr (headed ((stg rows p).1.getD j []) p) p), (stg rows p).2.map (clr (headed ((stg rows p).1.getD j []) p) p) ++ [headed ((stg rows p).1.getD j []) p]) := by
          rw [st]; unfold stepAt; rw [hfa]
        have hww := fit.ww
        refine b_weak [3, 4, 5, 6, 7] (b_cons (s_set F 4 (EJ.to (e_call F D1 (a_cons (e_var F 1) (a_cons (e_var F 3) a_nil)) ⟨rfl, _, p, rfl, rfl, by omega, fun r hr => by rw [R.l r hr]; exact hpw⟩) (t' := .int (j : Int)) (by rw [hfa]))) (b_one (s_ifT (t_ge (e_var F 4) e_int (by simp))
          (b_cons (s_set F 5 (e_call F D2 (a_cons (e_ixL F (e_var F 1) (e_var F 4) (atI_pos hx)) (a_cons (e_var F 3) a_nil)) ⟨rfl, _, p, rfl, rfl, by omega, by omega, Nat.lt_trans (gcd_lt hbj) (Nat.pow_lt_pow_right (by decide) (by decide))⟩))
          (b_cons (s_set F 6 (EJ.to (e_cat (EJ.to (e_slL F (e_var F 1) o_none (o_some (e_var F 4))) (slT _ _ _)) (EJ.to (e_slL F (e_var F 1) (o_some (e_add (e_var F 4) e_int)) o_none) (slD _ _ _)) (cons_sz ?_)) (catM _ _ _)))
          (b_cons (s_set F 2 (EJ.to (e_cat (EJ.to (e_comp F (c_name F (k := 7) (f := fun r => tI (clr (headed ((stg rows p).1.getD j []) p) p r)) (i_lst F (e_var F 2)) (sz1000 (by omega)) (fun r hr => ?_))) (t' := .lst (((stg rows p).2.map (clr (headed ((stg rows p).1.getD j []) p) p)).map tI)) (by rw [List.map_map]; rfl)) (e_lst (a_cons (e_var F 5) a_nil)) (cons_sz ?_)) (catM tI _ [headed ((stg rows p).1.getD j []) p])))
          (b_one (s_setComp F 1 (c_name F (k := 7) (f := fun r => tI (clr (headed ((stg rows p).1.getD j []) p) p r)) (i_lst F (e_var F 6)) (sz1000 ?_) (fun r hr => ?_)))))))))) ?_
        · rw [List.length_map, List.length_map, List.length_take, List.length_drop]; omega
        · refine e_call (F.blk _) D3 (a_cons (e_var (F.blk _) 7) (a_cons (e_var (F.blk _) 5) (a_cons (e_var (F.blk _) 3) a_nil))) ⟨rfl, r, _, p, rfl, rfl, ?_, ?_, ?_, bf r hr, hhb⟩
          · rw [R.f r hr]; exact hpw
          · rw [R.f r hr, hhl]
          · rw [R.f r hr]; omega
        · rw [List.length_map, List.length_map]; show _ + 1 ≤ _; omega
        · rw [List.length_append, List.length_take, List.length_drop]; omega
        · have hr' := mem_cut hr
          refine e_call (F.blk _) D3 (a_cons (e_var (F.blk _) 7) (a_cons (e_var (F.blk _) 5) (a_cons (e_var (F.blk _) 3) a_nil))) ⟨rfl, r, _, p, rfl, rfl, ?_, ?_, ?_, bl r hr', hhb⟩
          · rw [R.l r hr']; exact hpw
          · rw [R.l r hr', hhl]
          · rw [R.l r hr']; omega
        · rw [e]
          simp only [tII, List.map_map, Function.comp_def]
          rfl
    · rw [List.length_range]; rfl
end
end TW
set_option Elab.async false
set_option linter.all false
set_option maxRecDepth 100000
set_option maxHeartbeats 4000000
set_option exponentiation.threshold 100000
/-! W3: head_of, told_rows, steps_of, kernel_of. -/
namespace TW
open PySem L2
theorem repL_weak {m : Pm} {α : Type} {f g : α → T} : ∀ {xs : List α} {vs : List V} {B : Hp}, (∀ x ∈ xs, ∀ v, Rep m (f x) v B → Rep m (g x) v B) → RepL m (xs.map f) vs B → RepL m (xs.map g) vs B
  | [], _, _, _, h => h
  | x :: xs, vs, B, hw, h => by
    obtain ⟨v, r, rfl, h1, h2⟩ := repL_cons.mp h
    exact repL_cons.mpr ⟨v, r, rfl, hw x List.mem_cons_self v h1, repL_weak (fun y hy => hw y (List.mem_cons_of_mem _ hy)) h2⟩
theorem rep_lst_weak {m : Pm} {α : Type} {f g : α → T} {xs : List α} {v : V} {B : Hp} (hw : ∀ x ∈ xs, ∀ v, Rep m (f x) v B → Rep m (g x) v B) (h : Rep m (.lst (xs.map f)) v B) : Rep m (.lst (xs.map g)) v B := by
  obtain ⟨a, vs, e, h1, h2⟩ := rep_lst.mp h
  exact rep_lst.mpr ⟨a, vs, e, h1, repL_weak hw h2⟩
theorem rep_old {m : Pm} {t : T} {v : V} {B : Hp} (h : Rep m (.new t) v B) : Rep m t v B := (rep_new.mp h).1
theorem rep_NN {m : Pm} {rows : List (List Rat)} {v : V} {B : Hp} (h : Rep m (tNN rows) v B) : Rep m (tRR rows) v B := rep_lst_weak (fun _ _ _ => rep_old) (rep_old h)
theorem getD_lt {row : List Int} {i : Nat} (h : i < row.length) : row.getD i 0 = row[i] := by simp [List.getD, h]
theorem headOf_ne {row : List Int} (hl : headOf row < row.length) : row.getD (headOf row) 0 ≠ 0 := by
  rw [getD_lt hl]
  have := List.findIdx_getElem (p := fun n : Int => n != 0) (xs := row) (w := hl)
  exact bne_iff_ne.mp this
section
variable {S : Stat} {CR CH : Addr}
theorem ok_headOf {f : Addr} {fd : FuncData} (Fd : FnS S "head_of" sHeadOf f fd) (hm : S.mg "head_of" = some (.ref f)) : Dn S CR CH "head_of" ["row"] 1 (pureR rHeadOf) := by
  refine Dn.pure Fd hm scHeadOf (fun ts t h => ?_) (fun _ _ _ _ _ _ us hl => match us, hl with | [_], _ => rfl) ?_
  · obtain ⟨_, rfl, _⟩ := h; rfl
  · rintro p0 h0 cdv A outer s H E c ts t F ⟨row, rfl, rfl, hl⟩
    have hh := headOf_ne hl
    refine .rt (b_cons (s_set F 1 e_int) (b_cons (s_while F (headOf row) (fun i => ([Sl.val (tI row), Sl.val (.int (i : Nat))], c)) rfl (fun i hi => t_eqI (e_ixL F (e_var F 0) (e_var F 1) (atI_int (by omega))) e_int (decide_eq_true ?_)) (fun i hi => b_one (s_set F 1 (EJ.to (e_add (e_var F 1) e_int) rfl))) (t_eqI (e_ixL F (e_var F 0) (e_var F 1) (atI_int hl)) e_int (decide_eq_false hh))) (b_one (s_ret (e_var F 1)))))
    have := List.not_of_lt_findIdx hi
    have hi' : i < row.length := by omega
    simpa [List.getD, hi'] using this
theorem ok_toldRows {f : Addr} {fd : FuncData} (Fd : FnS S "told_rows" sTR f fd) (hm : S.mg "told_rows" = some (.ref f)) (kf : KF S CR CH) (M : Rm S CR) (D : Dn S CR CH "head_of" ["row"] 1 (pureR rHeadOf)) : Dn S CR CH "told_rows" ["steps_now"] 5 (pureR rTR) := by
  refine Dn.pure Fd hm scTR (fun ts t h => ?_) (fun _ _ _ _ _ _ us hl => match us, hl with | [_], _ => rfl) ?_
  · obtain ⟨_, rfl, _⟩ := h; rfl
  · rintro p0 h0 cdv A outer s H E c ts t F ⟨rows, rfl, rfl, ok⟩
    refine .rt (b_cons (s_new F 1 (n_lst a_nil)) (b_cons (s_for F 2 (fun i => ([Sl.val (tII rows), Sl.own ((rows.take i).map fun r => .new (tR (toldRow r))), Sl.un, Sl.un, Sl.un], c)) (i_lst F (e_var F 0)) rfl ?_) (b_freezeN 1 (b_one (s_ret (EJ.to (e_var F 1) ?_))))))
    · intro i r hi
      have hr := List.mem_of_getElem? hi
      have hil := (List.getElem?_eq_some_iff.mp hi).1
      have h1 := ok.h r hr
      have hn := ok.n
      refine b_weak [2, 3] (b_cons (s_set F 3 (e_ixL F (e_var F 2) (e_call F D (a_cons (e_var F 2) a_nil) ⟨rfl, r, rfl, rfl, h1⟩) (atI_int h1))) (b_one (s_append F 1 (e_compN F (c_name F (k := 4) (f := fun n => T.rat (Rat.divInt n (r.getD (headOf r) 0))) (i_lst F (e_var F 2)) (sz1000 (ok.w r hr)) (fun n hn => e_ratio2 (F.blk _) kf M (e_var (F.blk _) 4) (e_var (F.blk _) 3) (ok.p r hr) (ok.b r hr)))) (sz1000 ?_)))) ?_
      · rw [List.length_map, List.length_take]; omega
      · rw [List.take_add_one, hi, List.map_append]
        simp [wipeE, toldRow, Function.comp_def]
    · rw [List.take_length]; simp [Function.comp_def]
theorem ok_stepsOf {f : Addr} {fd : FuncData} (Fd : FnS S "steps_of" sStepsOf f fd) (hm : S.mg "steps_of" = some (.ref f)) (D1 : Dn S CR CH "told_rows" ["steps_now"] 5 (pureR rTR)) (D2 : Dn S CR CH "int_steps" ["rows"] 4 (pureR rSteps)) (D3 : Dn S CR CH "ints_of" ["rows"] 2 (pureR rIntsOf)) : Dn S CR CH "steps_of" ["rows"] 6 (pureR rStepsOf) := by
  refine Dn.pure Fd hm scStepsOf (fun ts t h => ?_) (fun _ _ _ _ _ _ us hl => match us, hl with | [_], _ => rfl) ?_
  · obtain ⟨_, rfl, _⟩ := h; rfl
  · rintro p0 h0 cdv A outer s H E c ts t F ⟨rows, rfl, rfl, ok⟩
    refine .rt (b_one (s_ret (e_call F D1 (a_cons (e_call F D2 (a_cons (e_call F D3 (a_cons (e_var F 0) a_nil) ⟨rfl, rows, rfl, rfl, ?_, ?_⟩) a_nil) ⟨rfl, rows.map wholesI, rfl, rfl, ok.f⟩) a_nil) ⟨rfl, _, rfl, rfl, ok.t⟩)))
    · have := ok.n; omega
    · intro row hr
      obtain ⟨h1, h2, h3⟩ := ok.q row hr
      exact ⟨by omega, h2, h3⟩
end
structure KerOk (rows : List (List Rat)) (w : Nat) : Prop where
  s : StepsOk rows
  n : w ≤ 500
  m : (stepsOf rows).length ≤ 500
  l : ∀ r ∈ stepsOf rows, r.length = w ∧ headR r < w ∧ ∀ q ∈ r, RSz 9000 q
  k : StepsOk (kerRows (stepsOf rows) w)
def rKernel : List T → T → Prop := fun ts t => ∃ (rows : List (List Rat)) (w : Nat), ts = [tRR rows, .int w] ∧ t = tNN (kernelOf rows w) ∧ KerOk rows w
theorem kerRow_length (solved : List (List Rat)) (w free : Nat) : ∀ k, ((solved.take k).foldl (fun row step => row.set (headR step) (-(step.getD free 0))) ((List.range w).map fun i => if i = free then (1 : Rat) else 0)).length = w
  | 0 => by simp
  | k + 1 => by
    rw [List.take_add_one]
    cases h : solved[k]? with
    | none => simpa using kerRow_length solved w free k
    | some s =>
      rw [List.foldl_append]
      simpa using kerRow_length solved w free k
theorem ixN_nat {n i : Nat} (h : i < n) : ixN n (i : Int) = some i := by
  unfold ixN
  rw [if_pos (by omega), if_pos (by omega)]
  simp
theorem setM {α : Type} (f : α → T) (xs : List α) (i : Nat) (x : α) : (xs.map f).set i (f x) = (xs.set i x).map f := by rw [List.map_set]
theorem intR (b : Bool) : ((b2i b : Int) : Rat) = if b = true then 1 else 0 := by cases b <;> rfl
section
variable {S : Stat} {CR CH : Addr}
theorem ok_kernel {f : Addr} {fd : FuncData} (Fd : FnS S "kernel_of" sKernel f fd) (hm : S.mg "kernel_of" = some (.ref f)) (g : MG S) (kf : KF S CR CH) (M : Rm S CR) (D1 : Dn S CR CH "steps_of" ["rows"] 6 (pureR rStepsOf)) (D2 : Dn S CR CH "head_of" ["row"] 1 (pureR rHeadOf)) (PT : Pr S CR CH CR "top" 1 (pureR rTop)) (MN : Me S CR CH CR "__neg__" ["self"] 5 (pureR rNeg)) : Dn S CR CH "kernel_of" ["rows", "wide"] 7 (pureR rKernel) := by
  refine Dn.pure Fd hm scKernel (fun ts t h => ?_) (fun _ _ _ _ _ _ us hl => match us, hl with | [_, _], _ => rfl) ?_
  · obtain ⟨_, _, rfl, _⟩ := h; rfl
  · rintro p0 h0 cdv A outer s H E c ts t F ⟨rows, w, rfl, rfl, ok⟩
    have hn := ok.n
    have hmm := ok.m
    have heads : ((stepsOf rows).map fun r => T.int (headR r : Nat)) = (((stepsOf rows).map fun r => ((headR r : Nat) : Int)).map T.int) := by rw [List.map_map]; rfl
    refine .rt (b_cons (s_set F 2 ((e_call F D1 (a_cons (e_var F 0) a_nil) ⟨rfl, rows, rfl, rfl, ok.s⟩).weak fun v B => rep_NN)) (b_cons (s_parN F 3 4 (EJ.to (e_comp F (c_name F (k := 6) (f := fun r : List Rat => T.int (headR r : Nat)) (i_lst F (e_var F 2)) (sz1000 (by omega)) (fun r hr => ?_))) (congrArg T.lst heads)) (n_lst a_nil))
      (b_cons (s_for F 5 (fun i => ([Sl.val (tRR rows), Sl.val (.int (w : Nat)), Sl.val (tRR (stepsOf rows)), Sl.val (tI ((stepsOf rows).map fun r => ((headR r : Nat) : Int))), Sl.own ((((List.range i).filter fun f => !((stepsOf rows).map headR).contains f).map (kerRow (stepsOf rows) w)).map tR), Sl.un, Sl.un, Sl.un, Sl.un, Sl.un, Sl.un], c)) (i_rangeN F g.range_ (e_var F 1) (by omega)) rfl ?_)
        (b_freeze 4 (b_one (s_ret (e_call F D1 (a_cons (EJ.to (e_var F 4) ?_) a_nil) ⟨rfl, kerRows (stepsOf rows) w, rfl, rfl, ok.k⟩)))))))
    · obtain ⟨h1, h2, h3⟩ := ok.l r hr
      refine e_call (F.blk _) D2 (a_cons (EJ.to (e_comp (F.blk _) (c_name (F.blk _) (k := 9) (f := fun q : Rat => T.int q.num) (i_lst (F.blk _) (e_var (F.blk _) 6)) (sz1000 (by omega)) (fun q hq => e_prop ((F.blk _).blk _) kf PT (e_var ((F.blk _).blk _) 9) (fun c => ⟨rfl, q, rfl, rfl⟩)))) (t' := tI (r.map fun q => q.num)) (by rw [tI, List.map_map]; rfl)) a_nil) ⟨rfl, _, rfl, rfl, ?_⟩
      rw [List.length_map]
      show headR r < _
      omega
    · intro i y hy
      have hi : y = i ∧ i < w := by
        have hi := (List.getElem?_eq_some_iff.mp hy).1
        rw [List.length_range] at hi
        rw [List.getElem?_range hi] at hy
        exact ⟨(Option.some.inj hy).symm, hi⟩
      obtain ⟨rfl, hyw⟩ := hi
      have cont : (((stepsOf rows).map fun r => ((headR r : Nat) : Int)).contains (y : Int)) = ((stepsOf rows).map headR).contains y := by
        rw [Bool.eq_iff_iff]
        simp only [List.contains_iff_mem, List.mem_map]
        constructor
        · rintro ⟨r, h1, h2⟩; exact ⟨r, h1, by omega⟩
        · rintro ⟨r, h1, h2⟩; exact ⟨r, h1, by omega⟩
      cases hc : ((stepsOf rows).map headR).contains y with
      | true =>
        refine b_weak [5] (b_one (s_ifF (t_notIn F (e_var F 5) (e_var F 3) (by rw [cont, hc]; rfl)) b_nil)) ?_
        have e : (List.range (y + 1)).filter (fun f => !((stepsOf rows).map headR).contains f) = (List.range y).filter fun f => !((stepsOf rows).map headR).contains f := by
          rw [List.range_succ, List.filter_append, List.filter_cons_of_neg (by rw [hc]; decide), List.filter_nil, List.append_nil]
        rw [e]
        rfl
      | false =>
        refine b_weak [5, 6, 7, 8] (b_one (s_ifT (t_notIn F (e_var F 5) (e_var F 3) (by rw [cont, hc]; rfl))
          (b_cons (s_newComp F 6 (cn_name F (k := 10) (f := fun at' : Nat => T.rat (if at' = y then 1 else 0)) (i_rangeN F g.range_ (e_var F 1) (by omega)) (sz1000 (by simp; omega)) (fun a ha => ?_)))
          (b_cons (s_forP F 7 8 (fun i => ([Sl.val (tRR rows), Sl.val (.int (w : Nat)), Sl.val (tRR (stepsOf rows)), Sl.val (tI ((stepsOf rows).map fun r => ((headR r : Nat) : Int))), Sl.own ((((List.range y).filter fun f => !((stepsOf rows).map headR).contains f).map (kerRow (stepsOf rows) w)).map tR), Sl.val (.int (y : Nat)), Sl.own ((((stepsOf rows).take i).foldl (fun row step => row.set (headR step) (-(step.getD y 0))) ((List.range w).map fun i => if i = y then (1 : Rat) else 0)).map T.rat), Sl.un, Sl.un, Sl.un, Sl.un], c)) (ys := (stepsOf rows).map fun r => (headR r, r)) (ea := fun z => T.int (z.1 : Nat)) (eb := fun z => tR z.2) (IJ.to (i_zip F g.zip_ (e_var F 3) (e_var F 2)) ?_) ?_ ?_)
          (b_freeze 6 (b_one (s_append F 4 (e_var F 6) (sz1000 ?_)))))))) ?_
        · refine EJ.to (e_ratio1 (F.blk _) kf M (e_intB (F.blk _) g.int_ (e_eqI (e_var (F.blk _) 10) (e_var (F.blk _) 5)))) ?_
          rw [intR]
          congr 1
          by_cases z : a = y
          · subst z; simp
          · have : ¬ (a : Int) = (y : Int) := by omega
            simp [z, this]
        · rw [zip_emb, List.map_map]
          have key : ∀ l : List (List Rat), ((l.map fun r => ((headR r : Nat) : Int)).zip l).map (fun z => T.tup [T.int z.1, tR z.2]) = l.map ((fun z : Nat × List Rat => T.tup [T.int (z.1 : Nat), tR z.2]) ∘ fun r => (headR r, r)) := fun l => by
            induction l with
            | nil => rfl
            | cons x l ih => simp only [List.map_cons, List.zip_cons_cons, ih]; rfl
          exact key _
        · simp [wipeE, Function.comp_def]
        · intro i z hz
          rw [List.getElem?_map] at hz
          cases hs : (stepsOf rows)[i]? with
          | none => rw [hs] at hz; cases hz
          | some st =>
            rw [hs] at hz
            cases hz
            have hst := List.mem_of_getElem? hs
            obtain ⟨h1, h2, h3⟩ := ok.l st hst
            have hys : y < st.length := by omega
            have hat : st[y]? = some (st.getD y 0) := by simp [List.getD, hys]
            refine b_weak [7, 8] (b_one (s_setIt F 6 (j := headR st) (e_ownNeg F MN (e_ixL F (e_var F 8) (e_var F 5) (atI_map (f := T.rat) (x := st.getD y 0) hat)) (fun c => ⟨rfl, _, rfl, rfl, ?_⟩)) (e_var F 7) ?_)) ?_
            · refine (h3 _ ?_).2
              have : y < st.length := by omega
              have e : st.getD y 0 = st[y] := by simp [List.getD, this]
              rw [e]
              exact List.getElem_mem this
            · have := kerRow_length (stepsOf rows) w y i
              exact ixN_nat (by rw [List.length_map, this]; exact h2)
            · rw [List.take_add_one, hs, List.foldl_append]
              simp [wipeE, ← setM]
        · rw [List.length_map, List.length_map]
          have := List.length_filter_le (fun f => !((stepsOf rows).map headR).contains f) (List.range y)
          rw [List.length_range] at this
          omega
        · have e : (List.range (y + 1)).filter (fun f => !((stepsOf rows).map headR).contains f) = ((List.range y).filter fun f => !((stepsOf rows).map headR).contains f) ++ [y] := by
            rw [List.range_succ, List.filter_append, List.filter_cons_of_pos (by rw [hc]; rfl), List.filter_nil]
          rw [e, List.map_append, List.map_append]
          simp [wipeE, kerRow]
    · rw [List.length_range]; rfl
end
end TW
set_option Elab.async false
set_option linter.all false
set_option maxRecDepth 100000
set_option maxHeartbeats 4000000
set_option exponentiation.threshold 100000
/-! W4: are_numbers, table_in, want_sized, bare_table, int_product, over_bottom, product_of, about_of, led_by. -/
namespace TW
open PySem L2
abbrev sAreNums : Stmt := top 37
theorem scAreNums : FnScope ["value", "wide", "number"] ["value", "wide"] (defScope sAreNums) := ⟨rfl, rfl, rfl, by decide +kernel, rfl, by decide +kernel, by decide +kernel⟩
abbrev sTableIn : Stmt := top 40
theorem scTableIn : FnScope ["value", "row", "number"] ["value"] (defScope sTableIn) := ⟨rfl, rfl, rfl, by decide +kernel, rfl, by decide +kernel, by decide +kernel⟩
abbrev sWantSized : Stmt := top 41
theorem scWantSized : FnScope ["value", "size", "found"] ["value", "size"] (defScope sWantSized) := ⟨rfl, rfl, rfl, by decide +kernel, rfl, by decide +kernel, by decide +kernel⟩
abbrev sBareTable : Stmt := top 42
theorem scBareTable : FnScope ["table", "flat", "wide", "row", "bottom", "numbers", "at"] ["table"] (defScope sBareTable) := ⟨rfl, rfl, rfl, by decide +kernel, rfl, by decide +kernel, by decide +kernel⟩
abbrev sIntProd : Stmt := top 43
theorem scIntProd : FnScope ["rows", "others", "wide", "row", "to", "number", "line"] ["rows", "others"] (defScope sIntProd) := ⟨rfl, rfl, rfl, by decide +kernel, rfl, by decide +kernel, by decide +kernel⟩
abbrev sOverB : Stmt := top 44
theorem scOverB : FnScope ["rows", "bottom", "row", "number"] ["rows", "bottom"] (defScope sOverB) := ⟨rfl, rfl, rfl, by decide +kernel, rfl, by decide +kernel, by decide +kernel⟩
abbrev sProd : Stmt := top 46
theorem scProd : FnScope ["table", "other", "bottom", "rows", "below", "others"] ["table", "other"] (defScope sProd) := ⟨rfl, rfl, rfl, by decide +kernel, rfl, by decide +kernel, by decide +kernel⟩
abbrev sAbout : Stmt := top 47
theorem scAbout : FnScope ["table", "place", "row"] ["table"] (defScope sAbout) := ⟨rfl, rfl, rfl, by decide +kernel, rfl, by decide +kernel, by decide +kernel⟩
abbrev sLedBy : Stmt := top 48
theorem scLedBy : FnScope ["row", "table"] ["row", "table"] (defScope sLedBy) := ⟨rfl, rfl, rfl, by decide +kernel, rfl, by decide +kernel, by decide +kernel⟩

/-! ### extend -/
section
variable {S : Stat} {N : List Str} {n : Nat} {ι : Type} {XX : ι → Cx} {m : Pm} {env : TEnv} {c c1 c2 c3 : Pot}
theorem s_extend (F : Fam S N n XX) (k : Nat) {x : Str} {e : Expr} {px pa cp pos : Pos} {ts us : List T} (he : EJ m XX e env c (.lst us) c1) (hz : ts.length + us.length ≤ sizeLine) (hk : env[k]? = some (Sl.own ts) := by rfl) (hN : N[k]? = some x := by rfl)
    (hv : ∀ i, Vis (XX i).env.scope x := by intro _; first | exact Or.inl rfl | exact Or.inr (Or.inl rfl) | exact Or.inr (Or.inr rfl))
    (hd : (x == ("__debug__" : Str)) = false := by decide) (hcd : (x == ("__classdict__" : Str)) = false := by decide)
    (h1 : ∀ i, attributeBase (.Name x px) "extend" (XX i).env (eval (.Name x px) (XX i).env) = eval (.Name x px) (XX i).env := by intro _; rfl)
    (h2 : ∀ i, ((backTo cp (starEach [e] (XX i).env)).all (fun p => !p.1) && (backToKw cp (keywordEach [] (XX i).env)).all (fun p => p.1.isSome) && decide (([e] : List Expr).length + ([] : List Keyword).length + (if ([] : List Keyword).isEmpty then 0 else 1) < 30)) = true := by intro _; rfl)
    (h3 : (pa.endLine == cp.line) = true := by rfl)
    (hs : ∀ i, starEach [e] (XX i).env = [(false, eval e (XX i).env)] := by intro _; rfl) (hsw : ∀ i, swapsWith (.Call (.Attribute (.Name x px) "extend" pa) [e] [] cp) none pos.line (XX i).env = pure false := by intro _; rfl) :
    SJ m XX (.Expr (.Call (.Attribute (.Name x px) "extend" pa) [e] [] cp) pos) env c (.nx (env.set k (Sl.own (ts ++ us))) c1) :=
  SJ.of (ts := tDrop (tBM S.K "list" rExtend (tVar k) (tCons (rdE XX e) tNil))) (fun i => by
    rw [← F.k i]
    exact ps_expr (pe_bm PySem.F.plainAttrs_list PySem.F.slot_list_extend PySem.F.type_list_extend mt_extend (pe_var (by rw [F.names i]; exact hN) (hv i) hd hcd) (pa_cons (pe_rd i) pa_nil (hs i)) (h1 i) (h2 i) h3 (hs i) (by rfl)) (hsw i)) (by
    intro B0 H0 σ B H an D q
    obtain ⟨a, vs, g1, g2, g3, g4, g5, g6⟩ := an.env.own k ts hk
    refine ⟨_, g1, .inl ⟨rfl, _, SqL.of g2⟩, ?_⟩
    refine he σ B H an.sit an.env _ fun v B1 H1 s1 t1 rv => ?_
    have a1 := an.step s1 t1
    have e1 := t1.h a _ g2 g4
    obtain ⟨a', vs', k1, k2, k3, k4, k5, k6⟩ := a1.env.own k ts hk
    rw [g1] at k1
    cases k1
    rw [e1] at k2
    cases k2
    obtain ⟨b, ws, rfl, w1, w2⟩ := rep_lst.mp rv
    refine ⟨a, b, vs, ws, rfl, rfl, e1, s1.sub _ _ w1, by rw [g5.length, w2.length]; exact hz, ?_⟩
    have h0 := an.own k ts a hk g1
    refine q σ B1 _ ⟨?_, a1.env.mut hk g1 (k5.append w2), a1.stp.mutNew h0, fun i us b q1 q2 => ?_⟩ t1.b
    · exact ⟨fun b o e => by rw [upd_ne (ne_of_none e k3)]; exact s1.sub b o e, fun b hb => dom_upd (s1.old b hb), fun p hp => by
        have z : p ≠ a := fun y => g4 (by rw [← y]; exact hp)
        rw [upd_ne z]; exact s1.pot p hp⟩
    · by_cases z : k = i
      · subst z
        rw [g1] at q2; cases q2
        exact h0
      · rw [List.getElem?_set_ne z] at q1
        exact a1.own i us b q1 q2)
end
/-! ### a, b = e1, e2 where a cell is stored: by the tuple -/
section
variable {S : Stat} {N : List Str} {n : Nat} {ι : Type} {XX : ι → Cx} {m : Pm} {env : TEnv} {c c1 c2 c3 : Pot}
/-- the heap with a new object that B does not know -/
theorem Anc.grow {B0 H0 : Hp} {σ : L2.St} {B H : Hp} (an : Anc m B0 H0 env c σ B H) {p : Addr} {o : HO} (hp : H p = none) : Anc m B0 H0 env c σ B (upd H p o) :=
  have sm : ∀ a u, H a = some u → upd H p o a = some u := fun a u e => by rw [upd_ne (ne_of_none e hp)]; exact e
  an.step (an.sit.same sm) (Stp.same sm)
/-- a, b = [..], e2 -/
theorem s_cpN1 (F : Fam S N n XX) (k l : Nat) {x y : Str} {a b : Expr} {px py pt pt2 pos : Pos} {kt k2 : Nat} {u : T} {ts : List T} (ha : NJ m XX a env c ts c1) (hb : EJ m XX b env c1 u c2) (hN : N[k]? = some x := by rfl) (hN2 : N[l]? = some y := by rfl)
    (hl : ∀ i, L2.Loc (XX i).env.scope x := by intro _; first | exact Or.inl rfl | exact Or.inr rfl) (hl2 : ∀ i, L2.Loc (XX i).env.scope y := by intro _; first | exact Or.inl rfl | exact Or.inr rfl)
    (hf : ∀ i, (XX i).fn x = true ∨ (XX i).env.scope.names.lookup x = some .local := by intro _; first | exact Or.inr rfl | exact Or.inl rfl) (hf2 : ∀ i, (XX i).fn y = true ∨ (XX i).env.scope.names.lookup y = some .local := by intro _; first | exact Or.inr rfl | exact Or.inl rfl)
    (hs : ∀ i, starEach [a, b] (XX i).env = (false, eval a (XX i).env) :: starEach [b] (XX i).env := by intro _; rfl) (hs2 : ∀ i, starEach [b] (XX i).env = [(false, eval b (XX i).env)] := by intro _; rfl)
    (h1 : ∀ i, swappedStores [.Tuple [.Name x px, .Name y py] kt pt] (.Tuple [a, b] k2 pt2) (XX i).env = pure none := by intro _; rfl)
    (h2 : ∀ i, swapsWithSole [.Tuple [.Name x px, .Name y py] kt pt] (.Tuple [a, b] k2 pt2) pos.line (XX i).env = pure false := by intro _; rfl)
    (h3 : ∀ i, (assignEach [.Tuple [.Name x px, .Name y py] kt pt] (XX i).env).map (·.2) = [assign (.Tuple [.Name x px, .Name y py] kt pt) (XX i).env] := by intro _; rfl) :
    SJ m XX (.Assign [.Tuple [.Name x px, .Name y py] kt pt] (.Tuple [a, b] k2 pt2) pos) env c (.nx ((env.set k (Sl.own ts)).set l (Sl.val u)) c2) :=
  SJ.of (ts := tAsg (tTup (tCons (rdE XX a) (tCons (rdE XX b) tNil))) (gTup S.K 2 (gCons (gName k) (gCons (gName l) gNil)))) (fun i => by
    rw [← F.k i]
    exact ps_asg (pe_tup (pa_cons (pe_rd i) (pa_cons (pe_rd i) pa_nil (hs2 i)) (hs i))) (pg_tup (F.calm i) (pgs_cons (pg_name (by rw [F.names i]; exact F.nd) (by rw [F.names i]; exact hN) (hl i) (hf i)) (pgs_cons (pg_name (by rw [F.names i]; exact F.nd) (by rw [F.names i]; exact hN2) (hl2 i) (hf2 i)) pgs_nil rfl) rfl) rfl rfl) (h2 i) (h1 i) (h3 i)) (by
    intro B0 H0 σ B H an D q
    refine ha σ B H an.sit an.env _ fun p vs B1 H1 s1 t1 hp rvs => ?_
    have a1 := (an.step s1 t1)
    have a1' := a1.setOwn hp rvs k
    have sm : Same H1 (upd H1 p (.lst vs)) := fun a o e => by rw [upd_ne (ne_of_none e hp)]; exact e
    have r1 : RepE m env σ B1 (upd H1 p (.lst vs)) := a1.env.step (Stp.same sm)
    refine hb σ B1 (upd H1 p (.lst vs)) (s1.same sm) r1 _ fun w B2 H2 s2 t2 rw_ => ?_
    refine ⟨by exact Nat.le_of_ble_eq_true rfl, fun tp htp => ?_⟩
    have a2 := ((a1'.step s2 t2).grow (o := .tup [.ref p, w]) htp).set rw_ l
    exact ⟨tp, _, rfl, SqT.of upd_same, rfl, _, _, rfl, _, _, rfl, rfl, q _ B2 _ a2 (t1.b.trans t2.b)⟩)
/-- a, b = e1, [..] -/
theorem s_cpN (F : Fam S N n XX) (k l : Nat) {x y : Str} {a b : Expr} {px py pt pt2 pos : Pos} {kt k2 : Nat} {t : T} {us : List T} (ha : EJ m XX a env c t c1) (hb : NJ m XX b env c1 us c2) (hN : N[k]? = some x := by rfl) (hN2 : N[l]? = some y := by rfl)
    (hl : ∀ i, L2.Loc (XX i).env.scope x := by intro _; first | exact Or.inl rfl | exact Or.inr rfl) (hl2 : ∀ i, L2.Loc (XX i).env.scope y := by intro _; first | exact Or.inl rfl | exact Or.inr rfl)
    (hf : ∀ i, (XX i).fn x = true ∨ (XX i).env.scope.names.lookup x = some .local := by intro _; first | exact Or.inr rfl | exact Or.inl rfl) (hf2 : ∀ i, (XX i).fn y = true ∨ (XX i).env.scope.names.lookup y = some .local := by intro _; first | exact Or.inr rfl | exact Or.inl rfl)
    (hs : ∀ i, starEach [a, b] (XX i).env = (false, eval a (XX i).env) :: starEach [b] (XX i).env := by intro _; rfl) (hs2 : ∀ i, starEach [b] (XX i).env = [(false, eval b (XX i).env)] := by intro _; rfl)
    (h1 : ∀ i, swappedStores [.Tuple [.Name x px, .Name y py] kt pt] (.Tuple [a, b] k2 pt2) (XX i).env = pure none := by intro _; rfl)
    (h2 : ∀ i, swapsWithSole [.Tuple [.Name x px, .Name y py] kt pt] (.Tuple [a, b] k2 pt2) pos.line (XX i).env = pure false := by intro _; rfl)
    (h3 : ∀ i, (assignEach [.Tuple [.Name x px, .Name y py] kt pt] (XX i).env).map (·.2) = [assign (.Tuple [.Name x px, .Name y py] kt pt) (XX i).env] := by intro _; rfl) :
    SJ m XX (.Assign [.Tuple [.Name x px, .Name y py] kt pt] (.Tuple [a, b] k2 pt2) pos) env c (.nx ((env.set k (Sl.val t)).set l (Sl.own us)) c2) :=
  SJ.of (ts := tAsg (tTup (tCons (rdE XX a) (tCons (rdE XX b) tNil))) (gTup S.K 2 (gCons (gName k) (gCons (gName l) gNil)))) (fun i => by
    rw [← F.k i]
    exact ps_asg (pe_tup (pa_cons (pe_rd i) (pa_cons (pe_rd i) pa_nil (hs2 i)) (hs i))) (pg_tup (F.calm i) (pgs_cons (pg_name (by rw [F.names i]; exact F.nd) (by rw [F.names i]; exact hN) (hl i) (hf i)) (pgs_cons (pg_name (by rw [F.names i]; exact F.nd) (by rw [F.names i]; exact hN2) (hl2 i) (hf2 i)) pgs_nil rfl) rfl) rfl rfl) (h2 i) (h1 i) (h3 i)) (by
    intro B0 H0 σ B H an D q
    refine ha σ B H an.sit an.env _ fun v B1 H1 s1 t1 rv => ?_
    have a1 := an.step s1 t1
    refine hb σ B1 H1 s1 a1.env _ fun p vs B2 H2 s2 t2 hp rvs => ?_
    have a2 := ((a1.step s2 t2).set (rv.mono t2.b) k).setOwn hp rvs l
    refine ⟨by exact Nat.le_of_ble_eq_true rfl, fun tp htp => ?_⟩
    have a3 := a2.grow (o := .tup [v, .ref p]) htp
    exact ⟨tp, _, rfl, SqT.of upd_same, rfl, _, _, rfl, _, _, rfl, rfl, q _ B2 _ a3 (t1.b.trans t2.b)⟩)
end
/-! ### given rows and tables -/
def seqT (b : Bool) (xs : List T) : T := if b then .tup xs else .lst xs
theorem seq_len (b : Bool) (xs : List T) : lenT (seqT b xs) = some xs.length := by cases b <;> rfl
theorem seq_items (b : Bool) (xs : List T) : itemsT (seqT b xs) = some xs := by cases b <;> rfl
theorem seq_isList (b : Bool) (xs : List T) : isListT (seqT b xs) = some true := by cases b <;> rfl
structure GRow where
  b : Bool
  xs : List Num
def GRow.t (r : GRow) : T := seqT r.b (r.xs.map Num.t)
structure GTab where
  b : Bool
  rows : List GRow
def GTab.t (g : GTab) : T := seqT g.b (g.rows.map GRow.t)
def GTab.q (g : GTab) : List (List Rat) := g.rows.map fun r => r.xs.map Num.q
def rAreNums : List T → T → Prop := fun ts t => ∃ r : GRow, ts = [r.t, .int (r.xs.length : Nat)] ∧ t = .bl true ∧ r.xs.length ≤ 1000
def GTab.Sq (g : GTab) (n : Nat) : Prop := g.rows.length = n ∧ ∀ r ∈ g.rows, r.xs.length = n
def rTableIn : List T → T → Prop := fun ts t => ∃ (g : GTab) (n : Nat), ts = [g.t] ∧ t = tRR g.q ∧ g.Sq n ∧ 1 ≤ n ∧ n ≤ 4
def rWantSized : List T → T → Prop := fun ts t => ∃ (g : GTab) (n : Nat), ts = [g.t, .int (n : Nat)] ∧ t = tRR g.q ∧ g.Sq n ∧ 1 ≤ n ∧ n ≤ 4
def lcmOf (A : List (List Rat)) : Nat := lcmDen A.flatten
def bareT (A : List (List Rat)) : List (List Int) := A.map fun row => row.map fun q => q.num * ((lcmOf A : Int) / (q.den : Int))
structure Tab (A : List (List Rat)) (w : Nat) : Prop where
  p : 0 < A.length
  n : A.length ≤ 500
  wl : ∀ r ∈ A, r.length = w
  ww : w ≤ 500
  nw : A.length * w ≤ 1000
  q : ∀ r ∈ A, ∀ q ∈ r, RSz 9000 q
  l : lcmOf A < 2 ^ 13000
def rBareTable : List T → T → Prop := fun ts t => ∃ (A : List (List Rat)) (w : Nat), ts = [tRR A] ∧ t = .tup [.int (lcmOf A : Nat), tII (bareT A)] ∧ Tab A w
def dotI (row : List Int) (others : List (List Int)) (to : Nat) : Int := ((row.zip others).map fun z => z.1 * z.2.getD to 0).sum
def mulI (rows others : List (List Int)) : List (List Int) := rows.map fun row => (List.range (wideOf others)).map (dotI row others)
def rIntProd : List T → T → Prop := fun ts t => ∃ (A B : List (List Int)), ts = [tII A, tII B] ∧ t = tII (mulI A B) ∧ A.length ≤ 500 ∧ (∀ r ∈ A, r.length ≤ 500 ∧ Bd 100000 r) ∧ B.length ≤ 500 ∧ wideOf B ≤ 500 ∧ ∀ r ∈ B, r.length = wideOf B ∧ Bd 100000 r
def rOverB : List T → T → Prop := fun ts t => ∃ (A : List (List Int)) (b : Nat), ts = [tII A, .int (b : Nat)] ∧ t = tRR (A.map fun r => r.map fun n => Rat.divInt n b) ∧ 0 < b ∧ b < 2 ^ 9000 ∧ A.length ≤ 500 ∧ ∀ r ∈ A, r.length ≤ 500
def prodT (A B : List (List Rat)) : List (List Rat) := (mulI (bareT A) (bareT B)).map fun r => r.map fun n => Rat.divInt n ((lcmOf A * lcmOf B : Nat) : Int)
def rProd : List T → T → Prop := fun ts t => ∃ (A B : List (List Rat)) (v w : Nat), ts = [tRR A, tRR B] ∧ t = tRR (prodT A B) ∧ Tab A v ∧ Tab B w ∧ lcmOf A * lcmOf B < 2 ^ 9000
def rAbout : List T → T → Prop := fun ts t => ∃ (A : List (List Rat)), ts = [tRR A] ∧ t = tRR ((List.range A.length).map fun p => A.map fun r => r.getD p 0) ∧ A.length ≤ 500 ∧ ∀ r ∈ A, r.length = A.length
def rLedBy : List T → T → Prop := fun ts t => ∃ (r : List Rat) (B : List (List Rat)) (w : Nat), ts = [tR r, tRR B] ∧ t = tR ((prodT [r] B).headD []) ∧ Tab [r] r.length ∧ Tab B w ∧ lcmOf [r] * lcmOf B < 2 ^ 9000
theorem lcmDen_pos (r : List Rat) : 0 < lcmDen r := foldl_lcm_pos _ _ (by decide)
theorem cutL_seg {α : Type} (xs : List α) (i j : Nat) (hj : j ≤ xs.length) : cutL xs (some (i : Int)) (some (j : Int)) = (xs.drop i).take (j - i) := by
  unfold cutL
  rw [HT.sIx_nat, HT.sIx_nat, Nat.min_eq_left hj]
  by_cases h : i ≤ xs.length
  · rw [Nat.min_eq_left h]
  · rw [Nat.min_eq_right (by omega), List.drop_eq_nil_of_le (by omega), List.drop_eq_nil_of_le (by omega), List.take_nil, List.take_nil]
theorem flat_len {α : Type} {w : Nat} : ∀ {L : List (List α)}, (∀ l ∈ L, l.length = w) → L.flatten.length = L.length * w
  | [], _ => by simp
  | l :: L, h => by
    rw [List.flatten_cons, List.length_append, h l List.mem_cons_self, flat_len fun x hx => h x (List.mem_cons_of_mem _ hx), List.length_cons, Nat.succ_mul, Nat.add_comm]
theorem flat_seg {α : Type} {w : Nat} : ∀ {L : List (List α)} {a : Nat} {l : List α}, (∀ l ∈ L, l.length = w) → L[a]? = some l → (L.flatten.drop (a * w)).take w = l
  | [], a, l, _, e => by simp at e
  | x :: L, 0, l, h, e => by
    simp at e
    subst e
    have := h x List.mem_cons_self
    rw [Nat.zero_mul, List.drop_zero, List.flatten_cons, ← this, List.take_left']
    rfl
  | x :: L, a + 1, l, h, e => by
    have hx := h x List.mem_cons_self
    rw [List.flatten_cons, Nat.succ_mul, Nat.add_comm, ← List.drop_drop, List.drop_left' hx]
    exact flat_seg (fun y hy => h y (List.mem_cons_of_mem _ hy)) (by simpa using e)
section
variable {S : Stat} {CR CH : Addr}
theorem ok_areNums {f : Addr} {fd : FuncData} (Fd : FnS S "are_numbers" sAreNums f fd) (hm : S.mg "are_numbers" = some (.ref f)) (g : MG S) (D1 : Dn S CR CH "is_list" ["value"] 1 (pureR rIsList)) (D2 : Dn S CR CH "is_number" ["value"] 2 (pureR rIsNum)) : Dn S CR CH "are_numbers" ["value", "wide"] 3 (pureR rAreNums) := by
  refine Dn.pure Fd hm scAreNums (fun ts t h => ?_) (fun _ _ _ _ _ _ us hl => match us, hl with | [_, _], _ => rfl) ?_
  · obtain ⟨_, rfl, _⟩ := h; rfl
  · rintro p0 h0 cdv A outer s H E c ts t F ⟨r, rfl, rfl, hl⟩
    refine .rt (b_one (s_ret (e_andT (e_call F D1 (a_cons (e_var F 0) a_nil) ⟨rfl, _, true, rfl, seq_isList _ _, rfl⟩) (e_andT (EJ.to (e_eqI (e_len F g.len_ (e_var F 0) (seq_len _ _)) (e_var F 1)) ?_) (e_one (EJ.to (e_all F g.all_ (ns := r.xs.map fun _ => true) (EJ.to (e_comp F (c_name F (k := 2) (f := fun _ => T.bl true) (i_seq F (e_var F 0) (seq_items _ _)) (sz1000 hl) (fun x hx => e_call (F.blk _) D2 (a_cons (e_var (F.blk _) 2) a_nil) ⟨rfl, x, rfl, rfl⟩))) ?_)) ?_))))))
    · simp
    · rw [List.map_map]; rfl
    · congr 1
      simp
theorem ok_tableIn {f : Addr} {fd : FuncData} (Fd : FnS S "table_in" sTableIn f fd) (hm : S.mg "table_in" = some (.ref f)) (g : MG S) (hM : ∃ t, S.mg "MOST_SIZE" = some (.int 4 t)) (D1 : Dn S CR CH "is_list" ["value"] 1 (pureR rIsList)) (D2 : Dn S CR CH "are_numbers" ["value", "wide"] 3 (pureR rAreNums)) (D3 : Dn S CR CH "ratio_of" ["number"] 5 (pureR rRatioOf)) : Dn S CR CH "table_in" ["value"] 6 (pureR rTableIn) := by
  refine Dn.pure Fd hm scTableIn (fun ts t h => ?_) (fun _ _ _ _ _ _ us hl => match us, hl with | [_], _ => rfl) ?_
  · obtain ⟨_, _, rfl, _⟩ := h; rfl
  · rintro p0 h0 cdv A outer s H E c ts t F ⟨t, k, rfl, rfl, ⟨hn, hr⟩, h1, h4⟩
    have hlen : (t.rows.map GRow.t).length = k := by rw [List.length_map, hn]
    refine .rt (b_cons (s_ifF (WJ.t (w_orF (t_not (t_val (e_call F D1 (a_cons (e_var F 0) a_nil) ⟨rfl, _, true, rfl, seq_isList _ _, rfl⟩))) (w_or1 (t_not (k := true) (t_chainLeLe e_int (e_len F g.len_ (e_var F 0) (seq_len _ _)) (e_globI F hM) ?_))))) b_nil)
      (b_cons (s_ifF (t_not (k := true) (t_val (EJ.to (e_all F g.all_ (ns := t.rows.map fun _ => true) (EJ.to (e_comp F (c_name F (k := 1) (f := fun _ => T.bl true) (i_seq F (e_var F 0) (seq_items _ _)) (sz1000 (by omega)) (fun r hr' => e_call (F.blk _) D2 (a_cons (e_var (F.blk _) 1) (a_cons (e_len (F.blk _) g.len_ (e_var (F.blk _) 0) (seq_len _ _)) a_nil)) ⟨rfl, r, ?_, rfl, ?_⟩))) ?_)) ?_))) b_nil)
      (b_one (s_ret (EJ.to (e_comp F (c_name F (k := 1) (f := fun r : GRow => tR (r.xs.map Num.q)) (i_seq F (e_var F 0) (seq_items _ _)) (sz1000 (by omega)) (fun r hr' => EJ.to (e_comp (F.blk _) (c_name (F.blk _) (k := 2) (f := fun x : Num => T.rat x.q) (i_seq (F.blk _) (e_var (F.blk _) 1) (seq_items _ _)) (sz1000 (by rw [hr r hr']; omega)) (fun x hx => e_call ((F.blk _).blk _) D3 (a_cons (e_var ((F.blk _).blk _) 2) a_nil) ⟨rfl, x, rfl, rfl⟩))) ?_))) ?_)))))
    · rw [hlen]
      simp
      omega
    · rw [hlen, hr r hr']
    · rw [hr r hr']; omega
    · rw [List.map_map]; rfl
    · congr 1; simp
    · rw [tR, List.map_map]; rfl
    · simp [GTab.q, Function.comp_def]
theorem ok_wantSized {f : Addr} {fd : FuncData} (Fd : FnS S "want_sized" sWantSized f fd) (hm : S.mg "want_sized" = some (.ref f)) (g : MG S) (D : Dn S CR CH "table_in" ["value"] 6 (pureR rTableIn)) : Dn S CR CH "want_sized" ["value", "size"] 7 (pureR rWantSized) := by
  refine Dn.pure Fd hm scWantSized (fun ts t h => ?_) (fun _ _ _ _ _ _ us hl => match us, hl with | [_, _], _ => rfl) ?_
  · obtain ⟨_, _, rfl, _⟩ := h; rfl
  · rintro p0 h0 cdv A outer s H E c ts t F ⟨t, k, rfl, rfl, sq, h1, h4⟩
    refine .rt (b_cons (s_set F 2 (e_call F D (a_cons (e_var F 0) a_nil) ⟨rfl, t, k, rfl, rfl, sq, h1, h4⟩)) (b_cons (s_ifF (WJ.t (w_orF (t_isN (e_var F 2) e_non rfl) (w_or1 (t_neI (e_len F g.len_ (e_var F 2) rfl) (e_var F 1) ?_)))) b_nil) (b_one (s_ret (e_var F 2)))))
    rw [List.length_map]
    simp [GTab.q, sq.1]
theorem ok_bareTable {f : Addr} {fd : FuncData} (Fd : FnS S "bare_table" sBareTable f fd) (hm : S.mg "bare_table" = some (.ref f)) (g : MG S) (D : Dn S CR CH "wholes" ["ratios"] 1 (pureR rWholes)) : Dn S CR CH "bare_table" ["table"] 2 (pureR rBareTable) := by
  refine Dn.pure Fd hm scBareTable (fun ts t h => ?_) (fun _ _ _ _ _ _ us hl => match us, hl with | [_], _ => rfl) ?_
  · obtain ⟨_, _, rfl, _⟩ := h; rfl
  · rintro p0 h0 cdv A outer s H E c ts t F ⟨A, w, rfl, rfl, ok⟩
    have hn := ok.n
    have hp := ok.p
    have hw := ok.ww
    have hfl := flat_len ok.wl
    have hnw := ok.nw
    have h0 : A[0]? = some (A.headD []) := by cases A with
      | nil => exact absurd hp (by decide)
      | cons r rs => rfl
    have hw0 : (A.headD []).length = w := ok.wl _ (List.mem_of_getElem? h0)
    refine .rt (b_cons (s_ifF (t_eqI (e_len F g.len_ (e_var F 0) rfl) e_int (decide_eq_false (by rw [List.length_map]; omega))) b_nil)
      (b_cons (s_cpN1 F 1 2 (n_lst a_nil) (EJ.to (e_len F g.len_ (e_ixL F (e_var F 0) e_int (atI_pos (p := 0) (x := tR (A.headD [])) (by rw [List.getElem?_map, h0]; rfl))) rfl) (t' := .int (w : Nat)) (by rw [List.length_map, hw0])))
      (b_cons (s_for F 3 (fun i => ([Sl.val (tRR A), Sl.own ((A.take i).flatten.map T.rat), Sl.val (.int (w : Nat)), Sl.un, Sl.un, Sl.un, Sl.un], c)) (i_lst F (e_var F 0)) rfl ?_)
      (b_freeze 1 (b_cons (s_asg F (e_call F D (a_cons (EJ.to (e_var F 1) (t' := tR A.flatten) ?_) a_nil) ⟨rfl, A.flatten, rfl, rfl, ?_, ?_, ok.l⟩) (g_tup2 F (g_name F 4) (g_name F 5)) own_set2)
      (b_one (s_ret (e_tup (a_cons (e_var F 4) (a_cons (EJ.to (e_comp F (c_name F (k := 6) (f := fun a : Nat => tI ((bareT A).getD a [])) (i_rangeN F g.range_ (e_len F g.len_ (e_var F 0) rfl) (by rw [List.length_map]; omega)) (sz1000 (by simp; omega)) (fun a ha => ?_))) ?_) a_nil))))))))))
    · intro i r hi
      have hr := List.mem_of_getElem? hi
      refine b_weak [3] (b_one (s_extend F 1 (e_var F 3) ?_)) ?_
      · rw [List.length_map, List.length_map, ok.wl r hr, flat_len (w := w) fun l hl => ok.wl l (List.mem_of_mem_take hl), List.length_take]
        have : min i A.length * w ≤ A.length * w := Nat.mul_le_mul_right w (Nat.min_le_right _ _)
        have e : sizeLine = 16777216 := by decide
        omega
      · rw [List.take_add_one, hi]
        simp [wipeE]
    · rw [List.take_length]
    · rw [hfl]; omega
    · intro q hq
      obtain ⟨l, hl, hql⟩ := List.mem_flatten.mp hq
      exact ok.q l hl q hql
    · have ha' : a < A.length := by simpa using ha
      have small : ∀ k : Nat, k ≤ 1000 → ((k : Int)).natAbs < 2 ^ 20 := fun k hk => by rw [Int.natAbs_natCast]; omega
      have hseg : (a + 1) * w ≤ A.length * w := Nat.mul_le_mul_right w ha'
      refine EJ.to (e_slL (F.blk _) (e_var (F.blk _) 5) (o_some (e_mul (e_var (F.blk _) 6) (e_var (F.blk _) 2) (mulW (small a (by omega)) (small w (by omega))))) (o_some (e_mul (e_add (e_var (F.blk _) 6) e_int) (e_var (F.blk _) 2) (mulW (small (a + 1) (by omega)) (small w (by omega)))))) ?_
      have e1 : (a : Int) * (w : Int) = ((a * w : Nat) : Int) := by simp
      have e2 : ((a : Int) + 1) * (w : Int) = (((a + 1) * w : Nat) : Int) := by simp
      rw [e1, e2, cutL_seg _ _ _ (by simp only [List.length_map, wholesI]; omega)]
      have e3 : (a + 1) * w - a * w = w := by rw [Nat.succ_mul]; omega
      have hal : A[a]? = some A[a] := List.getElem?_eq_getElem ha'
      have e4 : (bareT A).getD a [] = (A[a]).map fun q => q.num * ((lcmOf A : Int) / (q.den : Int)) := by
        simp [bareT, List.getD, List.getElem?_map, hal]
      rw [e3, e4, ← List.map_drop, ← List.map_take]
      congr 2
      unfold wholesI
      rw [← List.map_drop, ← List.map_take, flat_seg ok.wl hal]
      rfl
    · congr 1
      rw [List.length_map]
      apply List.ext_getElem
      · simp [bareT]
      · intro i h1 h2
        simp only [List.length_map, List.length_range] at h1
        have : i < (bareT A).length := by simpa [bareT] using h1
        simp [List.getD, this]
theorem ok_intProd {f : Addr} {fd : FuncData} (Fd : FnS S "int_product" sIntProd f fd) (hm : S.mg "int_product" = some (.ref f)) (g : MG S) : Dn S CR CH "int_product" ["rows", "others"] 1 (pureR rIntProd) := by
  refine Dn.pure Fd hm scIntProd (fun ts t h => ?_) (fun _ _ _ _ _ _ us hl => match us, hl with | [_, _], _ => rfl) ?_
  · obtain ⟨_, _, rfl, _⟩ := h; rfl
  · rintro p0 h0 cdv A outer s H E c ts t F ⟨A, B, rfl, rfl, ha, hA, hb, hw, hB⟩
    refine .rt (b_cons (s_set F 2 (t := .int (wideOf B : Nat)) ?_) (b_one (s_ret (EJ.to (e_comp F (c_name F (k := 3) (f := fun r : List Int => tI ((List.range (wideOf B)).map (dotI r B))) (i_lst F (e_var F 0)) (sz1000 (by omega)) (fun r hr => EJ.to (e_comp (F.blk _) (c_name (F.blk _) (k := 4) (f := fun to' : Nat => T.int (dotI r B to')) (i_rangeN (F.blk _) g.range_ (e_var (F.blk _) 2) (by omega)) (sz1000 (by simp; omega)) (fun p hp => ?_))) ?_))) ?_))))
    · cases B with
      | nil => exact e_ifF (t_gt (e_len F g.len_ (e_var F 1) rfl) e_int (by simp)) e_int
      | cons r rs => exact e_ifT (t_gt (e_len F g.len_ (e_var F 1) rfl) e_int (by simp)) (EJ.to (e_len F g.len_ (e_ixL F (e_var F 1) e_int (atI_pos (p := 0) (x := tI r) rfl)) rfl) (by simp [wideOf]))
    · have hp' : p < wideOf B := by simpa using hp
      refine EJ.to (e_sum ((F.blk _).blk _) g.sum_ (ns := (r.zip B).map fun z => z.1 * z.2.getD p 0) (EJ.to (e_comp ((F.blk _).blk _) (c_pair ((F.blk _).blk _) (k := 5) (l := 6) (f := fun z : Int × List Int => T.int (z.1 * z.2.getD p 0)) (IJ.to (i_zip ((F.blk _).blk _) g.zip_ (e_var ((F.blk _).blk _) 3) (e_var ((F.blk _).blk _) 1)) (zip_emb _ _ _ _)) ?_ (fun z hz => ?_))) ?_)) rfl
      · have := (hA r hr).1
        rw [List.length_zip]; exact sz1000 (by omega)
      · obtain ⟨h1, h2⟩ := List.of_mem_zip hz
        obtain ⟨h3, h4⟩ := hB _ h2
        exact e_mul (e_var (((F.blk _).blk _).blk _) 5) (e_ixL (((F.blk _).blk _).blk _) (e_var (((F.blk _).blk _).blk _) 6) (e_var (((F.blk _).blk _).blk _) 4) (atI_int (by omega))) (mulW (a := 100000) (b := 100000) ((hA r hr).2 _ h1) (getD_bd h4))
      · rw [List.map_map]; rfl
    · rw [tI, List.map_map]; rfl
    · rw [tII, mulI, List.map_map]; rfl
theorem ok_overB {f : Addr} {fd : FuncData} (Fd : FnS S "over_bottom" sOverB f fd) (hm : S.mg "over_bottom" = some (.ref f)) (g : MG S) (kf : KF S CR CH) (M : Rm S CR) : Dn S CR CH "over_bottom" ["rows", "bottom"] 5 (pureR rOverB) := by
  refine Dn.pure Fd hm scOverB (fun ts t h => ?_) (fun _ _ _ _ _ _ us hl => match us, hl with | [_, _], _ => rfl) ?_
  · obtain ⟨_, _, rfl, _⟩ := h; rfl
  · rintro p0 h0 cdv A outer s H E c ts t F ⟨A, b, rfl, rfl, hb, hb2, ha, hA⟩
    refine .rt (b_one (s_ret (EJ.to (e_comp F (c_name F (k := 2) (f := fun r : List Int => tR (r.map fun n => Rat.divInt n b)) (i_lst F (e_var F 0)) (sz1000 (by omega)) (fun r hr => EJ.to (e_comp (F.blk _) (c_name (F.blk _) (k := 3) (f := fun n : Int => T.rat (Rat.divInt n b)) (i_lst (F.blk _) (e_var (F.blk _) 2)) (sz1000 (by have := hA r hr; omega)) (fun n hn => e_ratio2 ((F.blk _).blk _) kf M (e_var ((F.blk _).blk _) 3) (e_var ((F.blk _).blk _) 1) (by omega) (by simpa using hb2)))) (by rw [tR, List.map_map]; rfl)))) (by rw [tRR, List.map_map]; rfl))))
theorem bareT_bd {A : List (List Rat)} {w : Nat} (ok : Tab A w) : ∀ r ∈ bareT A, r.length = w ∧ Bd 22000 r := by
  intro r hr
  obtain ⟨x, hx, rfl⟩ := List.mem_map.mp hr
  refine ⟨by rw [List.length_map, ok.wl x hx], fun n hn => ?_⟩
  obtain ⟨q, hq, rfl⟩ := List.mem_map.mp hn
  rw [Int.natAbs_mul]
  have h1 := (ok.q x hx q hq).1
  have h2 : ((lcmOf A : Int) / (q.den : Int)).natAbs < 2 ^ 13000 := Nat.lt_of_le_of_lt (natAbs_div_le _ _) (by rw [Int.natAbs_natCast]; exact ok.l)
  rw [show 22000 = 9000 + 13000 from rfl, Nat.pow_add]
  exact Nat.mul_lt_mul'' h1 h2
theorem Bd.mono {b b' : Nat} {r : List Int} (h : Bd b r) (l : b ≤ b') : Bd b' r := fun n hn => Nat.lt_of_lt_of_le (h n hn) (Nat.pow_le_pow_right (by decide) l)
theorem bareT_wide {A : List (List Rat)} {w : Nat} (ok : Tab A w) : wideOf (bareT A) = w := by
  have hp := ok.p
  cases A with
  | nil => exact absurd hp (by decide)
  | cons r rs => exact ((bareT_bd ok) _ (List.mem_cons_self)).1
theorem ok_prod {f : Addr} {fd : FuncData} (Fd : FnS S "product_of" sProd f fd) (hm : S.mg "product_of" = some (.ref f)) (D1 : Dn S CR CH "bare_table" ["table"] 2 (pureR rBareTable)) (D2 : Dn S CR CH "over_bottom" ["rows", "bottom"] 5 (pureR rOverB)) (D3 : Dn S CR CH "int_product" ["rows", "others"] 1 (pureR rIntProd)) : Dn S CR CH "product_of" ["table", "other"] 6 (pureR rProd) := by
  refine Dn.pure Fd hm scProd (fun ts t h => ?_) (fun _ _ _ _ _ _ us hl => match us, hl with | [_, _], _ => rfl) ?_
  · obtain ⟨_, _, _, _, rfl, _⟩ := h; rfl
  · rintro p0 h0 cdv A outer s H E c ts t F ⟨A, B, v, w, rfl, rfl, oA, oB, hl⟩
    have lA := oA.l
    have lB := oB.l
    refine .rt (b_cons (s_asg F (e_call F D1 (a_cons (e_var F 0) a_nil) ⟨rfl, A, v, rfl, rfl, oA⟩) (g_tup2 F (g_name F 2) (g_name F 3)) own_set2)
      (b_cons (s_asg F (e_call F D1 (a_cons (e_var F 1) a_nil) ⟨rfl, B, w, rfl, rfl, oB⟩) (g_tup2 F (g_name F 4) (g_name F 5)) own_set2)
      (b_one (s_ret (e_call F D2 (a_cons (e_call F D3 (a_cons (e_var F 3) (a_cons (e_var F 5) a_nil)) ⟨rfl, bareT A, bareT B, rfl, rfl, ?_, ?_, ?_, ?_, ?_⟩) (a_cons (EJ.to (e_mul (e_var F 2) (e_var F 4) (mulW (a := 13000) (b := 13000) (by simpa using lA) (by simpa using lB))) (t' := .int ((lcmOf A * lcmOf B : Nat) : Int)) (by simp)) a_nil)) ⟨rfl, mulI (bareT A) (bareT B), lcmOf A * lcmOf B, rfl, rfl, ?_, hl, ?_, ?_⟩)))))
    · have := oA.n; simpa [bareT] using this
    · intro r hr
      obtain ⟨h1, h2⟩ := bareT_bd oA r hr
      exact ⟨by have := oA.ww; omega, h2.mono (by decide)⟩
    · have := oB.n; simpa [bareT] using this
    · rw [bareT_wide oB]; exact oB.ww
    · intro r hr
      obtain ⟨h1, h2⟩ := bareT_bd oB r hr
      exact ⟨by rw [bareT_wide oB]; exact h1, h2.mono (by decide)⟩
    · exact Nat.mul_pos (lcmDen_pos _) (lcmDen_pos _)
    · have := oA.n; simpa [mulI, bareT] using this
    · intro r hr
      obtain ⟨x, hx, rfl⟩ := List.mem_map.mp hr
      have := oB.ww
      rw [List.length_map, List.length_range, bareT_wide oB]
      exact this
theorem ok_about {f : Addr} {fd : FuncData} (Fd : FnS S "about_of" sAbout f fd) (hm : S.mg "about_of" = some (.ref f)) (g : MG S) : Dn S CR CH "about_of" ["table"] 1 (pureR rAbout) := by
  refine Dn.pure Fd hm scAbout (fun ts t h => ?_) (fun _ _ _ _ _ _ us hl => match us, hl with | [_], _ => rfl) ?_
  · obtain ⟨_, rfl, _⟩ := h; rfl
  · rintro p0 h0 cdv A outer s H E c ts t F ⟨A, rfl, rfl, ha, hA⟩
    refine .rt (b_one (s_ret (EJ.to (e_comp F (c_name F (k := 1) (f := fun p : Nat => tR (A.map fun r => r.getD p 0)) (i_rangeN F g.range_ (e_len F g.len_ (e_var F 0) rfl) (by rw [List.length_map]; omega)) (sz1000 (by simp; omega)) (fun p hp => EJ.to (e_comp (F.blk _) (c_name (F.blk _) (k := 2) (f := fun r : List Rat => T.rat (r.getD p 0)) (i_lst (F.blk _) (e_var (F.blk _) 0)) (sz1000 (by omega)) (fun r hr => e_ixL ((F.blk _).blk _) (e_var ((F.blk _).blk _) 2) (e_var ((F.blk _).blk _) 1) (atI_map ?_)))) (by rw [tR, List.map_map]; rfl)))) ?_)))
    · have hp' : p < A.length := by simpa using hp
      have : p < r.length := by rw [hA r hr]; exact hp'
      simp [List.getD, this]
    · rw [List.length_map, tRR, List.map_map]; rfl
theorem ok_ledBy {f : Addr} {fd : FuncData} (Fd : FnS S "led_by" sLedBy f fd) (hm : S.mg "led_by" = some (.ref f)) (D : Dn S CR CH "product_of" ["table", "other"] 6 (pureR rProd)) : Dn S CR CH "led_by" ["row", "table"] 7 (pureR rLedBy) := by
  refine Dn.pure Fd hm scLedBy (fun ts t h => ?_) (fun _ _ _ _ _ _ us hl => match us, hl with | [_, _], _ => rfl) ?_
  · obtain ⟨_, _, _, rfl, _⟩ := h; rfl
  · rintro p0 h0 cdv A outer s H E c ts t F ⟨r, B, w, rfl, rfl, o1, o2, hl⟩
    exact .rt (b_one (s_ret (e_ixL F (e_call F D (a_cons (e_lst (a_cons (e_var F 0) a_nil)) (a_cons (e_var F 1) a_nil)) ⟨rfl, [r], B, _, w, rfl, rfl, o1, o2, hl⟩) e_int (atI_pos (p := 0) (by simp [prodT, mulI, bareT])))))
end
end TW
set_option Elab.async false
set_option linter.all false
set_option maxRecDepth 100000
set_option maxHeartbeats 4000000
set_option exponentiation.threshold 100000
/-! W5: letters_in, House.__init__, want_house. -/
namespace TW
open PySem L2
abbrev sLettersIn : Stmt := top 52
theorem scLettersIn : FnScope ["value", "found", "table"] ["value"] (defScope sLettersIn) := ⟨rfl, rfl, rfl, by decide +kernel, rfl, by decide +kernel, by decide +kernel⟩
abbrev sHInit : Stmt := inClass (top 53) 0
theorem scHInit : FnScope ["self", "letters", "found"] ["self", "letters"] (defScope sHInit) := ⟨rfl, rfl, rfl, by decide +kernel, rfl, by decide +kernel, by decide +kernel⟩
abbrev sWantHouse : Stmt := top 54
theorem scWantHouse : FnScope ["value"] ["value"] (defScope sWantHouse) := ⟨rfl, rfl, rfl, by decide +kernel, rfl, by decide +kernel, by decide +kernel⟩
abbrev tRRR (xs : List (List (List Rat))) : T := .lst (xs.map tRR)
structure LOk (gs : List GTab) (n : Nat) : Prop where
  a : 1 ≤ gs.length
  b : gs.length ≤ 3
  s : ∀ g ∈ gs, g.Sq n
  n1 : 1 ≤ n
  n4 : n ≤ 4
def rLettersIn : List T → T → Prop := fun ts t => ∃ (gs : List GTab) (n : Nat), ts = [.lst (gs.map GTab.t)] ∧ t = tRRR (gs.map GTab.q) ∧ LOk gs n
def rWantHouse : List T → T → Prop := fun ts t => ∃ (ls : T) (w : Int), ts = [.house ls w] ∧ t = .house ls w
section
variable {S : Stat} {CR CH : Addr}
theorem ok_lettersIn {f : Addr} {fd : FuncData} (Fd : FnS S "letters_in" sLettersIn f fd) (hm : S.mg "letters_in" = some (.ref f)) (g : MG S) (hM : ∃ t, S.mg "MOST_LETTERS" = some (.int 3 t)) (D1 : Dn S CR CH "is_list" ["value"] 1 (pureR rIsList)) (D2 : Dn S CR CH "table_in" ["value"] 6 (pureR rTableIn)) : Dn S CR CH "letters_in" ["value"] 7 (pureR rLettersIn) := by
  refine Dn.pure Fd hm scLettersIn (fun ts t h => ?_) (fun _ _ _ _ _ _ us hl => match us, hl with | [_], _ => rfl) ?_
  · obtain ⟨_, _, rfl, _⟩ := h; rfl
  · rintro p0 h0 cdv A outer s H E c ts t F ⟨gs, k, rfl, rfl, ok⟩
    have oa := ok.a
    have ob := ok.b
    have h0 : gs[0]? = some (gs.headD ⟨false, []⟩) := by cases gs with
      | nil => exact absurd oa (by decide)
      | cons r rs => rfl
    have hq0 : (gs.headD ⟨false, []⟩).q.length = k := by
      have := (ok.s _ (List.mem_of_getElem? h0)).1
      simpa [GTab.q] using this
    refine .rt (b_cons (s_ifF (WJ.t (w_orF (t_not (t_val (e_call F D1 (a_cons (e_var F 0) a_nil) ⟨rfl, _, true, rfl, rfl, rfl⟩))) (w_or1 (t_not (k := true) (t_chainLeLe e_int (e_len F g.len_ (e_var F 0) rfl) (e_globI F hM) ?_))))) b_nil)
      (b_cons (s_set F 1 (EJ.to (e_comp F (c_name F (k := 2) (f := fun g : GTab => tRR g.q) (i_lst F (e_var F 0)) (sz1000 (by omega)) (fun g' hg => e_call (F.blk _) D2 (a_cons (e_var (F.blk _) 2) a_nil) ⟨rfl, g', k, rfl, rfl, ok.s g' hg, ok.n1, ok.n4⟩))) (t' := tRRR (gs.map GTab.q)) ?_))
      (b_cons (s_ifF (t_val (EJ.to (e_any F g.any_ (ns := (gs.map GTab.q).map fun _ => false) (EJ.to (e_comp F (c_name F (k := 2) (f := fun _ => T.bl false) (i_lst F (e_var F 1)) (sz1000 (by simp; omega)) (fun q hq => EJ.to (e_isN (e_var (F.blk _) 2) e_non) rfl))) ?_)) (t' := .bl false) ?_)) b_nil)
      (b_one (s_ret (e_ifT (t_val (EJ.to (e_all F g.all_ (ns := (gs.map GTab.q).map fun _ => true) (EJ.to (e_comp F (c_name F (k := 2) (f := fun _ => T.bl true) (i_lst F (e_var F 1)) (sz1000 (by simp; omega)) (fun q hq => EJ.to (e_eqI (e_len (F.blk _) g.len_ (e_var (F.blk _) 2) rfl) (e_len (F.blk _) g.len_ (e_ixL (F.blk _) (e_var (F.blk _) 1) e_int (atI_pos (p := 0) (x := tRR (gs.headD ⟨false, []⟩).q) ?_)) rfl)) ?_))) ?_)) ?_)) (e_var F 1)))))))
    · rw [List.length_map]; simp; omega
    · rw [tRRR, List.map_map]; rfl
    · simp only [List.map_map, Function.comp_def]
    · congr 1; simp
    · rw [List.getElem?_map, List.getElem?_map, h0]; rfl
    · obtain ⟨g', hg, rfl⟩ := List.mem_map.mp hq
      have := (ok.s g' hg).1
      rw [List.length_map, List.length_map, hq0]
      simp [GTab.q, this]
    · simp only [List.map_map, Function.comp_def]
    · congr 1; simp
theorem ok_wantHouse {f : Addr} {fd : FuncData} (Fd : FnS S "want_house" sWantHouse f fd) (hm : S.mg "want_house" = some (.ref f)) (g : MG S) (kf : KF S CR CH) : Dn S CR CH "want_house" ["value"] 1 (pureR rWantHouse) := by
  refine Dn.pure Fd hm scWantHouse (fun ts t h => ?_) (fun _ _ _ _ _ _ us hl => match us, hl with | [_], _ => rfl) ?_
  · obtain ⟨_, _, rfl, _⟩ := h; rfl
  · rintro p0 h0 cdv A outer s H E c ts t F ⟨ls, w, rfl, rfl⟩
    exact .rt (b_cons (s_ifF (t_not (t_val (e_isiOwn F kf g.isi (e_var F 0) kf.gH rfl kf.kHH))) b_nil) (b_one (s_ret (e_var F 0))))
end
/-! ### making a House -/
def spHI (CR CH : Addr) : Sp := fun vs H Q _ => ∃ (p0 : Option Addr) (h0 : Hp) (B : Hp) (c : Pot) (x dx : Addr) (v : V) (gs : List GTab) (n : Nat), vs = [.ref x, v] ∧ H x = some (.ins CH dx []) ∧ B x = none ∧ p0 ≠ some x ∧
  Sit ⟨CR, CH, p0, h0⟩ c B H ∧ Rep ⟨CR, CH, p0, h0⟩ (.lst (gs.map GTab.t)) v B ∧ LOk gs n ∧
  ∀ B' H' l, Sit ⟨CR, CH, p0, h0⟩ c B' H' → Same B B' → (∀ a o, H a = some o → a ≠ x → p0 ≠ some a → H' a = some o) → (∀ a, B' a ≠ none → B a ≠ none ∨ H a = none) → (∀ a, H a ≠ none → H' a ≠ none) → H' x = some (.ins CH dx (hF l n)) →
    Rep ⟨CR, CH, p0, h0⟩ (tRRR (gs.map GTab.q)) l B' → B' x = none → Q .non H'
structure Hm (S : Stat) (CR CH : Addr) : Prop where
  ex : ∃ f fd, PySem.W.findIn S.K (.ref CH) "__init__" = some (some (.ref f)) ∧ Mk S.K CH f ∧ FnOk S.P S.w S.K S.mg S.base CX0 8 f fd ["self", "letters"] (spHI CR CH) ∧ Binds S.K fd ["self", "letters"] []
theorem RepE.free {m : Pm} {e : TEnv} {σ : L2.St} {B H H' : Hp} (r : RepE m e σ B H) (no : ∀ (i : Nat) (ts : List T), e[i]? ≠ some (Sl.own ts)) : RepE m e σ B H' :=
  ⟨r.len, r.val, fun i ts h => absurd h (no i ts), r.raw, fun i j ts us a _ h => absurd h (no i ts)⟩
/-- an object outside B is changed -/
theorem Sit.out {m : Pm} {c : Pot} {B H : Hp} {x : Addr} {o : HO} (s : Sit m c B H) (hB : B x = none) (hp : m.p0 ≠ some x) : Sit m c B (upd H x o) :=
  ⟨fun a u e => by rw [upd_ne (ne_of_none e hB)]; exact s.sub a u e, fun a ha => dom_upd (s.old a ha), fun p hq => by
    have z : p ≠ x := fun z => hp (by rw [← z]; exact hq)
    rw [upd_ne z]; exact s.pot p hq⟩
section
variable {S : Stat} {CR CH : Addr}
theorem ok_hinit {f : Addr} {fd : FuncData} (Fd : FunD S.K "__init__" "House.__init__" (defArgs sHInit) (defBody sHInit) (defScope sHInit) [] [] f fd) (g : MG S) (kf : KF S CR CH) (D : Dn S CR CH "letters_in" ["value"] 7 (pureR rLettersIn)) :
    FnOk S.P S.w S.K S.mg S.base CX0 8 f fd ["self", "letters"] (spHI CR CH) := by
  refine Fd.ok scHInit (fun vs H Q E h => ?_) (fun cdv A outer s H vs Q E hr h => ?_)
  · obtain ⟨p0, h0, B, c, x, dx, v, gs, n, rfl, _⟩ := h
    rfl
  · obtain ⟨p0, h0, B, c, x, dx, v, gs, n, rfl, hx, hBx, hpx, sit, rv, ok, k⟩ := h
    have F : Fam S ["self", "letters", "found"] 7 (dcx S ["self", "letters", "found"] "House.__init__" sHInit f cdv A outer s H E) :=
      ⟨fun _ => rfl, fun _ => rfl, fun _ => rfl, fun _ => rfl, fun _ => rfl, fun _ => rfl, scHInit.nd, fun _ => rfl, fun _ => hr⟩
    let XX := dcx S ["self", "letters", "found"] "House.__init__" sHInit f cdv A outer s H E
    let m : Pm := ⟨CR, CH, p0, h0⟩
    have oa := ok.a
    have h0q : (gs.map GTab.q)[0]? = some ((gs.headD ⟨false, []⟩).q) := by cases gs with
      | nil => exact absurd oa (by decide)
      | cons r rs => rfl
    have hq0 : (gs.headD ⟨false, []⟩).q.length = n := by
      cases gs with
      | nil => exact absurd oa (by decide)
      | cons r rs =>
        have := (ok.s r List.mem_cons_self).1
        simpa [GTab.q] using this
    let W : Hp → Hp → Ends → Prop := fun B0 H0 D => H0 x = some (.ins CH dx []) ∧ B0 x = none ∧ ∀ σ B' H' l, Sit m c B' H' → Same B0 B' → (∀ a o, H0 a = some o → a ≠ x → p0 ≠ some a → H' a = some o) → (∀ a, B' a ≠ none → B0 a ≠ none ∨ H0 a = none) → (∀ a, H0 a ≠ none → H' a ≠ none) → H' x = some (.ins CH dx (hF l n)) → Rep m (tRRR (gs.map GTab.q)) l B' → B' x = none → D.nx σ H'
    have body : BJ m XX (defBody sHInit) [Sl.raw (.ref x), Sl.val (.lst (gs.map GTab.t)), Sl.un] c (.raw W) := by
      refine b_cons (s_set F 2 (e_call F D (a_cons (e_var F 1) a_nil) ⟨rfl, gs, n, rfl, rfl, ok⟩))
        (b_cons (s_ifF (t_isN (e_var F 2) e_non rfl) b_nil) ?_)
      refine BJ.of (XX := XX) (ts := tSeq (sFld S.K (tVar 0) (rdE XX _) "own_letters") (sFld S.K (tVar 0) (rdE XX _) "own_width")) (fun i => pss_cons (ps_fld (pv 0) (pe_rd (XX := XX) i) rfl) (pss_one (ps_fld (pv 0) (pe_rd (XX := XX) i) rfl))) ?_
      intro B0 H0 σ B1 H1 an D q
      obtain ⟨q0, q1, q⟩ := q
      refine (e_var F 2 : EJ m XX _ [Sl.raw (.ref x), Sl.val (.lst (gs.map GTab.t)), Sl.val (tRRR (gs.map GTab.q))] c (tRRR (gs.map GTab.q)) c) σ B1 H1 an.sit an.env _ fun l B2 H2 s2 t2 rl => ?_
      have a2 := an.step s2 t2
      have hx2 : H2 x = some (.ins CH dx []) := a2.stp.h x _ q0 hpx
      have hB2 : B2 x = none := by
        cases z : B2 x with
        | none => rfl
        | some o =>
          rcases a2.stp.n x (by rw [z]; exact fun y => nomatch y) with y | y
          · exact absurd q1 y
          · rw [q0] at y; cases y
      refine ⟨_, a2.env.raw 0 _ rfl, x, CH, dx, [], rfl, hx2, kf.clH, kf.nL, by show 0 < 1000; decide, ?_⟩
      have s3 : Sit m c B2 (upd H2 x (.ins CH dx (putF "own_letters" l []))) := s2.out hB2 hpx
      have no : ∀ (i : Nat) (ts : List T), ([Sl.raw (.ref x), Sl.val (.lst (gs.map GTab.t)), Sl.val (tRRR (gs.map GTab.q))] : TEnv)[i]? ≠ some (Sl.own ts) := fun i ts h => by
        match i, h with
        | 0, h => cases h
        | 1, h => cases h
        | 2, h => cases h
      refine (EJ.to (e_len F g.len_ (e_ixL F (e_var F 2) e_int (atI_pos (p := 0) (x := tRR (gs.headD ⟨false, []⟩).q) (by rw [List.getElem?_map, h0q]; rfl))) rfl) (t' := .int (n : Nat)) (by rw [List.length_map, hq0]) : EJ m XX _ [Sl.raw (.ref x), Sl.val (.lst (gs.map GTab.t)), Sl.val (tRRR (gs.map GTab.q))] c (.int (n : Nat)) c) σ B2 _ s3 (a2.env.free no) _ fun w B4 H4 s4 t4 rw_ => ?_
      rw [rep_int] at rw_
      subst rw_
      have hx4 : H4 x = some (.ins CH dx (putF "own_letters" l [])) := t4.h x _ upd_same hpx
      have hB4 : B4 x = none := by
        cases z : B4 x with
        | none => rfl
        | some o =>
          rcases t4.n x (by rw [z]; exact fun y => nomatch y) with y | y
          · exact absurd hB2 y
          · rw [upd_same] at y; cases y
      refine ⟨_, a2.env.raw 0 _ rfl, x, CH, dx, _, rfl, hx4, kf.clH, kf.nW, by show 1 < 1000; decide, ?_⟩
      refine q _ B4 _ l (s4.out hB4 hpx) (a2.stp.b.trans t4.b) (fun a o e ne np => ?_) (fun a ha => ?_) (fun a ha => ?_) ?_ (rl.mono t4.b) hB4
      · rw [upd_ne ne]
        refine t4.h a o ?_ np
        rw [upd_ne ne]
        exact a2.stp.h a o e np
      · rcases t4.n a ha with y | y
        · exact a2.stp.n a y
        · refine .inr ?_
          have ne : a ≠ x := fun z => by subst z; rw [upd_same] at y; cases y
          rw [upd_ne ne] at y
          cases z : H0 a with
          | none => rfl
          | some o => exact absurd y (a2.stp.d a (by rw [z]; exact fun y => nomatch y))
      · by_cases z : a = x
        · subst z; rw [upd_same]; exact fun y => nomatch y
        · rw [upd_ne z]
          refine t4.d a ?_
          rw [upd_ne z]
          exact a2.stp.d a ha
      · rw [upd_same]
        rfl
    refine ⟨rdB XX (defBody sHInit), PSs.nox (pb_rd (XX := XX) ()), ?_⟩
    refine body B H _ B H ⟨sit, ⟨rfl, fun i t' h => ?_, fun i ts' h => ?_, fun i v h => ?_, fun i j ts us a _ h => ?_⟩, Stp.refl _ _ _, fun i ts a h => ?_⟩ _ ⟨hx, hBx, fun σ B' H' l => k B' H' l⟩
    · match i, h with
      | 1, h => cases h; exact ⟨_, rfl, rv⟩
      | k + 3, h => simp at h
    · match i, h with
      | 0, h => cases h
      | 1, h => cases h
      | 2, h => cases h
    · match i, h with
      | 0, h => cases h; rfl
      | 1, h => cases h
      | 2, h => cases h
      | k + 3, h => simp at h
    · match i, h with
      | 0, h => cases h
      | 1, h => cases h
      | 2, h => cases h
    · match i, h with
      | 0, h => cases h
      | 1, h => cases h
      | 2, h => cases h
end
section
variable {S : Stat} {N : List Str} {n : Nat} {ι : Type} {XX : ι → Cx} {m : Pm} {env : TEnv} {c c1 c2 c3 : Pot}
theorem e_house (F : Fam S N n XX) (kf : KF S m.CR m.CH) (M : Hm S m.CR m.CH) {a : Expr} {p pos : Pos} {gs : List GTab} {k : Nat} (ha : EJ m XX a env c (.lst (gs.map GTab.t)) c1) (ok : LOk gs k) (hk : 9 ≤ n := by decide)
    (hg : ∀ i, Gl (XX i) "House" := by intro _; rfl) (hs : ∀ i, starEach [a] (XX i).env = [(false, eval a (XX i).env)] := by intro _; rfl) : EJ m XX (.Call (.Name "House" p) [a] [] pos) env c (.house (tRRR (gs.map GTab.q)) (k : Nat)) c1 := by
  obtain ⟨f, fd, hf, mk, G, hb⟩ := M.ex
  refine EJ.of (te := tMake m.CH (spHI m.CR m.CH) [] E0 (rdA XX [a])) (fun i => pe_make (by rw [F.k i]; exact mk) (F.fn G i) ((F.room i).mono hk) (hg i) (by rw [F.mg i]; exact kf.gH) (by rw [F.k i]; exact hb) .nil pass0 (pa_rd i) (by decide) (hs i) (by rfl)) ?_
  intro σ B H s r Q q
  refine a_cons ha a_nil hs σ B H s r _ fun vs B1 H1 s1 t1 rvs => ?_
  obtain ⟨v, vr, rfl, rv, rn⟩ := repL_cons.mp rvs
  rw [repL_nil] at rn
  subst rn
  intro x dx hx hdx hne
  have hBx : B1 x = none := s1.sub.free hx
  have hBd : B1 dx = none := s1.sub.free hdx
  have hp0 : m.p0 ≠ some x := fun z => by
    have := (s1.pot x z).2
    rw [hx] at this
    cases this
  have hp1 : m.p0 ≠ some dx := fun z => by
    have := (s1.pot dx z).2
    rw [hdx] at this
    cases this
  refine ⟨m.p0, m.h0, B1, c1, x, dx, v, gs, k, rfl, upd_same, hBx, hp0, (s1.out hBd hp1).out hBx hp0, rv, ok, fun B' H' l s' sb h1 h2 h3 h4 rl hB' => ?_⟩
  have st0 : Stp m B1 H1 B' H' := ⟨sb, fun a o e np => h1 a o (by rw [upd_ne (ne_of_none e hx), upd_ne (ne_of_none e hdx)]; exact e) (ne_of_none e hx) np, (fun a ha => by
    rcases h2 a ha with y | y
    · exact .inl y
    · refine .inr ?_
      cases z : H1 a with
      | none => rfl
      | some o =>
        rw [upd_ne (ne_of_none z hx), upd_ne (ne_of_none z hdx), z] at y
        exact nomatch y), fun a ha => h3 a (dom_upd (dom_upd ha))⟩
  have sm : Same B' (upd B' x (.ins m.CH dx (hF l k))) := fun a u e => by rw [upd_ne (ne_of_none e hB')]; exact e
  exact ⟨rfl, q (.ref x) _ H' (s'.frz hB' h4 hp0) (t1.trans (st0.frz hx hB')) (rep_house.mpr ⟨x, dx, l, rfl, upd_same, rl.mono sm⟩)⟩
end
end TW
set_option Elab.async false
set_option linter.all false
set_option maxRecDepth 100000
set_option maxHeartbeats 4000000
/-! O1: != of lists by an own __eq__ of their items. -/
namespace TWG
open PySem PySem.SeqAt
open AutoSeq1 (wpAny_loadPart')
open MeetsSeq MeetsSeq2 MeetsSeq3 SeqRoads2
section
variable {prog : Program} {w : World} {A : Around} {R : Result → Shared → Prop}
theorem ne_loopG (l b : Addr) (N : Nat) (I : Nat → Shared → Prop) (hl : GQ.ListI prog w A (fun e s' => R (.error e) s') l b N I)
    (fin : ∀ s, I N s → R (.ok (.ret (.bool false))) s) (k : Nat) :
    ∀ i : Nat, N - i = k → i ≤ N → ∀ s, I i s →
      wpAny (model prog w) A.in1 (Builtin.«list.__eq__.loop» ⟨[.ref l, .ref b, rawInt i, rawInt 3], []⟩) (GQ.FinOf prog w A R) (fun e s' => R (.error e) s') s := by
  induction k with
  | zero =>
    intro i hk hi s h
    obtain ⟨items, items2, n, n2, hl1, hb1, hs1, hs2, _⟩ := hl _ _ h
    have hi' : i = N := by omega
    have hR : R (.ok (.ret (.bool false))) s := fin s (hi' ▸ h)
    obtain ⟨hp, g, d, tk, os⟩ := s
    wp_walk using wpAny_loadPart' hl1, wpAny_loadPart' hb1
    have hi1 : items[((i : Nat) : Int).toNat]? = none := by simp; omega
    have hi2 : items2[((i : Nat) : Int).toNat]? = none := by simp; omega
    rw [hi1, hi2]
    wp_walk using wpAny_loadPart' hl1, wpAny_loadPart' hb1
    show R (.ok (.ret (.bool (items.size != items2.size)))) _
    rw [hs1, hs2]
    simpa using hR
  | succ k ih =>
    intro i hk hi s h
    obtain ⟨items, items2, n, n2, hl1, hb1, hs1, hs2, turn⟩ := hl _ _ h
    have hlt : i < items.size := by omega
    have hlt2 : i < items2.size := by omega
    have ht := turn hlt hlt2
    obtain ⟨hp, g, d, tk, os⟩ := s
    wp_walk using wpAny_loadPart' hl1, wpAny_loadPart' hb1
    have hi1 : items[((i : Nat) : Int).toNat]? = some items[i] := by simp [hlt]
    have hi2 : items2[((i : Nat) : Int).toNat]? = some items2[i] := by simp [hlt2]
    have hc : ((i : Int) + 1) = ((i + 1 : Nat) : Int) := by omega
    rw [hi1, hi2]
    refine wpAny_bind (wpAny_mono ht (fun r s2 h2 => ?_) fun _ _ x => x)
    obtain ⟨hr, h2⟩ := h2
    subst hr
    have hrec := ih (i + 1) (by omega) (by omega) s2 h2
    obtain ⟨hp2, g2, d2, tk2, os2⟩ := s2
    wp_walk
    rw [hc]
    exact ⟨plainId_quiet plain_eq_loop _, codeAny_builtin entry_eq_loop (by
      rw [Around.under_plainId plain_eq_loop _]
      exact hrec)⟩
theorem list_neG (l b : Addr) (N : Nat) (I : Nat → Shared → Prop) (hl : GQ.ListI prog w A (fun e s' => R (.error e) s') l b N I)
    (fin : ∀ s, I N s → R (.ok (.ret (.bool false))) s) {s : Shared} (h : I 0 s) :
    wpAny (model prog w) A.in1 (Builtin.«list.__ne__» ⟨[.ref l, .ref b], []⟩) (GQ.FinOf prog w A R) (fun e s' => R (.error e) s') s := by
  obtain ⟨items, items2, n, n2, hl1, hb1, hs1, hs2, _⟩ := hl _ _ h
  have hrec := ne_loopG (A := A) (R := R) l b N I hl fin _ 0 rfl (Nat.zero_le _) s h
  obtain ⟨hp, g, d, tk, os⟩ := s
  have f3 := AutoSeq1.sub_list_list
  have hne : ¬ (items.size != items2.size) = true := by simp [hs1, hs2]
  wp_walk using wpAny_loadPart' hl1, wpAny_loadPart' hb1
  exact ⟨plainId_quiet plain_eq_loop _, codeAny_builtin entry_eq_loop (by
    rw [Around.under_plainId plain_eq_loop _]
    exact hrec)⟩
end
section
variable {prog : Program} {w : World} {A : Around} {E : Value → Shared → Prop} {s : Shared}
theorem rn_listG {l b : Addr} {N : Nat} {Q : Value → Shared → Prop} (hu : A.units < cLine) (I : Nat → Shared → Prop) (hl : GQ.ListI prog w A E l b N I)
    (fin : ∀ s, I N s → Q (.bool false) s) (h : I 0 s) : wpAny (model prog w) A (richCompare .NotEq (.ref l) (.ref b)) Q E s := by
  obtain ⟨items, items2, n, n2, hl1, hb1, _, _, _⟩ := hl _ _ h
  refine wpAny_richCompare_same_room (op := .NotEq) ⟨_, hl1, rfl⟩ ⟨_, hb1, rfl⟩ F.slot_list_ne (GQ.call_here F.slot_list_ne ⟨_, hl1, rfl⟩ F.entry_list_ne (F.args_list_ne_2 _ _) ?_) hu
  exact list_neG (R := wants (fun v s' => v ≠ .notImplemented ∧ Q v s') E) l b N I hl (fun s' q => ⟨(fun x => nomatch x), fin s' q⟩) h
theorem rn_listLen {l b : Addr} {items items2 : Array Value} {n n2 : Nat} {Q : Value → Shared → Prop} (hu : A.units < cLine) (hl1 : s.heap.get? l = some { cls := .type "list", data := .seq items n }) (hb1 : s.heap.get? b = some { cls := .type "list", data := .seq items2 n2 })
    (hd : (items.size != items2.size) = true) (h : Q (.bool true) s) : wpAny (model prog w) A (richCompare .NotEq (.ref l) (.ref b)) Q E s := by
  refine wpAny_richCompare_same_room (op := .NotEq) ⟨_, hl1, rfl⟩ ⟨_, hb1, rfl⟩ F.slot_list_ne (call_meets F.slot_list_ne ⟨_, hl1, rfl⟩ F.entry_list_ne (F.args_list_ne_2 _ _) (list_ne_lengthsAt l b items items2 n n2 none none #[] #[] hd) ⟨hl1, hb1, (fun x => nomatch x), h⟩) hu
end
end TWG
namespace TW
open PySem L2 PySem.Spec PyProof.Rows
section
variable {X : Cx} {n : Nat} {D : Eqv}
def rNeG (D : Eqv) : R2 := fun x y H Q => DList D x y H ∧ ∀ H', Ext H H' → Q (.bl false) H'
theorem op_neG (hD : Mon D) (h : EqG X n D) (hr : Room (n + 1) X.A) : OpR X (compareOp .NotEq) (rNeG D) := by
  intro pins s σ H x y v u Q I rx ry hq
  obtain ⟨⟨a, b, xs, ys, rfl, rfl, ha, hb, p⟩, q⟩ := hq
  cases rx
  cases ry
  show wpAny (model X.prog X.w) X.A (richCompare .NotEq (.ref a) (.ref b)) (EP X pins σ Q) X.xe s
  have sb : Sub X (n + 1) X.A := ⟨hr, rfl⟩
  refine TWG.rn_listG (N := xs.length) sb.room.units0 (fun _ s' => LoopI X pins σ H s') (fun i s' q => ?_) (fun s' q' => ?_) ⟨H, I, Ext.rfl'⟩
  · obtain ⟨H1, I1, e1⟩ := id q
    obtain ⟨z, its, k, r, e⟩ := I1.hok a _ (e1 _ _ ha)
    obtain ⟨z2, its2, k2, r2, e2⟩ := I1.hok b _ (e1 _ _ hb)
    refine ⟨its.toArray, its2.toArray, k, k2, e, e2, by rw [List.size_toArray, ← r.length], by rw [List.size_toArray, ← r2.length, ← p.1], fun h1 h2 => ?_⟩
    exact turnG hD h sb p r r2 i h1 h2 s' q
  · obtain ⟨H', I', e⟩ := q'
    exact ⟨.bl false, H', I', rfl, q H' e⟩
def rNeLen : R2 := fun x y H Q => ∃ a b xs ys, x = .ref a ∧ y = .ref b ∧ H a = some (.lst xs) ∧ H b = some (.lst ys) ∧ xs.length ≠ ys.length ∧ Q (.bl true) H
theorem op_neLen (hr : Room 1 X.A) : OpR X (compareOp .NotEq) rNeLen := by
  intro pins s σ H x y v u Q I rx ry hq
  obtain ⟨a, b, xs, ys, rfl, rfl, ha, hb, hne, q⟩ := hq
  cases rx
  cases ry
  show wpAny (model X.prog X.w) X.A (richCompare .NotEq (.ref a) (.ref b)) (EP X pins σ Q) X.xe s
  obtain ⟨z, its, k, r, e⟩ := I.hok a _ ha
  obtain ⟨z2, its2, k2, r2, e2⟩ := I.hok b _ hb
  refine TWG.rn_listLen hr.units0 e e2 ?_ ⟨.bl true, H, I, rfl, q⟩
  rw [List.size_toArray, List.size_toArray, ← r.length, ← r2.length]
  simpa using hne
end
section
variable {S : Stat} {N : List Str} {n : Nat} {ι : Type} {XX : ι → Cx} {m : Pm} {env : TEnv} {c c1 c2 c3 : Pot}
/-- the same worth in two Ratios -/
def RqE (CR : Addr) (a b : Addr) (H : Hp) : Prop := ∃ q dx dy, H a = some (.ins CR dx (rF q)) ∧ H b = some (.ins CR dy (rF q))
def DRat (CR : Addr) : Eqv := DIns CR (RqE CR)
theorem mon_rat {CR : Addr} : Mon (DRat CR) := mon_ins fun a b H H' e ⟨q, dx, dy, h1, h2⟩ => ⟨q, dx, dy, e _ _ h1, e _ _ h2⟩
theorem rep_DRat {q : Rat} {v w : V} {B H : Hp} (h1 : Rep m (.rat q) v B) (h2 : Rep m (.rat q) w B) (s : Same B H) : DRat m.CR v w H := by
  obtain ⟨a, dx, rfl, e1⟩ := rep_rat.mp h1
  obtain ⟨b, dy, rfl, e2⟩ := rep_rat.mp h2
  exact ⟨a, b, dx, dy, _, _, rfl, rfl, s _ _ e1, s _ _ e2, q, dx, dy, s _ _ e1, s _ _ e2⟩
theorem repL_Prs {α : Type} {f : α → T} {D : Eqv} {H B : Hp} (hD : ∀ x v w, Rep m (f x) v B → Rep m (f x) w B → D v w H) : ∀ {xs : List α} {vs ws : List V}, RepL m (xs.map f) vs B → RepL m (xs.map f) ws B → Prs D vs ws H
  | [], vs, ws, h1, h2 => by
    rw [List.map_nil, repL_nil] at h1 h2
    subst h1 h2
    exact Prs.nil
  | x :: xs, vs, ws, h1, h2 => by
    obtain ⟨v, r, rfl, a1, a2⟩ := repL_cons.mp h1
    obtain ⟨w, r', rfl, b1, b2⟩ := repL_cons.mp h2
    exact Prs.cons (hD x v w a1 b1) (repL_Prs hD a2 b2)
theorem rep_DList {α : Type} {f : α → T} {D : Eqv} {H B : Hp} (s : Same B H) (hD : ∀ x v w, Rep m (f x) v B → Rep m (f x) w B → D v w H) {xs : List α} {v w : V} (h1 : Rep m (.lst (xs.map f)) v B) (h2 : Rep m (.lst (xs.map f)) w B) : DList D v w H := by
  obtain ⟨a, vs, rfl, e1, r1⟩ := rep_lst.mp h1
  obtain ⟨b, ws, rfl, e2, r2⟩ := rep_lst.mp h2
  exact ⟨a, b, vs, ws, rfl, rfl, s _ _ e1, s _ _ e2, repL_Prs hD r1 r2⟩
theorem rep_DTab {A : List (List Rat)} {v w : V} {B H : Hp} (h1 : Rep m (tRR A) v B) (h2 : Rep m (tRR A) w B) (s : Same B H) : DList (DList (DRat m.CR)) v w H :=
  rep_DList s (fun _ _ _ a b => rep_DList s (fun _ _ _ a b => rep_DRat a b s) a b) h1 h2
theorem eqG_rat (F : Fam S N n XX) {k : Nat} (M : Me S m.CR m.CH m.CR "__eq__" ["self", "other"] k (pureR rEqq)) (i : ι) : EqG (XX i) k (DRat m.CR) := by
  obtain ⟨f, fd, G, hs, hf, hb⟩ := M.ex
  refine eqG_ins (F := ((F.fn G i).imp (sp' := spEq (RqE m.CR)) fun vs H Q E h => ?_)) (by rw [F.k i]; exact hs) (by rw [F.k i]; exact hf) (by rw [F.k i]; exact hb) (E := E0) pass0
  obtain ⟨a, b, rfl, ⟨q, dx, dy, h1, h2⟩, k⟩ := h
  refine ⟨none, fun _ => none, H, P0, _, _, P0, ⟨rfl, q, q, rfl, rfl⟩, ⟨fun _ _ e => e, fun _ z => absurd rfl z, fun _ z => (nomatch z)⟩, repL_cons.mpr ⟨_, _, rfl, rep_rat.mpr ⟨a, dx, rfl, h1⟩, repL_cons.mpr ⟨_, _, rfl, rep_rat.mpr ⟨b, dy, rfl, h2⟩, repL_nil.mpr rfl⟩⟩, fun v B' H' s' st rv => ?_⟩
  rw [rep_bl] at rv
  subst rv
  rw [decide_eq_true rfl]
  exact k H' fun a o e => st.h a o e (fun z => nomatch z)
theorem denR_ext {D : Eqv} {x y : T} {b : Bool} (h : ∀ v w B H, Rep m x v B → Rep m y w B → Same B H → D v w H) : DenR m (fun x y H Q => D x y H ∧ ∀ H', Ext H H' → Q (.bl b) H') x y (.bl b) := by
  intro c B H v w s hv hw Q q
  exact ⟨h v w B H hv hw s.sub, fun H' e => q _ B H' (s.same e) (Stp.same e) (rep_bl.mpr rfl)⟩
theorem e_eqTab (F : Fam S N n XX) {k : Nat} (M : Me S m.CR m.CH m.CR "__eq__" ["self", "other"] k (pureR rEqq)) {a b : Expr} {pos : Pos} {A : List (List Rat)} (ha : EJ m XX a env c (tRR A) c1) (hb : EJ m XX b env c1 (tRR A) c2) (hk : k + 2 ≤ n := by decide)
    (hm : behindInMarks .Eq b = false := by first | exact nomark _ | rfl) : EJ m XX (.Compare a [.Eq] [b] pos) env c (.bl true) c2 :=
  e_cmp (fun i => op_eqG (rcG_list (mon_list mon_rat) (eqG_list mon_rat (eqG_rat F M i))) ((F.room i).mono hk)) ha hb (denR_ext fun v w B H h1 h2 s => rep_DTab h1 h2 s) hm
theorem t_neTab (F : Fam S N n XX) {k : Nat} (M : Me S m.CR m.CH m.CR "__eq__" ["self", "other"] k (pureR rEqq)) {a b : Expr} {pos : Pos} {A : List (List Rat)} (ha : EJ m XX a env c (tRR A) c1) (hb : EJ m XX b env c1 (tRR A) c2) (hk : k + 2 ≤ n := by decide)
    (hm : behindInMarks .NotEq b = false := by first | exact nomark _ | rfl) : TJ m XX (.Compare a [.NotEq] [b] pos) env c false c2 :=
  t_cmp (fun i => op_neG (mon_list mon_rat) (eqG_list mon_rat (eqG_rat F M i)) ((F.room i).mono hk)) ha hb (denR_ext fun v w B H h1 h2 s => rep_DTab h1 h2 s) hm
/-- xs != [] -/
theorem t_neNilT (F : Fam S N n XX) {a b : Expr} {pos : Pos} {ts us : List T} (ha : EJ m XX a env c (.lst ts) c1) (hb : EJ m XX b env c1 (.lst us) c2) (hne : ts.length ≠ us.length) (hk : 1 ≤ n := by decide)
    (hm : behindInMarks .NotEq b = false := by first | exact nomark _ | rfl) : TJ m XX (.Compare a [.NotEq] [b] pos) env c true c2 :=
  t_cmp (fun i => op_neLen ((F.room i).mono hk)) ha hb (by
    intro c B H v w s hv hw Q q
    obtain ⟨a, vs, rfl, e1, r1⟩ := rep_lst.mp hv
    obtain ⟨b, ws, rfl, e2, r2⟩ := rep_lst.mp hw
    exact ⟨a, b, vs, ws, rfl, rfl, s.sub _ _ e1, s.sub _ _ e2, by rw [r1.length, r2.length]; exact hne, q _ B H s (Stp.refl m B H) (rep_bl.mpr rfl)⟩) hm
theorem t_neNilF (F : Fam S N n XX) {a b : Expr} {pos : Pos} (ha : EJ m XX a env c (.lst []) c1) (hb : EJ m XX b env c1 (.lst []) c2) (hk : 1 ≤ n := by decide)
    (hm : behindInMarks .NotEq b = false := by first | exact nomark _ | rfl) : TJ m XX (.Compare a [.NotEq] [b] pos) env c false c2 :=
  t_cmp (fun i => op_neG mon_flat (eqG_flat (X := XX i)) ((F.room i).mono hk)) ha hb (denR_ext fun v w B H h1 h2 s => by
    obtain ⟨a, vs, rfl, e1, r1⟩ := rep_lst.mp h1
    obtain ⟨b, ws, rfl, e2, r2⟩ := rep_lst.mp h2
    rw [repL_nil] at r1 r2
    subst r1 r2
    exact ⟨a, b, [], [], rfl, rfl, s _ _ e1, s _ _ e2, Prs.nil⟩) hm
end
end TW
set_option Elab.async false
set_option linter.all false
set_option maxRecDepth 100000
set_option maxHeartbeats 4000000
set_option exponentiation.threshold 100000
/-! W6: rooms. -/
namespace TW
open PySem L2
abbrev sHeadsOf : Stmt := top 60
theorem scHeadsOf : FnScope ["room", "place", "number", "row"] ["room"] (defScope sHeadsOf) := ⟨rfl, rfl, rfl, by decide +kernel, rfl, by decide +kernel, by decide +kernel⟩
abbrev sNumbersIn : Stmt := top 61
theorem scNumbersIn : FnScope ["room", "row", "place"] ["room", "row"] (defScope sNumbersIn) := ⟨rfl, rfl, rfl, by decide +kernel, rfl, by decide +kernel, by decide +kernel⟩
abbrev sLessRoom : Stmt := top 62
theorem scLessRoom : FnScope ["room", "row", "found", "often", "step", "number", "other"] ["room", "row"] (defScope sLessRoom) := ⟨rfl, rfl, rfl, by decide +kernel, rfl, by decide +kernel, by decide +kernel⟩
abbrev sHeld : Stmt := top 63
theorem scHeld : FnScope ["room", "row", "number"] ["room", "row"] (defScope sHeld) := ⟨rfl, rfl, rfl, by decide +kernel, rfl, by decide +kernel, by decide +kernel⟩
abbrev sFirstOut : Stmt := top 64
theorem scFirstOut : FnScope ["house", "room", "position", "step", "at", "letter"] ["house", "room"] (defScope sFirstOut) := ⟨rfl, rfl, rfl, by decide +kernel, rfl, by decide +kernel, by decide +kernel⟩
abbrev sIsKept : Stmt := top 65
theorem scIsKept : FnScope ["house", "room"] ["house", "room"] (defScope sIsKept) := ⟨rfl, rfl, rfl, by decide +kernel, rfl, by decide +kernel, by decide +kernel⟩
abbrev sCommutes : Stmt := top 66
theorem scCommutes : FnScope ["house", "table", "letter"] ["house", "table"] (defScope sCommutes) := ⟨rfl, rfl, rfl, by decide +kernel, rfl, by decide +kernel, by decide +kernel⟩
abbrev sRowsIn : Stmt := top 67
theorem scRowsIn : FnScope ["house", "value", "row", "number"] ["house", "value"] (defScope sRowsIn) := ⟨rfl, rfl, rfl, by decide +kernel, rfl, by decide +kernel, by decide +kernel⟩
abbrev sRoomIn : Stmt := top 68
theorem scRoomIn : FnScope ["house", "value", "found"] ["house", "value"] (defScope sRoomIn) := ⟨rfl, rfl, rfl, by decide +kernel, rfl, by decide +kernel, by decide +kernel⟩
abbrev sWantKept : Stmt := top 69
theorem scWantKept : FnScope ["house", "value", "found"] ["house", "value"] (defScope sWantKept) := ⟨rfl, rfl, rfl, by decide +kernel, rfl, by decide +kernel, by decide +kernel⟩
abbrev sWantComm : Stmt := top 70
theorem scWantComm : FnScope ["house", "value", "found"] ["house", "value"] (defScope sWantComm) := ⟨rfl, rfl, rfl, by decide +kernel, rfl, by decide +kernel, by decide +kernel⟩
abbrev sIsRoom : Stmt := top 71
theorem scIsRoom : FnScope ["house", "value"] ["house", "value"] (defScope sIsRoom) := ⟨rfl, rfl, rfl, by decide +kernel, rfl, by decide +kernel, by decide +kernel⟩
abbrev sSumRoom : Stmt := top 72
theorem scSumRoom : FnScope ["house", "room", "other", "here", "near"] ["house", "room", "other"] (defScope sSumRoom) := ⟨rfl, rfl, rfl, by decide +kernel, rfl, by decide +kernel, by decide +kernel⟩
abbrev sMeetRoom : Stmt := top 73
theorem scMeetRoom : FnScope ["house", "room", "other", "here", "near", "far"] ["house", "room", "other"] (defScope sMeetRoom) := ⟨rfl, rfl, rfl, by decide +kernel, rfl, by decide +kernel, by decide +kernel⟩
abbrev sNoughts : Stmt := top 74
theorem scNoughts : FnScope ["house", "table", "here"] ["house", "table"] (defScope sNoughts) := ⟨rfl, rfl, rfl, by decide +kernel, rfl, by decide +kernel, by decide +kernel⟩
abbrev sImages : Stmt := top 75
theorem scImages : FnScope ["house", "table"] ["house", "table"] (defScope sImages) := ⟨rfl, rfl, rfl, by decide +kernel, rfl, by decide +kernel, by decide +kernel⟩
abbrev tH (ls : List (List (List Rat))) (n : Nat) : T := .house (tRRR ls) (n : Nat)
def rHeadsOf : List T → T → Prop := fun ts t => ∃ room : List (List Rat), ts = [tRR room] ∧ t = tI (room.map fun r => ((headR r : Nat) : Int)) ∧ room.length ≤ 500 ∧ ∀ r ∈ room, r.length ≤ 500 ∧ headR r < r.length
def oftens (room : List (List Rat)) (row : List Rat) : List Rat := room.map fun r => row.getD (headR r) 0
def rNumbersIn : List T → T → Prop := fun ts t => ∃ (room : List (List Rat)) (row : List Rat), ts = [tRR room, tR row] ∧ t = tR (oftens room row) ∧ room.length ≤ 500 ∧ ∀ r ∈ room, r.length ≤ 500 ∧ headR r < r.length ∧ headR r < row.length
def lessStep (row : List Rat) (found step : List Rat) : List Rat := if row.getD (headR step) 0 = 0 then found else (found.zip step).map fun z => z.1 - row.getD (headR step) 0 * z.2
def lessR (room : List (List Rat)) (row : List Rat) : List Rat := room.foldl (lessStep row) row
structure LessOk (room : List (List Rat)) (row : List Rat) : Prop where
  n : room.length ≤ 500
  w : row.length ≤ 500
  l : ∀ r ∈ room, r.length = row.length ∧ headR r < row.length
  s : ∀ (i : Nat) (step : List Rat), room[i]? = some step → ∀ z ∈ (lessR (room.take i) row).zip step, (row.getD (headR step) 0).den * z.2.den < 2 ^ 9000 ∧ RSz 100000 (row.getD (headR step) 0) ∧ RSz 100000 z.2 ∧ z.1.den * (row.getD (headR step) 0 * z.2).den < 2 ^ 9000 ∧ RSz 100000 z.1 ∧ RSz 100000 (row.getD (headR step) 0 * z.2)
def rLessRoom : List T → T → Prop := fun ts t => ∃ (room : List (List Rat)) (row : List Rat), ts = [tRR room, tR row] ∧ t = tR (lessR room row) ∧ LessOk room row
def rHeld : List T → T → Prop := fun ts t => ∃ (room : List (List Rat)) (row : List Rat), ts = [tRR room, tR row] ∧ t = .bl true ∧ LessOk room row ∧ ∀ q ∈ lessR room row, q = 0
def ledT (r : List Rat) (B : List (List Rat)) : List Rat := (prodT [r] B).headD []
structure KeptOk (ls : List (List (List Rat))) (room : List (List Rat)) : Prop where
  n : room.length ≤ 500
  ln : ls.length ≤ 500
  h : ∀ step ∈ room, ∀ l ∈ ls, Tab [step] step.length ∧ (∃ w, Tab l w) ∧ lcmOf [step] * lcmOf l < 2 ^ 9000 ∧ LessOk room (ledT step l) ∧ ∀ q ∈ lessR room (ledT step l), q = 0
def rFirstOut : List T → T → Prop := fun ts t => ∃ (ls : List (List (List Rat))) (n : Nat) (room : List (List Rat)), ts = [tH ls n, tRR room] ∧ t = .non ∧ KeptOk ls room
def rIsKept : List T → T → Prop := fun ts t => ∃ (ls : List (List (List Rat))) (n : Nat) (room : List (List Rat)), ts = [tH ls n, tRR room] ∧ t = .bl true ∧ KeptOk ls room
structure CommOk (ls : List (List (List Rat))) (A : List (List Rat)) : Prop where
  ln : ls.length ≤ 500
  h : ∀ l ∈ ls, ∃ v w, Tab A v ∧ Tab l w ∧ lcmOf A * lcmOf l < 2 ^ 9000 ∧ prodT A l = prodT l A
def rCommutes : List T → T → Prop := fun ts t => ∃ (ls : List (List (List Rat))) (n : Nat) (A : List (List Rat)), ts = [tH ls n, tRR A] ∧ t = .bl true ∧ CommOk ls A
def rRowsIn : List T → T → Prop := fun ts t => ∃ (ls : List (List (List Rat))) (n : Nat) (A : List (List Rat)), ts = [tH ls n, tRR A] ∧ t = tRR A ∧ A.length ≤ 40 ∧ n ≤ 500 ∧ ∀ r ∈ A, r.length = n
structure RoomOk (ls : List (List (List Rat))) (n : Nat) (A : List (List Rat)) : Prop where
  a : A.length ≤ 40
  nn : n ≤ 500
  w : ∀ r ∈ A, r.length = n
  s : StepsOk A
  e : stepsOf A = A
  k : KeptOk ls A
def rRoomIn : List T → T → Prop := fun ts t => ∃ (ls : List (List (List Rat))) (n : Nat) (A : List (List Rat)), ts = [tH ls n, tRR A] ∧ t = tRR A ∧ RoomOk ls n A
def rWantComm : List T → T → Prop := fun ts t => ∃ (ls : List (List (List Rat))) (n : Nat) (g : GTab), ts = [tH ls n, g.t] ∧ t = tRR g.q ∧ g.Sq n ∧ 1 ≤ n ∧ n ≤ 4 ∧ CommOk ls g.q
def rIsRoom : List T → T → Prop := fun ts t => ∃ (ls : List (List (List Rat))) (n : Nat) (A : List (List Rat)), ts = [tH ls n, tRR A] ∧ t = .bl true ∧ RoomOk ls n A
def rSumRoom : List T → T → Prop := fun ts t => ∃ (ls : List (List (List Rat))) (n : Nat) (A B : List (List Rat)), ts = [tH ls n, tRR A, tRR B] ∧ t = tNN (stepsOf (A ++ B)) ∧ RoomOk ls n A ∧ RoomOk ls n B ∧ StepsOk (A ++ B)
def rMeetRoom : List T → T → Prop := fun ts t => ∃ (ls : List (List (List Rat))) (n : Nat) (A B : List (List Rat)), ts = [tH ls n, tRR A, tRR B] ∧ t = tNN (kernelOf (kernelOf A n ++ kernelOf B n) n) ∧ RoomOk ls n A ∧ RoomOk ls n B ∧ KerOk A n ∧ KerOk B n ∧ KerOk (kernelOf A n ++ kernelOf B n) n
def aboutT (A : List (List Rat)) : List (List Rat) := (List.range A.length).map fun p => A.map fun r => r.getD p 0
def rNoughts : List T → T → Prop := fun ts t => ∃ (ls : List (List (List Rat))) (n : Nat) (g : GTab), ts = [tH ls n, g.t] ∧ t = tNN (kernelOf (aboutT g.q) n) ∧ g.Sq n ∧ 1 ≤ n ∧ n ≤ 4 ∧ CommOk ls g.q ∧ KerOk (aboutT g.q) n
def rImages : List T → T → Prop := fun ts t => ∃ (ls : List (List (List Rat))) (n : Nat) (g : GTab), ts = [tH ls n, g.t] ∧ t = tNN (stepsOf g.q) ∧ g.Sq n ∧ 1 ≤ n ∧ n ≤ 4 ∧ CommOk ls g.q ∧ StepsOk g.q
theorem sgn_ne {q : Rat} : (!decide (sgn q = 0)) = (q.num != 0) := by
  unfold sgn
  rcases Int.lt_trichotomy q.num 0 with h | h | h
  · have h1 : ¬ 0 < q.num := by omega
    have h2 : (q.num != 0) = true := bne_iff_ne.mpr (by omega)
    simp [h, h1, h2, b2i]
  · simp [h, b2i]
  · have h1 : ¬ q.num < 0 := by omega
    have h2 : (q.num != 0) = true := bne_iff_ne.mpr (by omega)
    simp [h, h1, h2, b2i]
/-- the first place with a number -/
theorem first_place (row : List Rat) (h : headR row < row.length) : ((((List.range row.length).zip row).filter fun z => z.2.num != 0).map fun z => T.int ((z.1 : Nat) : Int))[0]? = some (.int (headR row : Nat)) := by
  have key : ∀ (l : List Rat) (k : Nat), headR l < l.length → ((((List.range' k l.length).zip l).filter fun z => z.2.num != 0).map fun z => T.int ((z.1 : Nat) : Int))[0]? = some (.int ((k + headR l : Nat) : Int)) := by
    intro l
    induction l with
    | nil => intro k h; exact absurd h (by simp)
    | cons q l ih =>
      intro k h
      rw [List.length_cons, List.range'_succ, List.zip_cons_cons]
      cases hq : (q.num != 0) with
      | true =>
        have e : headR (q :: l) = 0 := by unfold headR headOf; rw [List.map_cons, List.findIdx_cons, hq]; rfl
        rw [List.filter_cons_of_pos (by simpa using hq), e]
        rfl
      | false =>
        have e : headR (q :: l) = headR l + 1 := by unfold headR headOf; rw [List.map_cons, List.findIdx_cons, hq]; rfl
        rw [e, List.length_cons] at h
        rw [List.filter_cons_of_neg (by simpa using hq), e, ih (k + 1) (by omega)]
        congr 2
        omega
  have := key row 0 h
  rw [Nat.zero_add] at this
  rw [List.range_eq_range']
  exact this
theorem getD_rat {row : List Rat} {i : Nat} (h : i < row.length) : atI (row.map T.rat) (i : Int) = some (.rat (row.getD i 0)) := atI_map (by simp [List.getD, h])
section
variable {S : Stat} {CR CH : Addr}
theorem ok_headsOf {f : Addr} {fd : FuncData} (Fd : FnS S "heads_of" sHeadsOf f fd) (hm : S.mg "heads_of" = some (.ref f)) (g : MG S) (kf : KF S CR CH) (PS : Pr S CR CH CR "sign" 1 (pureR rSign)) : Dn S CR CH "heads_of" ["room"] 3 (pureR rHeadsOf) := by
  refine Dn.pure Fd hm scHeadsOf (fun ts t h => ?_) (fun _ _ _ _ _ _ us hl => match us, hl with | [_], _ => rfl) ?_
  · obtain ⟨_, rfl, _⟩ := h; rfl
  · rintro p0 h0 cdv A outer s H E c ts t F ⟨room, rfl, rfl, hn, hr⟩
    refine .rt (b_one (s_ret (EJ.to (e_comp F (c_name F (k := 3) (f := fun r : List Rat => T.int (headR r : Nat)) (i_lst F (e_var F 0)) (sz1000 (by omega)) (fun r hr' => ?_))) (by rw [tI, List.map_map]; rfl))))
    obtain ⟨h1, h2⟩ := hr r hr'
    refine e_ixL (F.blk _) (e_comp (F.blk _) (c_pairF (F.blk _) (k := 1) (l := 2) (f := fun z : Nat × Rat => T.int (z.1 : Nat)) (p := fun z => z.2.num != 0) (IJ.to (i_enum (F.blk _) g.enum_ (e_var (F.blk _) 3)) (enum_emb _ _)) ?_ (fun z hz => ?_) (fun z hz _ => e_var ((F.blk _).blk _) 1))) e_int (atI_pos (p := 0) (first_place r h2))
    · rw [List.length_zip, List.length_range]; exact sz1000 (by omega)
    · exact t_neI (e_prop ((F.blk _).blk _) kf PS (e_var ((F.blk _).blk _) 2) (fun c => ⟨rfl, z.2, rfl, rfl⟩)) e_int sgn_ne
theorem ok_numbersIn {f : Addr} {fd : FuncData} (Fd : FnS S "numbers_in" sNumbersIn f fd) (hm : S.mg "numbers_in" = some (.ref f)) (g : MG S) (D : Dn S CR CH "heads_of" ["room"] 3 (pureR rHeadsOf)) : Dn S CR CH "numbers_in" ["room", "row"] 4 (pureR rNumbersIn) := by
  refine Dn.pure Fd hm scNumbersIn (fun ts t h => ?_) (fun _ _ _ _ _ _ us hl => match us, hl with | [_, _], _ => rfl) ?_
  · obtain ⟨_, _, rfl, _⟩ := h; rfl
  · rintro p0 h0 cdv A outer s H E c ts t F ⟨room, row, rfl, rfl, hn, hr⟩
    refine .rt (b_one (s_ret (EJ.to (e_comp F (c_name F (k := 2) (emb := fun r : List Rat => T.int (headR r : Nat)) (f := fun r : List Rat => T.rat (row.getD (headR r) 0)) (ys := room) (IJ.to (i_lst F (e_call F D (a_cons (e_var F 0) a_nil) ⟨rfl, room, rfl, rfl, hn, fun r hr' => ⟨(hr r hr').1, (hr r hr').2.1⟩⟩)) (by rw [List.map_map]; rfl)) (sz1000 (by omega)) (fun r hr' => e_ixL (F.blk _) (e_var (F.blk _) 1) (e_var (F.blk _) 2) (getD_rat (hr r hr').2.2)))) (by rw [tR, oftens, List.map_map]; rfl))))
theorem lessR_length {row : List Rat} : ∀ (room : List (List Rat)) (x : List Rat), (∀ r ∈ room, r.length = row.length) → x.length = row.length → (room.foldl (lessStep row) x).length = row.length
  | [], x, _, hx => hx
  | r :: room, x, h, hx => by
    refine lessR_length room (lessStep row x r) (fun s hs => h s (List.mem_cons_of_mem _ hs)) ?_
    unfold lessStep
    split
    · exact hx
    · rw [List.length_map, List.length_zip, hx, h r List.mem_cons_self, Nat.min_self]
theorem ok_lessRoom {f : Addr} {fd : FuncData} (Fd : FnS S "less_room" sLessRoom f fd) (hm : S.mg "less_room" = some (.ref f)) (g : MG S) (kf : KF S CR CH) (hsf : PySem.W.selfFirst S.K CR = true) (PS : Pr S CR CH CR "sign" 1 (pureR rSign)) (MS : Me S CR CH CR "__sub__" ["self", "other"] 5 (pureR rSub)) (MM : Me S CR CH CR "__mul__" ["self", "other"] 5 (pureR rMul)) (D : Dn S CR CH "numbers_in" ["room", "row"] 4 (pureR rNumbersIn)) : Dn S CR CH "less_room" ["room", "row"] 6 (pureR rLessRoom) := by
  refine Dn.pure Fd hm scLessRoom (fun ts t h => ?_) (fun _ _ _ _ _ _ us hl => match us, hl with | [_, _], _ => rfl) ?_
  · obtain ⟨_, _, rfl, _⟩ := h; rfl
  · rintro p0 h0 cdv A outer s H E c ts t F ⟨room, row, rfl, rfl, ok⟩
    have hn := ok.n
    have hw := ok.w
    refine .rt (b_cons (s_set F 2 (e_list F g.list_ (e_var F 1) rfl)) (b_cons (s_forP F 3 4 (fun i => ([Sl.val (tRR room), Sl.val (tR row), Sl.val (tR (lessR (room.take i) row)), Sl.un, Sl.un, Sl.un, Sl.un], c)) (ys := room.map fun r => (row.getD (headR r) 0, r)) (ea := fun z => T.rat z.1) (eb := fun z => tR z.2) (IJ.to (i_zip F g.zip_ (e_call F D (a_cons (e_var F 0) (a_cons (e_var F 1) a_nil)) ⟨rfl, room, row, rfl, rfl, hn, fun r hr => ⟨by rw [(ok.l r hr).1]; exact hw, by rw [(ok.l r hr).1]; exact (ok.l r hr).2, (ok.l r hr).2⟩⟩) (e_var F 0)) ?_) rfl ?_) (b_one (s_ret (EJ.to (e_var F 2) ?_)))))
    · rw [zip_emb, List.map_map]
      have key : ∀ l : List (List Rat), ((oftens l row).zip l).map (fun z => T.tup [T.rat z.1, tR z.2]) = l.map ((fun z : Rat × List Rat => T.tup [T.rat z.1, tR z.2]) ∘ fun r => (row.getD (headR r) 0, r)) := fun l => by
        induction l with
        | nil => rfl
        | cons x l ih =>
          rw [List.map_cons, ← ih]
          rfl
      exact key _
    · intro i z hz
      rw [List.getElem?_map] at hz
      cases hs : room[i]? with
      | none => rw [hs] at hz; cases hz
      | some st =>
        rw [hs] at hz
        cases hz
        have hst := List.mem_of_getElem? hs
        have step : lessR (room.take (i + 1)) row = lessStep row (lessR (room.take i) row) st := foldl_take hs
        by_cases h0 : row.getD (headR st) 0 = 0
        · refine b_weak [3, 4] (b_one (s_ifF (t_neI (e_prop F kf PS (e_var F 3) (fun c => ⟨rfl, _, rfl, rfl⟩)) e_int (sgn_ne.trans (by show ((row.getD (headR st) 0).num != 0) = false; rw [h0]; rfl))) b_nil)) ?_
          rw [step, lessStep, if_pos h0]
          rfl
        · have hnz : ((row.getD (headR st) 0).num != 0) = true := bne_iff_ne.mpr fun z => h0 (Rat.num_eq_zero.mp z)
          refine b_weak [3, 4] (b_one (s_ifT (t_neI (e_prop F kf PS (e_var F 3) (fun c => ⟨rfl, _, rfl, rfl⟩)) e_int (sgn_ne.trans hnz)) (b_one (s_setComp F 2 (c_pair F (k := 5) (l := 6) (f := fun z : Rat × Rat => T.rat (z.1 - row.getD (headR st) 0 * z.2)) (IJ.to (i_zip F g.zip_ (e_var F 2) (e_var F 4)) (zip_emb _ _ _ _)) ?_ (fun z hz => ?_)))))) ?_
          · rw [List.length_zip]
            have := lessR_length (row := row) (room.take i) row (fun r hr => (ok.l r (List.mem_of_mem_take hr)).1) rfl
            exact sz1000 (by
              show min (lessR (room.take i) row).length _ ≤ _
              unfold lessR
              omega)
          · obtain ⟨h1, h2, h3, h4, h5, h6⟩ := ok.s i st hs z hz
            exact e_ownBin (F.blk _) MS hsf (e_var (F.blk _) 5) (e_ownBin (F.blk _) MM hsf (e_var (F.blk _) 3) (e_var (F.blk _) 6) (fun c => ⟨rfl, _, _, rfl, rfl, h1, h2, h3⟩)) (fun c => ⟨rfl, _, _, rfl, rfl, h4, h5, h6⟩)
          · rw [step, lessStep, if_neg h0]
            simp [wipeE, Function.comp_def]
    · rw [List.length_map, List.take_length]
theorem ok_held {f : Addr} {fd : FuncData} (Fd : FnS S "held" sHeld f fd) (hm : S.mg "held" = some (.ref f)) (g : MG S) (kf : KF S CR CH) (PS : Pr S CR CH CR "sign" 1 (pureR rSign)) (D : Dn S CR CH "less_room" ["room", "row"] 6 (pureR rLessRoom)) : Dn S CR CH "held" ["room", "row"] 7 (pureR rHeld) := by
  refine Dn.pure Fd hm scHeld (fun ts t h => ?_) (fun _ _ _ _ _ _ us hl => match us, hl with | [_, _], _ => rfl) ?_
  · obtain ⟨_, _, rfl, _⟩ := h; rfl
  · rintro p0 h0 cdv A outer s H E c ts t F ⟨room, row, rfl, rfl, ok, hz⟩
    have hlen : (lessR room row).length = row.length := lessR_length room row (fun r hr => (ok.l r hr).1) rfl
    have hw := ok.w
    refine .rt (b_one (s_ret (EJ.to (e_all F g.all_ (ns := (lessR room row).map fun _ => true) (EJ.to (e_comp F (c_name F (k := 2) (f := fun _ => T.bl true) (i_lst F (e_call F D (a_cons (e_var F 0) (a_cons (e_var F 1) a_nil)) ⟨rfl, room, row, rfl, rfl, ok⟩)) (sz1000 (by omega)) (fun q hq => EJ.to (e_eqI (e_prop (F.blk _) kf PS (e_var (F.blk _) 2) (fun c => ⟨rfl, q, rfl, rfl⟩)) e_int) (by rw [hz q hq]; rfl)))) (by simp only [List.map_map, Function.comp_def]))) (by congr 1; simp))))
theorem ok_firstOut {f : Addr} {fd : FuncData} (Fd : FnS S "first_out" sFirstOut f fd) (hm : S.mg "first_out" = some (.ref f)) (g : MG S) (kf : KF S CR CH) (D1 : Dn S CR CH "held" ["room", "row"] 7 (pureR rHeld)) (D2 : Dn S CR CH "led_by" ["row", "table"] 7 (pureR rLedBy)) : Dn S CR CH "first_out" ["house", "room"] 8 (pureR rFirstOut) := by
  refine Dn.pure Fd hm scFirstOut (fun ts t h => ?_) (fun _ _ _ _ _ _ us hl => match us, hl with | [_, _], _ => rfl) ?_
  · obtain ⟨_, _, _, rfl, _⟩ := h; rfl
  · rintro p0 h0 cdv A outer s H E c ts t F ⟨ls, k, room, rfl, rfl, ok⟩
    refine .rt (b_cons (s_forP F 2 3 (fun i => ([Sl.val (tH ls k), Sl.val (tRR room), Sl.un, Sl.un, Sl.un, Sl.un], c)) (IJ.to (i_enum F g.enum_ (e_var F 1)) (enum_emb _ _)) rfl ?_) (b_one (s_ret e_non)))
    intro i z hz
    have hst : z.2 ∈ room := (List.of_mem_zip (List.mem_of_getElem? hz)).2
    refine b_weak [2, 3, 4, 5] (b_one (s_forP F 4 5 (fun i => ([Sl.val (tH ls k), Sl.val (tRR room), Sl.val (.int (z.1 : Nat)), Sl.val (tR z.2), Sl.un, Sl.un], c)) (IJ.to (i_enum F g.enum_ (e_letters F kf (e_var F 0))) (enum_emb _ _)) rfl ?_)) rfl
    intro j y hy
    have hl : y.2 ∈ ls := (List.of_mem_zip (List.mem_of_getElem? hy)).2
    obtain ⟨h1, ⟨w, h2⟩, h3, h4, h5⟩ := ok.h z.2 hst y.2 hl
    exact b_weak [4, 5] (b_one (s_ifF (t_not (k := true) (t_val (e_call F D1 (a_cons (e_var F 1) (a_cons (e_call F D2 (a_cons (e_var F 3) (a_cons (e_var F 5) a_nil)) ⟨rfl, z.2, y.2, w, rfl, rfl, h1, h2, h3⟩) a_nil)) ⟨rfl, room, ledT z.2 y.2, rfl, rfl, h4, h5⟩))) b_nil)) rfl
theorem ok_isKept {f : Addr} {fd : FuncData} (Fd : FnS S "is_kept" sIsKept f fd) (hm : S.mg "is_kept" = some (.ref f)) (D : Dn S CR CH "first_out" ["house", "room"] 8 (pureR rFirstOut)) : Dn S CR CH "is_kept" ["house", "room"] 9 (pureR rIsKept) := by
  refine Dn.pure Fd hm scIsKept (fun ts t h => ?_) (fun _ _ _ _ _ _ us hl => match us, hl with | [_, _], _ => rfl) ?_
  · obtain ⟨_, _, _, rfl, _⟩ := h; rfl
  · rintro p0 h0 cdv A outer s H E c ts t F ⟨ls, k, room, rfl, rfl, ok⟩
    exact .rt (b_one (s_ret (EJ.to (e_isN (e_call F D (a_cons (e_var F 0) (a_cons (e_var F 1) a_nil)) ⟨rfl, ls, k, room, rfl, rfl, ok⟩) e_non) rfl)))
theorem ok_commutes {f : Addr} {fd : FuncData} (Fd : FnS S "commutes" sCommutes f fd) (hm : S.mg "commutes" = some (.ref f)) (g : MG S) (kf : KF S CR CH) (ME : Me S CR CH CR "__eq__" ["self", "other"] 1 (pureR rEqq)) (D : Dn S CR CH "product_of" ["table", "other"] 6 (pureR rProd)) : Dn S CR CH "commutes" ["house", "table"] 7 (pureR rCommutes) := by
  refine Dn.pure Fd hm scCommutes (fun ts t h => ?_) (fun _ _ _ _ _ _ us hl => match us, hl with | [_, _], _ => rfl) ?_
  · obtain ⟨_, _, _, rfl, _⟩ := h; rfl
  · rintro p0 h0 cdv A outer s H E c ts t F ⟨ls, k, tb, rfl, rfl, ok⟩
    have hln := ok.ln
    refine .rt (b_one (s_ret (EJ.to (e_all F g.all_ (ns := ls.map fun _ => true) (EJ.to (e_comp F (c_name F (k := 2) (f := fun _ => T.bl true) (i_lst F (e_letters F kf (e_var F 0))) (sz1000 (by omega)) (fun l hl => ?_))) (by simp only [List.map_map, Function.comp_def]))) (by congr 1; simp))))
    obtain ⟨v, w, h1, h2, h3, h4⟩ := ok.h l hl
    refine e_eqTab (F.blk _) ME (e_call (F.blk _) D (a_cons (e_var (F.blk _) 1) (a_cons (e_var (F.blk _) 2) a_nil)) ⟨rfl, tb, l, v, w, rfl, rfl, h1, h2, h3⟩) (EJ.to (e_call (F.blk _) D (a_cons (e_var (F.blk _) 2) (a_cons (e_var (F.blk _) 1) a_nil)) ⟨rfl, l, tb, w, v, rfl, rfl, h2, h1, by rw [Nat.mul_comm]; exact h3⟩) (by rw [h4]))
theorem ok_rowsIn {f : Addr} {fd : FuncData} (Fd : FnS S "rows_in" sRowsIn f fd) (hm : S.mg "rows_in" = some (.ref f)) (g : MG S) (kf : KF S CR CH) (hM : ∃ t, S.mg "MOST_ROWS" = some (.int 40 t)) (D1 : Dn S CR CH "is_list" ["value"] 1 (pureR rIsList)) (D2 : Dn S CR CH "are_numbers" ["value", "wide"] 3 (pureR rAreNums)) (D3 : Dn S CR CH "ratio_of" ["number"] 5 (pureR rRatioOf)) : Dn S CR CH "rows_in" ["house", "value"] 6 (pureR rRowsIn) := by
  refine Dn.pure Fd hm scRowsIn (fun ts t h => ?_) (fun _ _ _ _ _ _ us hl => match us, hl with | [_, _], _ => rfl) ?_
  · obtain ⟨_, _, _, rfl, _⟩ := h; rfl
  · rintro p0 h0 cdv A outer s H E c ts t F ⟨ls, k, tb, rfl, rfl, h1, h2, h3⟩
    have gr : ∀ r : List Rat, (GRow.mk false (r.map Num.r)).t = tR r := fun r => by simp only [GRow.t, seqT, List.map_map]; rfl
    refine .rt (b_cons (s_ifF (WJ.t (w_orF (t_not (t_val (e_call F D1 (a_cons (e_var F 1) a_nil) ⟨rfl, _, true, rfl, rfl, rfl⟩))) (w_or1 (t_gt (e_len F g.len_ (e_var F 1) rfl) (e_globI F hM) ?_)))) b_nil)
      (b_cons (s_ifF (t_not (k := true) (t_val (EJ.to (e_all F g.all_ (ns := tb.map fun _ => true) (EJ.to (e_comp F (c_name F (k := 2) (f := fun _ => T.bl true) (i_lst F (e_var F 1)) (sz1000 (by omega)) (fun (r : List Rat) hr => e_call (F.blk _) D2 (a_cons (e_var (F.blk _) 2) (a_cons (e_width (F.blk _) kf (e_var (F.blk _) 0)) a_nil)) ⟨rfl, ⟨false, r.map Num.r⟩, ?_, rfl, ?_⟩))) (by simp only [List.map_map, Function.comp_def]))) ?_))) b_nil)
      (b_one (s_ret (e_comp F (c_name F (k := 2) (f := fun r : List Rat => tR r) (i_lst F (e_var F 1)) (sz1000 (by omega)) (fun r hr => e_comp (F.blk _) (c_name (F.blk _) (k := 3) (f := fun x : Rat => T.rat x) (i_lst (F.blk _) (e_var (F.blk _) 2)) (sz1000 (by rw [h3 r hr]; omega)) (fun x hx => e_call ((F.blk _).blk _) D3 (a_cons (e_var ((F.blk _).blk _) 3) a_nil) ⟨rfl, .r x, rfl, rfl⟩)))))))))
    · rw [List.length_map]
      exact decide_eq_false (by omega)
    · rw [gr, List.length_map, h3 r hr]
    · rw [List.length_map, h3 r hr]; omega
    · congr 1; simp
theorem ok_roomIn {f : Addr} {fd : FuncData} (Fd : FnS S "room_in" sRoomIn f fd) (hm : S.mg "room_in" = some (.ref f)) (ME : Me S CR CH CR "__eq__" ["self", "other"] 1 (pureR rEqq)) (D1 : Dn S CR CH "rows_in" ["house", "value"] 6 (pureR rRowsIn)) (D2 : Dn S CR CH "steps_of" ["rows"] 6 (pureR rStepsOf)) (D3 : Dn S CR CH "is_kept" ["house", "room"] 9 (pureR rIsKept)) : Dn S CR CH "room_in" ["house", "value"] 10 (pureR rRoomIn) := by
  refine Dn.pure Fd hm scRoomIn (fun ts t h => ?_) (fun _ _ _ _ _ _ us hl => match us, hl with | [_, _], _ => rfl) ?_
  · obtain ⟨_, _, _, rfl, _⟩ := h; rfl
  · rintro p0 h0 cdv A outer s H E c ts t F ⟨ls, k, tb, rfl, rfl, ok⟩
    exact .rt (b_cons (s_set F 2 (e_call F D1 (a_cons (e_var F 0) (a_cons (e_var F 1) a_nil)) ⟨rfl, ls, k, tb, rfl, rfl, ok.a, ok.nn, ok.w⟩))
      (b_cons (s_ifF (WJ.t (w_orF (t_isN (e_var F 2) e_non rfl) (w_orF (t_neTab F ME (EJ.to ((e_call F D2 (a_cons (e_var F 2) a_nil) ⟨rfl, tb, rfl, rfl, ok.s⟩).weak fun v B => rep_NN) (by rw [ok.e])) (e_var F 2)) (w_or1 (t_not (k := true) (t_val (e_call F D3 (a_cons (e_var F 0) (a_cons (e_var F 2) a_nil)) ⟨rfl, ls, k, tb, rfl, rfl, ok.k⟩))))))) b_nil)
      (b_one (s_ret (e_var F 2)))))
theorem ok_wantKept {f : Addr} {fd : FuncData} (Fd : FnS S "want_kept" sWantKept f fd) (hm : S.mg "want_kept" = some (.ref f)) (D : Dn S CR CH "room_in" ["house", "value"] 10 (pureR rRoomIn)) : Dn S CR CH "want_kept" ["house", "value"] 11 (pureR rRoomIn) := by
  refine Dn.pure Fd hm scWantKept (fun ts t h => ?_) (fun _ _ _ _ _ _ us hl => match us, hl with | [_, _], _ => rfl) ?_
  · obtain ⟨_, _, _, rfl, _⟩ := h; rfl
  · rintro p0 h0 cdv A outer s H E c ts t F ⟨ls, k, tb, rfl, rfl, ok⟩
    exact .rt (b_cons (s_set F 2 (e_call F D (a_cons (e_var F 0) (a_cons (e_var F 1) a_nil)) ⟨rfl, ls, k, tb, rfl, rfl, ok⟩)) (b_cons (s_ifF (t_isN (e_var F 2) e_non rfl) b_nil) (b_one (s_ret (e_var F 2)))))
theorem ok_wantComm {f : Addr} {fd : FuncData} (Fd : FnS S "want_commuting" sWantComm f fd) (hm : S.mg "want_commuting" = some (.ref f)) (kf : KF S CR CH) (D1 : Dn S CR CH "want_sized" ["value", "size"] 7 (pureR rWantSized)) (D2 : Dn S CR CH "commutes" ["house", "table"] 7 (pureR rCommutes)) : Dn S CR CH "want_commuting" ["house", "value"] 8 (pureR rWantComm) := by
  refine Dn.pure Fd hm scWantComm (fun ts t h => ?_) (fun _ _ _ _ _ _ us hl => match us, hl with | [_, _], _ => rfl) ?_
  · obtain ⟨_, _, _, rfl, _⟩ := h; rfl
  · rintro p0 h0 cdv A outer s H E c ts t F ⟨ls, k, tb, rfl, rfl, sq, h1, h4, ok⟩
    exact .rt (b_cons (s_set F 2 (e_call F D1 (a_cons (e_var F 1) (a_cons (e_width F kf (e_var F 0)) a_nil)) ⟨rfl, tb, k, rfl, rfl, sq, h1, h4⟩)) (b_cons (s_ifF (t_not (k := true) (t_val (e_call F D2 (a_cons (e_var F 0) (a_cons (e_var F 2) a_nil)) ⟨rfl, ls, k, tb.q, rfl, rfl, ok⟩))) b_nil) (b_one (s_ret (e_var F 2)))))
theorem ok_isRoom {f : Addr} {fd : FuncData} (Fd : FnS S "is_room" sIsRoom f fd) (hm : S.mg "is_room" = some (.ref f)) (D1 : Dn S CR CH "want_house" ["value"] 1 (pureR rWantHouse)) (D2 : Dn S CR CH "room_in" ["house", "value"] 10 (pureR rRoomIn)) : Dn S CR CH "is_room" ["house", "value"] 11 (pureR rIsRoom) := by
  refine Dn.pure Fd hm scIsRoom (fun ts t h => ?_) (fun _ _ _ _ _ _ us hl => match us, hl with | [_, _], _ => rfl) ?_
  · obtain ⟨_, _, _, rfl, _⟩ := h; rfl
  · rintro p0 h0 cdv A outer s H E c ts t F ⟨ls, k, tb, rfl, rfl, ok⟩
    exact .rt (b_one (s_ret (EJ.to (e_notN (e_call F D2 (a_cons (e_call F D1 (a_cons (e_var F 0) a_nil) ⟨rfl, _, _, rfl, rfl⟩) (a_cons (e_var F 1) a_nil)) ⟨rfl, ls, k, tb, rfl, rfl, ok⟩) e_non) rfl)))
theorem ok_sumRoom {f : Addr} {fd : FuncData} (Fd : FnS S "sum_room" sSumRoom f fd) (hm : S.mg "sum_room" = some (.ref f)) (D1 : Dn S CR CH "want_house" ["value"] 1 (pureR rWantHouse)) (D2 : Dn S CR CH "want_kept" ["house", "value"] 11 (pureR rRoomIn)) (D3 : Dn S CR CH "steps_of" ["rows"] 6 (pureR rStepsOf)) : Dn S CR CH "sum_room" ["house", "room", "other"] 12 (pureR rSumRoom) := by
  refine Dn.pure Fd hm scSumRoom (fun ts t h => ?_) (fun _ _ _ _ _ _ us hl => match us, hl with | [_, _, _], _ => rfl) ?_
  · obtain ⟨_, _, _, _, rfl, _⟩ := h; rfl
  · rintro p0 h0 cdv A outer s H E c ts t F ⟨ls, k, tb, tc, rfl, rfl, o1, o2, os⟩
    refine .rt (b_cons (s_set F 3 (e_call F D1 (a_cons (e_var F 0) a_nil) ⟨rfl, _, _, rfl, rfl⟩)) (b_cons (s_set F 4 (e_call F D2 (a_cons (e_var F 3) (a_cons (e_var F 1) a_nil)) ⟨rfl, ls, k, tb, rfl, rfl, o1⟩)) (b_one (s_ret (e_call F D3 (a_cons (EJ.to (e_cat (e_var F 4) (e_call F D2 (a_cons (e_var F 3) (a_cons (e_var F 2) a_nil)) ⟨rfl, ls, k, tc, rfl, rfl, o2⟩) (cons_sz ?_)) (catM _ _ _)) a_nil) ⟨rfl, tb ++ tc, rfl, rfl, os⟩)))))
    have := o1.a
    have := o2.a
    rw [List.length_map, List.length_map]
    omega
theorem ok_meetRoom {f : Addr} {fd : FuncData} (Fd : FnS S "meet_room" sMeetRoom f fd) (hm : S.mg "meet_room" = some (.ref f)) (kf : KF S CR CH) (D1 : Dn S CR CH "want_house" ["value"] 1 (pureR rWantHouse)) (D2 : Dn S CR CH "want_kept" ["house", "value"] 11 (pureR rRoomIn)) (D3 : Dn S CR CH "kernel_of" ["rows", "wide"] 7 (pureR rKernel)) : Dn S CR CH "meet_room" ["house", "room", "other"] 12 (pureR rMeetRoom) := by
  refine Dn.pure Fd hm scMeetRoom (fun ts t h => ?_) (fun _ _ _ _ _ _ us hl => match us, hl with | [_, _, _], _ => rfl) ?_
  · obtain ⟨_, _, _, _, rfl, _⟩ := h; rfl
  · rintro p0 h0 cdv A outer s H E c ts t F ⟨ls, k, tb, tc, rfl, rfl, o1, o2, k1, k2, k3⟩
    refine .rt (b_cons (s_set F 3 (e_call F D1 (a_cons (e_var F 0) a_nil) ⟨rfl, _, _, rfl, rfl⟩))
      (b_cons (s_set F 4 ((e_call F D3 (a_cons (e_call F D2 (a_cons (e_var F 3) (a_cons (e_var F 1) a_nil)) ⟨rfl, ls, k, tb, rfl, rfl, o1⟩) (a_cons (e_width F kf (e_var F 3)) a_nil)) ⟨rfl, tb, k, rfl, rfl, k1⟩).weak fun v B => rep_NN))
      (b_cons (s_set F 5 ((e_call F D3 (a_cons (e_call F D2 (a_cons (e_var F 3) (a_cons (e_var F 2) a_nil)) ⟨rfl, ls, k, tc, rfl, rfl, o2⟩) (a_cons (e_width F kf (e_var F 3)) a_nil)) ⟨rfl, tc, k, rfl, rfl, k2⟩).weak fun v B => rep_NN))
      (b_one (s_ret (e_call F D3 (a_cons (EJ.to (e_cat (e_var F 4) (e_var F 5) (cons_sz ?_)) (catM _ _ _)) (a_cons (e_width F kf (e_var F 3)) a_nil)) ⟨rfl, _, k, rfl, rfl, k3⟩))))))
    have := k3.s.n
    rw [List.length_append] at this
    rw [List.length_map, List.length_map]
    omega
theorem ok_noughts {f : Addr} {fd : FuncData} (Fd : FnS S "noughts" sNoughts f fd) (hm : S.mg "noughts" = some (.ref f)) (kf : KF S CR CH) (D1 : Dn S CR CH "want_house" ["value"] 1 (pureR rWantHouse)) (D2 : Dn S CR CH "want_commuting" ["house", "value"] 8 (pureR rWantComm)) (D3 : Dn S CR CH "kernel_of" ["rows", "wide"] 7 (pureR rKernel)) (D4 : Dn S CR CH "about_of" ["table"] 1 (pureR rAbout)) : Dn S CR CH "noughts" ["house", "table"] 9 (pureR rNoughts) := by
  refine Dn.pure Fd hm scNoughts (fun ts t h => ?_) (fun _ _ _ _ _ _ us hl => match us, hl with | [_, _], _ => rfl) ?_
  · obtain ⟨_, _, _, rfl, _⟩ := h; rfl
  · rintro p0 h0 cdv A outer s H E c ts t F ⟨ls, k, tb, rfl, rfl, sq, h1, h4, ok, ker⟩
    have hl : tb.q.length = k := by simpa [GTab.q] using sq.1
    refine .rt (b_cons (s_set F 2 (e_call F D1 (a_cons (e_var F 0) a_nil) ⟨rfl, _, _, rfl, rfl⟩)) (b_one (s_ret (e_call F D3 (a_cons (e_call F D4 (a_cons (e_call F D2 (a_cons (e_var F 2) (a_cons (e_var F 1) a_nil)) ⟨rfl, ls, k, tb, rfl, rfl, sq, h1, h4, ok⟩) a_nil) ⟨rfl, tb.q, rfl, rfl, by omega, ?_⟩) (a_cons (e_width F kf (e_var F 2)) a_nil)) ⟨rfl, aboutT tb.q, k, rfl, rfl, ker⟩))))
    intro r hr
    obtain ⟨x, hx, rfl⟩ := List.mem_map.mp hr
    rw [List.length_map, hl, sq.2 x hx]
theorem ok_images {f : Addr} {fd : FuncData} (Fd : FnS S "images" sImages f fd) (hm : S.mg "images" = some (.ref f)) (D1 : Dn S CR CH "want_house" ["value"] 1 (pureR rWantHouse)) (D2 : Dn S CR CH "want_commuting" ["house", "value"] 8 (pureR rWantComm)) (D3 : Dn S CR CH "steps_of" ["rows"] 6 (pureR rStepsOf)) : Dn S CR CH "images" ["house", "table"] 9 (pureR rImages) := by
  refine Dn.pure Fd hm scImages (fun ts t h => ?_) (fun _ _ _ _ _ _ us hl => match us, hl with | [_, _], _ => rfl) ?_
  · obtain ⟨_, _, _, rfl, _⟩ := h; rfl
  · rintro p0 h0 cdv A outer s H E c ts t F ⟨ls, k, tb, rfl, rfl, sq, h1, h4, ok, st⟩
    exact .rt (b_one (s_ret (e_call F D3 (a_cons (e_call F D2 (a_cons (e_call F D1 (a_cons (e_var F 0) a_nil) ⟨rfl, _, _, rfl, rfl⟩) (a_cons (e_var F 1) a_nil)) ⟨rfl, ls, k, tb, rfl, rfl, sq, h1, h4, ok⟩) a_nil) ⟨rfl, tb.q, rfl, rfl, st⟩)))
end
end TW
set_option Elab.async false
set_option linter.all false
set_option maxRecDepth 100000
set_option maxHeartbeats 4000000
set_option exponentiation.threshold 100000
/-! L1: the law's draws. -/
namespace TW
open PySem L2
abbrev sLDraw : Stmt := top 78
theorem scLDraw : FnScope ["_law_pot_here", "_law_sides", "_law_digit"] ["_law_pot_here", "_law_sides"] (defScope sLDraw) := ⟨rfl, rfl, rfl, by decide +kernel, rfl, by decide +kernel, by decide +kernel⟩
abbrev sLPick : Stmt := top 79
theorem scLPick : FnScope ["_law_pot_here", "_law_some"] ["_law_pot_here", "_law_some"] (defScope sLPick) := ⟨rfl, rfl, rfl, by decide +kernel, rfl, by decide +kernel, by decide +kernel⟩
abbrev sLNumber : Stmt := top 90
theorem scLNumber : FnScope ["_law_pot_here"] ["_law_pot_here"] (defScope sLNumber) := ⟨rfl, rfl, rfl, by decide +kernel, rfl, by decide +kernel, by decide +kernel⟩
/-! ### the pot's two cells -/
section
variable {S : Stat} {N : List Str} {n : Nat} {ι : Type} {XX : ι → Cx} {m : Pm} {env : TEnv} {c c1 c2 c3 : Pot}
theorem e_potA (F : Fam S N n XX) {a : Expr} {j : Nat} {p pos : Pos} (ha : EJ m XX a env c .pot c1) : EJ m XX (.Subscript a (.Constant (.int 0) j p) pos) env c (.int c1.a) c1 :=
  EJ.of (te := tOp (rIxL S.K) (rdE XX a) (tC (.int 0))) (fun i => by
    have := pe_ix (X := XX i) (pos := pos) ix_list (pe_rd (e := a) i) (pe_int (X := XX i) (i := 0) (j := j) (pos := p)) (fun _ _ => rfl)
    rw [F.k i] at this
    exact this) (fun σ B H s r Q q => ha σ B H s r _ fun v B1 H1 s1 t1 rv => by
    obtain ⟨p, hp, rfl⟩ := rep_pot.mp rv
    exact ⟨p, _, 0, .int c1.a, rfl, rfl, SqL.of (s1.pot p hp).2, rfl, q _ B1 H1 s1 t1 (rep_int.mpr rfl)⟩)
theorem e_potB (F : Fam S N n XX) {a : Expr} {j : Nat} {p pos : Pos} (ha : EJ m XX a env c .pot c1) : EJ m XX (.Subscript a (.Constant (.int 1) j p) pos) env c (.int c1.b) c1 :=
  EJ.of (te := tOp (rIxL S.K) (rdE XX a) (tC (.int 1))) (fun i => by
    have := pe_ix (X := XX i) (pos := pos) ix_list (pe_rd (e := a) i) (pe_int (X := XX i) (i := 1) (j := j) (pos := p)) (fun _ _ => rfl)
    rw [F.k i] at this
    exact this) (fun σ B H s r Q q => ha σ B H s r _ fun v B1 H1 s1 t1 rv => by
    obtain ⟨p, hp, rfl⟩ := rep_pot.mp rv
    exact ⟨p, _, 1, .int c1.b, rfl, rfl, SqL.of (s1.pot p hp).2, rfl, q _ B1 H1 s1 t1 (rep_int.mpr rfl)⟩)
/-- the pot is stored -/
theorem Anc.potSet {B0 H0 : Hp} {σ : L2.St} {B H : Hp} {p : Addr} (an : Anc m B0 H0 env c σ B H) (hp : m.p0 = some p) (c' : Pot) : Anc m B0 H0 env c' σ B (upd H p (.lst [.int c'.a, .int c'.b])) := by
  have hB := (an.sit.pot p hp).1
  refine ⟨⟨fun a o e => by rw [upd_ne (ne_of_none e hB)]; exact an.sit.sub a o e, fun a ha => dom_upd (an.sit.old a ha), fun q hq => ?_⟩, ⟨an.env.len, an.env.val, fun i ts h => ?_, an.env.raw, an.env.dis⟩, ⟨an.stp.b, fun a o e np => ?_, an.stp.n, fun a ha => dom_upd (an.stp.d a ha)⟩, an.own⟩
  · rw [hp] at hq
    cases hq
    exact ⟨hB, upd_same⟩
  · obtain ⟨a, vs, h1, h2, h3, h4, h5⟩ := an.env.own i ts h
    have z : a ≠ p := fun z => h4 (by rw [hp, z])
    exact ⟨a, vs, h1, by rw [upd_ne z]; exact h2, h3, h4, h5⟩
  · have z : a ≠ p := fun z => np (by rw [hp, z])
    rw [upd_ne z]
    exact an.stp.h a o e np
/-- pot[1] = e -/
theorem s_potB (F : Fam S N n XX) (k : Nat) {x : Str} {e : Expr} {j : Nat} {px pi ps pos : Pos} {i : Int} (c' : Pot) (he : EJ m XX e env c (.int i) c1) (ea : c'.a = c1.a) (eb : c'.b = i) (hk : env[k]? = some (Sl.val .pot) := by rfl) (hN : N[k]? = some x := by rfl)
    (hv : ∀ i, Vis (XX i).env.scope x := by intro _; first | exact Or.inl rfl | exact Or.inr (Or.inl rfl) | exact Or.inr (Or.inr rfl))
    (hd : (x == ("__debug__" : Str)) = false := by decide) (hcd : (x == ("__classdict__" : Str)) = false := by decide)
    (hg : ∀ q (v : Value), assign (.Subscript (.Name x px) (.Constant (.int 1) j pi) ps) (XX q).env v = (do
        let ov ← holding [v] (eval (.Name x px) (XX q).env)
        let iv ← holding [v, ov] (eval (.Constant (.int 1) j pi) (XX q).env)
        standAt ps
        holding [v, ov, iv] (setItem ov iv v)
        release [v, ov, iv] []) := by intro _ _; rfl)
    (h1 : ∀ i, swapsWithSole [.Subscript (.Name x px) (.Constant (.int 1) j pi) ps] e pos.line (XX i).env = pure false := by intro _; rfl) (h2 : ∀ i, swappedStores [.Subscript (.Name x px) (.Constant (.int 1) j pi) ps] e (XX i).env = pure none := by intro _; rfl)
    (h3 : ∀ i, (assignEach [.Subscript (.Name x px) (.Constant (.int 1) j pi) ps] (XX i).env).map (·.2) = [assign (.Subscript (.Name x px) (.Constant (.int 1) j pi) ps) (XX i).env] := by intro _; rfl) :
    SJ m XX (.Assign [.Subscript (.Name x px) (.Constant (.int 1) j pi) ps] e pos) env c (.nx env c') :=
  SJ.of (ts := tAsg (rdE XX e) (gSub (tVar k) (tC (.int 1)) rSetL)) (fun i => ps_asg (pe_rd i) (pg_sub (pe_var (by rw [F.names i]; exact hN) (hv i) hd hcd) pe_int set_list (hg i)) (h1 i) (h2 i) (h3 i)) (by
    intro B0 H0 σ B H an D q
    refine he σ B H an.sit an.env _ fun v B1 H1 s1 t1 rv => ?_
    have a1 := an.step s1 t1
    obtain ⟨u, g1, ru⟩ := a1.env.val k .pot hk
    obtain ⟨p, hp, rfl⟩ := rep_pot.mp ru
    rw [rep_int] at rv
    subst rv
    refine ⟨_, g1, p, _, 1, 1, rfl, rfl, (s1.pot p hp).2, rfl, ?_⟩
    have a2 := a1.potSet hp c'
    rw [ea, eb] at a2
    exact q σ B1 _ a2 t1.b)
/-- pot[0], y = e -/
theorem s_potA2 (F : Fam S N n XX) (k l : Nat) {x y : Str} {e : Expr} {j kk : Nat} {px pi ps pt py pos : Pos} {i d : Int} (c' : Pot) (he : EJ m XX e env c (.tup [.int i, .int d]) c1) (ea : c'.a = i) (eb : c'.b = c1.b) (hk : env[k]? = some (Sl.val .pot) := by rfl) (hN : N[k]? = some x := by rfl) (hN2 : N[l]? = some y := by rfl)
    (hv : ∀ i, Vis (XX i).env.scope x := by intro _; first | exact Or.inl rfl | exact Or.inr (Or.inl rfl) | exact Or.inr (Or.inr rfl))
    (hd : (x == ("__debug__" : Str)) = false := by decide) (hcd : (x == ("__classdict__" : Str)) = false := by decide)
    (hl : ∀ i, L2.Loc (XX i).env.scope y := by intro _; first | exact Or.inl rfl | exact Or.inr rfl)
    (hf : ∀ i, (XX i).fn y = true ∨ (XX i).env.scope.names.lookup y = some .local := by intro _; first | exact Or.inr rfl | exact Or.inl rfl)
    (hg : ∀ q (v : Value), assign (.Subscript (.Name x px) (.Constant (.int 0) j pi) ps) (XX q).env v = (do
        let ov ← holding [v] (eval (.Name x px) (XX q).env)
        let iv ← holding [v, ov] (eval (.Constant (.int 0) j pi) (XX q).env)
        standAt ps
        holding [v, ov, iv] (setItem ov iv v)
        release [v, ov, iv] []) := by intro _ _; rfl)
    (h1 : ∀ i, swapsWithSole [.Tuple [.Subscript (.Name x px) (.Constant (.int 0) j pi) ps, .Name y py] kk pt] e pos.line (XX i).env = pure false := by intro _; rfl) (h2 : ∀ i, swappedStores [.Tuple [.Subscript (.Name x px) (.Constant (.int 0) j pi) ps, .Name y py] kk pt] e (XX i).env = pure none := by intro _; rfl)
    (h3 : ∀ i, (assignEach [.Tuple [.Subscript (.Name x px) (.Constant (.int 0) j pi) ps, .Name y py] kk pt] (XX i).env).map (·.2) = [assign (.Tuple [.Subscript (.Name x px) (.Constant (.int 0) j pi) ps, .Name y py] kk pt) (XX i).env] := by intro _; rfl) :
    SJ m XX (.Assign [.Tuple [.Subscript (.Name x px) (.Constant (.int 0) j pi) ps, .Name y py] kk pt] e pos) env c (.nx (env.set l (Sl.val (.int d))) c') :=
  SJ.of (ts := tAsg (rdE XX e) (gTup S.K 2 (gCons (gSub (tVar k) (tC (.int 0)) rSetL) (gCons (gName l) gNil)))) (fun i => by
    rw [← F.k i]
    exact ps_asg (pe_rd i) (pg_tup (F.calm i) (pgs_cons (pg_sub (pe_var (by rw [F.names i]; exact hN) (hv i) hd hcd) pe_int set_list (hg i)) (pgs_cons (pg_name (by rw [F.names i]; exact F.nd) (by rw [F.names i]; exact hN2) (hl i) (hf i)) pgs_nil rfl) rfl) rfl rfl) (h1 i) (h2 i) (h3 i)) (by
    intro B0 H0 σ B H an D q
    refine he σ B H an.sit an.env _ fun v B1 H1 s1 t1 rv => ?_
    have a1 := an.step s1 t1
    obtain ⟨u, g1, ru⟩ := a1.env.val k .pot hk
    obtain ⟨p, hp, rfl⟩ := rep_pot.mp ru
    obtain ⟨tp, vs, rfl, w1, w2⟩ := rep_tup.mp rv
    obtain ⟨v1, r1, rfl, i1, i2⟩ := repL_cons.mp w2
    obtain ⟨v2, r2, rfl, j1, j2⟩ := repL_cons.mp i2
    rw [repL_nil] at j2
    subst j2
    rw [rep_int] at i1 j1
    subst i1 j1
    have a2 := (a1.potSet hp c').set (rep_int.mpr rfl : Rep m (.int d) (.int d) B1) l
    rw [ea, eb] at a2
    exact ⟨tp, _, rfl, SqT.of (s1.sub _ _ w1), rfl, _, _, rfl, _, g1, p, _, 0, 0, rfl, rfl, (s1.pot p hp).2, rfl, _, _, rfl, rfl, q _ B1 _ a2 t1.b⟩)
theorem e_divmod (F : Fam S N n XX) {p pos : Pos} {a b : Expr} {i j : Int} (hm : S.mg "divmod" = none) (ha : EJ m XX a env c (.int i) c1) (hb : EJ m XX b env c1 (.int j) c2) (h : CDiv i j) (hg : ∀ i, Gl (XX i) "divmod" := by intro _; rfl)
    (hs : ∀ i, starEach [a, b] (XX i).env = (false, eval a (XX i).env) :: starEach [b] (XX i).env := by intro _; rfl) (hs2 : ∀ i, starEach [b] (XX i).env = [(false, eval b (XX i).env)] := by intro _; rfl)
    (hpl : ∀ i, (backTo pos (starEach [b] (XX i).env)).any (·.1) = false := by intro _; rfl) : EJ m XX (.Call (.Name "divmod" p) [a, b] [] pos) env c (.tup [.int (i / j), .int (i % j)]) c2 :=
  e_callB F (fun _ => call_divmod) hm (by decide +kernel) (a_cons ha (a_cons hb a_nil hs2) hs) (by
    intro c B H vs s hv Q q
    have e : vs = [V.int i, V.int j] := (repL_ints (ns := [i, j])).mp hv
    refine ⟨i, j, e, h, fun p hp => ?_⟩
    have hr : RepL m [T.int (i / j), T.int (i % j)] [V.int (i / j), V.int (i % j)] B := (repL_ints (ns := [i / j, i % j])).mpr rfl
    obtain ⟨n1, n2, n3⟩ := new_tup s hp hr
    exact q _ _ _ n1 n2 n3) hg (he := hs) (hpl := hpl)
end
/-- a draw of s sides -/
def nextB (c : Pot) : Int := (c.b * 40093 + 30047) % 2147483563
theorem nextB_ok (c : Pot) : 0 ≤ nextB c ∧ nextB c ≤ 2147483563 := by
  unfold nextB
  exact ⟨Int.emod_nonneg _ (by decide), Int.le_of_lt (Int.emod_lt_of_pos _ (by decide))⟩
def drawV (s : Nat) (c : Pot) : Int := if 0 < c.a then c.a % s else (nextB c * nextB c) % 2147483549 / 23 % s
def drawC (s : Nat) (c : Pot) : Pot := if 0 < c.a then ⟨c.a / s, c.b, Int.ediv_nonneg c.pa (Int.natCast_nonneg s), c.pb⟩ else ⟨c.a, nextB c, c.pa, nextB_ok c⟩
def drawP (s : Nat) (c : Pot) : Nat × Pot := ((drawV s c).toNat, drawC s c)
theorem drawV_ok {s : Nat} (h : 0 < s) (c : Pot) : 0 ≤ drawV s c ∧ drawV s c < s := by
  unfold drawV
  split
  · exact ⟨Int.emod_nonneg _ (by omega), Int.emod_lt_of_pos _ (by omega)⟩
  · exact ⟨Int.emod_nonneg _ (by omega), Int.emod_lt_of_pos _ (by omega)⟩
theorem drawP_lt {s : Nat} (h : 0 < s) (c : Pot) : (drawP s c).1 < s := by
  have := drawV_ok h c
  show (drawV s c).toNat < s
  omega
def rDraw : Rel := fun c ts t c' => ∃ s : Nat, ts = [.pot, .int (s : Nat)] ∧ t = .int ((drawP s c).1 : Nat) ∧ c' = (drawP s c).2 ∧ 0 < s ∧ s ≤ 1000
def rPick : Rel := fun c ts t c' => ∃ (xs : List T) (d : T), ts = [.pot, .lst xs] ∧ t = xs.getD (drawP xs.length c).1 d ∧ c' = (drawP xs.length c).2 ∧ 0 < xs.length ∧ xs.length ≤ 1000
def numP (c : Pot) : Int × Pot := (([0, 0, 1, 1, -1, 2, -2] : List Int).getD (drawP 7 c).1 0, (drawP 7 c).2)
def rNumber : Rel := fun c ts t c' => ts = [.pot] ∧ t = .int (numP c).1 ∧ c' = (numP c).2
section
variable {S : Stat} {CR CH : Addr}
theorem ok_draw {f : Addr} {fd : FuncData} (Fd : FnS S "_law_draw" sLDraw f fd) (hm : S.mg "_law_draw" = some (.ref f)) (g : MG S) : Dn S CR CH "_law_draw" ["_law_pot_here", "_law_sides"] 1 rDraw := by
  refine Dn.mk' Fd hm scLDraw (fun c ts t c' h => ?_) (fun _ _ _ _ _ _ us hl => match us, hl with | [_, _], _ => rfl) ?_
  · obtain ⟨s, rfl, _⟩ := h; rfl
  · rintro p0 h0 cdv A outer s H E c ts t c' F ⟨k, rfl, rfl, rfl, hk, hk2⟩
    have hv := drawV_ok hk c
    have e0 : (((drawP k c).1 : Nat) : Int) = drawV k c := by show (((drawV k c).toNat : Nat) : Int) = _; omega
    have hpb := c.pb
    have hnb := nextB_ok c
    rw [e0]
    by_cases ha : 0 < c.a
    · have e1 : drawV k c = c.a % k := if_pos ha
      have e2 : (drawC k c).a = c.a / k := by unfold drawC; rw [if_pos ha]
      have e3 : (drawC k c).b = c.b := by unfold drawC; rw [if_pos ha]
      rw [e1]
      exact .rt (b_ret (s_ifT (t_gt (e_potA F (e_var F 0)) e_int (decide_eq_true ha)) (b_cons (s_potA2 F 0 2 (drawC k c) (e_divmod F g.divmod_ (e_potA F (e_var F 0)) (e_var F 1) ⟨by omega, by omega⟩) e2 e3) (b_one (s_ret (e_var F 2))))))
    · have e1 : drawV k c = (nextB c * nextB c) % 2147483549 / 23 % k := if_neg ha
      have e2 : (drawC k c).a = c.a := by unfold drawC; rw [if_neg ha]
      have e3 : (drawC k c).b = nextB c := by unfold drawC; rw [if_neg ha]
      have bb : (c.b).natAbs < 2 ^ 40 := by omega
      have nb : (nextB c).natAbs < 2 ^ 40 := by omega
      rw [e1]
      refine .rt (b_cons (s_ifF (t_gt (e_potA F (e_var F 0)) e_int (decide_eq_false ha)) b_nil)
        (b_cons (s_potB F 0 (drawC k c) (e_mod (e_intI F g.int_ (e_add (e_mul (e_potB F (e_var F 0)) e_int (mulW bb (b := 40) (by decide))) e_int)) e_int (by decide)) e2 e3)
        (b_one (s_ret (EJ.to (e_mod (e_intI F g.int_ (e_div (e_mod (e_intI F g.int_ (e_mul (e_potB F (e_var F 0)) (e_potB F (e_var F 0)) (mulW (a := 40) (b := 40) (by rw [e3]; exact nb) (by rw [e3]; exact nb)))) e_int (by decide)) e_int ⟨by decide, by decide⟩)) (e_var F 1) (by omega)) (by rw [e3])))))) 
theorem ok_pick {f : Addr} {fd : FuncData} (Fd : FnS S "_law_pick" sLPick f fd) (hm : S.mg "_law_pick" = some (.ref f)) (g : MG S) (D : Dn S CR CH "_law_draw" ["_law_pot_here", "_law_sides"] 1 rDraw) : Dn S CR CH "_law_pick" ["_law_pot_here", "_law_some"] 2 rPick := by
  refine Dn.mk' Fd hm scLPick (fun c ts t c' h => ?_) (fun _ _ _ _ _ _ us hl => match us, hl with | [_, _], _ => rfl) ?_
  · obtain ⟨s, d, rfl, _⟩ := h; rfl
  · rintro p0 h0 cdv A outer s H E c ts t c' F ⟨xs, d, rfl, rfl, rfl, h1, h2⟩
    have hl := drawP_lt h1 c
    exact .rt (b_one (s_ret (e_ixL F (e_var F 1) (e_call F D (a_cons (e_var F 0) (a_cons (e_len F g.len_ (e_var F 1) rfl) a_nil)) ⟨xs.length, rfl, rfl, rfl, h1, h2⟩) (atI_pos (by simp [List.getD, hl])))))
theorem ok_number {f : Addr} {fd : FuncData} (Fd : FnS S "_law_number" sLNumber f fd) (hm : S.mg "_law_number" = some (.ref f)) (D : Dn S CR CH "_law_pick" ["_law_pot_here", "_law_some"] 2 rPick) : Dn S CR CH "_law_number" ["_law_pot_here"] 3 rNumber := by
  refine Dn.mk' Fd hm scLNumber (fun c ts t c' h => ?_) (fun _ _ _ _ _ _ us hl => match us, hl with | [_], _ => rfl) ?_
  · obtain ⟨rfl, _⟩ := h; rfl
  · rintro p0 h0 cdv A outer s H E c ts t c' F ⟨rfl, rfl, rfl⟩
    refine .rt (b_one (s_ret (EJ.to (e_call F D (a_cons (e_var F 0) (a_cons (e_lst (a_cons e_int (a_cons e_int (a_cons e_int (a_cons e_int (a_cons (e_neg e_int) (a_cons e_int (a_cons (e_neg e_int) a_nil)))))))) a_nil)) ⟨_, .int 0, rfl, rfl, rfl, by decide, by decide⟩) ?_)))
    exact map_getD T.int [0, 0, 1, 1, -1, 2, -2] (drawP 7 c).1 0
end
end TW
set_option Elab.async false
set_option linter.all false
set_option maxRecDepth 100000
set_option maxHeartbeats 4000000
set_option exponentiation.threshold 100000
/-! La2: the law's own rows. -/
namespace TW
open PySem L2
abbrev sLGcd : Stmt := top 80
theorem scLGcd : FnScope ["_law_one", "_law_other", "_law_near", "_law_far"] ["_law_one", "_law_other"] (defScope sLGcd) := ⟨rfl, rfl, rfl, by decide +kernel, rfl, by decide +kernel, by decide +kernel⟩
abbrev sLBare : Stmt := top 81
theorem scLBare : FnScope ["_law_row", "_law_part", "_law_number_here"] ["_law_row"] (defScope sLBare) := ⟨rfl, rfl, rfl, by decide +kernel, rfl, by decide +kernel, by decide +kernel⟩
abbrev sLCleared : Stmt := top 82
theorem scLCleared : FnScope ["_law_row", "_law_head_here", "_law_place", "_law_number_here", "_law_far"] ["_law_row", "_law_head_here", "_law_place"] (defScope sLCleared) := ⟨rfl, rfl, rfl, by decide +kernel, rfl, by decide +kernel, by decide +kernel⟩
abbrev sLSteps : Stmt := top 83
theorem scLSteps : FnScope ["_law_rows", "_law_left", "_law_found", "_law_row", "_law_place", "_law_some", "_law_head_here", "_law_number_here"] ["_law_rows"] (defScope sLSteps) := ⟨rfl, rfl, rfl, by decide +kernel, rfl, by decide +kernel, by decide +kernel⟩
abbrev sLHead : Stmt := top 84
theorem scLHead : FnScope ["_law_row", "_law_place", "_law_number_here"] ["_law_row"] (defScope sLHead) := ⟨rfl, rfl, rfl, by decide +kernel, rfl, by decide +kernel, by decide +kernel⟩
abbrev sLTold : Stmt := top 85
theorem scLTold : FnScope ["_law_own", "_law_number_here", "_law_row"] ["_law_own"] (defScope sLTold) := ⟨rfl, rfl, rfl, by decide +kernel, rfl, by decide +kernel, by decide +kernel⟩
abbrev sLDot : Stmt := top 86
theorem scLDot : FnScope ["_law_one", "_law_other", "_law_near", "_law_far"] ["_law_one", "_law_other"] (defScope sLDot) := ⟨rfl, rfl, rfl, by decide +kernel, rfl, by decide +kernel, by decide +kernel⟩
abbrev sLLed : Stmt := top 87
theorem scLLed : FnScope ["_law_row", "_law_table", "_law_line", "_law_to"] ["_law_row", "_law_table"] (defScope sLLed) := ⟨rfl, rfl, rfl, by decide +kernel, rfl, by decide +kernel, by decide +kernel⟩
abbrev sLTimes : Stmt := top 88
theorem scLTimes : FnScope ["_law_table", "_law_other", "_law_row"] ["_law_table", "_law_other"] (defScope sLTimes) := ⟨rfl, rfl, rfl, by decide +kernel, rfl, by decide +kernel, by decide +kernel⟩
abbrev sLUnits : Stmt := top 89
theorem scLUnits : FnScope ["_law_size", "_law_at", "_law_to"] ["_law_size"] (defScope sLUnits) := ⟨rfl, rfl, rfl, by decide +kernel, rfl, by decide +kernel, by decide +kernel⟩
def rLGcd : List T → T → Prop := fun ts t => ∃ i j : Int, ts = [.int i, .int j] ∧ t = .int (Nat.gcd i.natAbs j.natAbs : Nat)
def rLBare : List T → T → Prop := fun ts t => ∃ row : List Int, ts = [tI row] ∧ t = tI (bareRow row) ∧ row.length ≤ 500 ∧ rowGcd row < 2 ^ 9000
def rLCleared : List T → T → Prop := fun ts t => ∃ (row head : List Int) (p : Nat), ts = [tI row, tI head, .int p] ∧ t = tI (clr head p row) ∧ row.getD p 0 ≠ 0 ∧ p < row.length ∧ row.length = head.length ∧ row.length ≤ 500 ∧ Bd 4490 row ∧ Bd 4490 head
/-- the law's own stages -/
def lHead (row : List Int) (p : Nat) : List Int := if 0 < row.getD p 0 then row else row.map fun n => 0 - n
def lStep (st : List (List Int) × List (List Int)) (p : Nat) : List (List Int) × List (List Int) :=
  match st.1.filter fun r => r.getD p 0 != 0 with
  | [] => st
  | r :: _ => (st.1.map (clr (lHead r p) p), st.2.map (clr (lHead r p) p) ++ [lHead r p])
def lStg (rows : List (List Int)) (k : Nat) : List (List Int) × List (List Int) := (List.range k).foldl lStep (rows.map bareRow, [])
def lawSteps (rows : List (List Int)) : List (List Int) := (lStg rows (wideOf rows)).2
structure LFit (rows : List (List Int)) : Prop where
  n : rows.length ≤ 500
  w : ∀ r ∈ rows, r.length = wideOf rows
  ww : wideOf rows ≤ 500
  b0 : ∀ r ∈ rows, Bd 4490 r
  bd : ∀ p, p < wideOf rows → (∀ r ∈ (lStg rows p).1, Bd 4490 r) ∧ ∀ r ∈ (lStg rows p).2, Bd 4490 r
def rLSteps : List T → T → Prop := fun ts t => ∃ rows : List (List Int), ts = [tII rows] ∧ t = tII (lawSteps rows) ∧ LFit rows
def rLTold : List T → T → Prop := fun ts t => ∃ rows : List (List Int), ts = [tII rows] ∧ t = tRR (rows.map toldRow) ∧ ToldOk rows
def rLHead : List T → T → Prop := fun ts t => ∃ row : List Int, ts = [tI row] ∧ t = .int (headOf row : Nat) ∧ headOf row < row.length ∧ row.length ≤ 1000
def dot (a b : List Int) : Int := ((a.zip b).map fun z => z.1 * z.2).sum
def rLDot : List T → T → Prop := fun ts t => ∃ a b : List Int, ts = [tI a, tI b] ∧ t = .int (dot a b) ∧ a.length ≤ 500 ∧ Bd 100000 a ∧ Bd 100000 b
def led (row : List Int) (tb : List (List Int)) : List Int := (List.range tb.length).map fun to' => dot row (tb.map fun l => l.getD to' 0)
def rLLed : List T → T → Prop := fun ts t => ∃ (row : List Int) (tb : List (List Int)), ts = [tI row, tII tb] ∧ t = tI (led row tb) ∧ row.length ≤ 500 ∧ tb.length ≤ 500 ∧ Bd 100000 row ∧ ∀ l ∈ tb, l.length = tb.length ∧ Bd 100000 l
def times (a b : List (List Int)) : List (List Int) := a.map fun r => led r b
def rLTimes : List T → T → Prop := fun ts t => ∃ (a b : List (List Int)), ts = [tII a, tII b] ∧ t = tII (times a b) ∧ a.length ≤ 500 ∧ (∀ r ∈ a, r.length ≤ 500 ∧ Bd 100000 r) ∧ b.length ≤ 500 ∧ ∀ l ∈ b, l.length = b.length ∧ Bd 100000 l
def idle (n : Nat) : List (List Int) := (List.range n).map fun a => (List.range n).map fun b => if a = b then 1 else 0
def rLUnits : List T → T → Prop := fun ts t => ∃ n : Nat, ts = [.int n] ∧ t = tII (idle n) ∧ n ≤ 500
theorem SJ.to {ι : Type} {XX : ι → Cx} {m : Pm} {env : TEnv} {c : Pot} {st : Stmt} {o o' : Out} (h : SJ m XX st env c o) (e : o = o') : SJ m XX st env c o' := e ▸ h
/-- Euclid's turns -/
theorem euclid : ∀ (f n : Nat), ∃ (k : Nat) (sq : Nat → Nat × Nat), sq 0 = (n, f) ∧ (∀ i, i < k → 0 < (sq i).2 ∧ sq (i + 1) = ((sq i).2, (sq i).1 % (sq i).2)) ∧ sq k = (Nat.gcd n f, 0) := by
  intro f
  induction f using Nat.strongRecOn with
  | ind f ih =>
    intro n
    by_cases hf : f = 0
    · subst hf
      exact ⟨0, fun _ => (n, 0), rfl, fun i h => absurd h (Nat.not_lt_zero i), by simp⟩
    · obtain ⟨k, sq, h0, h1, h2⟩ := ih (n % f) (Nat.mod_lt _ (by omega)) f
      refine ⟨k + 1, fun i => match i with | 0 => (n, f) | i + 1 => sq i, rfl, fun i hi => ?_, ?_⟩
      · match i with
        | 0 => exact ⟨by show 0 < f; omega, h0⟩
        | i + 1 => exact h1 i (by omega)
      · show sq k = _
        rw [h2, Nat.gcd_comm n f, Nat.gcd_rec f n, Nat.gcd_comm]
theorem rowGcd_all (row : List Int) : row.foldl (fun g n => Nat.gcd g n.natAbs) 0 = rowGcd row := by
  unfold rowGcd
  have key : ∀ (l : List Int) (g : Nat), l.foldl (fun g n => Nat.gcd g n.natAbs) g = l.foldl (fun g n => if n = 0 then g else Nat.gcd g n.natAbs) g := by
    intro l
    induction l with
    | nil => intro g; rfl
    | cons n l ih =>
      intro g
      rw [List.foldl_cons, List.foldl_cons, ih]
      by_cases h : n = 0
      · subst h; simp
      · rw [if_neg h]
  exact key row 0
theorem first_placeI (row : List Int) (h : headOf row < row.length) : ((((List.range row.length).zip row).filter fun z => z.2 != 0).map fun z => T.int ((z.1 : Nat) : Int))[0]? = some (.int (headOf row : Nat)) := by
  have key : ∀ (l : List Int) (k : Nat), headOf l < l.length → ((((List.range' k l.length).zip l).filter fun z => z.2 != 0).map fun z => T.int ((z.1 : Nat) : Int))[0]? = some (.int ((k + headOf l : Nat) : Int)) := by
    intro l
    induction l with
    | nil => intro k h; exact absurd h (by simp)
    | cons q l ih =>
      intro k h
      rw [List.length_cons, List.range'_succ, List.zip_cons_cons]
      cases hq : (q != 0) with
      | true =>
        have e : headOf (q :: l) = 0 := by unfold headOf; rw [List.findIdx_cons, hq]; rfl
        rw [List.filter_cons_of_pos (by simpa using hq), e]
        rfl
      | false =>
        have e : headOf (q :: l) = headOf l + 1 := by unfold headOf; rw [List.findIdx_cons, hq]; rfl
        rw [e, List.length_cons] at h
        rw [List.filter_cons_of_neg (by simpa using hq), e, ih (k + 1) (by omega)]
        congr 2
        omega
  have := key row 0 h
  rw [Nat.zero_add] at this
  rw [List.range_eq_range']
  exact this
theorem absI (i : Int) : (if i < 0 then -i else i) = ((i.natAbs : Nat) : Int) := by split <;> omega
theorem tMap {α : Type} (f : α → Int) (xs : List α) : T.lst (xs.map fun x => T.int (f x)) = tI (xs.map f) := by rw [tI, List.map_map]; rfl
theorem tMapL {α : Type} (f : α → List Int) (xs : List α) : T.lst (xs.map fun x => tI (f x)) = tII (xs.map f) := by rw [tII, List.map_map]; rfl
theorem tMapQ {α : Type} (f : α → Rat) (xs : List α) : T.lst (xs.map fun x => T.rat (f x)) = tR (xs.map f) := by rw [tR, List.map_map]; rfl
theorem tMapQQ {α : Type} (f : α → List Rat) (xs : List α) : T.lst (xs.map fun x => tR (f x)) = tRR (xs.map f) := by rw [tRR, List.map_map]; rfl
section
variable {S : Stat} {CR CH : Addr}
theorem ok_lgcd {f : Addr} {fd : FuncData} (Fd : FnS S "_law_gcd" sLGcd f fd) (hm : S.mg "_law_gcd" = some (.ref f)) (g : MG S) : Dn S CR CH "_law_gcd" ["_law_one", "_law_other"] 1 (pureR rLGcd) := by
  refine Dn.pure Fd hm scLGcd (fun ts t h => ?_) (fun _ _ _ _ _ _ us hl => match us, hl with | [_, _], _ => rfl) ?_
  · obtain ⟨_, _, rfl, _⟩ := h; rfl
  · rintro p0 h0 cdv A outer s H E c ts t F ⟨i, j, rfl, rfl⟩
    obtain ⟨k, sq, e0, e1, e2⟩ := euclid j.natAbs i.natAbs
    refine .rt (b_cons (s_par F 2 3 (EJ.to (e_abs F g.abs_ (e_var F 0)) (t' := .int (((sq 0).1 : Nat) : Int)) (by rw [absI, e0])) (EJ.to (e_abs F g.abs_ (e_var F 1)) (t' := .int (((sq 0).2 : Nat) : Int)) (by rw [absI, e0])))
      (b_cons (s_while F k (fun q => ([Sl.val (.int i), Sl.val (.int j), Sl.val (.int (((sq q).1 : Nat) : Int)), Sl.val (.int (((sq q).2 : Nat) : Int))], c)) rfl (fun q hq => t_gt (e_var F 3) e_int (decide_eq_true (by have := (e1 q hq).1; omega))) (fun q hq => ?_) (t_gt (e_var F 3) e_int (decide_eq_false (by rw [e2]; simp))))
      (b_one (s_ret (EJ.to (e_var F 2) (by rw [e2]))))))
    obtain ⟨h1, h2⟩ := e1 q hq
    refine b_one (SJ.to (s_par F 2 3 (e_var F 3) (e_mod (e_intI F g.int_ (e_var F 2)) (e_var F 3) (by omega))) ?_)
    rw [h2]
    simp
theorem ok_lbare {f : Addr} {fd : FuncData} (Fd : FnS S "_law_bare" sLBare f fd) (hm : S.mg "_law_bare" = some (.ref f)) (g : MG S) (D : Dn S CR CH "_law_gcd" ["_law_one", "_law_other"] 1 (pureR rLGcd)) : Dn S CR CH "_law_bare" ["_law_row"] 2 (pureR rLBare) := by
  refine Dn.pure Fd hm scLBare (fun ts t h => ?_) (fun _ _ _ _ _ _ us hl => match us, hl with | [_], _ => rfl) ?_
  · obtain ⟨_, rfl, _⟩ := h; rfl
  · rintro p0 h0 cdv A outer s H E c ts t F ⟨row, rfl, rfl, hlen, hg⟩
    refine .rt (b_cons (s_set F 1 e_int) (b_cons (s_for F 2 (fun i => ([Sl.val (tI row), Sl.val (.int (((row.take i).foldl (fun g n => Nat.gcd g n.natAbs) 0 : Nat) : Int)), Sl.un], c)) (i_lst F (e_var F 0)) rfl ?_) (b_one (s_ret ?_))))
    · intro i y hy
      have step : (row.take (i + 1)).foldl (fun g n => Nat.gcd g n.natAbs) 0 = Nat.gcd ((row.take i).foldl (fun g n => Nat.gcd g n.natAbs) 0) y.natAbs := foldl_take hy
      refine b_weak [2] (b_one (s_set F 1 (e_call F D (a_cons (e_var F 1) (a_cons (e_var F 2) a_nil)) ⟨rfl, _, _, rfl, rfl⟩))) ?_
      rw [step]
      rfl
    · show EJ _ _ _ _ _ _ _
      rw [List.take_length, rowGcd_all]
      unfold bareRow
      by_cases h1 : 1 < rowGcd row
      · rw [if_pos h1]
        refine e_ifT (t_gt (e_var F 1) e_int (by simp; omega)) (EJ.to (e_comp F (c_name F (k := 2) (f := fun y => T.int (y / (rowGcd row : Int))) (i_lst F (e_var F 0)) (sz1000 (by omega)) (fun y hy => e_div (e_var (F.blk _) 2) (e_var (F.blk _) 1) ⟨by omega, ?_⟩))) (tMap _ _))
        rw [Int.natAbs_natCast]
        exact PySem.Flt.log2_lt_of (by decide) hg
      · rw [if_neg h1]
        exact e_ifF (t_gt (e_var F 1) e_int (by simp; omega)) (e_list F g.list_ (e_var F 0) rfl)
theorem ok_lcleared {f : Addr} {fd : FuncData} (Fd : FnS S "_law_cleared" sLCleared f fd) (hm : S.mg "_law_cleared" = some (.ref f)) (g : MG S) (D : Dn S CR CH "_law_bare" ["_law_row"] 2 (pureR rLBare)) : Dn S CR CH "_law_cleared" ["_law_row", "_law_head_here", "_law_place"] 3 (pureR rLCleared) := by
  refine Dn.pure Fd hm scLCleared (fun ts t h => ?_) (fun _ _ _ _ _ _ us hl => match us, hl with | [_, _, _], _ => rfl) ?_
  · obtain ⟨_, _, _, rfl, _⟩ := h; rfl
  · rintro p0 h0 cdv A outer s H E c ts t F ⟨row, head, p, rfl, rfl, hz, hp, hl, hlen, b1, b2⟩
    have hb := clr_bd (p := p) b1 b2
    unfold clr
    rw [if_neg hz]
    refine .rt (b_one (s_ret (e_call F D (a_cons (EJ.to (e_comp F (c_pair F (k := 3) (l := 4) (f := fun x : Int × Int => T.int (head.getD p 0 * x.1 - row.getD p 0 * x.2)) (IJ.to (i_zip F g.zip_ (e_var F 0) (e_var F 1)) (zip_emb _ _ _ _)) ?_ (fun x hx => ?_))) (tMap _ _)) a_nil) ⟨rfl, _, rfl, rfl, ?_, ?_⟩)))
    · rw [List.length_zip]; exact sz1000 (by omega)
    · obtain ⟨hx1, hx2⟩ := List.of_mem_zip hx
      exact EJ.to (e_sub (e_mul (e_var (F.blk _) 3) (e_ixL (F.blk _) (e_var (F.blk _) 1) (e_var (F.blk _) 2) (atI_int (by omega))) (mulW (b1 _ hx1) (getD_bd b2))) (e_mul (e_ixL (F.blk _) (e_var (F.blk _) 0) (e_var (F.blk _) 2) (atI_int hp)) (e_var (F.blk _) 4) (mulW (getD_bd b1) (b2 _ hx2)))) (by rw [Int.mul_comm x.1])
    · rw [List.length_map, List.length_zip]; omega
    · exact Nat.lt_trans (gcd_lt hb) (Nat.pow_lt_pow_right (by decide) (by decide))
theorem ok_lhead {f : Addr} {fd : FuncData} (Fd : FnS S "_law_head" sLHead f fd) (hm : S.mg "_law_head" = some (.ref f)) (g : MG S) : Dn S CR CH "_law_head" ["_law_row"] 1 (pureR rLHead) := by
  refine Dn.pure Fd hm scLHead (fun ts t h => ?_) (fun _ _ _ _ _ _ us hl => match us, hl with | [_], _ => rfl) ?_
  · obtain ⟨_, rfl, _⟩ := h; rfl
  · rintro p0 h0 cdv A outer s H E c ts t F ⟨row, rfl, rfl, h1, h2⟩
    refine .rt (b_one (s_ret (e_ixL F (e_comp F (c_pairF F (k := 1) (l := 2) (f := fun z : Nat × Int => T.int (z.1 : Nat)) (p := fun z => z.2 != 0) (IJ.to (i_enum F g.enum_ (e_var F 0)) (enum_emb _ _)) ?_ (fun z hz => t_neI (e_var (F.blk _) 2) e_int ?_) (fun z hz _ => e_var (F.blk _) 1))) e_int (atI_pos (p := 0) (first_placeI row h1)))))
    · rw [List.length_zip, List.length_range]; exact sz1000 (by omega)
    · rw [bne, Bool.beq_eq_decide_eq]
theorem ok_ltold {f : Addr} {fd : FuncData} (Fd : FnS S "_law_told" sLTold f fd) (hm : S.mg "_law_told" = some (.ref f)) (kf : KF S CR CH) (M : Rm S CR) (D : Dn S CR CH "_law_head" ["_law_row"] 1 (pureR rLHead)) : Dn S CR CH "_law_told" ["_law_own"] 5 (pureR rLTold) := by
  refine Dn.pure Fd hm scLTold (fun ts t h => ?_) (fun _ _ _ _ _ _ us hl => match us, hl with | [_], _ => rfl) ?_
  · obtain ⟨_, rfl, _⟩ := h; rfl
  · rintro p0 h0 cdv A outer s H E c ts t F ⟨rows, rfl, rfl, ok⟩
    have hn := ok.n
    refine .rt (b_one (s_ret (EJ.to (e_comp F (c_name F (k := 2) (f := fun r : List Int => tR (toldRow r)) (i_lst F (e_var F 0)) (sz1000 hn) (fun r hr => EJ.to (e_comp (F.blk _) (c_name (F.blk _) (k := 1) (f := fun n : Int => T.rat (Rat.divInt n (r.getD (headOf r) 0))) (i_lst (F.blk _) (e_var (F.blk _) 2)) (sz1000 (ok.w r hr)) (fun n hn' => ?_))) (tMapQ _ _)))) (tMapQQ _ _))))
    exact e_ratio2 ((F.blk _).blk _) kf M (e_var ((F.blk _).blk _) 1) (e_ixL ((F.blk _).blk _) (e_var ((F.blk _).blk _) 2) (e_call ((F.blk _).blk _) D (a_cons (e_var ((F.blk _).blk _) 2) a_nil) ⟨rfl, r, rfl, rfl, ok.h r hr, ok.w r hr⟩) (atI_int (ok.h r hr))) (ok.p r hr) (ok.b r hr)
theorem clrN_eq {head row : List Int} {p : Nat} (h : row.getD p 0 ≠ 0) : clr head p row = bareRow ((row.zip head).map fun x => head.getD p 0 * x.1 - row.getD p 0 * x.2) := by unfold clr; rw [if_neg h]
structure LRect (w : Nat) (st : List (List Int) × List (List Int)) : Prop where
  l : ∀ r ∈ st.1, r.length = w
  f : ∀ r ∈ st.2, r.length = w
theorem lHead_length (r : List Int) (p : Nat) : (lHead r p).length = r.length := by unfold lHead; split <;> simp
theorem filter_head {r : List Int} {rs l : List (List Int)} {p : Nat} (h : l.filter (fun r => r.getD p 0 != 0) = r :: rs) : r ∈ l ∧ r.getD p 0 ≠ 0 := by
  have : r ∈ l.filter (fun r => r.getD p 0 != 0) := by rw [h]; exact List.mem_cons_self
  obtain ⟨h1, h2⟩ := List.mem_filter.mp this
  exact ⟨h1, bne_iff_ne.mp h2⟩
theorem LRect.step {w : Nat} {st : List (List Int) × List (List Int)} (r : LRect w st) (p : Nat) : LRect w (lStep st p) := by
  unfold lStep
  split
  · exact r
  · rename_i x xs hx
    have hm := (filter_head hx).1
    have hh : (lHead x p).length = w := by rw [lHead_length]; exact r.l _ hm
    refine ⟨fun y hy => ?_, fun y hy => ?_⟩
    · obtain ⟨z, hz, rfl⟩ := List.mem_map.mp hy
      have := r.l z hz
      rw [clr_length (by rw [this, hh])]; exact this
    · rcases List.mem_append.mp hy with hy | hy
      · obtain ⟨z, hz, rfl⟩ := List.mem_map.mp hy
        have := r.f z hz
        rw [clr_length (by rw [this, hh])]; exact this
      · rw [List.mem_singleton] at hy
        rw [hy]; exact hh
theorem lStg_succ (rows : List (List Int)) (p : Nat) : lStg rows (p + 1) = lStep (lStg rows p) p := by
  unfold lStg
  rw [List.range_succ, List.foldl_append]
  rfl
theorem lStg_rect {rows : List (List Int)} {w : Nat} (h : ∀ r ∈ rows, r.length = w) : ∀ p, LRect w (lStg rows p)
  | 0 => ⟨fun r hr => by
      obtain ⟨x, hx, rfl⟩ := List.mem_map.mp hr
      rw [bareRow_length]; exact h x hx, fun r hr => absurd hr (by show ¬ r ∈ ([] : List (List Int)); exact List.not_mem_nil)⟩
  | p + 1 => by rw [lStg_succ]; exact (lStg_rect h p).step p
theorem lStg_len (rows : List (List Int)) : ∀ p, (lStg rows p).1.length = rows.length ∧ (lStg rows p).2.length ≤ p
  | 0 => ⟨by simp [lStg], by simp [lStg]⟩
  | p + 1 => by
    rw [lStg_succ]
    obtain ⟨h1, h2⟩ := lStg_len rows p
    unfold lStep
    split
    · exact ⟨h1, by omega⟩
    · exact ⟨by rw [List.length_map]; exact h1, by rw [List.length_append, List.length_map, List.length_singleton]; omega⟩
theorem lHead_bd {r : List Int} {p b : Nat} (h : Bd b r) : Bd b (lHead r p) := by
  unfold lHead
  split
  · exact h
  · intro n hn
    obtain ⟨k, hk, rfl⟩ := List.mem_map.mp hn
    rw [Int.zero_sub, Int.natAbs_neg]
    exact h k hk
theorem ok_lsteps {f : Addr} {fd : FuncData} (Fd : FnS S "_law_steps" sLSteps f fd) (hm : S.mg "_law_steps" = some (.ref f)) (g : MG S) (D1 : Dn S CR CH "_law_bare" ["_law_row"] 2 (pureR rLBare)) (D2 : Dn S CR CH "_law_cleared" ["_law_row", "_law_head_here", "_law_place"] 3 (pureR rLCleared)) : Dn S CR CH "_law_steps" ["_law_rows"] 4 (pureR rLSteps) := by
  refine Dn.pure Fd hm scLSteps (fun ts t h => ?_) (fun _ _ _ _ _ _ us hl => match us, hl with | [_], _ => rfl) ?_
  · obtain ⟨_, rfl, _⟩ := h; rfl
  · rintro p0 h0 cdv A outer s H E c ts t F ⟨rows, rfl, rfl, fit⟩
    have hn := fit.n
    have hww := fit.ww
    refine .rt (b_cons (s_par F 1 2 (EJ.to (e_comp F (c_name F (k := 3) (f := fun r : List Int => tI (bareRow r)) (i_lst F (e_var F 0)) (sz1000 (by omega)) (fun r hr => e_call (F.blk _) D1 (a_cons (e_var (F.blk _) 3) a_nil) ⟨rfl, r, rfl, rfl, by rw [fit.w r hr]; exact hww, Nat.lt_trans (gcd_lt (fit.b0 r hr)) (Nat.pow_lt_pow_right (by decide) (by decide))⟩))) (tMapL _ _)) (e_lst a_nil))
      (b_cons (s_for F 4 (fun i => ([Sl.val (tII rows), Sl.val (tII (lStg rows i).1), Sl.val (tII (lStg rows i).2), Sl.un, Sl.un, Sl.un, Sl.un, Sl.un], c)) (ys := List.range (wideOf rows)) (i_rangeN F g.range_ ?_ (by omega)) rfl ?_) (b_one (s_ret (EJ.to (e_var F 2) ?_)))))
    · cases hrows : rows with
      | nil => exact e_ifF (t_neNilF F (e_var F 0) (e_lst a_nil)) e_int
      | cons r rs => exact e_ifT (t_neNilT F (e_var F 0) (e_lst a_nil) (by simp)) (EJ.to (e_len F g.len_ (e_ixL F (e_var F 0) e_int (atI_pos (p := 0) (x := tI r) rfl)) rfl) (by simp [wideOf]))
    · intro i p hp
      have hpw : p = i ∧ i < wideOf rows := by
        have hi := (List.getElem?_eq_some_iff.mp hp).1
        rw [List.length_range] at hi
        rw [List.getElem?_range hi] at hp
        exact ⟨(Option.some.inj hp).symm, hi⟩
      obtain ⟨rfl, hpw⟩ := hpw
      have R := lStg_rect fit.w p
      have L := lStg_len rows p
      have st := lStg_succ rows p
      obtain ⟨bl, bf⟩ := fit.bd p hpw
      have ne : ∀ r : List Int, (!decide (r.getD p 0 = 0)) = (r.getD p 0 != 0) := fun r => by rw [bne, Bool.beq_eq_decide_eq]
      cases hs : (lStg rows p).1.filter fun r => r.getD p 0 != 0 with
      | nil =>
        have e : lStg rows (p + 1) = lStg rows p := by rw [st]; unfold lStep; rw [hs]
        rw [e]
        exact b_weak [3, 4, 5] (b_cons (s_setComp F 5 (c_nameF F (k := 3) (f := fun r : List Int => tI r) (p := fun r => r.getD p 0 != 0) (i_lst F (e_var F 1)) (sz1000 (by omega)) (fun r hr => t_neI (e_ixL (F.blk _) (e_var (F.blk _) 3) (e_var (F.blk _) 4) (atI_int (by rw [R.l r hr]; exact hpw))) e_int (ne r)) (fun r hr _ => e_var (F.blk _) 3)))
          (b_one (s_ifF (t_neNilF F (EJ.to (e_var F 5) (by rw [hs]; rfl)) (e_lst a_nil)) b_nil))) rfl
      | cons x xs =>
        obtain ⟨hx, hx0⟩ := filter_head hs
        have hxw := R.l x hx
        have hhw : (lHead x p).length = wideOf rows := by rw [lHead_length]; exact hxw
        have hhb : Bd 4490 (lHead x p) := lHead_bd (bl x hx)
        have e : lStg rows (p + 1) = ((lStg rows p).1.map (clr (lHead x p) p), (lStg rows p).2.map (clr (lHead x p) p) ++ [lHead x p]) := by rw [st]; unfold lStep; rw [hs]
        rw [e]
        have elt : ∀ r : List Int, r.length = wideOf rows → Bd 4490 r → ∀ {n' : Nat} {ι' : Type} {YY : ι' → Cx} {env' : TEnv} {a b d : Expr} {pos : Pos}, TJ ⟨CR, CH, p0, h0⟩ YY d env' c (r.getD p 0 != 0) c → EJ ⟨CR, CH, p0, h0⟩ YY b env' c (tI r) c → (r.getD p 0 ≠ 0 → EJ ⟨CR, CH, p0, h0⟩ YY a env' c (tI (clr (lHead x p) p r)) c) → EJ ⟨CR, CH, p0, h0⟩ YY (.IfExp d a b pos) env' c (tI (clr (lHead x p) p r)) c := by
          intro r _ _ n' ι' YY env' a b d pos hd hb ha
          by_cases hz : r.getD p 0 = 0
          · have e2 : clr (lHead x p) p r = r := by unfold clr; rw [if_pos hz]
            rw [e2]
            exact e_ifF (hd.to (by rw [hz]; rfl)) hb
          · exact e_ifT (hd.to (bne_iff_ne.mpr hz)) (ha hz)
        refine b_weak [3, 4, 5, 6] (b_cons (s_setComp F 5 (c_nameF F (k := 3) (f := fun r : List Int => tI r) (p := fun r => r.getD p 0 != 0) (i_lst F (e_var F 1)) (sz1000 (by omega)) (fun r hr => t_neI (e_ixL (F.blk _) (e_var (F.blk _) 3) (e_var (F.blk _) 4) (atI_int (by rw [R.l r hr]; exact hpw))) e_int (ne r)) (fun r hr _ => e_var (F.blk _) 3)))
          (b_one (s_ifT (t_neNilT F (e_var F 5) (e_lst a_nil) (by rw [hs]; simp))
            (b_cons (s_set F 6 (t := tI (lHead x p)) ?_)
            (b_cons (s_setComp F 1 (c_name F (k := 3) (f := fun r => tI (clr (lHead x p) p r)) (i_lst F (e_var F 1)) (sz1000 (by omega)) (fun r hr => elt r (R.l r hr) (bl r hr) (n' := 0) (t_neI (e_ixL (F.blk _) (e_var (F.blk _) 3) (e_var (F.blk _) 4) (atI_int (by rw [R.l r hr]; exact hpw))) e_int (ne r)) (e_var (F.blk _) 3) (fun hz => e_call (F.blk _) D2 (a_cons (e_var (F.blk _) 3) (a_cons (e_var (F.blk _) 6) (a_cons (e_var (F.blk _) 4) a_nil))) ⟨rfl, r, _, p, rfl, rfl, hz, by rw [R.l r hr]; exact hpw, by rw [R.l r hr, hhw], by rw [R.l r hr]; exact hww, bl r hr, hhb⟩))))
            (b_one (s_set F 2 (EJ.to (e_cat (EJ.to (e_comp F (c_name F (k := 3) (f := fun r => tI (clr (lHead x p) p r)) (i_lst F (e_var F 2)) (sz1000 (by omega)) (fun r hr => elt r (R.f r hr) (bf r hr) (n' := 0) (t_neI (e_ixL (F.blk _) (e_var (F.blk _) 3) (e_var (F.blk _) 4) (atI_int (by rw [R.f r hr]; exact hpw))) e_int (ne r)) (e_var (F.blk _) 3) (fun hz => e_call (F.blk _) D2 (a_cons (e_var (F.blk _) 3) (a_cons (e_var (F.blk _) 6) (a_cons (e_var (F.blk _) 4) a_nil))) ⟨rfl, r, _, p, rfl, rfl, hz, by rw [R.f r hr]; exact hpw, by rw [R.f r hr, hhw], by rw [R.f r hr]; exact hww, bf r hr, hhb⟩)))) (t' := .lst (((lStg rows p).2.map (clr (lHead x p) p)).map tI)) (tMapL _ _)) (e_lst (a_cons (e_var F 6) a_nil)) (cons_sz ?_)) (catM tI _ [lHead x p]))))))))) ?_
        · by_cases hpos : 0 < x.getD p 0
          · have e3 : lHead x p = x := by unfold lHead; rw [if_pos hpos]
            rw [e3]
            exact e_ifT (t_gt (e_ixL F (e_ixL F (e_var F 5) e_int (atI_pos (p := 0) (x := tI x) (by rw [hs]; rfl))) (e_var F 4) (atI_int (by rw [hxw]; exact hpw))) e_int (decide_eq_true hpos)) (e_ixL F (e_var F 5) e_int (atI_pos (p := 0) (x := tI x) (by rw [hs]; rfl)))
          · have e3 : lHead x p = x.map fun n => 0 - n := by unfold lHead; rw [if_neg hpos]
            rw [e3]
            exact e_ifF (t_gt (e_ixL F (e_ixL F (e_var F 5) e_int (atI_pos (p := 0) (x := tI x) (by rw [hs]; rfl))) (e_var F 4) (atI_int (by rw [hxw]; exact hpw))) e_int (decide_eq_false hpos)) (EJ.to (e_comp F (c_name F (k := 7) (f := fun n : Int => T.int (0 - n)) (i_lst F (e_ixL F (e_var F 5) e_int (atI_pos (p := 0) (x := tI x) (by rw [hs]; rfl)))) (sz1000 (by omega)) (fun n hn' => e_sub e_int (e_var (F.blk _) 7)))) (tMap _ _))
        · rw [List.length_map, List.length_map]; show _ + 1 ≤ _; omega
        · simp only [tII, List.map_map, Function.comp_def]
          rfl
    · rw [List.length_range]; rfl
theorem ok_ldot {f : Addr} {fd : FuncData} (Fd : FnS S "_law_dot" sLDot f fd) (hm : S.mg "_law_dot" = some (.ref f)) (g : MG S) : Dn S CR CH "_law_dot" ["_law_one", "_law_other"] 1 (pureR rLDot) := by
  refine Dn.pure Fd hm scLDot (fun ts t h => ?_) (fun _ _ _ _ _ _ us hl => match us, hl with | [_, _], _ => rfl) ?_
  · obtain ⟨_, _, rfl, _⟩ := h; rfl
  · rintro p0 h0 cdv A outer s H E c ts t F ⟨a, b, rfl, rfl, hl, ha, hb⟩
    refine .rt (b_one (s_ret (e_sum F g.sum_ (EJ.to (e_comp F (c_pair F (k := 2) (l := 3) (f := fun z : Int × Int => T.int (z.1 * z.2)) (IJ.to (i_zip F g.zip_ (e_var F 0) (e_var F 1)) (zip_emb _ _ _ _)) ?_ (fun z hz => ?_))) (tMap _ _)))))
    · rw [List.length_zip]; exact sz1000 (by omega)
    · obtain ⟨h1, h2⟩ := List.of_mem_zip hz
      exact e_mul (e_var (F.blk _) 2) (e_var (F.blk _) 3) (mulW (a := 100000) (b := 100000) (ha _ h1) (hb _ h2))
theorem ok_lled {f : Addr} {fd : FuncData} (Fd : FnS S "_law_led" sLLed f fd) (hm : S.mg "_law_led" = some (.ref f)) (g : MG S) (D : Dn S CR CH "_law_dot" ["_law_one", "_law_other"] 1 (pureR rLDot)) : Dn S CR CH "_law_led" ["_law_row", "_law_table"] 2 (pureR rLLed) := by
  refine Dn.pure Fd hm scLLed (fun ts t h => ?_) (fun _ _ _ _ _ _ us hl => match us, hl with | [_, _], _ => rfl) ?_
  · obtain ⟨_, _, rfl, _⟩ := h; rfl
  · rintro p0 h0 cdv A outer s H E c ts t F ⟨row, tb, rfl, rfl, hl, hn, hr, hb⟩
    refine .rt (b_one (s_ret (EJ.to (e_comp F (c_name F (k := 3) (f := fun to' : Nat => T.int (dot row (tb.map fun l => l.getD to' 0))) (i_rangeN F g.range_ (e_len F g.len_ (e_var F 1) rfl) (by rw [List.length_map]; omega)) (sz1000 (by simp; omega)) (fun p hp => ?_))) (by rw [List.length_map]; exact tMap _ _))))
    have hp' : p < tb.length := by simpa using hp
    refine e_call (F.blk _) D (a_cons (e_var (F.blk _) 0) (a_cons (EJ.to (e_comp (F.blk _) (c_name (F.blk _) (k := 2) (f := fun l : List Int => T.int (l.getD p 0)) (i_lst (F.blk _) (e_var (F.blk _) 1)) (sz1000 (by omega)) (fun l hl' => e_ixL ((F.blk _).blk _) (e_var ((F.blk _).blk _) 2) (e_var ((F.blk _).blk _) 3) (atI_int (by rw [(hb l hl').1]; exact hp'))))) (tMap _ _)) a_nil)) ⟨rfl, _, _, rfl, rfl, hl, hr, ?_⟩
    intro n hn'
    obtain ⟨l, hl', rfl⟩ := List.mem_map.mp hn'
    exact getD_bd (hb l hl').2
theorem ok_ltimes {f : Addr} {fd : FuncData} (Fd : FnS S "_law_times" sLTimes f fd) (hm : S.mg "_law_times" = some (.ref f)) (g : MG S) (D : Dn S CR CH "_law_led" ["_law_row", "_law_table"] 2 (pureR rLLed)) : Dn S CR CH "_law_times" ["_law_table", "_law_other"] 3 (pureR rLTimes) := by
  refine Dn.pure Fd hm scLTimes (fun ts t h => ?_) (fun _ _ _ _ _ _ us hl => match us, hl with | [_, _], _ => rfl) ?_
  · obtain ⟨_, _, rfl, _⟩ := h; rfl
  · rintro p0 h0 cdv A outer s H E c ts t F ⟨a, b, rfl, rfl, ha, hra, hb, hrb⟩
    exact .rt (b_one (s_ret (EJ.to (e_comp F (c_name F (k := 2) (f := fun r : List Int => tI (led r b)) (i_lst F (e_var F 0)) (sz1000 (by omega)) (fun r hr => e_call (F.blk _) D (a_cons (e_var (F.blk _) 2) (a_cons (e_var (F.blk _) 1) a_nil)) ⟨rfl, r, b, rfl, rfl, (hra r hr).1, hb, (hra r hr).2, hrb⟩))) (tMapL _ _))))
theorem ok_lunits {f : Addr} {fd : FuncData} (Fd : FnS S "_law_units" sLUnits f fd) (hm : S.mg "_law_units" = some (.ref f)) (g : MG S) : Dn S CR CH "_law_units" ["_law_size"] 1 (pureR rLUnits) := by
  refine Dn.pure Fd hm scLUnits (fun ts t h => ?_) (fun _ _ _ _ _ _ us hl => match us, hl with | [_], _ => rfl) ?_
  · obtain ⟨_, rfl, _⟩ := h; rfl
  · rintro p0 h0 cdv A outer s H E c ts t F ⟨k, rfl, rfl, hk⟩
    refine .rt (b_one (s_ret (EJ.to (e_comp F (c_name F (k := 1) (f := fun a : Nat => tI ((List.range k).map fun b => if a = b then 1 else 0)) (i_rangeN F g.range_ (e_var F 0) (by omega)) (sz1000 (by simp; omega)) (fun a ha => EJ.to (e_comp (F.blk _) (c_name (F.blk _) (k := 2) (f := fun b : Nat => T.int (if a = b then 1 else 0)) (i_rangeN (F.blk _) g.range_ (e_var (F.blk _) 0) (by omega)) (sz1000 (by simp; omega)) (fun b hb => EJ.to (e_intB ((F.blk _).blk _) g.int_ (e_eqI (e_var ((F.blk _).blk _) 1) (e_var ((F.blk _).blk _) 2))) ?_))) (tMap _ _)))) (tMapL _ _))))
    unfold b2i
    by_cases z : a = b
    · subst z; simp
    · have : ¬ (a : Int) = (b : Int) := by omega
      simp [z, this]
end
end TW
set_option Elab.async false
set_option linter.all false
set_option maxRecDepth 100000
set_option maxHeartbeats 4000000
set_option exponentiation.threshold 100000
/-! La3: the law's letters, given tables, houses, noughts, tables that commute. -/
namespace TW
open PySem L2
abbrev sLLetter : Stmt := top 92
theorem scLLetter : FnScope ["_law_pot_here", "_law_size", "_law_place", "_law_way", "_law_found", "_law_at", "_law_row", "_law_to", "_law_is_out"] ["_law_pot_here", "_law_size", "_law_place", "_law_way"] (defScope sLLetter) := ⟨rfl, rfl, rfl, by decide +kernel, rfl, by decide +kernel, by decide +kernel⟩
abbrev sLAs : Stmt := top 93
theorem scLAs : FnScope ["_law_pot_here", "_law_row", "_law_found", "_law_number_here"] ["_law_pot_here", "_law_row"] (defScope sLAs) := ⟨rfl, rfl, rfl, by decide +kernel, rfl, by decide +kernel, by decide +kernel⟩
abbrev sLGiven : Stmt := top 94
theorem scLGiven : FnScope ["_law_pot_here", "_law_rows", "_law_found", "_law_row"] ["_law_pot_here", "_law_rows"] (defScope sLGiven) := ⟨rfl, rfl, rfl, by decide +kernel, rfl, by decide +kernel, by decide +kernel⟩
abbrev sLHouse : Stmt := top 95
theorem scLHouse : FnScope ["_law_pot_here", "_law_letters", "_law_table"] ["_law_pot_here", "_law_letters"] (defScope sLHouse) := ⟨rfl, rfl, rfl, by decide +kernel, rfl, by decide +kernel, by decide +kernel⟩
abbrev sLNoughts : Stmt := top 96
theorem scLNoughts : FnScope ["_law_table", "_law_size", "_law_own", "_law_found", "_law_line", "_law_to", "_law_heads", "_law_much", "_law_row", "_law_head_here", "_law_free", "_law_zero"] ["_law_table", "_law_size"] (defScope sLNoughts) := ⟨rfl, rfl, rfl, by decide +kernel, rfl, by decide +kernel, by decide +kernel⟩
abbrev sLTwice : Stmt := top 97
theorem scLTwice : FnScope ["_law_table", "_law_numbers", "_law_size", "_law_found", "_law_block", "_law_row", "_law_number_here"] ["_law_table", "_law_numbers"] (defScope sLTwice) := ⟨rfl, rfl, rfl, by decide +kernel, rfl, by decide +kernel, by decide +kernel⟩
abbrev sLSum : Stmt := top 98
theorem scLSum : FnScope ["_law_one", "_law_other", "_law_much", "_law_near", "_law_far", "_law_row", "_law_line"] ["_law_one", "_law_other", "_law_much"] (defScope sLSum) := ⟨rfl, rfl, rfl, by decide +kernel, rfl, by decide +kernel, by decide +kernel⟩
abbrev sLComm : Stmt := top 99
theorem scLComm : FnScope ["_law_pot_here", "_law_way", "_law_size", "_law_letter_here", "_law_table", "_law_other", "_law_letters", "_law_much", "_law_number_here", "_law_row", "_law_half", "_law_numbers"] ["_law_pot_here"] (defScope sLComm) := ⟨rfl, rfl, rfl, by decide +kernel, rfl, by decide +kernel, by decide +kernel⟩
section
variable {S : Stat} {N : List Str} {n : Nat} {ι : Type} {XX : ι → Cx} {m : Pm} {env : TEnv} {c c1 c2 c3 : Pot}
theorem e_tuple (F : Fam S N n XX) {p pos : Pos} {e : Expr} {xs : List T} (hm : S.mg "tuple" = none) (he : EJ m XX e env c (.lst xs) c1) (hg : ∀ i, Gl (XX i) "tuple" := by intro _; rfl)
    (hs : ∀ i, starEach [e] (XX i).env = [(false, eval e (XX i).env)] := by intro _; rfl) : EJ m XX (.Call (.Name "tuple" p) [e] [] pos) env c (.tup xs) c1 :=
  e_callTy F (r := fun xs H Q => ∃ p ys, xs = [V.ref p] ∧ ((SqL S.K H p ys ∧ ∀ l, H l = none → Q (.ref l) (upd H l (.tup ys))) ∨ (SqT S.K H p ys ∧ Q (.ref p) H))) (fun i => by rw [← F.k i]; exact call_tuple_of) hm (by decide +kernel) (a_cons he a_nil hs) (by
    intro c B H vs s hv Q q
    obtain ⟨v, r, rfl, h1, h2⟩ := repL_cons.mp hv
    rw [repL_nil] at h2
    subst h2
    obtain ⟨a, vs, rfl, g1, g2⟩ := rep_lst.mp h1
    refine ⟨a, vs, rfl, .inl ⟨SqL.of (s.sub _ _ g1), fun p hp => ?_⟩⟩
    obtain ⟨n1, n2, n3⟩ := new_tup s hp g2
    exact q _ _ _ n1 n2 n3) hg (he := hs)
end
theorem EJ.toC {ι : Type} {XX : ι → Cx} {m : Pm} {env : TEnv} {c c1 c2 : Pot} {e : Expr} {t : T} (h : EJ m XX e env c t c1) (q : c1 = c2) : EJ m XX e env c t c2 := q ▸ h
theorem mapP_snoc {α β : Type} (f : α → Pot → β × Pot) : ∀ (xs : List α) (y : α) (c : Pot), mapP f (xs ++ [y]) c = ((mapP f xs c).1 ++ [(f y (mapP f xs c).2).1], (f y (mapP f xs c).2).2)
  | [], y, c => rfl
  | x :: xs, y, c => by
    show ((f x c).1 :: (mapP f (xs ++ [y]) (f x c).2).1, (mapP f (xs ++ [y]) (f x c).2).2) = _
    rw [mapP_snoc f xs y]
    rfl
theorem mapP_length {α β : Type} (f : α → Pot → β × Pot) : ∀ (xs : List α) (c : Pot), (mapP f xs c).1.length = xs.length
  | [], c => rfl
  | x :: xs, c => by
    show ((f x c).1 :: (mapP f xs (f x c).2).1).length = _
    rw [List.length_cons, mapP_length f xs, List.length_cons]
theorem mapP_mem {α β : Type} {f : α → Pot → β × Pot} {P : β → Prop} : ∀ {xs : List α} {c : Pot}, (∀ x ∈ xs, ∀ c, P (f x c).1) → ∀ y ∈ (mapP f xs c).1, P y
  | [], c, _, y, hy => absurd hy List.not_mem_nil
  | x :: xs, c, h, y, hy => by
    rcases List.mem_cons.mp (show y ∈ (f x c).1 :: (mapP f xs (f x c).2).1 from hy) with h1 | h1
    · rw [h1]; exact h x List.mem_cons_self c
    · exact mapP_mem (fun z hz => h z (List.mem_cons_of_mem _ hz)) y h1
def outB (place way a t : Int) : Bool := (decide (way = 0) && decide (t < a)) || ((decide (way = 1) && (decide (place ≤ a) && decide (t < place))) || (decide (way = 2) && (decide (place ≤ a) != decide (place ≤ t))))
def cellP (place way : Int) (a t : Nat) (c : Pot) : Int × Pot := if outB place way a t = true then (0, c) else numP c
def rowP (n : Nat) (place way : Int) (a : Nat) (c : Pot) : List Int × Pot := mapP (cellP place way a) (List.range n) c
def letterP (n : Nat) (place way : Int) (c : Pot) : List (List Int) × Pot := mapP (rowP n place way) (List.range n) c
def rLetter : Rel := fun c ts t c' => ∃ (n : Nat) (place way : Int), ts = [.pot, .int n, .int place, .int way] ∧ t = tII (letterP n place way c).1 ∧ c' = (letterP n place way c).2 ∧ n ≤ 500
def asNum (y : Int) (c : Pot) : Num × Pot := (if (drawP 2 c).1 = 0 then .i y else .r (y : Rat), (drawP 2 c).2)
def asP (row : List Int) (c : Pot) : GRow × Pot := (⟨decide ((drawP 3 (mapP asNum row c).2).1 = 0), (mapP asNum row c).1⟩, (drawP 3 (mapP asNum row c).2).2)
def rAs : Rel := fun c ts t c' => ∃ row : List Int, ts = [.pot, tI row] ∧ t = (asP row c).1.t ∧ c' = (asP row c).2 ∧ row.length ≤ 500
def givenP (rows : List (List Int)) (c : Pot) : GTab × Pot := (⟨decide ((drawP 4 (mapP asP rows c).2).1 = 0), (mapP asP rows c).1⟩, (drawP 4 (mapP asP rows c).2).2)
def rGiven : Rel := fun c ts t c' => ∃ rows : List (List Int), ts = [.pot, tII rows] ∧ t = (givenP rows c).1.t ∧ c' = (givenP rows c).2 ∧ rows.length ≤ 500 ∧ ∀ r ∈ rows, r.length ≤ 500
abbrev tIII (xs : List (List (List Int))) : T := .lst (xs.map tII)
def rLHouse : Rel := fun c ts t c' => ∃ (ls : List (List (List Int))) (n : Nat), ts = [.pot, tIII ls] ∧ t = tH ((mapP givenP ls c).1.map GTab.q) n ∧ c' = (mapP givenP ls c).2 ∧ LOk (mapP givenP ls c).1 n ∧ (∀ l ∈ ls, l.length ≤ 500 ∧ ∀ r ∈ l, r.length ≤ 500)
def aboutI (tb : List (List Int)) (n : Nat) : List (List Int) := (List.range n).map fun p => tb.map fun l => l.getD p 0
def muchOf (own : List (List Int)) : Int := own.foldl (fun m row => m * row.getD (headOf row) 0) 1
def zeroStep (much : Int) (free : Nat) (z row : List Int) : List Int := z.set (headOf row) (0 - much / row.getD (headOf row) 0 * row.getD free 0)
def zeroRow (own : List (List Int)) (n free : Nat) : List Int := own.foldl (zeroStep (muchOf own) free) ((List.replicate n 0).set free (muchOf own))
def lawZeros (own : List (List Int)) (n : Nat) : List (List Int) := ((List.range n).filter fun f => !(own.map headOf).contains f).map (zeroRow own n)
def lawNoughts (tb : List (List Int)) (n : Nat) : List (List Int) := lawSteps (lawZeros (lawSteps (aboutI tb n)) n)
structure NOk (tb : List (List Int)) (n : Nat) : Prop where
  nn : n ≤ 500
  t : tb.length ≤ 500
  tw : ∀ r ∈ tb, r.length = n
  a : LFit (aboutI tb n)
  o : (lawSteps (aboutI tb n)).length ≤ 500
  r : ∀ r ∈ lawSteps (aboutI tb n), r.length = n ∧ headOf r < n ∧ 0 < r.getD (headOf r) 0 ∧ Bd 9000 r
  m : ∀ k, (muchOf ((lawSteps (aboutI tb n)).take k)).natAbs < 2 ^ 100000
  z : LFit (lawZeros (lawSteps (aboutI tb n)) n)
def rLNoughts : List T → T → Prop := fun ts t => ∃ (tb : List (List Int)) (n : Nat), ts = [tII tb, .int n] ∧ t = tII (lawNoughts tb n) ∧ NOk tb n
def blockRow (ns : List Int) (blk : Nat) (r : List Int) : List Int := (r.map fun n => ns.getD (2 * blk + 0) 0 * n) ++ r.map fun n => ns.getD (2 * blk + 1) 0 * n
def blockRows (tb : List (List Int)) (ns : List Int) (blk : Nat) : List (List Int) := tb.map (blockRow ns blk)
theorem sz10k {k : Nat} (h : k ≤ 10000) : k < sizeLine := Nat.lt_of_le_of_lt h (by decide)
def twice (tb : List (List Int)) (a b p q : Int) : List (List Int) := (tb.map fun r => (r.map fun n => a * n) ++ (r.map fun n => b * n)) ++ (tb.map fun r => (r.map fun n => p * n) ++ (r.map fun n => q * n))
def rTwice : List T → T → Prop := fun ts t => ∃ (tb : List (List Int)) (a b p q : Int), ts = [tII tb, tI [a, b, p, q]] ∧ t = tII (twice tb a b p q) ∧ tb.length ≤ 500 ∧ (∀ r ∈ tb, r.length ≤ 500 ∧ Bd 100000 r) ∧ Bd 1000 [a, b, p, q]
def sumT (a b : List (List Int)) (k : Int) : List (List Int) := (a.zip b).map fun z => (z.1.zip z.2).map fun w => w.1 + k * w.2
def rSum2 : List T → T → Prop := fun ts t => ∃ (a b : List (List Int)) (k : Int), ts = [tII a, tII b, .int k] ∧ t = tII (sumT a b k) ∧ a.length ≤ 500 ∧ (∀ r ∈ a, r.length ≤ 500) ∧ (∀ r ∈ b, Bd 100000 r) ∧ k.natAbs < 2 ^ 1000
section
variable {S : Stat} {CR CH : Addr}
theorem ok_letter {f : Addr} {fd : FuncData} (Fd : FnS S "_law_letter" sLLetter f fd) (hm : S.mg "_law_letter" = some (.ref f)) (g : MG S) (D : Dn S CR CH "_law_number" ["_law_pot_here"] 3 rNumber) : Dn S CR CH "_law_letter" ["_law_pot_here", "_law_size", "_law_place", "_law_way"] 4 rLetter := by
  refine Dn.mk' Fd hm scLLetter (fun c ts t c' h => ?_) (fun _ _ _ _ _ _ us hl => match us, hl with | [_, _, _, _], _ => rfl) ?_
  · obtain ⟨_, _, _, rfl, _⟩ := h; rfl
  · rintro p0 h0 cdv A outer s H E c ts t c' F ⟨k, place, way, rfl, rfl, rfl, hk⟩
    have rr : ∀ i p, (List.range k)[i]? = some p → p = i ∧ i < k := fun i p hp => by
      have hi := (List.getElem?_eq_some_iff.mp hp).1
      rw [List.length_range] at hi
      rw [List.getElem?_range hi] at hp
      exact ⟨(Option.some.inj hp).symm, hi⟩
    refine .rt (b_cons (s_new F 4 (n_lst a_nil)) (b_cons (s_for F 5 (fun i => ([Sl.val .pot, Sl.val (.int k), Sl.val (.int place), Sl.val (.int way), Sl.own ((mapP (rowP k place way) (List.range i) c).1.map tI), Sl.un, Sl.un, Sl.un, Sl.un], (mapP (rowP k place way) (List.range i) c).2)) (i_rangeN F g.range_ (e_var F 1) (by omega)) rfl ?_) (b_freeze 4 (b_one (s_ret (EJ.to (EJ.toC (e_var F 4) ?_) ?_))))))
    · intro i p hp
      obtain ⟨rfl, hpk⟩ := rr i p hp
      have sn := mapP_snoc (rowP k place way) (List.range p) p c
      rw [← List.range_succ] at sn
      refine b_weak [5, 6, 7, 8] (b_cons (s_new F 6 (n_lst a_nil)) (b_cons (s_for F 7 (fun q => ([Sl.val .pot, Sl.val (.int k), Sl.val (.int place), Sl.val (.int way), Sl.own ((mapP (rowP k place way) (List.range p) c).1.map tI), Sl.val (.int (p : Nat)), Sl.own ((mapP (cellP place way p) (List.range q) (mapP (rowP k place way) (List.range p) c).2).1.map T.int), Sl.un, Sl.un], (mapP (cellP place way p) (List.range q) (mapP (rowP k place way) (List.range p) c).2).2)) (i_rangeN F g.range_ (e_var F 1) (by omega)) rfl ?_) (b_freeze 6 (b_one (s_append F 4 (t := tI (rowP k place way p (mapP (rowP k place way) (List.range p) c).2).1) (EJ.toC (EJ.to (e_var F 6) ?_) ?_) (sz1000 ?_)))))) ?_
      · intro q t' ht
        obtain ⟨rfl, hqk⟩ := rr q t' ht
        have sm := mapP_snoc (cellP place way p) (List.range t') t' (mapP (rowP k place way) (List.range p) c).2
        rw [← List.range_succ] at sm
        refine b_weak [7, 8] (b_cons (s_set F 8 (t := .bl (outB place way p t')) (e_or (e_and (e_eqI (e_var F 3) e_int) fun _ => e_one (e_gt (e_var F 5) (e_var F 7))) fun _ => e_or (e_and (e_eqI (e_var F 3) e_int) fun _ => e_and (e_ge (e_var F 5) (e_var F 2)) fun _ => e_one (e_lt (e_var F 7) (e_var F 2))) fun _ => e_one (e_and (e_eqI (e_var F 3) e_int) fun _ => e_one (e_neB (e_ge (e_var F 5) (e_var F 2)) (e_ge (e_var F 7) (e_var F 2)))))) (b_one (s_append F 6 (t := .int (cellP place way p t' (mapP (cellP place way p) (List.range t') (mapP (rowP k place way) (List.range p) c).2).2).1) (EJ.toC (c1 := (cellP place way p t' (mapP (cellP place way p) (List.range t') (mapP (rowP k place way) (List.range p) c).2).2).2) ?_ ?_) (sz1000 ?_)))) ?_
        · unfold cellP
          cases ho : outB place way p t' with
          | true =>
            rw [if_pos rfl]
            exact e_ifT (t_val (e_var F 8)) e_int
          | false =>
            rw [if_neg Bool.false_ne_true]
            exact e_ifF (t_val (e_var F 8)) (e_call F D (a_cons (e_var F 0) a_nil) ⟨rfl, rfl, rfl⟩)
        · rw [sm]
        · rw [List.length_map, mapP_length, List.length_range]; omega
        · rw [sm, List.map_append]; rfl
      · rw [List.length_range]; rfl
      · rw [sn, List.length_range]; rfl
      · rw [List.length_map, mapP_length, List.length_range]; omega
      · rw [sn, List.map_append]; rfl
    · rw [List.length_range]; rfl
    · rw [List.length_range]; rfl
theorem ok_as {f : Addr} {fd : FuncData} (Fd : FnS S "_law_as" sLAs f fd) (hm : S.mg "_law_as" = some (.ref f)) (g : MG S) (kf : KF S CR CH) (M : Rm S CR) (D : Dn S CR CH "_law_draw" ["_law_pot_here", "_law_sides"] 1 rDraw) : Dn S CR CH "_law_as" ["_law_pot_here", "_law_row"] 5 rAs := by
  refine Dn.mk' Fd hm scLAs (fun c ts t c' h => ?_) (fun _ _ _ _ _ _ us hl => match us, hl with | [_, _], _ => rfl) ?_
  · obtain ⟨_, rfl, _⟩ := h; rfl
  · rintro p0 h0 cdv A outer s H E c ts t c' F ⟨row, rfl, rfl, rfl, hk⟩
    refine .rt (b_cons (s_setComp F 2 (c_nameP F (k := 3) (f := asNum) (emb' := Num.t) (i_lst F (e_var F 1)) (sz1000 (by omega)) (fun y hy c => ?_))) (b_one (s_ret (c1 := (asP row c).2) ?_)))
    · unfold asNum
      by_cases h0 : (drawP 2 c).1 = 0
      · rw [if_pos h0]
        exact e_ifT (t_eqI (e_call (F.blk _) D (a_cons (e_var (F.blk _) 0) (a_cons e_int a_nil)) ⟨2, rfl, rfl, rfl, by decide, by decide⟩) e_int (by rw [h0]; rfl)) (e_var (F.blk _) 3)
      · rw [if_neg h0]
        exact e_ifF (t_eqI (e_call (F.blk _) D (a_cons (e_var (F.blk _) 0) (a_cons e_int a_nil)) ⟨2, rfl, rfl, rfl, by decide, by decide⟩) e_int (decide_eq_false (by omega))) (e_ratio1 (F.blk _) kf M (e_var (F.blk _) 3))
    · unfold asP GRow.t
      by_cases h0 : (drawP 3 (mapP asNum row c).2).1 = 0
      · have e : decide ((drawP 3 (mapP asNum row c).2).1 = 0) = true := decide_eq_true h0
        rw [e]
        exact e_ifT (t_eqI (e_call F D (a_cons (e_var F 0) (a_cons e_int a_nil)) ⟨3, rfl, rfl, rfl, by decide, by decide⟩) e_int (by rw [h0]; rfl)) (e_tuple F g.tuple_ (e_var F 2))
      · have e : decide ((drawP 3 (mapP asNum row c).2).1 = 0) = false := decide_eq_false h0
        rw [e]
        exact e_ifF (t_eqI (e_call F D (a_cons (e_var F 0) (a_cons e_int a_nil)) ⟨3, rfl, rfl, rfl, by decide, by decide⟩) e_int (decide_eq_false (by omega))) (e_var F 2)
theorem ok_given {f : Addr} {fd : FuncData} (Fd : FnS S "_law_given" sLGiven f fd) (hm : S.mg "_law_given" = some (.ref f)) (g : MG S) (D : Dn S CR CH "_law_draw" ["_law_pot_here", "_law_sides"] 1 rDraw) (D2 : Dn S CR CH "_law_as" ["_law_pot_here", "_law_row"] 5 rAs) : Dn S CR CH "_law_given" ["_law_pot_here", "_law_rows"] 6 rGiven := by
  refine Dn.mk' Fd hm scLGiven (fun c ts t c' h => ?_) (fun _ _ _ _ _ _ us hl => match us, hl with | [_, _], _ => rfl) ?_
  · obtain ⟨_, rfl, _⟩ := h; rfl
  · rintro p0 h0 cdv A outer s H E c ts t c' F ⟨rows, rfl, rfl, rfl, hk, hr⟩
    refine .rt (b_cons (s_setComp F 2 (c_nameP F (k := 3) (f := asP) (emb' := GRow.t) (i_lst F (e_var F 1)) (sz1000 (by omega)) (fun y hy c => e_call (F.blk _) D2 (a_cons (e_var (F.blk _) 0) (a_cons (e_var (F.blk _) 3) a_nil)) ⟨y, rfl, rfl, rfl, hr y hy⟩))) (b_one (s_ret (c1 := (givenP rows c).2) ?_)))
    unfold givenP GTab.t
    by_cases h0 : (drawP 4 (mapP asP rows c).2).1 = 0
    · have e : decide ((drawP 4 (mapP asP rows c).2).1 = 0) = true := decide_eq_true h0
      rw [e]
      exact e_ifT (t_eqI (e_call F D (a_cons (e_var F 0) (a_cons e_int a_nil)) ⟨4, rfl, rfl, rfl, by decide, by decide⟩) e_int (by rw [h0]; rfl)) (e_tuple F g.tuple_ (e_var F 2))
    · have e : decide ((drawP 4 (mapP asP rows c).2).1 = 0) = false := decide_eq_false h0
      rw [e]
      exact e_ifF (t_eqI (e_call F D (a_cons (e_var F 0) (a_cons e_int a_nil)) ⟨4, rfl, rfl, rfl, by decide, by decide⟩) e_int (decide_eq_false (by omega))) (e_var F 2)
theorem ok_lhouse {f : Addr} {fd : FuncData} (Fd : FnS S "_law_house" sLHouse f fd) (hm : S.mg "_law_house" = some (.ref f)) (kf : KF S CR CH) (M : Hm S CR CH) (D : Dn S CR CH "_law_given" ["_law_pot_here", "_law_rows"] 6 rGiven) : Dn S CR CH "_law_house" ["_law_pot_here", "_law_letters"] 10 rLHouse := by
  refine Dn.mk' Fd hm scLHouse (fun c ts t c' h => ?_) (fun _ _ _ _ _ _ us hl => match us, hl with | [_, _], _ => rfl) ?_
  · obtain ⟨_, _, rfl, _⟩ := h; rfl
  · rintro p0 h0 cdv A outer s H E c ts t c' F ⟨ls, k, rfl, rfl, rfl, ok, hr⟩
    have hl := ok.b
    rw [mapP_length] at hl
    exact .rt (b_one (s_ret (e_house F kf M (e_comp F (c_nameP F (k := 2) (f := givenP) (emb' := GTab.t) (i_lst F (e_var F 1)) (sz1000 (by omega)) (fun y hy c => e_call (F.blk _) D (a_cons (e_var (F.blk _) 0) (a_cons (e_var (F.blk _) 2) a_nil)) ⟨y, rfl, rfl, rfl, (hr y hy).1, (hr y hy).2⟩))) ok)))
theorem zeroRow_length (own : List (List Int)) (much : Int) (n free : Nat) : ∀ k, ((own.take k).foldl (zeroStep much free) ((List.replicate n 0).set free much)).length = n
  | 0 => by simp
  | k + 1 => by
    rw [List.take_add_one]
    cases h : own[k]? with
    | none => simpa using zeroRow_length own much n free k
    | some s =>
      rw [List.foldl_append]
      simpa [zeroStep] using zeroRow_length own much n free k
theorem replM (k : Nat) (i : Int) : List.replicate k (T.int i) = (List.replicate k i).map T.int := by rw [List.map_replicate]
theorem ok_lnoughts {f : Addr} {fd : FuncData} (Fd : FnS S "_law_noughts" sLNoughts f fd) (hm : S.mg "_law_noughts" = some (.ref f)) (g : MG S) (D1 : Dn S CR CH "_law_steps" ["_law_rows"] 4 (pureR rLSteps)) (D2 : Dn S CR CH "_law_head" ["_law_row"] 1 (pureR rLHead)) : Dn S CR CH "_law_noughts" ["_law_table", "_law_size"] 5 (pureR rLNoughts) := by
  refine Dn.pure Fd hm scLNoughts (fun ts t h => ?_) (fun _ _ _ _ _ _ us hl => match us, hl with | [_, _], _ => rfl) ?_
  · obtain ⟨_, _, rfl, _⟩ := h; rfl
  · rintro p0 h0 cdv A outer s H E c ts t F ⟨tb, k, rfl, rfl, ok⟩
    have hk := ok.nn
    have ht := ok.t
    have ho := ok.o
    let own := lawSteps (aboutI tb k)
    have hown : lawSteps (aboutI tb k) = own := rfl
    have ho' : own.length ≤ 500 := ho
    let hd := own.map fun r => ((headOf r : Nat) : Int)
    have zipE : ((own.map tI).zip (hd.map T.int)).map pairT = (own.map fun r => (r, headOf r)).map fun z => T.tup [tI z.1, T.int (z.2 : Nat)] := by
      rw [List.map_map, List.map_map]
      have key : ∀ l : List (List Int), ((l.map tI).zip (l.map (T.int ∘ fun r => ((headOf r : Nat) : Int)))).map pairT = l.map ((fun z : List Int × Nat => T.tup [tI z.1, T.int (z.2 : Nat)]) ∘ fun r => (r, headOf r)) := fun l => by
        induction l with
        | nil => rfl
        | cons x l ih =>
          simp only [List.map_cons, List.zip_cons_cons]
          rw [ih]; rfl
      exact key own
    have rr : ∀ i p, (List.range k)[i]? = some p → p = i ∧ i < k := fun i p hp => by
      have hi := (List.getElem?_eq_some_iff.mp hp).1
      rw [List.length_range] at hi
      rw [List.getElem?_range hi] at hp
      exact ⟨(Option.some.inj hp).symm, hi⟩
    refine .rt (b_cons (s_parN F 2 3 (e_call F D1 (a_cons (EJ.to (e_comp F (c_name F (k := 5) (f := fun p : Nat => tI (tb.map fun l => l.getD p 0)) (i_rangeN F g.range_ (e_var F 1) (by omega)) (sz1000 (by simp; omega)) (fun p hp => EJ.to (e_comp (F.blk _) (c_name (F.blk _) (k := 4) (f := fun l : List Int => T.int (l.getD p 0)) (i_lst (F.blk _) (e_var (F.blk _) 0)) (sz1000 (by omega)) (fun l hl => e_ixL ((F.blk _).blk _) (e_var ((F.blk _).blk _) 4) (e_var ((F.blk _).blk _) 5) (atI_int (by rw [ok.tw l hl]; simpa using hp))))) (tMap _ _)))) (t' := tII (aboutI tb k)) (tMapL _ _)) a_nil) ⟨rfl, aboutI tb k, rfl, rfl, ok.a⟩) (n_lst a_nil))
      (b_cons (s_par F 6 7 (EJ.to (e_comp F (c_name F (k := 8) (f := fun r : List Int => T.int (headOf r : Nat)) (i_lst F (e_var F 2)) (sz1000 (by omega)) (fun r hr => e_call (F.blk _) D2 (a_cons (e_var (F.blk _) 8) a_nil) ⟨rfl, r, rfl, rfl, ?_, ?_⟩))) (t' := tI hd) (tMap _ _)) e_int)
      (b_cons (s_forP F 8 9 (fun i => ([Sl.val (tII tb), Sl.val (.int k), Sl.val (tII own), Sl.own [], Sl.un, Sl.un, Sl.val (tI hd), Sl.val (.int (muchOf (own.take i))), Sl.un, Sl.un, Sl.un, Sl.un], c)) (ys := own.map fun r => (r, headOf r)) (ea := fun z => tI z.1) (eb := fun z => T.int (z.2 : Nat)) (IJ.to (i_zip F g.zip_ (e_var F 2) (e_var F 6)) zipE) ?_ ?_)
      (b_cons (s_for F 10 (fun i => ([Sl.val (tII tb), Sl.val (.int k), Sl.val (tII own), Sl.own ((((List.range i).filter fun f => !(own.map headOf).contains f).map (zeroRow own k)).map tI), Sl.un, Sl.un, Sl.val (tI hd), Sl.val (.int (muchOf own)), Sl.un, Sl.un, Sl.un, Sl.un], c)) (i_rangeN F g.range_ (e_var F 1) (by omega)) ?_ ?_)
      (b_freeze 3 (b_one (s_ret (e_call F D1 (a_cons (EJ.to (e_var F 3) (t' := tII (lawZeros own k)) ?_) a_nil) ⟨rfl, lawZeros own k, rfl, rfl, ok.z⟩))))))))
    · have := ok.r r hr; omega
    · have := ok.r r hr; omega
    · rfl
    · intro i z hz
      rw [List.getElem?_map] at hz
      cases hs : own[i]? with
      | none => rw [hs] at hz; cases hz
      | some st =>
        rw [hs] at hz
        cases hz
        obtain ⟨h1, h2, h3, h4⟩ := ok.r st (List.mem_of_getElem? hs)
        have step : muchOf (own.take (i + 1)) = muchOf (own.take i) * st.getD (headOf st) 0 := foldl_take hs
        refine b_weak [8, 9] (b_one (s_set F 7 (e_mul (e_var F 7) (e_ixL F (e_var F 8) (e_var F 9) (atI_int (by show headOf st < st.length; omega))) (mulW (a := 100000) (b := 9000) (ok.m i) (getD_bd h4))))) ?_
        rw [step]; rfl
    · simp only [List.length_map, List.take_length]
      rfl
    · intro i y hy
      obtain ⟨rfl, hyk⟩ := rr i y hy
      have cont : hd.contains (y : Int) = (own.map headOf).contains y := by
        rw [Bool.eq_iff_iff]
        simp only [List.contains_iff_mem, hd, List.mem_map]
        constructor
        · rintro ⟨r, h1, h2⟩; exact ⟨r, h1, by omega⟩
        · rintro ⟨r, h1, h2⟩; exact ⟨r, h1, by omega⟩
      cases hc : (own.map headOf).contains y with
      | true =>
        refine b_weak [10] (b_one (s_ifF (t_notIn F (e_var F 10) (e_var F 6) (by rw [cont, hc]; rfl)) b_nil)) ?_
        have e : (List.range (y + 1)).filter (fun f => !(own.map headOf).contains f) = (List.range y).filter fun f => !(own.map headOf).contains f := by
          rw [List.range_succ, List.filter_append, List.filter_cons_of_neg (by rw [hc]; decide), List.filter_nil, List.append_nil]
        rw [e]
        rfl
      | false =>
        refine b_weak [8, 9, 10, 11] (b_one (s_ifT (t_notIn F (e_var F 10) (e_var F 6) (by rw [cont, hc]; rfl))
          (b_cons (s_new F 11 (n_repI (e_lst (a_cons e_int a_nil)) (e_var F 1) (by omega) (by omega)))
          (b_cons (s_setIt F 11 (j := y) (e_var F 7) (e_var F 10) (ixN_nat ?_))
          (b_cons (s_forP F 8 9 (fun i => ([Sl.val (tII tb), Sl.val (.int k), Sl.val (tII own), Sl.own ((((List.range y).filter fun f => !(own.map headOf).contains f).map (zeroRow own k)).map tI), Sl.un, Sl.un, Sl.val (tI hd), Sl.val (.int (muchOf own)), Sl.un, Sl.un, Sl.val (.int (y : Nat)), Sl.own (((own.take i).foldl (zeroStep (muchOf own) y) ((List.replicate k 0).set y (muchOf own))).map T.int)], c)) (ys := own.map fun r => (r, headOf r)) (ea := fun z => tI z.1) (eb := fun z => T.int (z.2 : Nat)) (IJ.to (i_zip F g.zip_ (e_var F 2) (e_var F 6)) zipE) ?_ ?_)
          (b_freeze 11 (b_one (s_append F 3 (e_var F 11) (sz1000 ?_))))))))) ?_
        · simpa using hyk
        · have e : ((List.replicate ((k : Nat) : Int).toNat (T.int 0)).set y (T.int (muchOf own))) = ((List.replicate k 0).set y (muchOf own)).map T.int := by
            rw [Int.toNat_natCast, replM, setM]
          show ([Sl.val (tII tb), Sl.val (.int k), Sl.val (tII own), _, Sl.un, Sl.un, Sl.val (tI hd), Sl.val (.int (muchOf own)), Sl.un, Sl.un, Sl.val (.int (y : Nat)), Sl.own (((List.replicate k 0).set y (muchOf own)).map T.int)], c) = ([Sl.val (tII tb), Sl.val (.int k), Sl.val (tII own), _, Sl.un, Sl.un, Sl.val (tI hd), Sl.val (.int (muchOf own)), Sl.un, Sl.un, Sl.val (.int (y : Nat)), Sl.own ((List.replicate ((k : Nat) : Int).toNat (T.int 0)).set y (T.int (muchOf own)))], c)
          rw [e]
        · intro i z hz
          rw [List.getElem?_map] at hz
          cases hs : own[i]? with
          | none => rw [hs] at hz; cases hz
          | some st =>
            rw [hs] at hz
            cases hz
            obtain ⟨h1, h2, h3, h4⟩ := ok.r st (List.mem_of_getElem? hs)
            have hm' := ok.m own.length
            rw [hown, List.take_length] at hm'
            have hst : (st.getD (headOf st) 0).natAbs < 2 ^ 9000 := getD_bd h4
            have step : (own.take (i + 1)).foldl (zeroStep (muchOf own) y) ((List.replicate k 0).set y (muchOf own)) = zeroStep (muchOf own) y ((own.take i).foldl (zeroStep (muchOf own) y) ((List.replicate k 0).set y (muchOf own))) st := foldl_take hs
            refine b_weak [8, 9] (b_one (s_setIt F 11 (j := headOf st) (e_sub e_int (e_mul (e_div (e_var F 7) (e_ixL F (e_var F 8) (e_var F 9) (atI_int (by show headOf st < st.length; omega))) ⟨h3, PySem.Flt.log2_lt_of (by decide) hst⟩) (e_ixL F (e_var F 8) (e_var F 10) (atI_int (by show y < st.length; omega))) (mulW (a := 100000) (b := 9000) (Nat.lt_of_le_of_lt (Int.natAbs_ediv_le_natAbs _ _) hm') (getD_bd h4)))) (e_var F 9) (ixN_nat (by have := zeroRow_length own (muchOf own) k y i; rw [List.length_map, this]; exact h2)))) ?_
            rw [step, zeroStep, ← setM]
            rfl
        · rw [List.length_map, List.length_map]
          have := List.length_filter_le (fun f => !(own.map headOf).contains f) (List.range y)
          rw [List.length_range] at this
          omega
        · have e : (List.range (y + 1)).filter (fun f => !(own.map headOf).contains f) = ((List.range y).filter fun f => !(own.map headOf).contains f) ++ [y] := by
            rw [List.range_succ, List.filter_append, List.filter_cons_of_pos (by rw [hc]; rfl), List.filter_nil]
          rw [e, List.map_append, List.map_append]
          simp only [List.length_map, List.take_length]
          rfl
    · rw [List.length_range]; rfl
theorem ok_twice {f : Addr} {fd : FuncData} (Fd : FnS S "_law_twice" sLTwice f fd) (hm : S.mg "_law_twice" = some (.ref f)) (g : MG S) : Dn S CR CH "_law_twice" ["_law_table", "_law_numbers"] 1 (pureR rTwice) := by
  refine Dn.pure Fd hm scLTwice (fun ts t h => ?_) (fun _ _ _ _ _ _ us hl => match us, hl with | [_, _], _ => rfl) ?_
  · obtain ⟨_, _, _, _, _, rfl, _⟩ := h; rfl
  · rintro p0 h0 cdv A outer s H E c ts t F ⟨tb, a, b, p, q, rfl, rfl, ht, hr, hb⟩
    have rr : ∀ i p, (List.range 2)[i]? = some p → p = i ∧ i < 2 := fun i p hp => by
      have hi := (List.getElem?_eq_some_iff.mp hp).1
      rw [List.length_range] at hi
      rw [List.getElem?_range hi] at hp
      exact ⟨(Option.some.inj hp).symm, hi⟩
    refine .rt (b_cons (s_parN F 2 3 (e_len F g.len_ (e_var F 0) rfl) (n_lst a_nil)) (b_cons (s_for F 4 (fun i => ([Sl.val (tII tb), Sl.val (tI [a, b, p, q]), Sl.val (.int (tb.map tI).length), Sl.own (((List.range i).flatMap (blockRows tb [a, b, p, q])).map tI), Sl.un, Sl.un, Sl.un], c)) (i_rangeN F g.range_ e_int (k := 2) (by decide)) rfl ?_) (b_freeze 3 (b_one (s_ret (EJ.to (e_var F 3) ?_))))))
    · intro i blk hi
      obtain ⟨rfl, hi2⟩ := rr i blk hi
      refine b_weak [4, 5, 6] (b_one (s_for F 5 (fun j => ([Sl.val (tII tb), Sl.val (tI [a, b, p, q]), Sl.val (.int (tb.map tI).length), Sl.own (((List.range blk).flatMap (blockRows tb [a, b, p, q]) ++ (tb.take j).map (blockRow [a, b, p, q] blk)).map tI), Sl.val (.int (blk : Nat)), Sl.un, Sl.un], c)) (i_lst F (e_var F 0)) ?_ ?_)) ?_
      · simp
      · intro j r hj
        have hr' := hr r (List.mem_of_getElem? hj)
        have n0 : ∀ i : Nat, i < 4 → ([a, b, p, q].getD i 0).natAbs < 2 ^ 1000 := fun i _ => getD_bd hb
        have two : (2 * (blk : Int)) = ((2 * blk : Nat) : Int) := by simp
        have part : ∀ d : Nat, d < 2 → atI ([a, b, p, q].map T.int) (((2 * blk + d : Nat) : Int)) = some (.int ([a, b, p, q].getD (2 * blk + d) 0)) := fun d hd => atI_int (by simp; omega)
        have mok : CMulW 2 (blk : Int) := mulW (a := 10) (b := 10) (by decide) (by omega)
        refine b_weak [5] (b_one (s_append F 3 (t := tI (blockRow [a, b, p, q] blk r)) (EJ.to (e_cat (EJ.to (e_comp F (c_name F (k := 6) (f := fun n : Int => T.int ([a, b, p, q].getD (2 * blk + 0) 0 * n)) (i_lst F (e_var F 5)) (sz1000 (by omega)) (fun n hn => e_mul (e_ixL (F.blk _) (e_var (F.blk _) 1) (EJ.to (e_mul e_int (e_var (F.blk _) 4) mok) (t' := .int ((2 * blk + 0 : Nat) : Int)) (by simp)) (part 0 (by decide))) (e_var (F.blk _) 6) (mulW (a := 1000) (b := 100000) (n0 _ (by omega)) (hr'.2 n hn))))) (tMap _ _)) (EJ.to (e_comp F (c_name F (k := 6) (f := fun n : Int => T.int ([a, b, p, q].getD (2 * blk + 1) 0 * n)) (i_lst F (e_var F 5)) (sz1000 (by omega)) (fun n hn => e_mul (e_ixL (F.blk _) (e_var (F.blk _) 1) (EJ.to (e_add (e_mul e_int (e_var (F.blk _) 4) mok) e_int) (t' := .int ((2 * blk + 1 : Nat) : Int)) (by simp)) (part 1 (by decide))) (e_var (F.blk _) 6) (mulW (a := 1000) (b := 100000) (n0 _ (by omega)) (hr'.2 n hn))))) (tMap _ _)) (cons_sz ?_)) (catM _ _ _)) (sz10k ?_))) ?_
        · rw [List.length_map, List.length_map, List.length_map, List.length_map]; omega
        · rw [List.length_map, List.length_append, List.length_map, List.length_take]
          have : ((List.range blk).flatMap (blockRows tb [a, b, p, q])).length ≤ 500 := by
            match blk, hi2 with
            | 0, _ => simp
            | 1, _ => simpa [blockRows, List.range_succ] using ht
          omega
        · rw [List.take_add_one, hj]
          simp [wipeE]
      · simp [wipeE, List.range_succ, blockRows]
    · simp [List.range_succ, blockRows, twice]
      constructor <;> rfl
theorem ok_sum2 {f : Addr} {fd : FuncData} (Fd : FnS S "_law_sum" sLSum f fd) (hm : S.mg "_law_sum" = some (.ref f)) (g : MG S) : Dn S CR CH "_law_sum" ["_law_one", "_law_other", "_law_much"] 1 (pureR rSum2) := by
  refine Dn.pure Fd hm scLSum (fun ts t h => ?_) (fun _ _ _ _ _ _ us hl => match us, hl with | [_, _, _], _ => rfl) ?_
  · obtain ⟨_, _, _, rfl, _⟩ := h; rfl
  · rintro p0 h0 cdv A outer s H E c ts t F ⟨a, b, k, rfl, rfl, ha, hra, hrb, hk⟩
    refine .rt (b_one (s_ret (EJ.to (e_comp F (c_pair F (k := 5) (l := 6) (f := fun z : List Int × List Int => tI ((z.1.zip z.2).map fun w => w.1 + k * w.2)) (IJ.to (i_zip F g.zip_ (e_var F 0) (e_var F 1)) (zip_emb _ _ _ _)) ?_ (fun z hz => ?_))) (tMapL _ _))))
    · rw [List.length_zip]; exact sz1000 (by omega)
    · obtain ⟨h1, h2⟩ := List.of_mem_zip hz
      refine EJ.to (e_comp (F.blk _) (c_pair (F.blk _) (k := 3) (l := 4) (f := fun w : Int × Int => T.int (w.1 + k * w.2)) (IJ.to (i_zip (F.blk _) g.zip_ (e_var (F.blk _) 5) (e_var (F.blk _) 6)) (zip_emb _ _ _ _)) ?_ (fun w hw => ?_))) (tMap _ _)
      · have := hra _ h1
        rw [List.length_zip]; exact sz1000 (by omega)
      · obtain ⟨w1, w2⟩ := List.of_mem_zip hw
        exact e_add (e_var ((F.blk _).blk _) 3) (e_mul (e_var ((F.blk _).blk _) 2) (e_var ((F.blk _).blk _) 4) (mulW (a := 1000) (b := 100000) hk (hrb _ h2 _ w2)))
end
end TW
set_option Elab.async false
set_option linter.all false
set_option maxRecDepth 100000
set_option maxHeartbeats 4000000
set_option exponentiation.threshold 100000
/-! La4: tables that commute. -/
namespace TW
open PySem L2
structure Cm where
  n : Nat
  ls : List (List (List Int))
  tb : List (List Int)
def Cm.t (x : Cm) : T := .tup [.int (x.n : Nat), tIII x.ls, tII x.tb]
def pickN (xs : List Nat) (c : Pot) : Nat × Pot := (xs.getD (drawP xs.length c).1 0, (drawP xs.length c).2)
abbrev Quad := Int × Int × Int × Int
def quadL (q : Quad) : List Int := [q.1, q.2.1, q.2.2.1, q.2.2.2]
def quads : List Quad := [(1, 0, 0, 0), (1, 1, 1, 1), (0, 1, 0, 0), (1, -1, 0, 0), (1, 2, 2, 4), (1, 1, 0, 1), (0, 0, 0, 0), (2, 1, 1, 1)]
def pickQ (c : Pot) : Quad × Pot := (quads.getD (drawP 8 c).1 (0, 0, 0, 0), (drawP 8 c).2)
def comm0 (n : Nat) (c : Pot) : Cm × Pot :=
  let p1 := drawP (n + 1) c
  let p2 := drawP 4 p1.2
  let l := letterP n p1.1 p2.1 p2.2
  let n1 := numP l.2
  let n2 := numP n1.2
  let d := drawP 2 n2.2
  (⟨n, [l.1], if d.1 = 0 then times (sumT l.1 (idle n) (0 - n1.1)) (sumT l.1 (idle n) (0 - n2.1)) else sumT l.1 (idle n) (0 - n1.1)⟩, d.2)
def comm1 (n : Nat) (c : Pot) : Cm × Pot :=
  let l1 := letterP n 0 3 c
  let l2 := letterP n 0 3 l1.2
  let k := numP l2.2
  (⟨n, [l1.1, l2.1], (idle n).map fun r => r.map fun x => k.1 * x⟩, k.2)
def comm2 (c : Pot) : Cm × Pot :=
  let h := pickN [1, 2] c
  let l1 := letterP h.1 0 3 h.2
  let l2 := letterP h.1 0 3 l1.2
  let q := pickQ l2.2
  (⟨2 * h.1, [l1.1, l2.1].map fun t => twice t 1 0 0 1, twice (idle h.1) q.1.1 q.1.2.1 q.1.2.2.1 q.1.2.2.2⟩, q.2)
def commP (c : Pot) : Cm × Pot :=
  let sz := pickN [1, 2, 2, 3, 4] (drawP 3 c).2
  if (drawP 3 c).1 = 0 then comm0 sz.1 sz.2 else if (drawP 3 c).1 = 1 then comm1 sz.1 sz.2 else comm2 sz.2
def rComm : Rel := fun c ts t c' => ts = [.pot] ∧ t = (commP c).1.t ∧ c' = (commP c).2
theorem getD_mem' {α : Type} {xs : List α} {i : Nat} {d : α} (h : i < xs.length) : xs.getD i d ∈ xs := by
  have e : xs.getD i d = xs[i] := by simp [List.getD, h]
  rw [e]
  exact List.getElem_mem h
theorem numP_mem (c : Pot) : (numP c).1 ∈ ([0, 0, 1, 1, -1, 2, -2] : List Int) := getD_mem' (drawP_lt (by decide) c)
theorem numP_le (c : Pot) : (numP c).1.natAbs ≤ 2 := by
  have : ∀ x ∈ ([0, 0, 1, 1, -1, 2, -2] : List Int), x.natAbs ≤ 2 := by decide
  exact this _ (numP_mem c)
theorem pickN_mem {xs : List Nat} (h : 0 < xs.length) (c : Pot) : (pickN xs c).1 ∈ xs := getD_mem' (drawP_lt h c)
theorem pickQ_mem (c : Pot) : (pickQ c).1 ∈ quads := getD_mem' (drawP_lt (by decide) c)
/-- a square table with small entries -/
structure Sm (n : Nat) (k : Nat) (tb : List (List Int)) : Prop where
  l : tb.length = n
  w : ∀ r ∈ tb, r.length = n
  b : ∀ r ∈ tb, ∀ x ∈ r, x.natAbs ≤ k
theorem letterP_sm (n : Nat) (place way : Int) (c : Pot) : Sm n 2 (letterP n place way c).1 := by
  refine ⟨by rw [letterP, mapP_length, List.length_range], ?_, ?_⟩
  · exact mapP_mem fun a _ c => by rw [rowP, mapP_length, List.length_range]
  · refine mapP_mem fun a _ c => ?_
    refine mapP_mem (P := fun x : Int => x.natAbs ≤ 2) fun t _ c => ?_
    unfold cellP
    split
    · simp
    · exact numP_le c
theorem idle_sm (n : Nat) : Sm n 1 (idle n) := by
  refine ⟨by simp [idle], fun r hr => ?_, fun r hr x hx => ?_⟩
  · obtain ⟨a, _, rfl⟩ := List.mem_map.mp hr; simp
  · obtain ⟨a, _, rfl⟩ := List.mem_map.mp hr
    obtain ⟨b, _, rfl⟩ := List.mem_map.mp hx
    split <;> simp
theorem sumT_sm {n a b : Nat} {A B : List (List Int)} {k : Int} (hA : Sm n a A) (hB : Sm n b B) : Sm n (a + k.natAbs * b) (sumT A B k) := by
  refine ⟨by simp [sumT, hA.l, hB.l], fun r hr => ?_, fun r hr x hx => ?_⟩
  · obtain ⟨z, hz, rfl⟩ := List.mem_map.mp hr
    obtain ⟨h1, h2⟩ := List.of_mem_zip hz
    rw [List.length_map, List.length_zip, hA.w _ h1, hB.w _ h2, Nat.min_self]
  · obtain ⟨z, hz, rfl⟩ := List.mem_map.mp hr
    obtain ⟨h1, h2⟩ := List.of_mem_zip hz
    obtain ⟨w, hw, rfl⟩ := List.mem_map.mp hx
    obtain ⟨w1, w2⟩ := List.of_mem_zip hw
    have e1 := hA.b _ h1 _ w1
    have e2 := hB.b _ h2 _ w2
    have e3 : (k * w.2).natAbs ≤ k.natAbs * b := by rw [Int.natAbs_mul]; exact Nat.mul_le_mul_left _ e2
    have := Int.natAbs_add_le w.1 (k * w.2)
    omega
theorem sum_le {k : Nat} : ∀ {l : List Int}, (∀ x ∈ l, x.natAbs ≤ k) → l.sum.natAbs ≤ l.length * k
  | [], _ => by simp
  | x :: l, h => by
    have h1 := h x List.mem_cons_self
    have h2 := sum_le (l := l) fun y hy => h y (List.mem_cons_of_mem _ hy)
    rw [List.sum_cons, List.length_cons, Nat.succ_mul]
    have := Int.natAbs_add_le x l.sum
    omega
theorem times_sm {n a b : Nat} {A B : List (List Int)} (hA : Sm n a A) (hB : Sm n b B) : Sm n (n * (a * b)) (times A B) := by
  refine ⟨by simp [times, hA.l], fun r hr => ?_, fun r hr x hx => ?_⟩
  · obtain ⟨z, hz, rfl⟩ := List.mem_map.mp hr
    simp [led, hB.l]
  · obtain ⟨z, hz, rfl⟩ := List.mem_map.mp hr
    obtain ⟨t, ht, rfl⟩ := List.mem_map.mp hx
    have ht' : t < n := by simpa [hB.l] using ht
    have := sum_le (k := a * b) (l := ((z.zip (B.map fun l => l.getD t 0)).map fun w => w.1 * w.2)) fun y hy => by
      obtain ⟨w, hw, rfl⟩ := List.mem_map.mp hy
      obtain ⟨w1, w2⟩ := List.of_mem_zip hw
      obtain ⟨l, hl, e⟩ := List.mem_map.mp w2
      rw [Int.natAbs_mul]
      refine Nat.mul_le_mul (hA.b z hz _ w1) ?_
      rw [← e, getD_lt (by rw [hB.w l hl]; exact ht')]
      exact hB.b l hl _ (List.getElem_mem _)
    refine Nat.le_trans this ?_
    rw [List.length_map, List.length_zip, List.length_map, hA.w z hz, hB.l, Nat.min_self]
    exact Nat.le_refl _
theorem twice_sm {n k : Nat} {tb : List (List Int)} {a b p q : Int} (h : Sm n k tb) {d : Nat} (ha : a.natAbs ≤ d) (hb : b.natAbs ≤ d) (hp : p.natAbs ≤ d) (hq : q.natAbs ≤ d) : Sm (2 * n) (d * k) (twice tb a b p q) := by
  have row : ∀ (x y : Int) (r : List Int), r ∈ tb → x.natAbs ≤ d → y.natAbs ≤ d → ((r.map fun n => x * n) ++ (r.map fun n => y * n)).length = 2 * n ∧ ∀ z ∈ (r.map fun n => x * n) ++ (r.map fun n => y * n), z.natAbs ≤ d * k := by
    intro x y r hr hx hy
    refine ⟨by rw [List.length_append, List.length_map, List.length_map, h.w r hr]; omega, fun z hz => ?_⟩
    rcases List.mem_append.mp hz with hz | hz
    · obtain ⟨w, hw, rfl⟩ := List.mem_map.mp hz
      rw [Int.natAbs_mul]; exact Nat.mul_le_mul hx (h.b r hr w hw)
    · obtain ⟨w, hw, rfl⟩ := List.mem_map.mp hz
      rw [Int.natAbs_mul]; exact Nat.mul_le_mul hy (h.b r hr w hw)
  refine ⟨by simp [twice, h.l]; omega, fun r hr => ?_, fun r hr => ?_⟩
  · rcases List.mem_append.mp hr with hr | hr
    · obtain ⟨w, hw, rfl⟩ := List.mem_map.mp hr; exact (row a b w hw ha hb).1
    · obtain ⟨w, hw, rfl⟩ := List.mem_map.mp hr; exact (row p q w hw hp hq).1
  · rcases List.mem_append.mp hr with hr | hr
    · obtain ⟨w, hw, rfl⟩ := List.mem_map.mp hr; exact (row a b w hw ha hb).2
    · obtain ⟨w, hw, rfl⟩ := List.mem_map.mp hr; exact (row p q w hw hp hq).2
theorem scale_sm {n k : Nat} {tb : List (List Int)} (h : Sm n k tb) (x : Int) : Sm n (x.natAbs * k) (tb.map fun r => r.map fun y => x * y) := by
  refine ⟨by simp [h.l], fun r hr => ?_, fun r hr => ?_⟩
  · obtain ⟨w, hw, rfl⟩ := List.mem_map.mp hr; simp [h.w w hw]
  · obtain ⟨w, hw, rfl⟩ := List.mem_map.mp hr
    intro z hz
    obtain ⟨u, hu, rfl⟩ := List.mem_map.mp hz
    rw [Int.natAbs_mul]; exact Nat.mul_le_mul_left _ (h.b w hw u hu)
theorem Sm.bd {n k b : Nat} {tb : List (List Int)} (h : Sm n k tb) (hk : k < 2 ^ b) : ∀ r ∈ tb, Bd b r := fun r hr x hx => Nat.lt_of_le_of_lt (h.b r hr x hx) hk
theorem Sm.mono {n k k' : Nat} {tb : List (List Int)} (h : Sm n k tb) (hk : k ≤ k') : Sm n k' tb := ⟨h.l, h.w, fun r hr x hx => Nat.le_trans (h.b r hr x hx) hk⟩
theorem lt100k {k : Nat} (h : k < 2 ^ 20) : k < 2 ^ 100000 := Nat.lt_of_lt_of_le h (Nat.pow_le_pow_right (by decide) (by decide))
theorem lt1k {k : Nat} (h : k < 2 ^ 20) : k < 2 ^ 1000 := Nat.lt_of_lt_of_le h (Nat.pow_le_pow_right (by decide) (by decide))
section
variable {S : Stat} {CR CH : Addr}
theorem ok_comm {f : Addr} {fd : FuncData} (Fd : FnS S "_law_commuting" sLComm f fd) (hm : S.mg "_law_commuting" = some (.ref f)) (g : MG S) (DD : Dn S CR CH "_law_draw" ["_law_pot_here", "_law_sides"] 1 rDraw) (DP : Dn S CR CH "_law_pick" ["_law_pot_here", "_law_some"] 2 rPick) (DN : Dn S CR CH "_law_number" ["_law_pot_here"] 3 rNumber) (DL : Dn S CR CH "_law_letter" ["_law_pot_here", "_law_size", "_law_place", "_law_way"] 4 rLetter) (DU : Dn S CR CH "_law_units" ["_law_size"] 1 (pureR rLUnits)) (DS : Dn S CR CH "_law_sum" ["_law_one", "_law_other", "_law_much"] 1 (pureR rSum2)) (DT : Dn S CR CH "_law_times" ["_law_table", "_law_other"] 3 (pureR rLTimes)) (DW : Dn S CR CH "_law_twice" ["_law_table", "_law_numbers"] 1 (pureR rTwice)) : Dn S CR CH "_law_commuting" ["_law_pot_here"] 5 rComm := by
  refine Dn.mk' Fd hm scLComm (fun c ts t c' h => ?_) (fun _ _ _ _ _ _ us hl => match us, hl with | [_], _ => rfl) ?_
  · obtain ⟨rfl, _⟩ := h; rfl
  · rintro p0 h0 cdv A outer s H E c ts t c' F ⟨rfl, rfl, rfl⟩
    have hn : (pickN [1, 2, 2, 3, 4] (drawP 3 c).2).1 ≤ 4 := by
      have : ∀ x ∈ [1, 2, 2, 3, 4], x ≤ 4 := by decide
      exact this _ (pickN_mem (by decide) _)
    generalize hz : pickN [1, 2, 2, 3, 4] (drawP 3 c).2 = sz at hn
    have eSz : T.int (sz.1 : Nat) = ([T.int 1, T.int 2, T.int 2, T.int 3, T.int 4] : List T).getD (drawP 5 (drawP 3 c).2).1 (.int 0) := by
      rw [← hz]
      exact (map_getD (fun n : Nat => T.int (n : Nat)) [1, 2, 2, 3, 4] (drawP 5 (drawP 3 c).2).1 0).symm
    have cSz : sz.2 = (drawP 5 (drawP 3 c).2).2 := by rw [← hz]; rfl
    have way := drawP_lt (s := 3) (by decide) c
    have idB : ∀ n, ∀ r ∈ idle n, Bd 100000 r := fun n => (idle_sm n).bd (lt100k (by decide))
    refine .rt (b_cons (s_par F 1 2 (e_call F DD (a_cons (e_var F 0) (a_cons e_int a_nil)) ⟨3, rfl, rfl, rfl, by decide, by decide⟩) (EJ.toC (EJ.to (e_call F DP (a_cons (e_var F 0) (a_cons (e_lst (a_cons e_int (a_cons e_int (a_cons e_int (a_cons e_int (a_cons e_int a_nil)))))) a_nil)) ⟨_, .int 0, rfl, rfl, rfl, by decide, by decide⟩) eSz.symm) cSz.symm)) ?_)
    by_cases h0 : (drawP 3 c).1 = 0
    · have ec : commP c = comm0 sz.1 sz.2 := by unfold commP; rw [if_pos h0, hz]
      rw [ec]
      have l2 := letterP_sm sz.1 (drawP (sz.1 + 1) sz.2).1 (drawP 4 (drawP (sz.1 + 1) sz.2).2).1 (drawP 4 (drawP (sz.1 + 1) sz.2).2).2
      refine b_ret (s_ifT (t_eqI (e_var F 1) e_int (by rw [h0]; rfl))
        (b_cons (s_set F 3 (e_call F DL (a_cons (e_var F 0) (a_cons (e_var F 2) (a_cons (e_call F DD (a_cons (e_var F 0) (a_cons (EJ.to (e_add (e_var F 2) e_int) rfl) a_nil)) ⟨sz.1 + 1, rfl, rfl, rfl, by omega, by omega⟩) (a_cons (e_call F DD (a_cons (e_var F 0) (a_cons e_int a_nil)) ⟨4, rfl, rfl, rfl, by decide, by decide⟩) a_nil)))) ⟨sz.1, _, _, rfl, rfl, rfl, by omega⟩))
        (b_cons (s_set F 4 (e_call F DS (a_cons (e_var F 3) (a_cons (e_call F DU (a_cons (e_var F 2) a_nil) ⟨rfl, sz.1, rfl, rfl, by omega⟩) (a_cons (e_sub e_int (e_call F DN (a_cons (e_var F 0) a_nil) ⟨rfl, rfl, rfl⟩)) a_nil))) ⟨rfl, _, _, _, rfl, rfl, ?_, ?_, ?_, ?_⟩))
        (b_cons (s_set F 5 (e_call F DS (a_cons (e_var F 3) (a_cons (e_call F DU (a_cons (e_var F 2) a_nil) ⟨rfl, sz.1, rfl, rfl, by omega⟩) (a_cons (e_sub e_int (e_call F DN (a_cons (e_var F 0) a_nil) ⟨rfl, rfl, rfl⟩)) a_nil))) ⟨rfl, _, _, _, rfl, rfl, ?_, ?_, ?_, ?_⟩))
        (b_one (s_ret (e_tup (a_cons (e_var F 2) (a_cons (e_lst (a_cons (e_var F 3) a_nil)) (a_cons ?_ a_nil))))))))))
      · rw [l2.l]; omega
      · intro r hr; rw [l2.w r hr]; omega
      · exact idB _
      · have := numP_le (letterP sz.1 (drawP (sz.1 + 1) sz.2).1 (drawP 4 (drawP (sz.1 + 1) sz.2).2).1 (drawP 4 (drawP (sz.1 + 1) sz.2).2).2).2
        exact lt1k (by omega)
      · rw [l2.l]; omega
      · intro r hr; rw [l2.w r hr]; omega
      · exact idB _
      · have := numP_le (numP (letterP sz.1 (drawP (sz.1 + 1) sz.2).1 (drawP 4 (drawP (sz.1 + 1) sz.2).2).1 (drawP 4 (drawP (sz.1 + 1) sz.2).2).2).2).2
        exact lt1k (by omega)
      · let p2 := drawP 4 (drawP (sz.1 + 1) sz.2).2
        let l := letterP sz.1 (drawP (sz.1 + 1) sz.2).1 p2.1 p2.2
        let n1 := numP l.2
        let n2 := numP n1.2
        have b1 := numP_le l.2
        have b2 := numP_le n1.2
        have s1 : Sm sz.1 4 (sumT l.1 (idle sz.1) (0 - n1.1)) := (sumT_sm l2 (idle_sm _)).mono (by show 2 + (0 - n1.1).natAbs * 1 ≤ 4; have : n1.1.natAbs ≤ 2 := b1; omega)
        have s2 : Sm sz.1 4 (sumT l.1 (idle sz.1) (0 - n2.1)) := (sumT_sm l2 (idle_sm _)).mono (by show 2 + (0 - n2.1).natAbs * 1 ≤ 4; have : n2.1.natAbs ≤ 2 := b2; omega)
        show EJ _ _ _ _ _ (tII (if (drawP 2 n2.2).1 = 0 then times (sumT l.1 (idle sz.1) (0 - n1.1)) (sumT l.1 (idle sz.1) (0 - n2.1)) else sumT l.1 (idle sz.1) (0 - n1.1))) _
        by_cases hd : (drawP 2 n2.2).1 = 0
        · rw [if_pos hd]
          refine e_ifT (t_eqI (e_call F DD (a_cons (e_var F 0) (a_cons e_int a_nil)) ⟨2, rfl, rfl, rfl, by decide, by decide⟩) e_int (by show decide ((((drawP 2 n2.2).1 : Nat) : Int) = 0) = true; rw [hd]; rfl)) (e_call F DT (a_cons (e_var F 4) (a_cons (e_var F 5) a_nil)) ⟨rfl, _, _, rfl, rfl, ?_, ?_, ?_, ?_⟩)
          · rw [s1.l]; omega
          · exact fun r hr => ⟨by rw [s1.w r hr]; omega, s1.bd (lt100k (by decide)) r hr⟩
          · rw [s2.l]; omega
          · exact fun r hr => ⟨by rw [s2.w r hr, s2.l], s2.bd (lt100k (by decide)) r hr⟩
        · rw [if_neg hd]
          exact e_ifF (t_eqI (e_call F DD (a_cons (e_var F 0) (a_cons e_int a_nil)) ⟨2, rfl, rfl, rfl, by decide, by decide⟩) e_int (decide_eq_false (by show ¬ (((drawP 2 n2.2).1 : Nat) : Int) = 0; omega))) (e_var F 4)
    · refine b_cons (s_ifF (t_eqI (e_var F 1) e_int (decide_eq_false (by omega))) b_nil) ?_
      by_cases h1 : (drawP 3 c).1 = 1
      · have ec : commP c = comm1 sz.1 sz.2 := by unfold commP; rw [if_neg h0, if_pos h1, hz]
        rw [ec]
        refine b_ret (s_ifT (t_eqI (e_var F 1) e_int (by rw [h1]; rfl))
          (b_cons (s_set F 6 (e_lst (a_cons (e_call F DL (a_cons (e_var F 0) (a_cons (e_var F 2) (a_cons e_int (a_cons e_int a_nil)))) ⟨sz.1, 0, 3, rfl, rfl, rfl, by omega⟩) (a_cons (e_call F DL (a_cons (e_var F 0) (a_cons (e_var F 2) (a_cons e_int (a_cons e_int a_nil)))) ⟨sz.1, 0, 3, rfl, rfl, rfl, by omega⟩) a_nil))))
          (b_cons (s_set F 7 (e_call F DN (a_cons (e_var F 0) a_nil) ⟨rfl, rfl, rfl⟩))
          (b_one (s_ret (e_tup (a_cons (e_var F 2) (a_cons (e_var F 6) (a_cons (EJ.to (e_comp F (c_name F (k := 9) (f := fun r : List Int => tI (r.map fun x => (numP (letterP sz.1 0 3 (letterP sz.1 0 3 sz.2).2).2).1 * x)) (i_lst F (e_call F DU (a_cons (e_var F 2) a_nil) ⟨rfl, sz.1, rfl, rfl, by omega⟩)) (sz1000 (by rw [(idle_sm _).l]; omega)) (fun r hr => EJ.to (e_comp (F.blk _) (c_name (F.blk _) (k := 8) (f := fun x : Int => T.int ((numP (letterP sz.1 0 3 (letterP sz.1 0 3 sz.2).2).2).1 * x)) (i_lst (F.blk _) (e_var (F.blk _) 9)) (sz1000 (by rw [(idle_sm _).w r hr]; omega)) (fun x hx => e_mul (e_var ((F.blk _).blk _) 7) (e_var ((F.blk _).blk _) 8) (mulW (a := 20) (b := 100000) (by have := numP_le (letterP sz.1 0 3 (letterP sz.1 0 3 sz.2).2).2; omega) (idB _ r hr x hx))))) (tMap _ _)))) (tMapL _ _)) a_nil)))))))))
      · have ec : commP c = comm2 sz.2 := by unfold commP; rw [if_neg h0, if_neg h1, hz]
        rw [ec]
        have hh : (pickN [1, 2] sz.2).1 ≤ 2 := by
          have : ∀ x ∈ [1, 2], x ≤ 2 := by decide
          exact this _ (pickN_mem (by decide) _)
        have eH : T.int ((pickN [1, 2] sz.2).1 : Nat) = ([T.int 1, T.int 2] : List T).getD (drawP 2 sz.2).1 (.int 0) := (map_getD (fun n : Nat => T.int (n : Nat)) [1, 2] (drawP 2 sz.2).1 0).symm
        let l1 := letterP (pickN [1, 2] sz.2).1 0 3 (pickN [1, 2] sz.2).2
        let l2 := letterP (pickN [1, 2] sz.2).1 0 3 l1.2
        have s1 := letterP_sm (pickN [1, 2] sz.2).1 0 3 (pickN [1, 2] sz.2).2
        have s2 := letterP_sm (pickN [1, 2] sz.2).1 0 3 l1.2
        have eQ : tI (quadL (pickQ l2.2).1) = (quads.map fun q => tI (quadL q)).getD (drawP 8 l2.2).1 (tI (quadL (0, 0, 0, 0))) := (map_getD (fun q => tI (quadL q)) quads (drawP 8 l2.2).1 (0, 0, 0, 0)).symm
        have hq : ∀ q ∈ quads, Bd 1000 (quadL q) := by
          intro q hq x hx
          have : ∀ q ∈ quads, ∀ x ∈ quadL q, x.natAbs ≤ 4 := by decide
          exact lt1k (by have := this q hq x hx; omega)
        have idS := idle_sm (pickN [1, 2] sz.2).1
        refine b_cons (s_ifF (t_eqI (e_var F 1) e_int (decide_eq_false (by omega))) b_nil)
          (b_cons (s_set F 10 (EJ.to (e_call F DP (a_cons (e_var F 0) (a_cons (e_lst (a_cons e_int (a_cons e_int a_nil))) a_nil)) ⟨_, .int 0, rfl, rfl, rfl, by decide, by decide⟩) eH.symm))
          (b_cons (s_set F 6 (e_lst (a_cons (e_call F DL (a_cons (e_var F 0) (a_cons (e_var F 10) (a_cons e_int (a_cons e_int a_nil)))) ⟨(pickN [1, 2] sz.2).1, 0, 3, rfl, rfl, rfl, by omega⟩) (a_cons (e_call F DL (a_cons (e_var F 0) (a_cons (e_var F 10) (a_cons e_int (a_cons e_int a_nil)))) ⟨(pickN [1, 2] sz.2).1, 0, 3, rfl, rfl, rfl, by omega⟩) a_nil))))
          (b_cons (s_set F 11 (EJ.to (e_call F DP (a_cons (e_var F 0) (a_cons (e_lst (ts := quads.map fun q => tI (quadL q)) (a_cons (e_lst (a_cons e_int (a_cons e_int (a_cons e_int (a_cons e_int a_nil))))) (a_cons (e_lst (a_cons e_int (a_cons e_int (a_cons e_int (a_cons e_int a_nil))))) (a_cons (e_lst (a_cons e_int (a_cons e_int (a_cons e_int (a_cons e_int a_nil))))) (a_cons (e_lst (a_cons e_int (a_cons (e_neg e_int) (a_cons e_int (a_cons e_int a_nil))))) (a_cons (e_lst (a_cons e_int (a_cons e_int (a_cons e_int (a_cons e_int a_nil))))) (a_cons (e_lst (a_cons e_int (a_cons e_int (a_cons e_int (a_cons e_int a_nil))))) (a_cons (e_lst (a_cons e_int (a_cons e_int (a_cons e_int (a_cons e_int a_nil))))) (a_cons (e_lst (a_cons e_int (a_cons e_int (a_cons e_int (a_cons e_int a_nil))))) a_nil))))))))) a_nil)) ⟨_, tI (quadL (0, 0, 0, 0)), rfl, rfl, rfl, by decide, by decide⟩) eQ.symm))
          (b_one (s_ret (e_tup (a_cons (EJ.to (e_mul e_int (e_var F 10) (mulW (a := 10) (b := 10) (by decide) (by omega))) (t' := .int ((2 * (pickN [1, 2] sz.2).1 : Nat) : Int)) (by simp)) (a_cons (EJ.to (e_comp F (c_name F (k := 4) (f := fun tb : List (List Int) => tII (twice tb 1 0 0 1)) (ys := [l1.1, l2.1]) (i_lst F (e_var F 6)) (sz1000 (by show 2 ≤ 1000; decide)) (fun tb htb => e_call (F.blk _) DW (a_cons (e_var (F.blk _) 4) (a_cons (e_lst (a_cons e_int (a_cons e_int (a_cons e_int (a_cons e_int a_nil))))) a_nil)) ⟨rfl, tb, 1, 0, 0, 1, rfl, rfl, ?_, ?_, ?_⟩))) (t' := tIII ([l1.1, l2.1].map fun t => twice t 1 0 0 1)) (by rw [tIII, List.map_map]; rfl)) (a_cons (e_call F DW (a_cons (e_call F DU (a_cons (e_var F 10) a_nil) ⟨rfl, (pickN [1, 2] sz.2).1, rfl, rfl, by omega⟩) (a_cons (e_var F 11) a_nil)) ⟨rfl, idle (pickN [1, 2] sz.2).1, (pickQ l2.2).1.1, (pickQ l2.2).1.2.1, (pickQ l2.2).1.2.2.1, (pickQ l2.2).1.2.2.2, rfl, rfl, ?_, ?_, ?_⟩) a_nil))))))))) 
        · have : tb.length = (pickN [1, 2] sz.2).1 := by
            rcases List.mem_cons.mp htb with h | h
            · rw [h]; exact s1.l
            · rw [List.mem_singleton.mp h]; exact s2.l
          omega
        · intro r hr
          have : tb = l1.1 ∨ tb = l2.1 := by
            rcases List.mem_cons.mp htb with h | h
            · exact .inl h
            · exact .inr (List.mem_singleton.mp h)
          rcases this with h | h
          · subst h
            exact ⟨by rw [s1.w r hr]; omega, s1.bd (lt100k (by decide)) r hr⟩
          · subst h
            exact ⟨by rw [s2.w r hr]; omega, s2.bd (lt100k (by decide)) r hr⟩
        · intro x hx
          have : ∀ x ∈ ([1, 0, 0, 1] : List Int), x.natAbs ≤ 4 := by decide
          exact lt1k (by have := this x hx; omega)
        · rw [idS.l]; omega
        · exact fun r hr => ⟨by rw [idS.w r hr]; omega, idB _ r hr⟩
        · exact hq _ (pickQ_mem l2.2)
end
end TW
set_option Elab.async false
set_option linter.all false
set_option maxRecDepth 100000
set_option maxHeartbeats 4000000
set_option exponentiation.threshold 100000
/-! Tn1: new lists, their places told. -/
namespace TW
open PySem L2
abbrev EP := V → Hp → List Addr → Prop
def MonE (E : EP) : Prop := ∀ v B B' as, Same B B' → E v B as → E v B' as
section
variable {S : Stat} {N : List Str} {n : Nat} {ι : Type} {XX : ι → Cx} {m : Pm} {env : TEnv} {c c1 c2 c3 : Pot}
/-- e gives what E tells, all its places new and different -/
def EJX (m : Pm) (XX : ι → Cx) (e : Expr) (env : TEnv) (c : Pot) (E : EP) (c1 : Pot) : Prop :=
  ∀ σ B H, Sit m c B H → RepE m env σ B H → ∀ Q : VK, (∀ v B' H' as, Sit m c1 B' H' → Stp m B H B' H' → E v B' as → as.Nodup → (∀ a ∈ as, H a = none ∧ B' a ≠ none) → Q v H') → rdE XX e σ H Q
def rowE (r : List Int) : EP := fun v B as => ∃ a, v = .ref a ∧ B a = some (.lst (r.map V.int)) ∧ as = [a]
theorem rowE_mon (r : List Int) : MonE (rowE r) := fun v B B' as s ⟨a, h1, h2, h3⟩ => ⟨a, h1, s _ _ h2, h3⟩
theorem ex_new {e : Expr} {r : List Int} (h : NJ m XX e env c (r.map T.int) c1) : EJX m XX e env c (rowE r) c1 := by
  intro σ B H s re Q q
  refine h σ B H s re Q fun p vs B1 H1 s1 t1 hp rv => ?_
  rw [repL_ints] at rv
  subst rv
  have hB := s1.sub.free hp
  refine q (.ref p) (upd B1 p (.lst (r.map V.int))) _ [p] (s1.new hp) (t1.trans (Stp.new hp s1.sub)) ⟨p, rfl, upd_same, rfl⟩ (by simp) fun a ha => ?_
  rw [List.mem_singleton] at ha
  subst ha
  refine ⟨?_, by rw [upd_same]; exact fun z => nomatch z⟩
  cases z : H a with
  | none => rfl
  | some o => exact absurd hp (t1.d a (by rw [z]; exact fun z => nomatch z))
/-- items and their places -/
inductive F3 {α : Type} (E : α → EP) (B : Hp) : List α → List V → List (List Addr) → Prop where
  | nil : F3 E B [] [] []
  | cons {y : α} {ys : List α} {v : V} {vs : List V} {as : List Addr} {ass : List (List Addr)} : E y v B as → F3 E B ys vs ass → F3 E B (y :: ys) (v :: vs) (as :: ass)
theorem F3.mono {α : Type} {E : α → EP} {B B' : Hp} (hE : ∀ y, MonE (E y)) (s : Same B B') : ∀ {ys : List α} {vs : List V} {ass : List (List Addr)}, F3 E B ys vs ass → F3 E B' ys vs ass
  | _, _, _, .nil => .nil
  | _, _, _, .cons h r => .cons (hE _ _ _ _ _ s h) (F3.mono hE s r)
theorem F3.snoc {α : Type} {E : α → EP} {B : Hp} {y : α} {v : V} {as : List Addr} (h : E y v B as) : ∀ {ys : List α} {vs : List V} {ass : List (List Addr)}, F3 E B ys vs ass → F3 E B (ys ++ [y]) (vs ++ [v]) (ass ++ [as])
  | _, _, _, .nil => .cons h .nil
  | _, _, _, .cons h1 r => .cons h1 (F3.snoc h r)
theorem F3.len {α : Type} {E : α → EP} {B : Hp} : ∀ {ys : List α} {vs : List V} {ass : List (List Addr)}, F3 E B ys vs ass → vs.length = ys.length
  | _, _, _, .nil => rfl
  | _, _, _, .cons _ r => by simp [F3.len r]
def lstE {α : Type} (E : α → EP) (ys : List α) : EP := fun v B as => ∃ D vs ass, v = .ref D ∧ B D = some (.lst vs) ∧ as = D :: ass.flatten ∧ F3 E B ys vs ass
theorem lstE_mon {α : Type} {E : α → EP} (hE : ∀ y, MonE (E y)) (ys : List α) : MonE (lstE E ys) := fun v B B' as s ⟨D, vs, ass, h1, h2, h3, h4⟩ => ⟨D, vs, ass, h1, s _ _ h2, h3, h4.mono hE s⟩
theorem F3.map {α β : Type} {E : β → EP} {f : α → β} {B : Hp} : ∀ {ys : List α} {vs : List V} {ass : List (List Addr)}, F3 (fun a => E (f a)) B ys vs ass → F3 E B (ys.map f) vs ass
  | _, _, _, .nil => .nil
  | _, _, _, .cons h r => .cons h (F3.map r)
theorem bx_ret {e : Expr} {pos : Pos} {E : EP} (h : EJX m XX e env c E c1) {σ : L2.St} {B H : Hp} (s : Sit m c B H) (r : RepE m env σ B H) (D : Ends) (k : ∀ v B' H' as, Sit m c1 B' H' → Stp m B H B' H' → E v B' as → as.Nodup → (∀ a ∈ as, H a = none ∧ B' a ≠ none) → D.rt v H') : rdB XX [.Return (some e) pos] D σ H :=
  ⟨_, fun i => pss_one (ps_ret (pe_rd i)), h σ B H s r _ k⟩
theorem NJ.to {e : Expr} {ts us : List T} (h : NJ m XX e env c ts c1) (q : ts = us) : NJ m XX e env c us c1 := q ▸ h
theorem ex_comp (F : Fam S N n XX) {α : Type} {elt it : Expr} {scope : Scope} {x : Str} {k : Nat} {pos cpos : Pos} {emb : α → T} {E : α → EP} {ys : List α} (hE : ∀ y, MonE (E y)) (hi : IJ m XX (.Name x pos) it env c (ys.map emb) c1) (hz : ys.length < sizeLine)
    (he : ∀ y ∈ ys, EJX m (blkF XX scope) elt ((wipeE env [k]).set k (Sl.val (emb y))) c1 (E y) c1)
    (ok : ∀ i, BlkOk N (XX i).env.scope scope [(x, k)] := by intro _; exact blkOk_by (by kernel_rfl)) (hN : N[k]? = some x := by rfl)
    (hl : ∀ j, L2.Loc (blkF XX scope j).env.scope x := by intro _; first | exact Or.inl rfl | exact Or.inr rfl)
    (hfn : ∀ j, (blkF XX scope j).fn x = true ∨ (blkF XX scope j).env.scope.names.lookup x = some .local := by intro _; first | exact Or.inr rfl | exact Or.inl rfl)
    (hf : ∀ i x, foldedSetIterable it (XX i).env x = pure x := by intro _ _; rfl) : EJX m XX (.ListComp elt [⟨.Name x pos, it, [], 0⟩] scope cpos) env c (lstE E ys) c1 := by
  intro σ B H s r Q q
  refine ⟨tLc (rdI XX (.Name x pos) it) (rdG (blkF XX scope) (.Name x pos)) (rdTs (blkF XX scope) []) (rdE (blkF XX scope) elt) ([(x, k)].map (·.2)), fun i => pe_lc (F.calm i) (by rw [F.names i]; exact F.nd) (pi_rd i) (by have := ok i; rw [← F.names i] at this; exact this)
    (fun s H C cl fp => pg_rd (XX := blkF XX scope) (i, s, H, C, cl, fp)) (fun s H C cl fp => pts_rd (XX := blkF XX scope) (i, s, H, C, cl, fp)) (fun s H C cl fp => pe_rd (XX := blkF XX scope) (i, s, H, C, cl, fp)) (hf i), ?_⟩
  have hlen : (ys.map emb).length = ys.length := List.length_map _
  refine hi σ B H s r _ fun J B1 H1 s1 t1 wk => ?_
  intro D hD
  have r1 := r.step t1
  have hp0 : m.p0 ≠ some D := fun z => by
    have := (s1.pot D z).2
    rw [hD] at this
    cases this
  refine ⟨fun i kk H' => kk = ys.length - i ∧ i ≤ ys.length ∧ ∃ B' vs' ass, Sit m c1 B' H' ∧ Stp m B1 H1 B' H' ∧ H' D = some (.lst vs') ∧ B' D = none ∧ F3 E B' (ys.take i) vs' ass ∧ ass.flatten.Nodup ∧ ∀ a ∈ ass.flatten, H1 a = none ∧ B' a ≠ none, ⟨ys.length, ?_⟩, ?_⟩
  · have sm : Same H1 (upd H1 D (.lst [])) := fun a o e => by rw [upd_ne (ne_of_none e hD)]; exact e
    exact ⟨by simp, Nat.zero_le _, B1, [], [], s1.same sm, Stp.same sm, upd_same, s1.sub.free hD, .nil, by simp, fun a ha => by simp at ha⟩
  · rintro i kk H' ⟨rfl, hi', B', vs', ass, s', t', hD', hB', f3, nd, fr⟩
    by_cases hlt : i < ys.length
    · refine .inr ⟨wk.goes i H' (by rw [hlen]; exact hlt) (t'.b.trans s'.sub), fun H'' => ∃ B'' vs'' ass'', Sit m c1 B'' H'' ∧ Stp m B1 H1 B'' H'' ∧ H'' D = some (.lst vs'') ∧ B'' D = none ∧ F3 E B'' (ys.take (i + 1)) vs'' ass'' ∧ ass''.flatten.Nodup ∧ ∀ a ∈ ass''.flatten, H1 a = none ∧ B'' a ≠ none, fun H'' ⟨B'', vs'', ass'', q1⟩ => ⟨ys.length - (i + 1), by omega, rfl, hlt, B'', vs'', ass'', q1⟩, fun x' H2 y => ?_⟩
      obtain ⟨t, ht, hy⟩ := wk.yields i H' x' H2 (by rw [hlen]; exact hlt) (t'.b.trans s'.sub) y
      have hyi : ys[i]? = some ys[i] := List.getElem?_eq_getElem hlt
      rw [List.getElem?_map, hyi] at ht
      cases ht
      obtain ⟨B2, s2, t2, r2⟩ := hy c1 B' s' t'.b
      have kD : ∀ {B3 H3 : Hp}, Stp m B' H' B3 H3 → H3 D = some (.lst vs') ∧ B3 D = none := fun {B3 H3} t3 => by
        refine ⟨t3.h D _ hD' hp0, ?_⟩
        cases z : B3 D with
        | none => rfl
        | some w =>
          rcases t3.n D (by rw [z]; exact fun y => nomatch y) with y | y
          · exact absurd hB' y
          · rw [hD'] at y; cases y
      have rw2 : RepE m (wipeE env [k]) (L2.wipe σ [k]) B2 H2 := ((r1.step t').step t2).wipe [k]
      refine g_name (F.blk scope) k hN hl hfn (L2.wipe σ [k]) B2 H2 x' s2.sub rw2 r2 _ fun σ2 l hl' hlk r3 => ⟨?_, ?_⟩
      · rw [hl', wipe_sets (fun p hp => by
          have : p.1 ∈ [k] := by rw [← hlk]; exact List.mem_map_of_mem hp
          exact this)]
        exact wipe_wipe fun _ h => h
      · refine f_nil (XX := blkF XX scope) (m := m) σ2 B2 H2 s2 r3 _ fun B3 H3 s3 t3 => ?_
        rw [if_pos rfl]
        refine he ys[i] (List.getElem_mem hlt) σ2 B3 H3 s3 (r3.step t3) _ fun v B4 H4 as s4 t4 rv nd4 fr4 => ?_
        have tt : Stp m B' H' B4 H4 := (t2.trans t3).trans t4
        obtain ⟨k1, k2⟩ := kD tt
        have sz : vs'.length < sizeLine := by
          rw [f3.len, List.length_take]
          omega
        have tb : Stp m B' H' B3 H3 := t2.trans t3
        refine ⟨vs', k1, sz, B4, vs' ++ [v], ass ++ [as], ⟨fun a o e => ?_, fun a ha => dom_upd (s4.old a ha), fun p hp => ?_⟩, (t'.trans tt).mutNew hD, upd_same, k2, ?_, ?_, ?_⟩
        · have : a ≠ D := fun z => by subst z; rw [k2] at e; cases e
          rw [upd_ne this]; exact s4.sub a o e
        · have : p ≠ D := fun z => hp0 (by rw [← z]; exact hp)
          rw [upd_ne this]; exact s4.pot p hp
        · rw [List.take_add_one, hyi]
          exact F3.snoc rv (f3.mono hE tt.b)
        · rw [List.flatten_append, List.flatten_singleton, List.nodup_append]
          refine ⟨nd, nd4, fun a ha b hb hab => ?_⟩
          subst hab
          have h1 := (fr a ha).2
          have h2 := (fr4 a hb).1
          cases z : B' a with
          | none => exact h1 z
          | some o =>
            have := s3.sub a o (tb.b a o z)
            rw [h2] at this; cases this
        · intro a ha
          rw [List.flatten_append, List.flatten_singleton, List.mem_append] at ha
          rcases ha with ha | ha
          · refine ⟨(fr a ha).1, ?_⟩
            have h1 := (fr a ha).2
            cases z : B' a with
            | none => exact absurd z h1
            | some o => rw [tt.b a o z]; exact fun z => nomatch z
          · refine ⟨?_, (fr4 a ha).2⟩
            have h2 := (fr4 a ha).1
            cases z : H1 a with
            | none => rfl
            | some o => exact absurd h2 ((t'.trans tb).d a (by rw [z]; exact fun z => nomatch z))
    · have e : i = ys.length := by omega
      subst e
      refine .inl ⟨by have := wk.stops H' (t'.b.trans s'.sub); rw [hlen] at this; exact this, ?_⟩
      rw [List.take_length] at f3
      have dn : ∀ a, H1 a = none → H a = none := fun a h => by
        cases z : H a with
        | none => rfl
        | some o => exact absurd h (t1.d a (by rw [z]; exact fun z => nomatch z))
      have sm : Same B' (upd B' D (.lst vs')) := fun a o e => by rw [upd_ne (ne_of_none e hB')]; exact e
      refine q (.ref D) (upd B' D (.lst vs')) H' (D :: ass.flatten) (s'.frz hB' hD' hp0) (t1.trans (t'.frz hD hB')) ⟨D, vs', ass, rfl, upd_same, rfl, f3.mono hE sm⟩ ?_ ?_
      · rw [List.nodup_cons]
        exact ⟨fun h => (fr D h).2 hB', nd⟩
      · intro a ha
        rcases List.mem_cons.mp ha with ha | ha
        · subst ha
          exact ⟨dn _ hD, by rw [upd_same]; exact fun z => nomatch z⟩
        · refine ⟨dn a (fr a ha).1, ?_⟩
          have h1 := (fr a ha).2
          cases z : B' a with
          | none => exact absurd z h1
          | some o => rw [sm a o z]; exact fun z => nomatch z
end
end TW
set_option Elab.async false
set_option linter.all false
set_option maxRecDepth 100000
set_option maxHeartbeats 4000000
set_option exponentiation.threshold 100000
/-! Tn2: tables that are changed in place. -/
namespace TW
open PySem L2
abbrev sLTurned : Stmt := top 91
theorem scLTurned : FnScope ["_law_pot_here", "_law_size", "_law_tables", "_law_found", "_law_units_here", "_law_turn", "_law_near", "_law_far", "_law_much", "_law_table", "_law_one", "_law_two", "_law_row"] ["_law_pot_here", "_law_size", "_law_tables"] (defScope sLTurned) := ⟨rfl, rfl, rfl, by decide +kernel, rfl, by decide +kernel, by decide +kernel⟩
def rowOp (near far : Nat) (much : Int) (r : List Int) : List Int := r.set far (r.getD far 0 - much * r.getD near 0)
def zipAdd (much : Int) (a b : List Int) : List Int := (a.zip b).map fun z => z.1 + much * z.2
def turnOne (near far : Nat) (much : Int) (t : List (List Int)) : List (List Int) := (t.set near (zipAdd much (t.getD near []) (t.getD far []))).map (rowOp near far much)
/-- the state where no slot is owned -/
structure Pst (m : Pm) (B0 H0 : Hp) (e : TEnv) (c : Pot) (σ : L2.St) (B H : Hp) : Prop where
  sit : Sit m c B H
  env : RepE m e σ B H
  stp : Stp m B0 H0 B H
def NoOwn (e : TEnv) : Prop := ∀ (i : Nat) (ts : List T), e[i]? ≠ some (Sl.own ts)
def Plain (e : TEnv) : Prop := ∀ (i : Nat) (t : T), e[i]? = some (Sl.val t) → t = .pot ∨ ∃ k, t = .int k
section
variable {S : Stat} {N : List Str} {n : Nat} {ι : Type} {XX : ι → Cx} {m : Pm} {env : TEnv} {c c1 c2 c3 : Pot}
theorem Pst.anc {B0 H0 : Hp} {σ : L2.St} {B H : Hp} (p : Pst m B0 H0 env c σ B H) (no : NoOwn env) : Anc m B0 H0 env c σ B H := ⟨p.sit, p.env, p.stp, fun i ts a h => absurd h (no i ts)⟩
theorem Anc.pst {B0 H0 : Hp} {σ : L2.St} {B H : Hp} (p : Anc m B0 H0 env c σ B H) : Pst m B0 H0 env c σ B H := ⟨p.sit, p.env, p.stp⟩
theorem RepE.plain {σ : L2.St} {B H B' H' : Hp} (r : RepE m env σ B H) (no : NoOwn env) (pl : Plain env) : RepE m env σ B' H' :=
  ⟨r.len, fun i t h => by
    obtain ⟨v, e1, e2⟩ := r.val i t h
    refine ⟨v, e1, ?_⟩
    rcases pl i t h with rfl | ⟨k, rfl⟩
    · exact rep_pot.mpr (rep_pot.mp e2)
    · exact rep_int.mpr (rep_int.mp e2), fun i ts h => absurd h (no i ts), r.raw, fun i j ts us a _ h => absurd h (no i ts)⟩
theorem RepE.know {σ : L2.St} {B H : Hp} {k : Nat} {v : V} {t : T} (r : RepE m env σ B H) (h : env[k]? = some (Sl.raw v)) (rv : Rep m t v B) : RepE m (env.set k (Sl.val t)) σ B H := by
  have h1 := r.raw k v h
  have h2 := r.set rv k
  have e : σ.set k (some v) = σ := by
    apply List.ext_getElem?
    intro i
    by_cases z : k = i
    · subst z
      rw [List.getElem?_set_self (List.getElem?_eq_some_iff.mp h1).1, h1]
    · rw [List.getElem?_set_ne z]
  rw [e] at h2
  exact h2
/-- an object that is ours is changed -/
theorem Pst.mut {B0 H0 : Hp} {σ : L2.St} {B H : Hp} {a : Addr} {o o' : HO} (p : Pst m B0 H0 env c σ B H) (no : NoOwn env) (pl : Plain env) (hs : Same B0 H0) (hB : B a = some o) (h0 : H0 a = none) : Pst m B0 H0 env c σ (upd B a o') (upd H a o') := by
  have hp : ∀ q, m.p0 = some q → q ≠ a := fun q hq z => by
    have := (p.sit.pot q hq).1
    rw [z, hB] at this; cases this
  refine ⟨⟨fun x u e => ?_, fun x hx => dom_upd (p.sit.old x hx), fun q hq => ?_⟩, p.env.plain no pl, ⟨fun x u e => ?_, fun x u e np => ?_, fun x hx => ?_, fun x hx => dom_upd (p.stp.d x hx)⟩⟩
  · by_cases z : x = a
    · subst z; rw [upd_same] at e ⊢; exact e
    · rw [upd_ne z] at e ⊢; exact p.sit.sub x u e
  · rw [upd_ne (hp q hq), upd_ne (hp q hq)]; exact p.sit.pot q hq
  · have z : x ≠ a := ne_of_none (hs x u e) h0
    rw [upd_ne z]; exact p.stp.b x u e
  · have z : x ≠ a := ne_of_none e h0
    rw [upd_ne z]; exact p.stp.h x u e np
  · by_cases z : x = a
    · subst z; exact .inr h0
    · rw [upd_ne z] at hx; exact p.stp.n x hx
theorem Pst.step {B0 H0 B H B' H' : Hp} {σ : L2.St} {c' : Pot} (a : Pst m B0 H0 env c σ B H) (s : Sit m c' B' H') (t : Stp m B H B' H') : Pst m B0 H0 env c' σ B' H' := ⟨s, a.env.step t, a.stp.trans t⟩
/-- [elt for x, y in it], the list not frozen -/
theorem cn_pair (F : Fam S N n XX) {α : Type} {elt it : Expr} {scope : Scope} {x y : Str} {k l kk : Nat} {pos px py : Pos} {ea eb f : α → T} {ys : List α} (hi : IJ m XX (.Tuple [.Name x px, .Name y py] kk pos) it env c (ys.map fun z => .tup [ea z, eb z]) c1) (hz : ys.length < sizeLine)
    (he : ∀ z ∈ ys, EJ m (blkF XX scope) elt (((wipeE env [k, l]).set k (Sl.val (ea z))).set l (Sl.val (eb z))) c1 (f z) c1)
    (ok : ∀ i, BlkOk N (XX i).env.scope scope [(x, k), (y, l)] := by intro _; exact blkOk_by (by kernel_rfl)) (hN : N[k]? = some x := by rfl) (hN2 : N[l]? = some y := by rfl)
    (hl : ∀ j, L2.Loc (blkF XX scope j).env.scope x := by intro _; first | exact Or.inl rfl | exact Or.inr rfl) (hl2 : ∀ j, L2.Loc (blkF XX scope j).env.scope y := by intro _; first | exact Or.inl rfl | exact Or.inr rfl)
    (hfn : ∀ j, (blkF XX scope j).fn x = true ∨ (blkF XX scope j).env.scope.names.lookup x = some .local := by intro _; first | exact Or.inr rfl | exact Or.inl rfl)
    (hfn2 : ∀ j, (blkF XX scope j).fn y = true ∨ (blkF XX scope j).env.scope.names.lookup y = some .local := by intro _; first | exact Or.inr rfl | exact Or.inl rfl) :
    CompN S N m XX elt (.Tuple [.Name x px, .Name y py] kk pos) it [] scope [(x, k), (y, l)] env c (ys.map f) c1 :=
  ⟨ok, den_lcOwn hi (by rw [List.length_map]; exact hz) (trns_map fun z hz => ⟨[k] ++ [l], _, fun _ h => h, g_tup2 (F.blk scope) (g_name (F.blk scope) k hN hl hfn) (g_name (F.blk scope) l hN2 hl2 hfn2), .inl ⟨_, _, rfl, f_nil, he z hz⟩⟩)⟩
theorem n_comp (F : Fam S N n XX) {elt tg it : Expr} {ifs : List Expr} {scope : Scope} {own : List (Str × Nat)} {pos : Pos} {ts : List T} (h : CompN S N m XX elt tg it ifs scope own env c ts c2)
    (hf : ∀ i x, foldedSetIterable it (XX i).env x = pure x := by intro _ _; rfl) : NJ m XX (.ListComp elt [⟨tg, it, ifs, 0⟩] scope pos) env c ts c2 :=
  NJ.of (fun i => pe_lc (F.calm i) (by rw [F.names i]; exact F.nd) (pi_rd i) (by have := h.ok i; rw [← F.names i] at this; exact this)
    (fun s H C cl fp => pg_rd (XX := blkF XX scope) (i, s, H, C, cl, fp)) (fun s H C cl fp => pts_rd (XX := blkF XX scope) (i, s, H, C, cl, fp)) (fun s H C cl fp => pe_rd (XX := blkF XX scope) (i, s, H, C, cl, fp)) (hf i)) h.den
end
/-! ### the idle table, its places told -/
def spX (CR CH : Addr) (R : Pot → List T → EP → Prop) : Sp := fun vs H Q _ => ∃ (p0 : Option Addr) (h0 : Hp) (B : Hp) (c : Pot) (ts : List T) (E : EP), R c ts E ∧ Sit ⟨CR, CH, p0, h0⟩ c B H ∧ RepL ⟨CR, CH, p0, h0⟩ ts vs B ∧
  ∀ v B' H' as, Sit ⟨CR, CH, p0, h0⟩ c B' H' → Stp ⟨CR, CH, p0, h0⟩ B H B' H' → E v B' as → as.Nodup → (∀ a ∈ as, H a = none ∧ B' a ≠ none) → Q v H'
structure DnX (S : Stat) (CR CH : Addr) (x : Str) (ps : List Str) (k : Nat) (R : Pot → List T → EP → Prop) : Prop where
  ex : ∃ f fd, FnOk S.P S.w S.K S.mg S.base CX0 k f fd ps (spX CR CH R) ∧ S.mg x = some (.ref f) ∧ PySem.W.keepIn S.K (.ref f) = true ∧ Binds S.K fd ps []
def rUnitsX : Pot → List T → EP → Prop := fun _ ts E => ∃ n : Nat, ts = [.int n] ∧ E = lstE rowE (idle n) ∧ n ≤ 500
section
variable {S : Stat} {CR CH : Addr}
theorem ok_lunitsX {f : Addr} {fd : FuncData} (Fd : FnS S "_law_units" sLUnits f fd) (hm : S.mg "_law_units" = some (.ref f)) (g : MG S) : DnX S CR CH "_law_units" ["_law_size"] 1 rUnitsX := by
  refine ⟨f, fd, Fd.ok scLUnits (fun vs H Q E h => ?_) (fun cdv A outer s H vs Q E hr h => ?_), hm, Fd.kp, Fd.bindsN (fun _ _ _ _ _ _ us hl => match us, hl with | [_], _ => rfl)⟩
  · obtain ⟨p0, h0, B, c, ts, E, ⟨k, rfl, _⟩, _, rl, _⟩ := h
    exact rl.length
  · obtain ⟨p0, h0, B, c, ts, E, ⟨k, rfl, rfl, hk⟩, sit, rl, q⟩ := h
    have F : Fam S ["_law_size", "_law_at", "_law_to"] 0 (dcx S ["_law_size", "_law_at", "_law_to"] "_law_units" sLUnits f cdv A outer s H E) :=
      ⟨fun _ => rfl, fun _ => rfl, fun _ => rfl, fun _ => rfl, fun _ => rfl, fun _ => rfl, scLUnits.nd, fun _ => rfl, fun _ => hr⟩
    let XX := dcx S ["_law_size", "_law_at", "_law_to"] "_law_units" sLUnits f cdv A outer s H E
    refine ⟨rdB XX (defBody sLUnits), PSs.nox (pb_rd (XX := XX) ()), ?_⟩
    refine bx_ret (XX := XX) (m := ⟨CR, CH, p0, h0⟩) (c := c) (ex_comp F (k := 1) (emb := fun a : Nat => T.int (a : Int)) (E := fun a : Nat => rowE ((List.range k).map fun b => if a = b then 1 else 0)) (ys := List.range k) (fun a => rowE_mon _) (i_rangeN F g.range_ (e_var F 0) (by omega)) (sz1000 (by simp; omega)) (fun a ha => ex_new (NJ.to (n_comp (F.blk _) (cn_name (F.blk _) (k := 2) (f := fun b : Nat => T.int (if a = b then 1 else 0)) (i_rangeN (F.blk _) g.range_ (e_var (F.blk _) 0) (by omega)) (sz1000 (by simp; omega)) (fun b hb => EJ.to (e_intB ((F.blk _).blk _) g.int_ (e_eqI (e_var ((F.blk _).blk _) 1) (e_var ((F.blk _).blk _) 2))) (by
        unfold b2i
        by_cases z : a = b
        · subst z; simp
        · have : ¬ (a : Int) = (b : Int) := by omega
          simp [z, this])))) (by rw [List.map_map]; rfl)))) sit (start_rep (m := ⟨CR, CH, p0, h0⟩) rl (by show 1 ≤ 3; decide)) _ ?_
    rintro v B' H' as s' t' ⟨D, vs', ass, rfl, e2, e3, e4⟩ nd fr
    exact q _ B' H' as s' t' ⟨D, vs', ass, rfl, e2, e3, F3.map (E := rowE) e4⟩ nd fr
end
/-! ### rows and tables at their places -/
def RowsAt (B : Hp) : List (List Int) → List Addr → Prop
  | [], [] => True
  | r :: t, a :: as => B a = some (.lst (r.map V.int)) ∧ RowsAt B t as
  | [], _ :: _ => False
  | _ :: _, [] => False
theorem RowsAt.len {B : Hp} : ∀ {t : List (List Int)} {as : List Addr}, RowsAt B t as → as.length = t.length
  | [], [], _ => rfl
  | r :: t, a :: as, h => by simp [RowsAt.len h.2]
theorem RowsAt.get {B : Hp} : ∀ {t : List (List Int)} {as : List Addr}, RowsAt B t as → ∀ {i : Nat} {r : List Int}, t[i]? = some r → ∃ a, as[i]? = some a ∧ B a = some (.lst (r.map V.int))
  | r :: t, a :: as, h, 0, r', e => by simp at e; subst e; exact ⟨a, rfl, h.1⟩
  | r :: t, a :: as, h, i + 1, r', e => by simpa using RowsAt.get h.2 (i := i) (by simpa using e)
theorem RowsAt.keep {B B' : Hp} : ∀ {t : List (List Int)} {as : List Addr}, RowsAt B t as → (∀ a ∈ as, ∀ o, B a = some o → B' a = some o) → RowsAt B' t as
  | [], [], _, _ => trivial
  | r :: t, a :: as, h, k => ⟨k a List.mem_cons_self _ h.1, RowsAt.keep h.2 fun x hx => k x (List.mem_cons_of_mem _ hx)⟩
theorem RowsAt.mono {B B' : Hp} {t : List (List Int)} {as : List Addr} (h : RowsAt B t as) (s : Same B B') : RowsAt B' t as := h.keep fun a _ o e => s a o e
/-- one row is changed -/
theorem RowsAt.set {B B' : Hp} {r : List Int} : ∀ {t : List (List Int)} {as : List Addr} {i : Nat} {a : Addr}, RowsAt B t as → as.Nodup → as[i]? = some a → B' a = some (.lst (r.map V.int)) → (∀ x ∈ as, x ≠ a → ∀ o, B x = some o → B' x = some o) → RowsAt B' (t.set i r) as
  | [], [], i, a, _, _, e, _, _ => by simp at e
  | x :: t, b :: as, 0, a, h, nd, e, e2, k => by
    simp at e
    subst e
    exact ⟨e2, h.2.keep fun y hy o ho => k y (List.mem_cons_of_mem _ hy) (fun z => (List.nodup_cons.mp nd).1 (z ▸ hy)) o ho⟩
  | x :: t, b :: as, i + 1, a, h, nd, e, e2, k => by
    have e' : as[i]? = some a := by simpa using e
    have ne : b ≠ a := fun z => (List.nodup_cons.mp nd).1 (z ▸ List.mem_of_getElem? e')
    exact ⟨k b List.mem_cons_self ne _ h.1, RowsAt.set h.2 (List.nodup_cons.mp nd).2 e' e2 fun y hy => k y (List.mem_cons_of_mem _ hy)⟩
/-- a row is put in another place -/
theorem RowsAt.put {B : Hp} {r : List Int} {p : Addr} (hp : B p = some (.lst (r.map V.int))) : ∀ {t : List (List Int)} {as : List Addr} {i : Nat}, RowsAt B t as → RowsAt B (t.set i r) (as.set i p)
  | [], [], i, _ => by simp [RowsAt]
  | x :: t, b :: as, 0, h => ⟨hp, h.2⟩
  | x :: t, b :: as, i + 1, h => ⟨h.1, RowsAt.put hp h.2⟩
theorem RowsAt.rep {m : Pm} {B : Hp} : ∀ {t : List (List Int)} {as : List Addr}, RowsAt B t as → RepL m (t.map tI) (as.map V.ref) B
  | [], [], _ => repL_nil.mpr rfl
  | r :: t, a :: as, h => repL_cons.mpr ⟨_, _, rfl, rep_lst.mpr ⟨a, _, rfl, h.1, repL_ints.mpr rfl⟩, RowsAt.rep h.2⟩
theorem RowsAt.of {B : Hp} : ∀ {t : List (List Int)} {vs : List V} {ass : List (List Addr)}, F3 rowE B t vs ass → ∃ as, vs = as.map V.ref ∧ ass.flatten = as ∧ RowsAt B t as
  | _, _, _, .nil => ⟨[], rfl, rfl, trivial⟩
  | _, _, _, .cons ⟨a, h1, h2, h3⟩ r => by
    obtain ⟨as, e1, e2, e3⟩ := RowsAt.of r
    subst h1 h3 e1
    exact ⟨a :: as, rfl, by rw [List.flatten_cons, e2]; rfl, h2, e3⟩
abbrev TA2 := Addr × List Addr
def foot (x : TA2) : List Addr := x.1 :: x.2
def TabAt (B : Hp) (t : List (List Int)) (x : TA2) : Prop := B x.1 = some (.lst (x.2.map V.ref)) ∧ RowsAt B t x.2
theorem TabAt.keep {B B' : Hp} {t : List (List Int)} {x : TA2} (h : TabAt B t x) (k : ∀ a ∈ foot x, ∀ o, B a = some o → B' a = some o) : TabAt B' t x :=
  ⟨k _ List.mem_cons_self _ h.1, h.2.keep fun a ha => k a (List.mem_cons_of_mem _ ha)⟩
theorem TabAt.rep {m : Pm} {B : Hp} {t : List (List Int)} {x : TA2} (h : TabAt B t x) : Rep m (tII t) (.ref x.1) B := rep_lst.mpr ⟨x.1, _, rfl, h.1, h.2.rep⟩
def TabsAt (B : Hp) : List (List (List Int)) → List TA2 → Prop
  | [], [] => True
  | t :: ts, x :: xs => TabAt B t x ∧ TabsAt B ts xs
  | [], _ :: _ => False
  | _ :: _, [] => False
theorem TabsAt.len {B : Hp} : ∀ {ts : List (List (List Int))} {xs : List TA2}, TabsAt B ts xs → xs.length = ts.length
  | [], [], _ => rfl
  | t :: ts, x :: xs, h => by simp [TabsAt.len h.2]
theorem TabsAt.get {B : Hp} : ∀ {ts : List (List (List Int))} {xs : List TA2}, TabsAt B ts xs → ∀ {i : Nat} {x : TA2}, xs[i]? = some x → ∃ t, ts[i]? = some t ∧ TabAt B t x
  | [], [], _, i, x', e => by simp at e
  | [], _ :: _, h, _, _, _ => h.elim
  | t :: ts, x :: xs, h, 0, x', e => by simp at e; subst e; exact ⟨t, rfl, h.1⟩
  | t :: ts, x :: xs, h, i + 1, x', e => by simpa using TabsAt.get h.2 (i := i) (by simpa using e)
theorem TabsAt.keep {B B' : Hp} : ∀ {ts : List (List (List Int))} {xs : List TA2}, TabsAt B ts xs → (∀ a ∈ xs.flatMap foot, ∀ o, B a = some o → B' a = some o) → TabsAt B' ts xs
  | [], [], _, _ => trivial
  | t :: ts, x :: xs, h, k => ⟨h.1.keep fun a ha => k a (by rw [List.flatMap_cons]; exact List.mem_append_left _ ha), TabsAt.keep h.2 fun a ha => k a (by rw [List.flatMap_cons]; exact List.mem_append_right _ ha)⟩
theorem TabsAt.mono {B B' : Hp} {ts : List (List (List Int))} {xs : List TA2} (h : TabsAt B ts xs) (s : Same B B') : TabsAt B' ts xs := h.keep fun a _ o e => s a o e
theorem TabsAt.set {B B' : Hp} {t' : List (List Int)} {x' : TA2} : ∀ {ts : List (List (List Int))} {xs : List TA2} {i : Nat} {x : TA2}, TabsAt B ts xs → (xs.flatMap foot).Nodup → xs[i]? = some x → TabAt B' t' x' → (∀ a ∈ xs.flatMap foot, a ∉ foot x → ∀ o, B a = some o → B' a = some o) → TabsAt B' (ts.set i t') (xs.set i x')
  | [], [], i, a, _, _, e, _, _ => by simp at e
  | t :: ts, y :: xs, 0, x, h, nd, e, e2, k => by
    simp at e
    subst e
    rw [List.flatMap_cons, List.nodup_append] at nd
    exact ⟨e2, h.2.keep fun a ha o ho => k a (by rw [List.flatMap_cons]; exact List.mem_append_right _ ha) (fun z => nd.2.2 a z a ha rfl) o ho⟩
  | t :: ts, y :: xs, i + 1, x, h, nd, e, e2, k => by
    have e' : xs[i]? = some x := by simpa using e
    rw [List.flatMap_cons, List.nodup_append] at nd
    refine ⟨h.1.keep fun a ha o ho => k a (by rw [List.flatMap_cons]; exact List.mem_append_left _ ha) (fun z => ?_) o ho, TabsAt.set h.2 nd.2.1 e' e2 fun a ha => k a (by rw [List.flatMap_cons]; exact List.mem_append_right _ ha)⟩
    exact nd.2.2 a ha a (List.mem_flatMap.mpr ⟨x, List.mem_of_getElem? e', z⟩) rfl
theorem TabsAt.rep {m : Pm} {B : Hp} : ∀ {ts : List (List (List Int))} {xs : List TA2}, TabsAt B ts xs → RepL m (ts.map tII) (xs.map fun x => V.ref x.1) B
  | [], [], _ => repL_nil.mpr rfl
  | t :: ts, x :: xs, h => repL_cons.mpr ⟨_, _, rfl, h.1.rep, TabsAt.rep h.2⟩
theorem TabsAt.of {B : Hp} : ∀ {ts : List (List (List Int))} {vs : List V} {ass : List (List Addr)}, F3 (fun t => lstE rowE t) B ts vs ass → ∃ xs : List TA2, vs = xs.map (fun x => V.ref x.1) ∧ ass.flatten = xs.flatMap foot ∧ TabsAt B ts xs
  | _, _, _, .nil => ⟨[], rfl, rfl, trivial⟩
  | _, _, _, .cons ⟨D, vs, ass, h1, h2, h3, h4⟩ r => by
    obtain ⟨xs, e1, e2, e3⟩ := TabsAt.of r
    obtain ⟨as, f1, f2, f3⟩ := RowsAt.of h4
    subst h1 h3 e1 f1
    exact ⟨(D, as) :: xs, rfl, by rw [List.flatten_cons, e2, f2]; rfl, ⟨h2, f3⟩, e3⟩
end TW
set_option Elab.async false
set_option linter.all false
set_option maxRecDepth 100000
set_option maxHeartbeats 4000000
set_option exponentiation.threshold 100000
/-! Tn3: the loops of _law_turned. -/
namespace TW
open PySem L2
abbrev NT : List Str := ["_law_pot_here", "_law_size", "_law_tables", "_law_found", "_law_units_here", "_law_turn", "_law_near", "_law_far", "_law_much", "_law_table", "_law_one", "_law_two", "_law_row"]
def forB : Stmt → List Stmt
  | .For _ _ b _ _ => b
  | _ => []
abbrev ev (n near far : Nat) (much : Int) (fa ua : Addr) (x9 x12 : Sl) : TEnv := [Sl.val .pot, Sl.val (.int (n : Nat)), Sl.un, Sl.raw (.ref fa), Sl.raw (.ref ua), Sl.un, Sl.val (.int (near : Nat)), Sl.val (.int (far : Nat)), Sl.val (.int much), x9, Sl.un, Sl.un, x12]
def Bare (x : Sl) : Prop := x = Sl.un ∨ ∃ v, x = Sl.raw v
theorem ev_no {n near far : Nat} {much : Int} {fa ua : Addr} {x9 x12 : Sl} (h9 : Bare x9) (h12 : Bare x12) : NoOwn (ev n near far much fa ua x9 x12) := by
  intro i ts h
  have hm := List.mem_of_getElem? h
  simp only [List.mem_cons, List.not_mem_nil, or_false, reduceCtorEq, false_or] at hm
  rcases hm with hm | hm
  · rcases h9 with h | ⟨v, h⟩ <;> rw [h] at hm <;> cases hm
  · rcases h12 with h | ⟨v, h⟩ <;> rw [h] at hm <;> cases hm
theorem ev_pl {n near far : Nat} {much : Int} {fa ua : Addr} {x9 x12 : Sl} (h9 : Bare x9) (h12 : Bare x12) : Plain (ev n near far much fa ua x9 x12) := by
  intro i t h
  have hm := List.mem_of_getElem? h
  simp only [List.mem_cons, List.not_mem_nil, or_false, reduceCtorEq, false_or, Sl.val.injEq] at hm
  rcases hm with hm | hm | hm | hm | hm | hm | hm
  · exact .inl hm
  · exact .inr ⟨_, hm⟩
  · exact .inr ⟨_, hm⟩
  · exact .inr ⟨_, hm⟩
  · exact .inr ⟨_, hm⟩
  · rcases h9 with h | ⟨v, h⟩ <;> rw [h] at hm <;> cases hm
  · rcases h12 with h | ⟨v, h⟩ <;> rw [h] at hm <;> cases hm
theorem bare_un : Bare Sl.un := .inl rfl
theorem bare_raw {v : V} : Bare (Sl.raw v) := .inr ⟨v, rfl⟩
section
variable {S : Stat} {k : Nat} {ι : Type} {XX : ι → Cx} {m : Pm}
/-- row[far] = row[far] - much * row[near] -/
def RowSpec (m : Pm) (XX : ι → Cx) (body : List Stmt) : Prop := ∀ (n near far : Nat) (much : Int) (fa ua : Addr) (x9 : Sl) (c : Pot) (B0 H0 : Hp) (σ : L2.St) (B H : Hp) (a : Addr) (r : List Int) (D : Ends), Bare x9 →
  Pst m B0 H0 (ev n near far much fa ua x9 Sl.un) c σ B H → Same B0 H0 → B a = some (.lst (r.map V.int)) → H0 a = none → near < r.length → far < r.length → Bd 1000 r → much.natAbs < 2 ^ 10 →
  (∀ B' H', Pst m B0 H0 (ev n near far much fa ua x9 Sl.un) c (σ.set 12 (some (.ref a))) B' H' → B' a = some (.lst ((rowOp near far much r).map V.int)) → (∀ x o, x ≠ a → B x = some o → B' x = some o) → D.nx (σ.set 12 (some (.ref a))) H') →
  rdB XX body D (σ.set 12 (some (.ref a))) H
theorem row_spec (F : Fam S NT k XX) {q1 q2 q3 q4 q5 q6 q7 q8 q9 q10 q11 q12 q13 : Pos}
    (hv : ∀ i, Vis (XX i).env.scope "_law_row" := by intro _; first | exact Or.inl rfl | exact Or.inr (Or.inl rfl) | exact Or.inr (Or.inr rfl))
    (hv7 : ∀ i, Vis (XX i).env.scope "_law_far" := by intro _; first | exact Or.inl rfl | exact Or.inr (Or.inl rfl) | exact Or.inr (Or.inr rfl))
    (hv6 : ∀ i, Vis (XX i).env.scope "_law_near" := by intro _; first | exact Or.inl rfl | exact Or.inr (Or.inl rfl) | exact Or.inr (Or.inr rfl))
    (hv8 : ∀ i, Vis (XX i).env.scope "_law_much" := by intro _; first | exact Or.inl rfl | exact Or.inr (Or.inl rfl) | exact Or.inr (Or.inr rfl))
    (hg : ∀ q (v : Value), assign (.Subscript (.Name "_law_row" q1) (.Name "_law_far" q2) q3) (XX q).env v = (do
        let ov ← holding [v] (eval (.Name "_law_row" q1) (XX q).env)
        let iv ← holding [v, ov] (eval (.Name "_law_far" q2) (XX q).env)
        standAt q3
        holding [v, ov, iv] (setItem ov iv v)
        release [v, ov, iv] []) := by intro _ _; rfl)
    (h1 : ∀ i, swapsWithSole [.Subscript (.Name "_law_row" q1) (.Name "_law_far" q2) q3] (.BinOp (.Subscript (.Name "_law_row" q4) (.Name "_law_far" q5) q6) .Sub (.BinOp (.Name "_law_much" q7) .Mult (.Subscript (.Name "_law_row" q8) (.Name "_law_near" q9) q10) q11) q12) q13.line (XX i).env = pure false := by intro _; rfl)
    (h2 : ∀ i, swappedStores [.Subscript (.Name "_law_row" q1) (.Name "_law_far" q2) q3] (.BinOp (.Subscript (.Name "_law_row" q4) (.Name "_law_far" q5) q6) .Sub (.BinOp (.Name "_law_much" q7) .Mult (.Subscript (.Name "_law_row" q8) (.Name "_law_near" q9) q10) q11) q12) (XX i).env = pure none := by intro _; rfl)
    (h3 : ∀ i, (assignEach [.Subscript (.Name "_law_row" q1) (.Name "_law_far" q2) q3] (XX i).env).map (·.2) = [assign (.Subscript (.Name "_law_row" q1) (.Name "_law_far" q2) q3) (XX i).env] := by intro _; rfl) :
    RowSpec m XX [.Assign [.Subscript (.Name "_law_row" q1) (.Name "_law_far" q2) q3] (.BinOp (.Subscript (.Name "_law_row" q4) (.Name "_law_far" q5) q6) .Sub (.BinOp (.Name "_law_much" q7) .Mult (.Subscript (.Name "_law_row" q8) (.Name "_law_near" q9) q10) q11) q12) q13] := by
  intro n near far much fa ua x9 c B0 H0 σ B H a r D h9 ps hs hB h0 hn hf hb hm kk
  have e12 : (12 : Nat) < σ.length := by rw [← ps.env.len]; exact Nat.lt_of_lt_of_eq (by decide : 12 < 13) rfl
  refine ⟨tAsg (rdE XX _) (gSub (tVar 12) (rdE XX (.Name "_law_far" q2)) rSetL), fun i => pss_one (ps_asg (pe_rd i) (pg_sub (pe_var (by rw [F.names i]; rfl) (hv i)) (pe_rd i) set_list (hg i)) (h1 i) (h2 i) (h3 i)), ?_⟩
  have re : RepE m (ev n near far much fa ua x9 (Sl.val (tI r))) (σ.set 12 (some (.ref a))) B H := ps.env.set (rep_lst.mpr ⟨a, _, rfl, hB, repL_ints.mpr rfl⟩ : Rep m (tI r) (.ref a) B) 12
  have re0 : RepE m (ev n near far much fa ua x9 Sl.un) (σ.set 12 (some (.ref a))) B H := ps.env.un 12 _
  refine (e_sub (e_ixL F (e_var F 12 rfl rfl hv) (e_var F 7 rfl rfl hv7) (atI_int hf)) (e_mul (e_var F 8 rfl rfl hv8) (e_ixL F (e_var F 12 rfl rfl hv) (e_var F 6 rfl rfl hv6) (atI_int hn)) (mulW hm (getD_bd hb)))) _ B H ps.sit re _ fun v B1 H1 s1 t1 rv => ?_
  rw [rep_int] at rv
  subst rv
  refine ⟨_, by rw [List.getElem?_set_self e12], ?_⟩
  refine (e_var F 7 rfl rfl hv7 : EJ m XX (.Name "_law_far" q2) (ev n near far much fa ua x9 (Sl.val (tI r))) c (.int (far : Nat)) c) _ B1 H1 s1 (re.step t1) _ fun w B2 H2 s2 t2 rw_ => ?_
  rw [rep_int] at rw_
  subst rw_
  have hB2 : B2 a = some (.lst (r.map V.int)) := t2.b _ _ (t1.b _ _ hB)
  have ps2 : Pst m B0 H0 (ev n near far much fa ua x9 Sl.un) c (σ.set 12 (some (.ref a))) B2 H2 := ⟨s2, (re0.step t1).step t2, (ps.stp.trans t1).trans t2⟩
  refine ⟨a, _, (far : Nat), far, rfl, rfl, s2.sub _ _ hB2, ixN_nat (by rw [List.length_map]; exact hf), ?_⟩
  refine kk _ _ (ps2.mut (ev_no h9 bare_un) (ev_pl h9 bare_un) hs hB2 h0) ?_ fun x o ne e => ?_
  · rw [upd_same, rowOp, List.map_set]
  · rw [upd_ne ne]; exact t2.b _ _ (t1.b _ _ e)
/-- for row in xs: .. -/
theorem rows_loop (F : Fam S NT k XX) {body : List Stmt} (sp : RowSpec m XX body) (kl : Nat) {xl : Str} {q1 q2 pos : Pos} {n near far : Nat} {much : Int} {fa ua : Addr} {x9 : Sl} {c : Pot} {B0 H0 : Hp} {σ : L2.St} {B H : Hp} {la : Addr} {ras : List Addr} {t : List (List Int)} {D : Ends}
    (h9 : Bare x9) (ps : Pst m B0 H0 (ev n near far much fa ua x9 Sl.un) c σ B H) (hs : Same B0 H0) (hl : (ev n near far much fa ua x9 Sl.un)[kl]? = some (Sl.raw (.ref la))) (hB : B la = some (.lst (ras.map V.ref))) (ra : RowsAt B t ras) (nd : (la :: ras).Nodup) (fr : ∀ a ∈ ras, H0 a = none)
    (hw : ∀ r ∈ t, near < r.length ∧ far < r.length ∧ Bd 1000 r) (hm : much.natAbs < 2 ^ 10)
    (kk : ∀ σ' B' H', Pst m B0 H0 (ev n near far much fa ua x9 Sl.un) c σ' B' H' → RowsAt B' (t.map (rowOp near far much)) ras → (∀ x o, x ∉ ras → B x = some o → B' x = some o) → D.nx σ' H')
    (hN : NT[kl]? = some xl := by rfl) (hv : ∀ i, Vis (XX i).env.scope xl := by intro _; first | exact Or.inl rfl | exact Or.inr (Or.inl rfl) | exact Or.inr (Or.inr rfl)) (hd : (xl == ("__debug__" : Str)) = false := by decide) (hcd : (xl == ("__classdict__" : Str)) = false := by decide)
    (hp : ∀ i, PassesOwn (model (XX i).prog (XX i).w) (XX i).A (XX i).env (XX i).xe := by intro _; exact PassesOwn.never)
    (hlr : ∀ i, L2.Loc (XX i).env.scope "_law_row" := by intro _; first | exact Or.inl rfl | exact Or.inr rfl) (hf : ∀ i, (XX i).fn "_law_row" = true ∨ (XX i).env.scope.names.lookup ("_law_row" : Str) = some .local := by intro _; first | exact Or.inr rfl | exact Or.inl rfl)
    (hsf : ∀ i x, foldedSetIterable (.Name xl q2) (XX i).env x = pure x := by intro _ _; rfl) :
    rdS XX (.For (.Name "_law_row" q1) (.Name xl q2) body [] pos) D σ H := by
  refine ⟨tFor (iSeq S.K (tVar kl)) (gName 12) (rdB XX body), fun i => ps_for (hp i) (F.calm i) (by rw [← F.k i]; exact pi_seq (pe_var (by rw [F.names i]; exact hN) (hv i) hd hcd)) (pg_name (by rw [F.names i]; exact F.nd) (by rw [F.names i]; rfl) (hlr i) (hf i)) (pb_rd i) (hsf i), ?_⟩
  have hlen := ra.len
  have hla : la ∉ ras := (List.nodup_cons.mp nd).1
  have hnd := (List.nodup_cons.mp nd).2
  have sq : ∀ {B' H' : Hp}, Same B' H' → (∀ x o, x ∉ ras → B x = some o → B' x = some o) → SqL S.K H' la (ras.map V.ref) := fun s k => SqL.of (s _ _ (k la _ hla hB))
  refine ⟨_, ps.env.raw kl _ hl, la, rfl, .inl ⟨⟨_, sq ps.sit.sub fun _ _ _ e => e⟩, ?_⟩⟩
  refine ⟨fun i mm σ' H' => mm = ras.length - i ∧ i ≤ ras.length ∧ ∃ B', Pst m B0 H0 (ev n near far much fa ua x9 Sl.un) c σ' B' H' ∧ RowsAt B' ((t.take i).map (rowOp near far much) ++ t.drop i) ras ∧ ∀ x o, x ∉ ras → B x = some o → B' x = some o, ⟨ras.length, rfl, Nat.zero_le _, B, ps, by simpa using ra, fun _ _ _ e => e⟩, ?_⟩
  rintro i mm σ' H' ⟨rfl, hi, B', ps', ra', fk⟩
  by_cases hlt : i < ras.length
  · have hit : i < t.length := by omega
    refine .inr ⟨⟨_, _, sq ps'.sit.sub fk, by rw [List.getElem?_map, List.getElem?_eq_getElem hlt]; rfl⟩, fun σ2 H2 => ∃ B2, Pst m B0 H0 (ev n near far much fa ua x9 Sl.un) c σ2 B2 H2 ∧ RowsAt B2 ((t.take (i + 1)).map (rowOp near far much) ++ t.drop (i + 1)) ras ∧ ∀ x o, x ∉ ras → B x = some o → B2 x = some o, fun σ2 H2 ⟨B2, q⟩ => ⟨ras.length - (i + 1), by omega, rfl, hlt, B2, q⟩, fun x H2 y => ?_⟩
    obtain ⟨rfl, y⟩ := y
    have ex := y _ (sq ps'.sit.sub fk)
    rw [List.getElem?_map, List.getElem?_eq_getElem hlt] at ex
    cases ex
    have hmem : t[i] ∈ t := List.getElem_mem hit
    have hcur : ((t.take i).map (rowOp near far much) ++ t.drop i)[i]? = some t[i] := by
      rw [List.getElem?_append_right (by simp; omega), List.length_map, List.length_take, Nat.min_eq_left (by omega), Nat.sub_self, List.getElem?_drop, Nat.add_zero, List.getElem?_eq_getElem hit]
    obtain ⟨a, ha, hBa⟩ := ra'.get hcur
    rw [List.getElem?_eq_getElem hlt] at ha
    cases ha
    obtain ⟨w1, w2, w3⟩ := hw _ hmem
    refine sp n near far much fa ua x9 c B0 H0 σ' B' H2 ras[i] t[i] _ h9 ps' hs hBa (fr _ (List.getElem_mem hlt)) w1 w2 w3 hm fun B3 H3 ps3 hB3 fk3 => ?_
    refine ⟨B3, ps3, ?_, fun x o hx e => fk3 x o (fun z => hx (z ▸ List.getElem_mem hlt)) (fk x o hx e)⟩
    have e1 : (t.take (i + 1)).map (rowOp near far much) ++ t.drop (i + 1) = ((t.take i).map (rowOp near far much) ++ t.drop i).set i (rowOp near far much t[i]) := by
      rw [List.take_add_one, List.getElem?_eq_getElem hit, List.map_append]
      rw [List.drop_eq_getElem_cons hit, List.set_append_right _ _ (by simp; omega), List.length_map, List.length_take, Nat.min_eq_left (by omega), Nat.sub_self, List.set_cons_zero]
      simp
    rw [e1]
    exact ra'.set hnd (List.getElem?_eq_getElem hlt) hB3 fun x _ ne o e => fk3 x o ne e
  · have e : i = ras.length := by omega
    subst e
    refine .inl ⟨⟨_, sq ps'.sit.sub fk, by rw [List.length_map]; exact Nat.le_refl _⟩, kk σ' B' H' ps' ?_ fk⟩
    have : t.length ≤ ras.length := by omega
    rw [List.take_of_length_le this, List.drop_eq_nil_of_le this, List.append_nil] at ra'
    exact ra'
end
end TW
set_option Elab.async false
set_option linter.all false
set_option maxRecDepth 100000
set_option maxHeartbeats 4000000
set_option exponentiation.threshold 100000
/-! Tn4: one table turned; all tables. -/
namespace TW
open PySem L2
def nthS (l : List Stmt) (i : Nat) : Stmt := l.getD i (.Pass ⟨0, 0, 0, 0⟩)
abbrev st1 : Stmt := nthS (defBody sLTurned) 1
abbrev st2 : Stmt := nthS (forB st1) 2
abbrev st4 : Stmt := nthS (forB st1) 3
theorem nodup_set {p : Addr} : ∀ {as : List Addr} {i : Nat}, as.Nodup → p ∉ as → (as.set i p).Nodup
  | [], _, _, _ => by simp
  | a :: as, 0, h, hp => by
    rw [List.set_cons_zero, List.nodup_cons]
    exact ⟨fun z => hp (List.mem_cons_of_mem _ z), (List.nodup_cons.mp h).2⟩
  | a :: as, i + 1, h, hp => by
    rw [List.set_cons_succ, List.nodup_cons]
    refine ⟨fun z => ?_, nodup_set (List.nodup_cons.mp h).2 fun z => hp (List.mem_cons_of_mem _ z)⟩
    rcases List.mem_or_eq_of_mem_set z with z | z
    · exact (List.nodup_cons.mp h).1 z
    · exact hp (z ▸ List.mem_cons_self)
structure TFit (n near far : Nat) (much : Int) (t : List (List Int)) : Prop where
  l : t.length = n
  w : ∀ r ∈ t, r.length = n ∧ Bd 900 r
theorem zipAdd_ok {n near far : Nat} {much : Int} {t : List (List Int)} (h : TFit n near far much t) (hn : near < n) (hf : far < n) (hm : much.natAbs ≤ 1) :
    (zipAdd much (t.getD near []) (t.getD far [])).length = n ∧ Bd 1000 (zipAdd much (t.getD near []) (t.getD far [])) := by
  have g : ∀ i, i < n → t.getD i [] ∈ t := fun i hi => getD_mem' (by rw [h.l]; exact hi)
  obtain ⟨a1, a2⟩ := h.w _ (g near hn)
  obtain ⟨b1, b2⟩ := h.w _ (g far hf)
  refine ⟨by rw [zipAdd, List.length_map, List.length_zip, a1, b1, Nat.min_self], fun x hx => ?_⟩
  obtain ⟨z, hz, rfl⟩ := List.mem_map.mp hx
  obtain ⟨z1, z2⟩ := List.of_mem_zip hz
  have e1 := a2 _ z1
  have e2 := b2 _ z2
  have e3 : (much * z.2).natAbs ≤ z.2.natAbs := by rw [Int.natAbs_mul]; exact Nat.le_trans (Nat.mul_le_mul_right _ hm) (by omega)
  have e4 := Int.natAbs_add_le z.1 (much * z.2)
  have e5 : 2 ^ 900 + 2 ^ 900 ≤ 2 ^ 1000 := by
    rw [← Nat.mul_two, ← Nat.pow_succ]
    exact Nat.pow_le_pow_right (by decide) (by decide)
  omega
section
variable {S : Stat} {m : Pm} {k : Nat} {f : Addr} {cdv : Value} {A : Around} {outer : List Env} {s : Shared} {Hc : Hp} {Ex : XK}
theorem tab_body (F : Fam S NT k (dcx S NT "_law_turned" sLTurned f cdv A outer s Hc Ex)) (g : MG S) {n near far : Nat} {much : Int} {fa ua : Addr} {c : Pot} {B0 H0 : Hp} {σ : L2.St} {B H : Hp} {x : TA2} {t : List (List Int)} {D : Ends}
    (ps : Pst m B0 H0 (ev n near far much fa ua Sl.un Sl.un) c σ B H) (hs : Same B0 H0) (ht : TabAt B t x) (nd : (foot x).Nodup) (fr : ∀ a ∈ foot x, H0 a = none) (fit : TFit n near far much t) (hn : near < n) (hf : far < n) (hn5 : n ≤ 500) (hm : much.natAbs ≤ 1)
    (kk : ∀ σ' B' H' ras', Pst m B0 H0 (ev n near far much fa ua Sl.un Sl.un) c σ' B' H' → TabAt B' (turnOne near far much t) (x.1, ras') → (foot (x.1, ras')).Nodup → (∀ a ∈ ras', a ∈ x.2 ∨ (H a = none ∧ H0 a = none)) → (∀ y o, y ∉ foot x → B y = some o → B' y = some o) → D.nx σ' H') :
    rdB (dcx S NT "_law_turned" sLTurned f cdv A outer s Hc Ex) (forB st2) D (σ.set 9 (some (.ref x.1))) H := by
  let XX := dcx S NT "_law_turned" sLTurned f cdv A outer s Hc Ex
  obtain ⟨ta, ras⟩ := x
  obtain ⟨hta, hra⟩ := ht
  have e9 : (9 : Nat) < σ.length := by rw [← ps.env.len]; exact Nat.lt_of_lt_of_eq (by decide : 9 < 13) rfl
  have hlen := hra.len
  obtain ⟨z1, z2⟩ := zipAdd_ok fit hn hf hm
  have gm : ∀ i, i < n → t.getD i [] ∈ t := fun i hi => getD_mem' (by rw [fit.l]; exact hi)
  have gx : ∀ i, i < n → (t.map tI)[i]? = some (tI (t.getD i [])) := fun i hi => by
    have : i < t.length := by rw [fit.l]; exact hi
    simp [List.getElem?_map, List.getD, this]
  refine ⟨tSeq (tAsg (rdE XX _) (gSub (tVar 9) (rdE XX _) rSetL)) (rdS XX _), fun i => pss_cons (ps_asg (pe_rd i) (pg_sub (pv 9) (pe_rd i) set_list (fun _ => rfl)) rfl rfl rfl) (pss_one (ps_rd i)), ?_⟩
  have re : RepE m (ev n near far much fa ua (Sl.val (tII t)) Sl.un) (σ.set 9 (some (.ref ta))) B H := ps.env.set (TabAt.rep (x := (ta, ras)) ⟨hta, hra⟩) 9
  have re0 : RepE m (ev n near far much fa ua Sl.un Sl.un) (σ.set 9 (some (.ref ta))) B H := ps.env.un 9 _
  refine (n_comp F (cn_pair F (k := 10) (l := 11) (f := fun z : Int × Int => T.int (z.1 + much * z.2)) (ys := (t.getD near []).zip (t.getD far [])) (IJ.to (i_zip F g.zip_ (e_ixL F (e_var F 9) (e_var F 6) (atI_pos (gx near hn))) (e_ixL F (e_var F 9) (e_var F 7) (atI_pos (gx far hf)))) (zip_emb _ _ _ _)) (sz1000 ?_) (fun z hz => e_add (e_var (F.blk _) 10) (e_mul (e_var (F.blk _) 8) (e_var (F.blk _) 11) (mulW (a := 10) (b := 900) ?_ ?_)))) : NJ m XX _ (ev n near far much fa ua (Sl.val (tII t)) Sl.un) c _ c) _ B H ps.sit re _ fun p vs B1 H1 s1 t1 hp rv => ?_
  · rw [List.length_zip, (fit.w _ (gm near hn)).1]; omega
  · omega
  · exact (fit.w _ (gm far hf)).2 _ (List.of_mem_zip hz).2
  have evs : vs = (zipAdd much (t.getD near []) (t.getD far [])).map V.int := by
    have : ((t.getD near []).zip (t.getD far [])).map (fun z : Int × Int => T.int (z.1 + much * z.2)) = (zipAdd much (t.getD near []) (t.getD far [])).map T.int := by rw [zipAdd, List.map_map]; rfl
    rw [this, repL_ints] at rv
    exact rv
  subst evs
  have hHp : H p = none := by
    cases z : H p with
    | none => rfl
    | some o => exact absurd hp (t1.d p (by rw [z]; exact fun y => nomatch y))
  have hH0p : H0 p = none := by
    cases z : H0 p with
    | none => rfl
    | some o => exact absurd hHp (ps.stp.d p (by rw [z]; exact fun y => nomatch y))
  have inH : ∀ a, (∃ o, B a = some o) → a ≠ p := fun a ⟨o, e⟩ z => by
    have := ps.sit.sub a o e
    rw [z, hHp] at this; cases this
  refine ⟨_, by rw [List.getElem?_set_self e9], ?_⟩
  have s1' : Sit m c (upd B1 p (.lst ((zipAdd much (t.getD near []) (t.getD far [])).map V.int))) (upd H1 p (.lst ((zipAdd much (t.getD near []) (t.getD far [])).map V.int))) := s1.new hp
  have t1' : Stp m B H (upd B1 p (.lst ((zipAdd much (t.getD near []) (t.getD far [])).map V.int))) (upd H1 p (.lst ((zipAdd much (t.getD near []) (t.getD far [])).map V.int))) := t1.trans (Stp.new hp s1.sub)
  refine (e_var F 6 : EJ m XX (.Name "_law_near" _) (ev n near far much fa ua (Sl.val (tII t)) Sl.un) c (.int (near : Nat)) c) _ _ _ s1' (re.step t1') _ fun w B2 H2 s2 t2 rw_ => ?_
  rw [rep_int] at rw_
  subst rw_
  have tt := t1'.trans t2
  have hta2 : B2 ta = some (.lst (ras.map V.ref)) := tt.b _ _ hta
  have hp2 : B2 p = some (.lst ((zipAdd much (t.getD near []) (t.getD far [])).map V.int)) := t2.b _ _ upd_same
  have hnr : near < ras.length := by rw [hlen, fit.l]; exact hn
  have hpf : p ∉ foot (ta, ras) := fun z => by
    rcases List.mem_cons.mp z with z | z
    · exact inH ta ⟨_, hta⟩ z.symm
    · obtain ⟨i, hi, e⟩ := List.getElem_of_mem z
      have hit : i < t.length := by omega
      obtain ⟨a, ha, hb⟩ := hra.get (List.getElem?_eq_getElem hit)
      rw [List.getElem?_eq_getElem hi] at ha
      cases ha
      exact inH _ ⟨_, hb⟩ e
  have ps2 : Pst m B0 H0 (ev n near far much fa ua Sl.un Sl.un) c (σ.set 9 (some (.ref ta))) B2 H2 := ⟨s2, re0.step tt, ps.stp.trans tt⟩
  have ps2' : Pst m B0 H0 (ev n near far much fa ua (Sl.raw (.ref ta)) Sl.un) c (σ.set 9 (some (.ref ta))) B2 H2 := ⟨s2, ⟨by simpa using re0.len, fun i t h => by
    match i, h with
    | 0, h => exact (re0.step tt).val 0 t h
    | 1, h => exact (re0.step tt).val 1 t h
    | 6, h => exact (re0.step tt).val 6 t h
    | 7, h => exact (re0.step tt).val 7 t h
    | 8, h => exact (re0.step tt).val 8 t h
    | i + 13, h => simp at h, fun i ts h => absurd h (ev_no bare_raw bare_un i ts), fun i v h => by
    match i, h with
    | 3, h => exact (re0.step tt).raw 3 v h
    | 4, h => exact (re0.step tt).raw 4 v h
    | 9, h =>
      cases h
      rw [List.getElem?_set_self e9]
    | i + 13, h => simp at h, fun i j ts us a _ h => absurd h (ev_no bare_raw bare_un i ts)⟩, ps.stp.trans tt⟩
  refine ⟨ta, _, (near : Nat), near, rfl, rfl, s2.sub _ _ hta2, ixN_nat (by rw [List.length_map]; exact hnr), ?_⟩
  have ps3 := ps2'.mut (o' := .lst ((ras.map V.ref).set near (.ref p))) (ev_no bare_raw bare_un) (ev_pl bare_raw bare_un) hs hta2 (fr ta List.mem_cons_self)
  have hset : (ras.map V.ref).set near (.ref p) = (ras.set near p).map V.ref := by rw [List.map_set]
  rw [hset] at ps3 ⊢
  have ndp : (ta :: ras.set near p).Nodup := by
    have : (ta :: ras.set near p) = (foot (ta, ras)).set (near + 1) p := rfl
    rw [this]
    exact nodup_set nd hpf
  have hpta : p ≠ ta := fun z => hpf (z ▸ List.mem_cons_self)
  have ra3 : RowsAt (upd B2 ta (.lst ((ras.set near p).map V.ref))) (t.set near (zipAdd much (t.getD near []) (t.getD far []))) (ras.set near p) :=
    RowsAt.put (by rw [upd_ne hpta]; exact hp2) ((hra.mono tt.b).keep fun a ha o e => by
      have : a ≠ ta := fun z => (List.nodup_cons.mp nd).1 (z ▸ ha)
      rw [upd_ne this]; exact e)
  have frp : ∀ a ∈ ras.set near p, a ∈ ras ∨ (H a = none ∧ H0 a = none) := fun a ha => by
    rcases List.mem_or_eq_of_mem_set ha with h | h
    · exact .inl h
    · subst h; exact .inr ⟨hHp, hH0p⟩
  refine rows_loop F (row_spec F) 9 (bare_raw) ps3 hs rfl upd_same ra3 ndp (fun a ha => ?_) (fun r hr => ?_) (by omega) fun σ' B' H' ps' ra' fk => ?_
  · rcases frp a ha with h | h
    · exact fr a (List.mem_cons_of_mem _ h)
    · exact h.2
  · rcases List.mem_or_eq_of_mem_set hr with h | h
    · obtain ⟨w1, w2⟩ := fit.w r h
      exact ⟨by omega, by omega, w2.mono (by decide)⟩
    · rw [h]
      exact ⟨by omega, by omega, z2⟩
  · have ps4 : Pst m B0 H0 (ev n near far much fa ua Sl.un Sl.un) c σ' B' H' := ⟨ps'.sit, ps'.env.forget 9, ps'.stp⟩
    have fta : B' ta = some (.lst ((ras.set near p).map V.ref)) := fk ta _ (List.nodup_cons.mp ndp).1 upd_same
    refine kk σ' B' H' (ras.set near p) ps4 ⟨fta, ra'⟩ ndp frp fun y o hy e => ?_
    have ny : y ≠ ta := fun z => hy (z ▸ List.mem_cons_self)
    refine fk y o (fun z => ?_) (by rw [upd_ne ny]; exact tt.b _ _ e)
    rcases List.mem_or_eq_of_mem_set z with z | z
    · exact hy (List.mem_cons_of_mem _ z)
    · exact inH y ⟨o, e⟩ z
theorem nodup_flat_set {x : TA2} {ras' : List Addr} {H : Hp} (nd' : (foot (x.1, ras')).Nodup) (hf : ∀ a ∈ ras', a ∈ x.2 ∨ H a = none) : ∀ {xs : List TA2} {i : Nat}, (xs.flatMap foot).Nodup → (∀ a ∈ xs.flatMap foot, H a ≠ none) → xs[i]? = some x → ((xs.set i (x.1, ras')).flatMap foot).Nodup ∧ ∀ a ∈ (xs.set i (x.1, ras')).flatMap foot, a ∈ xs.flatMap foot ∨ a ∈ ras'
  | [], _, _, _, h => by simp at h
  | y :: xs, 0, nd, hH, h => by
    simp at h
    subst h
    rw [List.flatMap_cons, List.nodup_append] at nd
    rw [List.set_cons_zero, List.flatMap_cons, List.nodup_append]
    refine ⟨⟨nd', nd.2.1, fun a ha b hb hab => ?_⟩, fun a ha => ?_⟩
    · subst hab
      rcases List.mem_cons.mp ha with ha | ha
      · exact nd.2.2 a (ha ▸ List.mem_cons_self) a hb rfl
      · rcases hf a ha with h | h
        · exact nd.2.2 a (List.mem_cons_of_mem _ h) a hb rfl
        · exact hH a (by rw [List.flatMap_cons]; exact List.mem_append_right _ hb) h
    · rw [List.mem_append] at ha
      rw [List.flatMap_cons, List.mem_append]
      rcases ha with ha | ha
      · rcases List.mem_cons.mp ha with ha | ha
        · exact .inl (.inl (ha ▸ List.mem_cons_self))
        · exact .inr ha
      · exact .inl (.inr ha)
  | y :: xs, i + 1, nd, hH, h => by
    have h' : xs[i]? = some x := by simpa using h
    rw [List.flatMap_cons, List.nodup_append] at nd
    obtain ⟨q1, q2⟩ := nodup_flat_set nd' hf nd.2.1 (fun a ha => hH a (by rw [List.flatMap_cons]; exact List.mem_append_right _ ha)) h'
    rw [List.set_cons_succ, List.flatMap_cons, List.nodup_append]
    refine ⟨⟨nd.1, q1, fun a ha b hb hab => ?_⟩, fun a ha => ?_⟩
    · subst hab
      rcases q2 a hb with h | h
      · exact nd.2.2 a ha a h rfl
      · rcases hf a h with h | h
        · exact nd.2.2 a ha a (List.mem_flatMap.mpr ⟨x, List.mem_of_getElem? h', List.mem_cons_of_mem _ h⟩) rfl
        · exact hH a (by rw [List.flatMap_cons]; exact List.mem_append_left _ ha) h
    · rw [List.mem_append] at ha
      rw [List.flatMap_cons, List.mem_append]
      rcases ha with ha | ha
      · exact .inl (.inl ha)
      · rcases q2 a ha with h | h
        · exact .inl (.inr h)
        · exact .inr h
theorem TabsAt.dom {B : Hp} : ∀ {ts : List (List (List Int))} {xs : List TA2}, TabsAt B ts xs → ∀ a ∈ xs.flatMap foot, B a ≠ none
  | [], [], _, a, ha => by simp at ha
  | t :: ts, x :: xs, h, a, ha => by
    rw [List.flatMap_cons, List.mem_append] at ha
    rcases ha with ha | ha
    · rcases List.mem_cons.mp ha with ha | ha
      · rw [ha, h.1.1]; exact fun z => nomatch z
      · obtain ⟨i, hi, e⟩ := List.getElem_of_mem ha
        have hit : i < t.length := by rw [← h.1.2.len]; exact hi
        obtain ⟨b, hb, hB⟩ := h.1.2.get (List.getElem?_eq_getElem hit)
        rw [List.getElem?_eq_getElem hi] at hb
        cases hb
        rw [← e, hB]; exact fun z => nomatch z
    · exact TabsAt.dom h.2 a ha
theorem tabs_loop (F : Fam S NT k (dcx S NT "_law_turned" sLTurned f cdv A outer s Hc Ex)) (g : MG S) {n near far : Nat} {much : Int} {fa ua : Addr} {c : Pot} {B0 H0 : Hp} {σ : L2.St} {B H : Hp} {xs : List TA2} {ts : List (List (List Int))} {D : Ends}
    (ps : Pst m B0 H0 (ev n near far much fa ua Sl.un Sl.un) c σ B H) (hs : Same B0 H0) (hfa : B fa = some (.lst (xs.map fun x => V.ref x.1))) (ht : TabsAt B ts xs) (nd : (xs.flatMap foot).Nodup) (nfa : fa ∉ xs.flatMap foot) (fr : ∀ a ∈ xs.flatMap foot, H0 a = none) (fit : ∀ t ∈ ts, TFit n near far much t) (hn : near < n) (hf : far < n) (hn5 : n ≤ 500) (hm : much.natAbs ≤ 1)
    (kk : ∀ σ' B' H' xs', Pst m B0 H0 (ev n near far much fa ua Sl.un Sl.un) c σ' B' H' → TabsAt B' (ts.map (turnOne near far much)) xs' → xs'.map (·.1) = xs.map (·.1) → (xs'.flatMap foot).Nodup → (∀ a ∈ xs'.flatMap foot, a ∈ xs.flatMap foot ∨ (B a = none ∧ H0 a = none)) → (∀ y o, y ∉ xs.flatMap foot → B y = some o → B' y = some o) → D.nx σ' H') :
    rdS (dcx S NT "_law_turned" sLTurned f cdv A outer s Hc Ex) st2 D σ H := by
  let XX := dcx S NT "_law_turned" sLTurned f cdv A outer s Hc Ex
  refine ⟨tFor (iSeq S.K (tVar 3)) (gName 9) (rdB XX (forB st2)), fun i => ps_for PassesOwn.never (F.calm i) (pi_seq (pv 3)) (pg_name F.nd rfl (Or.inl rfl) (Or.inr rfl)) (pb_rd i) (fun _ => rfl), ?_⟩
  have hlen := ht.len
  refine ⟨_, ps.env.raw 3 _ rfl, fa, rfl, .inl ⟨⟨_, SqL.of (ps.sit.sub _ _ hfa)⟩, ?_⟩⟩
  let I : Nat → L2.St → Hp → Prop := fun i σ' H' => ∃ B' xs', Pst m B0 H0 (ev n near far much fa ua Sl.un Sl.un) c σ' B' H' ∧ TabsAt B' ((ts.take i).map (turnOne near far much) ++ ts.drop i) xs' ∧ xs'.map (·.1) = xs.map (·.1) ∧ (xs'.flatMap foot).Nodup ∧ (∀ a ∈ xs'.flatMap foot, a ∈ xs.flatMap foot ∨ (B a = none ∧ H0 a = none)) ∧ (∀ y o, y ∉ xs.flatMap foot → B y = some o → B' y = some o) ∧ xs'.drop i = xs.drop i
  refine ⟨fun i mm σ' H' => mm = ts.length - i ∧ i ≤ ts.length ∧ I i σ' H', ⟨ts.length, rfl, Nat.zero_le _, B, xs, ps, by simpa using ht, rfl, nd, fun a ha => .inl ha, fun _ _ _ e => e, rfl⟩, ?_⟩
  rintro i mm σ' H' ⟨rfl, hi, B', xs', ps', ht', hx, nd', fr', fk, hdr⟩
  have hlx : xs'.length = xs.length := by have := congrArg List.length hx; simpa using this
  have hfa' : B' fa = some (.lst (xs.map fun x => V.ref x.1)) := fk fa _ nfa hfa
  by_cases hlt : i < ts.length
  · have hix : i < xs.length := by omega
    have hix' : i < xs'.length := by omega
    refine .inr ⟨⟨_, _, SqL.of (ps'.sit.sub _ _ hfa'), by rw [List.getElem?_map, List.getElem?_eq_getElem hix]; rfl⟩, I (i + 1), fun σ2 H2 q => ⟨ts.length - (i + 1), by omega, rfl, hlt, q⟩, fun x H2 y => ?_⟩
    obtain ⟨rfl, y⟩ := y
    have ex := y _ (SqL.of (ps'.sit.sub _ _ hfa'))
    rw [List.getElem?_map, List.getElem?_eq_getElem hix] at ex
    cases ex
    have hxi : xs'[i] = xs[i] := by
      have e1 : (xs'.drop i)[0]? = (xs.drop i)[0]? := by rw [hdr]
      rw [List.getElem?_drop, List.getElem?_drop, Nat.add_zero, List.getElem?_eq_getElem hix', List.getElem?_eq_getElem hix] at e1
      exact Option.some.inj e1
    obtain ⟨t, htt, hta⟩ := ht'.get (List.getElem?_eq_getElem hix')
    have hcur : ((ts.take i).map (turnOne near far much) ++ ts.drop i)[i]? = some ts[i] := by
      rw [List.getElem?_append_right (by simp; omega), List.length_map, List.length_take, Nat.min_eq_left (by omega), Nat.sub_self, List.getElem?_drop, Nat.add_zero, List.getElem?_eq_getElem hlt]
    rw [hcur] at htt
    cases htt
    have hdom := ht'.dom
    have hdomH : ∀ a ∈ xs'.flatMap foot, H2 a ≠ none := fun a ha z => by
      cases e : B' a with
      | none => exact hdom a ha e
      | some o => rw [ps'.sit.sub a o e] at z; cases z
    have hmem : xs'[i] ∈ xs' := List.getElem_mem hix'
    have ndi : (foot xs'[i]).Nodup := by
      have key : ∀ {l : List TA2} {z : TA2}, z ∈ l → (l.flatMap foot).Nodup → (foot z).Nodup := fun {l z} => by
        induction l with
        | nil => intro h; cases h
        | cons w l ih =>
          intro h nd
          rw [List.flatMap_cons, List.nodup_append] at nd
          rcases List.mem_cons.mp h with h | h
          · rw [h]; exact nd.1
          · exact ih h nd.2.1
      exact key hmem nd'
    have fri : ∀ a ∈ foot xs'[i], H0 a = none := fun a ha => by
      rcases fr' a (List.mem_flatMap.mpr ⟨_, hmem, ha⟩) with h | h
      · exact fr a h
      · exact h.2
    rw [← hxi]
    refine tab_body F g ps' hs hta ndi fri (fit _ (List.getElem_mem hlt)) hn hf hn5 hm fun σ3 B3 H3 ras' ps3 ht3 nd3 fr3 fk3 => ?_
    obtain ⟨n1, n2⟩ := nodup_flat_set (x := xs'[i]) (ras' := ras') (H := H2) nd3 (fun a ha => (fr3 a ha).imp id fun h => h.1) nd' hdomH (List.getElem?_eq_getElem hix')
    have nin : ∀ a ∈ ras', a ∈ xs.flatMap foot ∨ (B a = none ∧ H0 a = none) := fun a ha => by
      rcases fr3 a ha with h | h
      · exact fr' a (List.mem_flatMap.mpr ⟨_, hmem, List.mem_cons_of_mem _ h⟩)
      · by_cases z : a ∈ xs.flatMap foot
        · exact .inl z
        · refine .inr ⟨?_, h.2⟩
          cases e : B a with
          | none => rfl
          | some o =>
            have := ps'.sit.sub a o (fk a o z e)
            rw [h.1] at this; cases this
    refine ⟨B3, xs'.set i (xs'[i].1, ras'), ps3, ?_, ?_, n1, fun a ha => ?_, fun y o hy e => ?_, ?_⟩
    · have e1 : (ts.take (i + 1)).map (turnOne near far much) ++ ts.drop (i + 1) = ((ts.take i).map (turnOne near far much) ++ ts.drop i).set i (turnOne near far much ts[i]) := by
        rw [List.take_add_one, List.getElem?_eq_getElem hlt, List.map_append]
        rw [List.drop_eq_getElem_cons hlt, List.set_append_right _ _ (by simp; omega), List.length_map, List.length_take, Nat.min_eq_left (by omega), Nat.sub_self, List.set_cons_zero]
        simp
      rw [e1]
      exact ht'.set nd' (List.getElem?_eq_getElem hix') ht3 fun a _ hna o e => fk3 a o hna e
    · rw [List.map_set, ← hx]
      apply List.ext_getElem?
      intro j
      by_cases z : i = j
      · subst z
        rw [List.getElem?_set_self (by simpa using hix'), List.getElem?_map, List.getElem?_eq_getElem hix']
        rfl
      · rw [List.getElem?_set_ne z]
    · rcases n2 a ha with h | h
      · exact fr' a h
      · exact nin a h
    · refine fk3 y o (fun z => ?_) (fk y o hy e)
      rcases fr' y (List.mem_flatMap.mpr ⟨_, hmem, z⟩) with h | h
      · exact hy h
      · rw [e] at h; cases h.1
    · rw [List.drop_set_of_lt (by omega)]
      have := congrArg (List.drop 1) hdr
      rw [List.drop_drop, List.drop_drop] at this
      exact this
  · have e : i = ts.length := by omega
    subst e
    refine .inl ⟨⟨_, SqL.of (ps'.sit.sub _ _ hfa'), by rw [List.length_map]; omega⟩, kk σ' B' H' xs' ps' ?_ hx nd' fr' fk⟩
    rw [List.take_length, List.drop_length, List.append_nil] at ht'
    exact ht'
end
end TW
set_option Elab.async false
set_option linter.all false
set_option maxRecDepth 100000
set_option maxHeartbeats 4000000
set_option exponentiation.threshold 100000
/-! Tn5: _law_turned. -/
namespace TW
open PySem L2
abbrev Tri := List (List (List Int)) × List (List Int) × Pot
def pm1 (c : Pot) : Int × Pot := (([1, -1] : List Int).getD (drawP 2 c).1 0, (drawP 2 c).2)
def nearP (n : Nat) (c : Pot) : Nat := (drawP n c).1
def farP (n : Nat) (c : Pot) : Nat := ((drawP n c).1 + 1 + (drawP (n - 1) (drawP n c).2).1) % n
def muchP (n : Nat) (c : Pot) : Int × Pot := pm1 (drawP (n - 1) (drawP n c).2).2
def turn1 (n : Nat) (x : Tri) : Tri :=
  (x.1.map (turnOne (nearP n x.2.2) (farP n x.2.2) (muchP n x.2.2).1), x.2.1.map (rowOp (nearP n x.2.2) (farP n x.2.2) (muchP n x.2.2).1), (muchP n x.2.2).2)
def turnsP (n : Nat) : Nat → Tri → Tri
  | 0, x => x
  | k + 1, x => turn1 n (turnsP n k x)
def timesP (n : Nat) (c : Pot) : Nat × Pot := if 1 < n then drawP 4 c else (0, c)
def turnedP (n : Nat) (tabs : List (List (List Int))) (c : Pot) : Tri := turnsP n (timesP n c).1 (tabs, idle n, (timesP n c).2)
structure TuOk (n : Nat) (tabs : List (List (List Int))) (c : Pot) : Prop where
  n1 : 1 ≤ n
  n5 : n ≤ 500
  l : tabs.length ≤ 500
  w : ∀ t ∈ tabs, t.length ≤ 500 ∧ ∀ r ∈ t, r.length ≤ 500
  j : ∀ j, j < (timesP n c).1 → (∀ t ∈ (turnsP n j (tabs, idle n, (timesP n c).2)).1, t.length = n ∧ ∀ r ∈ t, r.length = n ∧ Bd 900 r) ∧ ∀ r ∈ (turnsP n j (tabs, idle n, (timesP n c).2)).2.1, r.length = n ∧ Bd 900 r
def rTurned : Rel := fun c ts t c' => ∃ (n : Nat) (tabs : List (List (List Int))), ts = [.pot, .int n, tIII tabs] ∧ t = .tup [tIII (turnedP n tabs c).1, tII (turnedP n tabs c).2.1] ∧ c' = (turnedP n tabs c).2.2 ∧ TuOk n tabs c
theorem pm1_ok (c : Pot) : (pm1 c).1.natAbs ≤ 1 := by
  have : ∀ x ∈ ([1, -1] : List Int), x.natAbs ≤ 1 := by decide
  exact this _ (getD_mem' (drawP_lt (by decide) c))
abbrev e0 (n : Nat) (fa ua : Addr) : TEnv := [Sl.val .pot, Sl.val (.int (n : Nat)), Sl.un, Sl.raw (.ref fa), Sl.raw (.ref ua), Sl.un, Sl.un, Sl.un, Sl.un, Sl.un, Sl.un, Sl.un, Sl.un]
theorem e0_no {n : Nat} {fa ua : Addr} : NoOwn (e0 n fa ua) := by
  intro i ts h
  have hm := List.mem_of_getElem? h
  simp only [List.mem_cons, List.not_mem_nil, or_false, reduceCtorEq, false_or] at hm
section
variable {S : Stat} {N : List Str} {n : Nat} {ι : Type} {XX : ι → Cx} {m : Pm} {env : TEnv} {c c1 c2 c3 : Pot}
theorem ex_call (F : Fam S N n XX) {x : Str} {ps : List Str} {k : Nat} {R : Pot → List T → EP → Prop} {p pos : Pos} {e : Expr} {es : List Expr} {ts : List T} {E : EP} (D : DnX S m.CR m.CH x ps k R) (ha : AJ m XX (e :: es) env c ts c1) (hR : R c1 ts E) (hk : k ≤ n := by decide)
    (hg : ∀ i, Gl (XX i) x := by intro _; rfl) (hdb : (x == ("__debug__" : Str)) = false := by decide)
    (hs : ∀ i, starEach (e :: es) (XX i).env = (false, eval e (XX i).env) :: starEach es (XX i).env := by intro _; rfl) (hpl : ∀ i, (backTo pos (starEach es (XX i).env)).any (·.1) = false := by intro _; rfl) :
    EJX m XX (.Call (.Name x p) (e :: es) [] pos) env c E c1 := by
  obtain ⟨f, fd, G, hm, hkp, hb⟩ := D.ex
  intro σ B H s r Q q
  refine ⟨tCall (spX m.CR m.CH R) [] E0 (rdA XX (e :: es)), fun i => pe_call (F.fn G i) ((F.room i).mono hk) (hg i) (by rw [F.mg i]; exact hm) (by rw [F.k i]; exact hkp) (by rw [F.k i]; exact hb) .nil pass0 (pa_rd i) hdb (hs i) (hpl i), ?_⟩
  refine ha σ B H s r _ fun vs B1 H1 s1 t1 rv => ?_
  refine ⟨m.p0, m.h0, B1, c1, ts, E, hR, s1, by rw [List.append_nil]; exact rv, fun v B' H' as s' t' rv' nd fr => q v B' H' as s' (t1.trans t') rv' nd fun a ha => ⟨?_, (fr a ha).2⟩⟩
  cases z : H a with
  | none => rfl
  | some o => exact absurd (fr a ha).1 (t1.d a (by rw [z]; exact fun y => nomatch y))
end
section
variable {S : Stat} {CR CH : Addr}
theorem ok_turned {f : Addr} {fd : FuncData} (Fd : FnS S "_law_turned" sLTurned f fd) (hm : S.mg "_law_turned" = some (.ref f)) (g : MG S) (DD : Dn S CR CH "_law_draw" ["_law_pot_here", "_law_sides"] 1 rDraw) (DP : Dn S CR CH "_law_pick" ["_law_pot_here", "_law_some"] 2 rPick) (DU : DnX S CR CH "_law_units" ["_law_size"] 1 rUnitsX) : Dn S CR CH "_law_turned" ["_law_pot_here", "_law_size", "_law_tables"] 3 rTurned := by
  refine Dn.mk' Fd hm scLTurned (fun c ts t c' h => ?_) (fun _ _ _ _ _ _ us hl => match us, hl with | [_, _, _], _ => rfl) ?_
  · obtain ⟨_, _, rfl, _⟩ := h; rfl
  · rintro p0 h0 cdv A outer s H E c ts t c' F ⟨n, tabs, rfl, rfl, rfl, ok⟩
    let XX := dcx S NT "_law_turned" sLTurned f cdv A outer s H E
    let m : Pm := ⟨CR, CH, p0, h0⟩
    have hn1 := ok.n1
    have hn5 := ok.n5
    have hl := ok.l
    let x0 : Tri := (tabs, idle n, (timesP n c).2)
    refine .raw (BJ.of (XX := XX) (ts := tSeq (tPar 3 4 (tCons (rdE XX _) (tCons (rdE XX _) tNil))) (tSeq (rdS XX st1) (rdB XX _))) (fun i => pss_cons (ps_par (F.calm i) F.nd rfl rfl (by decide) rfl rfl (pa_cons (pe_rd i) (pa_cons (pe_rd i) pa_nil rfl) rfl) rfl rfl) (pss_cons (ps_rd i) (pb_rd i))) ?_)
    intro B0 H0 σ B H1 an D q
    obtain ⟨hs, kk⟩ := q
    refine (ex_comp F (k := 9) (emb := tII) (E := fun t => lstE rowE t) (ys := tabs) (fun t => lstE_mon rowE_mon t) (i_lst F (e_var F 2)) (sz1000 (by omega)) (fun t ht => ex_comp (F.blk _) (k := 12) (emb := tI) (E := rowE) (ys := t) rowE_mon (i_lst (F.blk _) (e_var (F.blk _) 9)) (sz1000 (by have := (ok.w t ht).1; omega)) (fun r hr => ex_new (n_list ((F.blk _).blk _) g.list_ (e_var ((F.blk _).blk _) 12) rfl))) : EJX m XX _ (startE NT [.pot, .int n, tIII tabs]) c _ c) σ B H1 an.sit an.env _ fun v1 B1 H2 as1 s1 t1 r1 nd1 fr1 => ?_
    refine (ex_call F DU (a_cons (e_var F 1) a_nil) ⟨n, rfl, rfl, hn5⟩ : EJX m XX _ (startE NT [.pot, .int n, tIII tabs]) c _ c) σ B1 H2 s1 (an.env.step t1) _ fun v2 B2 H3 as2 s2 t2 r2 nd2 fr2 => ?_
    obtain ⟨fa, vs1, ass1, rfl, ef, rfl, f31⟩ := r1
    obtain ⟨ua, vs2, ass2, rfl, eu, rfl, f32⟩ := r2
    obtain ⟨xs, rfl, ex, hxs⟩ := TabsAt.of f31
    obtain ⟨uas, rfl, ey, huas⟩ := RowsAt.of f32
    rw [ex] at nd1 fr1
    rw [ey] at nd2 fr2
    have tt := (an.stp.trans t1).trans t2
    have fresh0 : ∀ a, H1 a = none → H0 a = none := fun a h => by
      cases z : H0 a with
      | none => rfl
      | some o => exact absurd h (an.stp.d a (by rw [z]; exact fun y => nomatch y))
    have dis : ∀ a ∈ (fa :: xs.flatMap foot), ∀ b ∈ (ua :: uas), a ≠ b := fun a ha b hb z => by
      subst z
      have h1 := (fr1 a ha).2
      have h2 := (fr2 a hb).1
      cases e : B1 a with
      | none => exact h1 e
      | some o => rw [s1.sub a o e] at h2; cases h2
    have nd : (fa :: ua :: (uas ++ xs.flatMap foot)).Nodup := by
      rw [List.nodup_cons, List.nodup_cons, List.nodup_append]
      rw [List.nodup_cons] at nd1 nd2
      refine ⟨fun h => ?_, fun h => ?_, nd2.2, nd1.2, fun a ha b hb z => dis b (List.mem_cons_of_mem _ hb) a (List.mem_cons_of_mem _ ha) z.symm⟩
      · rcases List.mem_cons.mp h with h | h
        · exact dis fa List.mem_cons_self ua List.mem_cons_self h
        · rcases List.mem_append.mp h with h | h
          · exact dis fa List.mem_cons_self fa (List.mem_cons_of_mem _ h) rfl
          · exact nd1.1 h
      · rcases List.mem_append.mp h with h | h
        · exact nd2.1 h
        · exact dis ua (List.mem_cons_of_mem _ h) ua List.mem_cons_self rfl
    have fr : ∀ a ∈ (fa :: ua :: (uas ++ xs.flatMap foot)), H0 a = none := fun a ha => by
      rcases List.mem_cons.mp ha with h | h
      · exact fresh0 a (fr1 a (h ▸ List.mem_cons_self)).1
      · have in2 : ∀ a ∈ (ua :: uas), H0 a = none := fun a ha => fresh0 a (by
          cases z : H1 a with
          | none => rfl
          | some o => exact absurd (fr2 a ha).1 (t1.d a (by rw [z]; exact fun y => nomatch y)))
        rcases List.mem_cons.mp h with h | h
        · exact in2 a (h ▸ List.mem_cons_self)
        · rcases List.mem_append.mp h with h | h
          · exact in2 a (List.mem_cons_of_mem _ h)
          · exact fresh0 a (fr1 a (List.mem_cons_of_mem _ h)).1
    have ren : RepE m (startE NT [.pot, .int n, tIII tabs]) σ B2 H3 := (an.env.step t1).step t2
    have hlσ : σ.length = 13 := by rw [← an.env.len]; rfl
    have re0 : RepE m (e0 n fa ua) ((σ.set 3 (some (.ref fa))).set 4 (some (.ref ua))) B2 H3 := by
      refine ⟨by simp [hlσ], fun i t h => ?_, fun i ts h => absurd h (e0_no i ts), fun i v h => ?_, fun i j ts us a _ h => absurd h (e0_no i ts)⟩
      · match i, h with
        | 0, h => rw [List.getElem?_set_ne (by decide), List.getElem?_set_ne (by decide)]; exact ren.val 0 t h
        | 1, h => rw [List.getElem?_set_ne (by decide), List.getElem?_set_ne (by decide)]; exact ren.val 1 t h
        | i + 13, h => simp at h
      · match i, h with
        | 3, h => cases h; rw [List.getElem?_set_ne (by decide), List.getElem?_set_self (by omega)]
        | 4, h => cases h; rw [List.getElem?_set_self (by simp [hlσ])]
        | i + 13, h => simp at h
    refine ⟨.ref fa, .ref ua, rfl, ?_⟩
    show rdS XX st1 _ _ _
    have ps0 : Pst m B0 H0 (e0 n fa ua) c ((σ.set 3 (some (.ref fa))).set 4 (some (.ref ua))) B2 H3 := ⟨s2, re0, tt⟩
    refine ⟨tFor (iRng1 (tCons (rdE XX _) tNil)) (gName 5) (tSeq (rdS XX _) (tSeq (rdS XX _) (tSeq (rdS XX st2) (rdS XX st4)))), fun i => ps_for PassesOwn.never (F.calm i) (pi_range1 rfl g.range_ (pa_cons (pe_rd i) pa_nil rfl) rfl) (pg_name F.nd rfl (Or.inl rfl) (Or.inr rfl)) (pss_cons (ps_rd i) (pss_cons (ps_rd i) (pss_cons (ps_rd i) (pss_one (ps_rd i))))) (fun _ => rfl), ?_⟩
    have tk : (timesP n c).1 ≤ 1000 := by
      unfold timesP
      split
      · have := drawP_lt (s := 4) (by decide) c; omega
      · exact Nat.zero_le _
    have ek : ∀ {d a b : Expr} {pos : Pos}, TJ m XX d (e0 n fa ua) c (decide ((1 : Int) < (n : Nat))) c → (1 < n → EJ m XX a (e0 n fa ua) c (.int ((drawP 4 c).1 : Nat)) (drawP 4 c).2) → EJ m XX b (e0 n fa ua) c (.int 0) c → EJ m XX (.IfExp d a b pos) (e0 n fa ua) c (.int ((timesP n c).1 : Nat)) (timesP n c).2 := by
      intro d a b pos hd ha hb
      unfold timesP
      by_cases h : 1 < n
      · rw [if_pos h]
        exact e_ifT (hd.to (decide_eq_true (by omega))) (ha h)
      · rw [if_neg h]
        exact e_ifF (hd.to (decide_eq_false (by omega))) hb
    refine (ek (t_gt (e_var F 1) e_int rfl) (fun _ => e_call F DD (a_cons (e_var F 0) (a_cons e_int a_nil)) ⟨4, rfl, rfl, rfl, by decide, by decide⟩) e_int) _ B2 H3 s2 re0 _ fun v B4 H4 s4 t4 rv => ?_
    rw [rep_int] at rv
    subst rv
    refine ⟨_, rfl, by omega, by omega, ?_⟩
    rw [Int.toNat_natCast]
    let I : Nat → L2.St → Hp → Prop := fun i σ' H' => ∃ B' xs' uas', Pst m B0 H0 (e0 n fa ua) (turnsP n i x0).2.2 σ' B' H' ∧ B' fa = some (.lst (xs'.map fun x => V.ref x.1)) ∧ TabsAt B' (turnsP n i x0).1 xs' ∧ B' ua = some (.lst (uas'.map V.ref)) ∧ RowsAt B' (turnsP n i x0).2.1 uas' ∧ (fa :: ua :: (uas' ++ xs'.flatMap foot)).Nodup ∧ ∀ a ∈ (fa :: ua :: (uas' ++ xs'.flatMap foot)), H0 a = none
    have sm4 : Same B1 B4 := t2.b.trans t4.b
    refine ⟨fun i mm σ' H' => mm = (timesP n c).1 - i ∧ i ≤ (timesP n c).1 ∧ I i σ' H', ⟨_, rfl, Nat.zero_le _, B4, xs, uas, ps0.step s4 t4, sm4 _ _ ef, hxs.mono sm4, t4.b _ _ eu, huas.mono t4.b, nd, fr⟩, ?_⟩
    rintro i mm σ' H' ⟨rfl, hi, B', xs', uas', ps, hfa, hta, hua, hra, hnd, hfr⟩
    by_cases hlt : i < (timesP n c).1
    · refine .inr ⟨hlt, I (i + 1), fun σ2 H2 q => ⟨_, by omega, rfl, hlt, q⟩, fun x H2 y => ?_⟩
      obtain ⟨rfl, rfl⟩ := y
      obtain ⟨okT, okU⟩ := ok.j i hlt
      have ps5 : Pst m B0 H0 (e0 n fa ua) (turnsP n i x0).2.2 (σ'.set 5 (some (.int (0 + (i : Int))))) B' H2 := ⟨ps.sit, ps.env.un 5 _, ps.stp⟩
      generalize hx : turnsP n i x0 = tr at *
      have hgt : 1 < n := by
        have hh : (timesP n c).1 ≠ 0 := by omega
        unfold timesP at hh
        split at hh
        · assumption
        · exact absurd rfl hh
      have hnear : nearP n tr.2.2 < n := drawP_lt (by omega) _
      have hfar : farP n tr.2.2 < n := Nat.mod_lt _ (by omega)
      have far_eq : ((nearP n tr.2.2 : Nat) : Int) + 1 + (((drawP (n - 1) (drawP n tr.2.2).2).1 : Nat) : Int) = (((drawP n tr.2.2).1 + 1 + (drawP (n - 1) (drawP n tr.2.2).2).1 : Nat) : Int) := by simp [nearP]
      have e7 : T.int ((((nearP n tr.2.2 : Nat) : Int) + 1 + (((drawP (n - 1) (drawP n tr.2.2).2).1 : Nat) : Int)) % (n : Int)) = T.int ((farP n tr.2.2 : Nat) : Int) := by
        rw [far_eq, farP]
        simp
      refine (s_set F 6 (e_call F DD (a_cons (e_var F 0) (a_cons (e_var F 1) a_nil)) ⟨n, rfl, rfl, rfl, by omega, by omega⟩) : SJ m XX _ (e0 n fa ua) tr.2.2 (.nx _ _)) B0 H0 _ B' H2 (ps5.anc e0_no) _ fun σ6 B6 H6 an6 sb6 => ?_
      refine (s_asg F (e_tup (a_cons (EJ.to (e_mod (e_add (e_add (e_var F 6) e_int) (e_call F DD (a_cons (e_var F 0) (a_cons (EJ.to (e_sub (e_var F 1) e_int) (t' := .int ((n - 1 : Nat) : Int)) (congrArg T.int (by omega))) a_nil)) ⟨n - 1, rfl, rfl, rfl, by omega, by omega⟩)) (e_var F 1) (by omega)) e7) (a_cons (EJ.to (e_call F DP (a_cons (e_var F 0) (a_cons (e_lst (a_cons e_int (a_cons (e_neg e_int) a_nil))) a_nil)) ⟨_, .int 0, rfl, rfl, rfl, by decide, by decide⟩) (t' := .int (muchP n tr.2.2).1) (map_getD T.int [1, -1] _ 0)) a_nil))) (g_tup2 F (g_name F 7) (g_name F 8)) own_set2 : SJ m XX _ _ _ (.nx _ _)) B0 H0 _ B6 H6 an6 _ fun σ7 B7 H7 an7 sb7 => ?_
      have sb : Same B' B7 := sb6.trans sb7
      have ps7 : Pst m B0 H0 (ev n (nearP n tr.2.2) (farP n tr.2.2) (muchP n tr.2.2).1 fa ua Sl.un Sl.un) (muchP n tr.2.2).2 σ7 B7 H7 := an7.pst
      have ndx : (xs'.flatMap foot).Nodup := (List.nodup_append.mp (List.nodup_cons.mp (List.nodup_cons.mp hnd).2).2).2.1
      have ndu : uas'.Nodup := (List.nodup_append.mp (List.nodup_cons.mp (List.nodup_cons.mp hnd).2).2).1
      have dux := (List.nodup_append.mp (List.nodup_cons.mp (List.nodup_cons.mp hnd).2).2).2.2
      have nfa : fa ∉ xs'.flatMap foot := fun h => (List.nodup_cons.mp hnd).1 (List.mem_cons_of_mem _ (List.mem_append_right _ h))
      have nua : ua ∉ xs'.flatMap foot := fun h => (List.nodup_cons.mp (List.nodup_cons.mp hnd).2).1 (List.mem_append_right _ h)
      have nfu : fa ∉ uas' := fun h => (List.nodup_cons.mp hnd).1 (List.mem_cons_of_mem _ (List.mem_append_left _ h))
      have nuu : ua ∉ uas' := fun h => (List.nodup_cons.mp (List.nodup_cons.mp hnd).2).1 (List.mem_append_left _ h)
      have nfua : fa ≠ ua := fun h => (List.nodup_cons.mp hnd).1 (h ▸ List.mem_cons_self)
      refine tabs_loop F g ps7 hs (sb _ _ hfa) (hta.mono sb) ndx nfa (fun a ha => hfr a (List.mem_cons_of_mem _ (List.mem_cons_of_mem _ (List.mem_append_right _ ha)))) (fun t ht => ⟨(okT t ht).1, (okT t ht).2⟩) hnear hfar hn5 (pm1_ok _) fun σ8 B8 H8 xs8 ps8 ht8 hx8 nd8 fr8 fk8 => ?_
      have hua8 : B8 ua = some (.lst (uas'.map V.ref)) := fk8 ua _ nua (sb _ _ hua)
      have hra8 : RowsAt B8 tr.2.1 uas' := (hra.mono sb).keep fun a ha o e => fk8 a o (fun z => dux a ha a z rfl) e
      refine rows_loop F (row_spec F) 4 bare_un ps8 hs rfl hua8 hra8 (List.nodup_cons.mpr ⟨nuu, ndu⟩) (fun a ha => hfr a (List.mem_cons_of_mem _ (List.mem_cons_of_mem _ (List.mem_append_left _ ha)))) (fun r hr => ⟨by rw [(okU r hr).1]; exact hnear, by rw [(okU r hr).1]; exact hfar, (okU r hr).2.mono (by decide)⟩) (by have := pm1_ok (drawP (n - 1) (drawP n tr.2.2).2).2; show (muchP n tr.2.2).1.natAbs < _; unfold muchP; omega) fun σ9 B9 H9 ps9 hr9 fk9 => ?_
      have ps9' : Pst m B0 H0 (e0 n fa ua) (muchP n tr.2.2).2 σ9 B9 H9 := ⟨ps9.sit, ((ps9.env.forget 6).forget 7).forget 8, ps9.stp⟩
      have etr : turnsP n (i + 1) x0 = turn1 n tr := by show turn1 n (turnsP n i x0) = _; rw [hx]
      have inB : ∀ {a o}, B' a = some o → B7 a ≠ none := fun e => by rw [sb _ _ e]; exact fun z => nomatch z
      have huasB : ∀ a ∈ uas', B' a ≠ none := fun a ha => by
        obtain ⟨j, hj, e⟩ := List.getElem_of_mem ha
        have hjt : j < tr.2.1.length := by rw [← hra.len]; exact hj
        obtain ⟨b, hb, hB⟩ := hra.get (List.getElem?_eq_getElem hjt)
        rw [List.getElem?_eq_getElem hj] at hb
        cases hb
        rw [← e, hB]; exact fun z => nomatch z
      have notin8 : ∀ a, a ∉ xs'.flatMap foot → B' a ≠ none → a ∉ xs8.flatMap foot := fun a h1 h2 h3 => by
        rcases fr8 a h3 with h | h
        · exact h1 h
        · cases e : B' a with
          | none => exact h2 e
          | some o => exact inB e h.1
      have nfa8 : fa ∉ xs8.flatMap foot := notin8 fa nfa (by rw [hfa]; exact fun z => nomatch z)
      have nua8 : ua ∉ xs8.flatMap foot := notin8 ua nua (by rw [hua]; exact fun z => nomatch z)
      have dux8 : ∀ a ∈ uas', ∀ b ∈ xs8.flatMap foot, a ≠ b := fun a ha b hb z => notin8 a (fun z' => dux a ha a z' rfl) (huasB a ha) (z ▸ hb)
      refine ⟨B9, xs8, uas', by rw [etr]; exact ps9', ?_, ?_, fk9 ua _ nuu hua8, by rw [etr]; exact hr9, ?_, ?_⟩
      · have e1 : xs8.map (fun x => V.ref x.1) = xs'.map fun x => V.ref x.1 := by
          have := congrArg (List.map V.ref) hx8
          simpa [List.map_map, Function.comp_def] using this
        rw [e1]
        exact fk9 fa _ nfu (fk8 fa _ nfa (sb _ _ hfa))
      · rw [etr]
        exact ht8.keep fun a ha o e => fk9 a o (fun z => dux8 a z a ha rfl) e
      · rw [List.nodup_cons, List.nodup_cons, List.nodup_append]
        refine ⟨fun h => ?_, fun h => ?_, ndu, nd8, dux8⟩
        · rcases List.mem_cons.mp h with h | h
          · exact nfua h
          · rcases List.mem_append.mp h with h | h
            · exact nfu h
            · exact nfa8 h
        · rcases List.mem_append.mp h with h | h
          · exact nuu h
          · exact nua8 h
      · intro a ha
        rcases List.mem_cons.mp ha with h | h
        · exact hfr a (h ▸ List.mem_cons_self)
        · rcases List.mem_cons.mp h with h | h
          · exact hfr a (h ▸ List.mem_cons_of_mem _ List.mem_cons_self)
          · rcases List.mem_append.mp h with h | h
            · exact hfr a (List.mem_cons_of_mem _ (List.mem_cons_of_mem _ (List.mem_append_left _ h)))
            · rcases fr8 a h with h | h
              · exact hfr a (List.mem_cons_of_mem _ (List.mem_cons_of_mem _ (List.mem_append_right _ h)))
              · exact h.2
    · have e : i = (timesP n c).1 := by omega
      subst e
      refine .inl ⟨Nat.le_refl _, ?_⟩
      have rep1 : Rep m (tIII (turnsP n (timesP n c).1 x0).1) (.ref fa) B' := rep_lst.mpr ⟨fa, _, rfl, hfa, hta.rep⟩
      have rep2 : Rep m (tII (turnsP n (timesP n c).1 x0).2.1) (.ref ua) B' := rep_lst.mpr ⟨ua, _, rfl, hua, hra.rep⟩
      have re := (ps.env.know (k := 3) rfl rep1).know (k := 4) rfl rep2
      refine ⟨tRet (rdE XX _), fun i => pss_one (ps_ret (pe_rd i)), ?_⟩
      exact (e_tup (a_cons (e_var F 3) (a_cons (e_var F 4) a_nil)) : EJ m XX _ [Sl.val .pot, Sl.val (.int (n : Nat)), Sl.un, Sl.val (tIII (turnsP n (timesP n c).1 x0).1), Sl.val (tII (turnsP n (timesP n c).1 x0).2.1), Sl.un, Sl.un, Sl.un, Sl.un, Sl.un, Sl.un, Sl.un, Sl.un] _ _ _) σ' B' H' ps.sit re _ fun v B5 H5 s5 t5 rv => kk v B5 H5 s5 (ps.stp.trans t5) rv
end
end TW
set_option Elab.async false
set_option linter.all false
set_option maxRecDepth 100000
set_option maxHeartbeats 4000000
/-! Rp1: repr of lists and tuples whose items may have an own __repr__, over the abstract heap. -/
namespace TW
open PySem L2 PySem.Spec PyProof.Rows
/-- repr(v) under a text of base signs: what D says, the heap only grows; go: what is known of the running displays -/
abbrev Rpv := V → Str → Hp → Prop
def MonR (D : Rpv) : Prop := ∀ v t H H', Ext H H' → D v t H → D v t H'
def RpG (X : Cx) (n : Nat) (go : List Code → Prop) (D : Rpv) : Prop :=
  ∀ (A : Around) (base : Nat) (g : List Code) (pins : List (Addr × Obj)) (s : Shared) (σ : L2.St) (H : Hp) (v : V) (u : Value) (t : Str), base + t.length ≤ sizeLine → Sub X n A → A.guards = some g → go g → Inv X pins σ H s → RelV v u → D v t H →
    wpAny (model X.prog X.w) A (pyReprUnder base u) (fun x s' => x = t ∧ ∃ H', Inv X pins σ H' s' ∧ Ext H H') X.xe s
theorem sub_under {X : Cx} {n : Nat} {A : Around} {id : String} {args : Args} (s : Sub X (n + 1) A) (hd : (A.under (.builtin id args)).depth ≤ A.depth + 1) (hu : (A.under (.builtin id args)).units = A.units + 1) (hf : (A.under (.builtin id args)).frames = A.frames) : Sub X n (A.under (.builtin id args)) :=
  ⟨⟨s.room.hd, by have := s.room.dp; omega, by have := s.room.un; omega⟩, by rw [hf]; exact s.fr⟩
theorem sub_loop {X : Cx} {n : Nat} {A : Around} {args : Args} (s : Sub X (n + 1) A) : Sub X n (A.under (.builtin "list.__repr__.loop" args)) :=
  sub_under s (by simp [Around.under, Code.weight, Code.isCreation, Code.isGuard, Code.isCaller, Code.frames, Code.isFrame, guardIds]) (units_under_list_loop A args) (by simp [Around.under, Code.envs, Code.isFrame, pushEnvs])
theorem sub_tup {X : Cx} {n : Nat} {A : Around} {args : Args} (s : Sub X (n + 1) A) : Sub X n (A.under (.builtin "tuple.__repr__" args)) :=
  sub_under s (by simp [Around.under, Code.weight, Code.isCreation, Code.isGuard, Code.isCaller, Code.frames, Code.isFrame, guardIds]) (units_under_tuple_repr A args) (by simp [Around.under, Code.envs, Code.isFrame, pushEnvs])
theorem sub_tupU {X : Cx} {n : Nat} {A : Around} {args : Args} (s : Sub X (n + 1) A) : Sub X n (A.under (.builtin "tuple.__repr__.under" args)) :=
  sub_under s (by simp [Around.under, Code.weight, Code.isCreation, Code.isGuard, Code.isCaller, Code.frames, Code.isFrame, guardIds]) (units_under_tuple_repr_under A args) (by simp [Around.under, Code.envs, Code.isFrame, pushEnvs])
section
variable {X : Cx} {n : Nat} {go : List Code → Prop} {D : Rpv}
/-- the items' texts -/
def DAll (D : Rpv) (vs : List V) (ts : List Str) (H : Hp) : Prop := ts.length = vs.length ∧ ∀ (i : Nat) v t, vs[i]? = some v → ts[i]? = some t → D v t H
theorem DAll.mon (hD : MonR D) {vs : List V} {ts : List Str} {H H' : Hp} (e : Ext H H') (h : DAll D vs ts H) : DAll D vs ts H' := ⟨h.1, fun i v t h1 h2 => hD v t H H' e (h.2 i v t h1 h2)⟩
theorem strs_vals : ∀ (done : List (Str × Tok)), Vals ((done.map (·.1)).map V.str) (strValues done)
  | [] => .nil
  | p :: l => .cons ⟨p.2, rfl⟩ (strs_vals l)
open Builtin Builtin.List in
theorem loopG (hD : MonR D) (h : RpG X n go D) {A : Around} {g : List Code} (sb : Sub X (n + 1) A) (hg : A.guards = some g) {pins : List (Addr × Obj)} {σ : L2.St} {H0 : Hp} {a P : Addr} {vs : List V} {ts : List Str} {base : Nat} {Q : Value → Shared → Prop}
    (hgo : ∀ args, go (Code.builtin "list.__repr__.loop" ⟨Value.ref a :: args, []⟩ :: g)) (hne : a ≠ P) (ha : H0 a = some (.lst vs)) (hP0 : H0 P = none) (hd : DAll D vs ts H0) (hsz : base + (listText ts).length ≤ sizeLine)
    (hQ : ∀ s' H' u, Inv X pins σ H' s' → Ext H0 H' → Q (.str (listText ts) u) s') :
    ∀ (k i : Nat) (s : Shared) (H : Hp), vs.length - i = k → i ≤ vs.length → Inv X pins σ H s → Ext H0 H → H P = some (.lst ((ts.take i).map V.str)) →
      codeAny (model X.prog X.w) A (.builtin "list.__repr__.loop" ⟨[.ref a, rawInt i, .ref P, rawInt ((base + piled (ts.take i) : Nat) : Int)], []⟩) (callEnd Q X.xe) s := by
  have hX : (listText ts).length = (textFrom 0 "[" ts).length + 1 := by
    show (textFrom 0 "[" ts ++ "]").length = _
    rw [strLen_append]; rfl
  have hL := textFrom_len ts 0 "["
  have hsz1 : vs.length ≤ sizeLine := by
    have h1 := hL.1
    rw [if_neg (Nat.lt_irrefl 0)] at h1
    have := hd.1
    omega
  have hsz2 : ∀ t ∈ ts, t.length ≤ sizeLine := fun t ht => by
    have h2 := hL.2.1 t ht
    omega
  have hsz3 : (listText ts).length ≤ sizeLine := by omega
  have hp3 := piled_le_listText ts
  have hlen := hd.1
  intro k
  induction k with
  | zero =>
    intro i s H hk hi I ex hP
    have hin : i = vs.length := by omega
    obtain ⟨z, its, m, r, hl, e⟩ := I.lstM (ex _ _ ha)
    obtain ⟨z2, its2, m2, r2, hl2, e2⟩ := I.lstM hP
    refine codeAny_builtin F.entry_list_repr_loop ?_
    show wpAny _ _ («list.__repr__.loop» ⟨[.ref a, .int i 0, .ref P, .int ((base + piled (ts.take i) : Nat) : Int) 0], []⟩) _ _ s
    rw [repr_loop_tree]
    refine wpAny_bind (wpAny_listItems e rfl ?_)
    have hnone : its.toArray[(i : Int).toNat]? = none := by simp; omega
    simp only [hnone]
    unfold reprEnd
    refine wpAny_bind (wpAny_listItems e2 rfl ?_)
    have hall : ts.take i = ts := List.take_of_length_le (by omega)
    rw [hall] at r2
    have hv : ∃ done : List (Str × Tok), its2 = strValues done ∧ done.map (·.1) = ts := by
      have key : ∀ (l : List Str) (us : List Value), Vals (l.map V.str) us → ∃ done : List (Str × Tok), us = strValues done ∧ done.map (·.1) = l := by
        intro l
        induction l with
        | nil => intro us h; cases h; exact ⟨[], rfl, rfl⟩
        | cons x l ih =>
          intro us h
          cases h with
          | cons h1 h2 =>
            obtain ⟨tk, rfl⟩ := h1
            obtain ⟨done, rfl, e2⟩ := ih _ h2
            exact ⟨(x, tk) :: done, rfl, by rw [List.map_cons, e2]⟩
      exact key ts its2 r2
    obtain ⟨done, rfl, hdone⟩ := hv
    rw [show (strValues done).toArray.toList = strValues done from by simp, repr_fold]
    refine wpAny_bind (wpAny_pure ?_)
    rw [hdone]
    refine wpAny_bind (wpAny_mkStr (wpAny_pure ?_) hsz3)
    exact hQ _ H _ (I.tok _) ex
  | succ k ih =>
    intro i s H hk hi I ex hP
    have hlt : i < vs.length := by omega
    have hti : i < ts.length := by omega
    obtain ⟨z, its, m, r, hl, e⟩ := I.lstM (ex _ _ ha)
    have hit : i < its.length := by omega
    have ht : ts[i]? = some ts[i] := List.getElem?_eq_getElem hti
    have hp1 := piled_take_succ ht
    have hp2 := piled_take_le ts (i + 1)
    refine codeAny_builtin F.entry_list_repr_loop ?_
    show wpAny _ _ («list.__repr__.loop» ⟨[.ref a, .int i 0, .ref P, .int ((base + piled (ts.take i) : Nat) : Int) 0], []⟩) _ _ s
    rw [repr_loop_tree]
    refine wpAny_bind (wpAny_listItems e rfl ?_)
    have hsome : its.toArray[(i : Int).toNat]? = some its[i] := by simp [hit]
    simp only [hsome]
    rw [Int.toNat_natCast]
    obtain ⟨u, hu, ru⟩ := r.get (List.getElem?_eq_getElem hlt)
    rw [List.getElem?_eq_getElem hit] at hu
    cases hu
    refine wpAny_bind (wpAny_holding (wpAny_mono (h _ (base + piled (ts.take i) + 1) (_ :: g) pins s σ H vs[i] its[i] ts[i] (by omega) (sub_loop sb) (guards_under_guard (isGuard_list_loop _) hg) (hgo _) I ru (hD _ _ _ _ ex (hd.2 i _ _ (List.getElem?_eq_getElem hlt) ht))) (fun x s1 hx => ?_) fun _ _ q => q))
    obtain ⟨rfl, H1, I1, e1⟩ := hx
    refine wpAny_bind (wpAny_mkStr ?_ (hsz2 _ (List.mem_of_getElem? ht)))
    refine wpAny_bind ?_
    show wpAny _ _ (updateSeq P _) _ _ _
    have hP1 : H1 P = some (.lst ((ts.take i).map V.str)) := e1 _ _ hP
    obtain ⟨z3, its3, m3, r3, hl3, e3⟩ := I1.lstM hP1
    have hasz : its3.toArray.size ≤ sizeLine := by
      have : its3.length = (ts.take i).length := by rw [← hl3, List.length_map]
      have h2 : (ts.take i).length ≤ i := by rw [List.length_take]; omega
      rw [List.size_toArray]
      omega
    have I2 := I1.lset (its' := its3 ++ [.str ts[i] s1.toks]) (ys := (ts.take (i + 1)).map V.str) (f := (·.push (.str ts[i] s1.toks))) (t' := s1.toks + 1) hP1 e3 (by simp) (by
      rw [List.take_add_one, ht, List.map_append]
      exact r3.append (.cons ⟨_, rfl⟩ .nil)) (by rw [List.length_map, List.length_take]; omega)
    refine wpAny_updateSeq e3 rfl (wpAny_pure ⟨F.quiet_list_repr_loop _, ?_⟩) hasz
    have q1 : ((i : Int) + 1) = ((i + 1 : Nat) : Int) := by omega
    have q2 : base + piled (ts.take i) + (ts[i].length + 2) = base + piled (ts.take (i + 1)) := by omega
    rw [q1, q2]
    refine ih (i + 1) _ _ (by omega) hlt I2 (fun b o eb => ?_) upd_same
    have nb : b ≠ P := fun zb => by subst zb; rw [hP0] at eb; cases eb
    rw [upd_ne nb]
    exact e1 _ _ (ex _ _ eb)
end
end TW
set_option Elab.async false
set_option linter.all false
set_option maxRecDepth 100000
set_option maxHeartbeats 4000000
/-! Rp2: heads of list.__repr__, tuple.__repr__; own __repr__; the built-in repr. -/
namespace TW
open PySem L2 PySem.Spec PyProof.Rows
/-- the running displays are of objects of a level above k -/
def go (lv : Addr → Nat) (k : Nat) (g : List Code) : Prop := ∀ id v rest kw, Code.builtin id ⟨v :: rest, kw⟩ ∈ g → ∃ a, v = .ref a ∧ k < lv a
theorem go.mono {lv : Addr → Nat} {k k' : Nat} {g : List Code} (h : go lv k' g) (l : k ≤ k') : go lv k g := fun id v rest kw hm => by
  obtain ⟨a, e, q⟩ := h id v rest kw hm
  exact ⟨a, e, by omega⟩
theorem go.clear {lv : Addr → Nat} {k : Nat} {g : List Code} {a : Addr} (h : go lv k g) (ha : lv a ≤ k) : Clear g a := fun id v rest kw hm e => by
  obtain ⟨b, e2, q⟩ := h id v rest kw hm
  rw [e] at e2
  cases e2
  omega
theorem go.cons {lv : Addr → Nat} {k : Nat} {g : List Code} {a : Addr} {id : String} {rest : List Value} (h : go lv k g) (ha : k < lv a) : go lv k (Code.builtin id ⟨.ref a :: rest, []⟩ :: g) := fun id' v rest' kw hm => by
  rcases List.mem_cons.mp hm with e | hm
  · cases e; exact ⟨a, rfl, ha⟩
  · exact h _ _ _ _ hm
theorem go.nil {lv : Addr → Nat} {k : Nat} : go lv k [] := fun _ _ _ _ h => nomatch h
section
variable {X : Cx} {n k : Nat} {lv : Addr → Nat} {D : Rpv}
theorem RpG.monoN {gp : List Code → Prop} {n' : Nat} (h : RpG X n gp D) (l : n ≤ n') : RpG X n' gp D := fun A base g pins s σ H v u t hb sb => h A base g pins s σ H v u t hb (sb.mono l)
theorem RpG.monoK {k' : Nat} (h : RpG X n (go lv k) D) (l : k ≤ k') : RpG X n (go lv k') D := fun A base g pins s σ H v u t hb sb hg hgo => h A base g pins s σ H v u t hb sb hg (hgo.mono l)
theorem listText_nil : listText [] = "[]" := by decide
/-- list.__repr__ itself -/
theorem list_at (hD : MonR D) (h : RpG X n (go lv k) D) {A : Around} {g : List Code} (sb : Sub X (n + 1) A) (hg : A.guards = some g) (hgo : go lv (k + 1) g) {pins : List (Addr × Obj)} {σ : L2.St} {H : Hp} {s : Shared} {a : Addr} {vs : List V} {ts : List Str} {base : Nat} {Q : Value → Shared → Prop}
    (I : Inv X pins σ H s) (hl : lv a = k + 1) (ha : H a = some (.lst vs)) (hd : DAll D vs ts H) (hsz : base + (listText ts).length ≤ sizeLine) (hQ : ∀ s' H' u, Inv X pins σ H' s' → Ext H H' → Q (.str (listText ts) u) s') :
    wpAny (model X.prog X.w) A.in1 (Builtin.listReprAt base ⟨[.ref a], []⟩) (fun fin s' => match fin with | .done f => callEnd Q X.xe (.ok f) s' | .again c' => c'.quiet = true ∧ codeAny (model X.prog X.w) A c' (callEnd Q X.xe) s') (fun e s' => callEnd Q X.xe (.error e) s') s := by
  obtain ⟨z, its, m, r, hlen, e⟩ := I.lstM ha
  have hca : Clear g a := hgo.clear (by omega)
  cases vs with
  | nil =>
    cases r
    have : ts = [] := List.length_eq_zero_iff.mp hd.1
    subst this
    refine wpAny_list_repr_empty e rfl ?_
    rw [listText_nil] at hQ
    exact hQ _ H _ (I.tok _) Ext.rfl'
  | cons v vs =>
    cases its with
    | nil => simp at hlen
    | cons x l =>
      refine wpAny_list_repr_head (A := A.in1) hg (fun v rest kw hm => listSameRef_of_ne (hca _ _ _ _ hm)) e rfl ?_
      refine wpAny_bind (m := newList []) (wpAny_newObj_type ?_)
      refine wpAny_pure ⟨F.quiet_list_repr_loop _, ?_⟩
      have hPn : H s.heap.objs.size = none := I.fresh
      have I2 := I.lnew (ys := []) (its := []) (t' := s.toks) .nil (by decide)
      have := loopG hD h (g := g) (base := base) (Q := Q) (P := s.heap.objs.size) (H0 := H) (vs := v :: vs) (ts := ts) sb hg (fun args => (hgo.mono (by omega)).cons (by omega)) (fun z => by rw [z, hPn] at ha; cases ha) ha hPn hd hsz hQ _ 0 _ _ rfl (Nat.zero_le _) I2 (Ext.upd hPn) upd_same
      simpa [piled] using this
def DLst (lv : Addr → Nat) (k : Nat) (D : Rpv) : Rpv := fun v t H => ∃ a vs ts, v = .ref a ∧ lv a = k + 1 ∧ H a = some (.lst vs) ∧ t = listText ts ∧ DAll D vs ts H
theorem rpG_list (hD : MonR D) (h : RpG X n (go lv k) D) : RpG X (n + 1) (go lv (k + 1)) (DLst lv k D) := by
  intro A base g pins s σ H v u t hb sb hg hgo I rv d
  obtain ⟨a, vs, ts, rfl, hl, ha, rfl, hd⟩ := d
  cases rv
  obtain ⟨z, its, m, r, hlen, e⟩ := I.lstM ha
  have hTy : s.TypeIs (.ref a) "list" := ⟨_, e, rfl⟩
  refine wpAny_pyReprUnder_ref (by omega) (wpAny_pyReprObjUnder_twin (twin := "list.__repr__.under") hTy F.slot_list_repr.toG rfl sb.room.units0 ?_)
  refine call_twin_plain F.plain_list_repr_under F.entry_list_repr_under F.check_list_repr_under hTy F.slot_list_repr.toG (F.args_list_repr_1 _) ?_
  exact list_at hD h sb hg hgo I hl ha hd hb fun s' H' u I' ex => ⟨⟨_, _, rfl⟩, _, _, rfl, rfl, H', I', ex⟩
/-- repr(x), x a list -/
theorem repr_list (hD : MonR D) (h : RpG X n (go lv k) D) {A : Around} {g : List Code} (sb : Sub X (n + 2) A) (hg : A.guards = some g) (hgo : go lv (k + 1) g) {pins : List (Addr × Obj)} {σ : L2.St} {H : Hp} {s : Shared} {a : Addr} {vs : List V} {ts : List Str} {Q : Value → Shared → Prop}
    (I : Inv X pins σ H s) (hl : lv a = k + 1) (ha : H a = some (.lst vs)) (hd : DAll D vs ts H) (hsz : (listText ts).length ≤ sizeLine) (hQ : ∀ s' H' u, Inv X pins σ H' s' → Ext H H' → Q (.str (listText ts) u) s') :
    wpAny (model X.prog X.w) A (call (.builtin "repr") [.ref a]) Q X.xe s := by
  obtain ⟨z, its, m, r, hlen, e⟩ := I.lstM ha
  have hTy : s.TypeIs (.ref a) "list" := ⟨_, e, rfl⟩
  refine Calls.call_function_entry PySem.F.kind_repr PySem.F.plain_repr PySem.F.entry_repr (PySem.F.args_repr1 _) ?_
  unfold Builtin.«repr»
  refine wpAny_bind (m := oneArg "repr" _) (wpAny_pure ?_)
  refine wpAny_bind (wpAny_cRoomFor (by have := sb.room.un; show A.units + 1 < cLine; omega) ?_)
  refine wpAny_bind (wpAny_specialOf (name := Str.ofString "__repr__") hTy F.slot_list_repr.lookup ?_)
  show wpAny _ _ (if (some (Value.builtin "list.__repr__")).isNone = true then _ else _) _ _ _
  rw [if_neg (by simp)]
  refine wpAny_bind (m := callSpecialIfBound? (.ref a) (Str.ofString "__repr__")) (wpAny_callSpecialIfBound?_slot (name := Str.ofString "__repr__") hTy F.slot_list_repr ?_)
  refine wpAny_call (codeAny_call_builtin F.slot_list_repr.plain F.entry_list_repr (F.slot_list_repr.check _ _ _ _ _ _ _ _ hTy (F.args_list_repr_1 _) ?_))
  refine list_at (base := 0) hD h sb.in1 hg hgo I hl ha hd (by omega) fun s' H' u I' ex => ?_
  refine wpAny_bind (wpAny_isInstance (T := "str") (b := true) rfl isSubtype_str_str ?_)
  first
    | exact wpAny_pure ⟨_, rfl, hQ s' H' u I' ex⟩
    | (rw [if_pos rfl]; exact wpAny_pure ⟨_, rfl, hQ s' H' u I' ex⟩)
    | (simp only [if_true]; exact wpAny_pure ⟨_, rfl, hQ s' H' u I' ex⟩)
/-! ### tuples -/
theorem tupFoldG (hD : MonR D) {gp : List Code → Prop} (h : RpG X n gp D) {A : Around} {g : List Code} (sb : Sub X n A) (hg : A.guards = some g) (hgo : gp g) {pins : List (Addr × Obj)} {σ : L2.St} : ∀ (vs : List V) (us : List Value) (ts : List Str) (acc : Array Str) (b : Nat) (s : Shared) (H : Hp) (Q : (Array Str × Nat) → Shared → Prop),
    Vals vs us → DAll D vs ts H → b + piled ts ≤ sizeLine → Inv X pins σ H s → (∀ s' H', Inv X pins σ H' s' → Ext H H' → Q ⟨acc ++ ts.toArray, b + piled ts⟩ s') → wpAny (model X.prog X.w) A (forIn us (⟨acc, b⟩ : (Array Str × Nat)) tupBody) Q X.xe s
  | [], us, ts, acc, b, s, H, Q, r, hd, hz, I, q => by
    cases r
    have : ts = [] := List.length_eq_zero_iff.mp hd.1
    subst this
    simp only [List.forIn_nil]
    exact wpAny_pure (by simpa [piled] using q s H I Ext.rfl')
  | v :: vs, us, ts, acc, b, s, H, Q, r, hd, hz, I, q => by
    cases r with
    | cons r1 r2 =>
      cases ts with
      | nil => exact absurd hd.1 (by simp)
      | cons t ts =>
        rw [piled_cons] at hz
        rw [List.forIn_cons]
        refine wpAny_bind (wpAny_bind (wpAny_mono (h A (b + 1) g pins s σ H v _ t (by omega) sb hg hgo I r1 (hd.2 0 v t rfl rfl)) (fun x s1 hx => ?_) fun _ _ e => e))
        obtain ⟨rfl, H1, I1, e1⟩ := hx
        refine wpAny_pure ?_
        refine tupFoldG hD h sb hg hgo vs _ ts (acc.push x) (b + (x.length + 2)) s1 H1 Q r2 ⟨by have := hd.1; simpa using this, fun i v' t' h1 h2 => hD _ _ _ _ e1 (hd.2 (i + 1) v' t' (by simpa using h1) (by simpa using h2))⟩ (by omega) I1 fun s' H' I' e' => ?_
        have h1 := q s' H' I' (e1.trans e')
        have e : b + piled (x :: ts) = b + (x.length + 2) + piled ts := by rw [piled_cons]; omega
        rw [e] at h1
        simpa using h1
def DTup' (lv : Addr → Nat) (k : Nat) (D : Rpv) : Rpv := fun v t H => ∃ a vs ts, v = .ref a ∧ lv a = k + 1 ∧ H a = some (.tup vs) ∧ t = tupleText ts ∧ DAll D vs ts H
theorem rpG_tup (hD : MonR D) (h : RpG X n (go lv k) D) : RpG X (n + 1) (go lv (k + 1)) (DTup' lv k D) := by
  intro A base g pins s σ H v u t hb sb hg hgo I rv d
  obtain ⟨a, vs, ts, rfl, hl, ha, rfl, hd⟩ := d
  cases rv
  obtain ⟨its, r, p, hz⟩ := I.tuple (SqT.of ha)
  obtain ⟨o, e, hc, m, hdat⟩ := id p
  have hTy : s.TypeIs (.ref a) "tuple" := ⟨o, e, hc⟩
  have hca : Clear g a := hgo.clear (by omega)
  have hlen : ts.length = its.length := by rw [hd.1, r.length]
  have hp := piled_le_tupleText ts
  refine wpAny_pyReprUnder_ref (by omega) (wpAny_pyReprObjUnder_twin (twin := "tuple.__repr__.under") hTy F.slot_tuple_repr rfl sb.room.units0 ?_)
  refine call_twin_own (F.quiet_tuple_repr_under _) F.entry_tuple_repr_under F.check_tuple_repr_under hTy F.slot_tuple_repr (F.args_tuple_repr_1 _) ?_
  rw [tuple_repr_tree, tupleReprUnderWay_eq]
  refine wpOwn_bind (wpOwn_stackTailAny hg (tupGuardF_off _) (tupGuardF_pos _) ?_)
  have hn : (g.any fun c => tupGuardF (.ref a) (c, default)) = false := by
    rw [List.any_eq_false]
    intro c hcm
    rw [tupGuardF_of_clear hca c hcm]
    exact Bool.false_ne_true
  rw [hn]
  refine wpOwn_of_wpAny ?_
  show wpAny _ _ (tupleReprRest base (.ref a)) _ _ s
  unfold tupleReprRest Builtin.Tuple.tupleItemsOf
  refine wpAny_bind (wpAny_bind (wpAny_seqItems e hdat (wpAny_pure ?_)))
  rw [← Array.forIn_toList]
  refine wpAny_bind (tupFoldG hD h (sub_tupU sb) (guards_under_guard (isGuard_tuple_repr_under _) hg) ((hgo.mono (by omega)).cons (by omega)) vs _ ts _ _ s H _ (by simpa using r) hd (by omega) I fun s' H' I' ex => ?_)
  refine wpAny_bind (wpAny_mkStr (wpAny_pure ?_) (by
    have : (tupleText ts).length ≤ sizeLine := by omega
    simpa [tupleText, hlen] using this))
  have key : (∃ x u, Value.str (tupleText ts) s'.toks = .str x u) ∧ ∃ x u, Value.str (tupleText ts) s'.toks = .str x u ∧ x = tupleText ts ∧ ∃ H'', Inv X pins σ H'' { s' with toks := s'.toks + 1 } ∧ Ext H H'' := ⟨⟨_, _, rfl⟩, _, _, rfl, rfl, H', I'.tok _, ex⟩
  simpa [tupleText, hlen, callEnd] using key
end
end TW
set_option Elab.async false
set_option linter.all false
set_option maxRecDepth 100000
set_option maxHeartbeats 4000000
/-! Rp3: own __repr__ under a display; defs that know the running displays; f-strings. -/
namespace TW
open PySem L2 PySem.Spec PyProof.Rows
section
variable {X : Cx} {n k : Nat}
/-- a def is run somewhere below the running body -/
theorem run_sub {CX : CXT} {A : Around} {pins : List (Addr × Obj)} {σ : L2.St} {H : Hp} {s : Shared} {Q : VK} {E : XK} {f : Addr} {fd : FuncData} {ps : List Str} {sp : Sp} {us : List Value} {vs : List V} (sb : Sub X k A) (F : FnOk X.prog X.w X.K X.mg X.base CX k f fd ps sp) (hb : Binds X.K fd ps []) (hx : Passes CX X E)
    (I : Inv X pins σ H s) (r : Vals vs us) (h : sp vs H Q E) : wpAny (model X.prog X.w) A (call (.ref f) us) (L2.EP X pins σ Q) X.xe s := by
  have e0 : Env0 X.prog X.w X.K X.mg X.base A X.stack s H := by
    have e := I.env0
    exact ⟨by rw [sb.fr]; exact e.frames, e.mod, e.bs, e.bsz, e.funs, e.frf, e.hok, e.bare⟩
  have hl := F.len _ _ _ _ h
  refine wpAny_call (codeAny_mono (F.run A X.stack s H ⟨us, []⟩ us vs Q E sb.room e0 (by
    have := hb s us I.kIn (by rw [List.append_nil, ← r.length]; exact hl)
    simpa using this) r h) fun r s' hq => ?_)
  cases r with
  | error e => exact hx pins σ H s e s' I hq
  | ok fl =>
    cases fl with
    | ret w => exact I.after hq
    | next => exact False.elim hq
    | brk => exact False.elim hq
    | cont => exact False.elim hq
/-- a def's promise where the running displays are known -/
structure FnG (P : Program) (w : World) (K : PySem.W.Frag) (mg : Str → Option Value) (base : Heap) (CX : CXT) (k : Nat) (f : Addr) (fd : FuncData) (ps : List Str) (sp : List Code → Sp) : Prop where
  len : ∀ g vs H Q E, sp g vs H Q E → vs.length = ps.length
  run : ∀ (A : Around) (g : List Code) (outer : List Env) (s : Shared) (H : Hp) (args : Args) (us : List Value) (vs : List V) (Q : VK) (E : XK), Room k A → A.guards = some g → Env0 P w K mg base A outer s H → BindsTo s fd args (ps.zip us) → Vals vs us → sp g vs H Q E →
    codeAny (model P w) A (.call (.ref f) args) (CR CX outer P w H s Q E) s
theorem run_subG {CX : CXT} {A : Around} {g : List Code} {pins : List (Addr × Obj)} {σ : L2.St} {H : Hp} {s : Shared} {Q : VK} {E : XK} {f : Addr} {fd : FuncData} {ps : List Str} {sp : List Code → Sp} {us : List Value} {vs : List V} (sb : Sub X k A) (hg : A.guards = some g) (F : FnG X.prog X.w X.K X.mg X.base CX k f fd ps sp) (hb : Binds X.K fd ps []) (hx : Passes CX X E)
    (I : Inv X pins σ H s) (r : Vals vs us) (h : sp g vs H Q E) : wpAny (model X.prog X.w) A (call (.ref f) us) (L2.EP X pins σ Q) X.xe s := by
  have e0 : Env0 X.prog X.w X.K X.mg X.base A X.stack s H := by
    have e := I.env0
    exact ⟨by rw [sb.fr]; exact e.frames, e.mod, e.bs, e.bsz, e.funs, e.frf, e.hok, e.bare⟩
  have hl := F.len _ _ _ _ _ h
  refine wpAny_call (codeAny_mono (F.run A g X.stack s H ⟨us, []⟩ us vs Q E sb.room hg e0 (by
    have := hb s us I.kIn (by rw [List.append_nil, ← r.length]; exact hl)
    simpa using this) r h) fun r s' hq => ?_)
  cases r with
  | error e => exact hx pins σ H s e s' I hq
  | ok fl =>
    cases fl with
    | ret w => exact I.after hq
    | next => exact False.elim hq
    | brk => exact False.elim hq
    | cont => exact False.elim hq
theorem fn_ofG {CX : CXT} {P : Program} {w : World} {K : PySem.W.Frag} {mg : Str → Option Value} {base : Heap} {x qual : Str} {params : Arguments} {body : List Stmt} {scope : Scope} {dvs : List V} {kws : List (Str × V)} {f : Addr} {fd : FuncData} {N ps : List Str} {sp : List Code → Sp}
    (F : FunD K x qual params body scope dvs kws f fd) (S : FnScope N ps scope) (len : ∀ g vs H Q E, sp g vs H Q E → vs.length = ps.length)
    (hbody : ∀ (cdv : Value) (A : Around) (g : List Code) (outer : List Env) (s : Shared) (H : Hp) (vs : List V) (Q : VK) (E : XK), A.guards = some g → Room k (A.deeper (envOfC qual scope s.heap.objs.size f cdv)) → sp g vs H Q E →
      ∃ t, PSs (cxOf CX P w K mg base N qual scope f cdv A outer s H E) body t ∧ t { nx := fun _ H' => Q .non H', rt := Q } (start N vs) H) :
    FnG P w K mg base CX (k + 1) f fd ps sp := by
  obtain ⟨oc, od, dV, kV, doc, pm, an, cdv, ct, osl, rfl, lk, hcd, _, _⟩ := F.ex
  refine ⟨len, fun A g outer s H args us vs Q E hr hg e0 hb r hsp => ?_⟩
  have hl := len _ _ _ _ _ hsp
  have KX : K.In s.heap := e0.mod.kin.keeps fun b o e => (e0.bs b o e).1
  have lim : s.heap.NoLimit := e0.mod.nolimit.keeps fun b o e => (e0.bs b o e).1
  have hkind : ∀ y ∈ ps.zip us, scope.names.lookup y.1 = some .local ∨ (scope.names.lookup y.1 = some .cell ∧ ((cellsFrom (s.heap.objs.size + 1) scope.names []).lookup y.1).isSome = true) := fun ⟨n, v⟩ hy => by
    rcases S.par n (List.of_mem_zip hy).1 with q | q
    · exact .inl q
    · exact .inr ⟨q, PySem.W.cellsFrom_some _ _ _ (.inl q)⟩
  refine codeAny_call_function hr.depth (KX _ _ lk) rfl S.co S.gen rfl (PySem.W.codeRec_of KX hcd) (hb _ _ _ _ ?_)
  refine wpAny_newFunctionEnv_cells S.kind hkind fun env he s1 x => ?_
  subst he
  refine ⟨lim.keeps x.toInCall.keep, codeAny_func ?_⟩
  obtain ⟨t, ht, hq⟩ := hbody cdv A g outer s H vs Q E hg (hr.deeper _) hsp
  have I : Inv (cxOf CX P w K mg base N qual scope f cdv A outer s H E) [] (start N vs) H s1 := inv_start S hr.hd e0 hl r x
  refine wpAny_mono (ht.run [] s1 (start N vs) H _ I hq) (fun fl s' hs => ?_) fun e s' hs => hs
  have fin : ∀ {σ' : L2.St} {H' : Hp} {v : V} {u : Value}, Inv (cxOf CX P w K mg base N qual scope f cdv A outer s H E) [] σ' H' s' → RelV v u → Q v H' → CE outer P w H s Q u s' :=
    fun {σ' H' v u} J rv q => ⟨v, H', J.os, J.bare, J.base, J.hok, rv, q⟩
  cases fl with
  | ret u =>
    obtain ⟨v, σ', H', J, rv, q⟩ := hs
    exact fin J rv q
  | next =>
    obtain ⟨σ', H', J, q⟩ := hs
    exact fin (v := V.non) (u := Value.none) J rfl q
  | brk =>
    obtain ⟨_, _, _, q⟩ := hs
    exact False.elim q
  | cont =>
    obtain ⟨_, _, _, q⟩ := hs
    exact False.elim q
/-- an instance with the text's own __repr__, under a display -/
theorem under_own {A : Around} {E : Value → Shared → Prop} {s : Shared} {x C f : Addr} {ox : Obj} {od : Option Obj} {base : Nat} {Q : Str → Shared → Prop} {P : Program} {w : World} {K : PySem.W.Frag} (hb : base ≤ sizeLine) (hu : A.units < cLine) (KX : K.In s.heap) (I : PySem.W.InstAt s.heap x ox C od) (hs : PySem.W.findIn K (.ref C) "__repr__" = some (some (.ref f))) (hf : PySem.W.isFn K (.ref f) = true)
    (h : wpAny (model P w) A (call (.ref f) [.ref x]) (fun v s' => ∃ z u, v = .str z u ∧ Q z s') E s) : wpAny (model P w) A (pyReprUnder base (.ref x)) Q E s := by
  refine wpAny_pyReprUnder_ref hb ?_
  unfold pyReprObjUnder pyReprObjBy
  refine wpAny_bind (wpAny_cRoomFor hu ?_)
  refine wpAny_bind (wpAny_bind (I.type.here ((PySem.W.looks_findIn KX hs).here ?_)))
  show wpAny _ _ (if (some (Value.ref f)).isNone = true then _ else _) _ _ _
  rw [if_neg (by simp)]
  simp only [callSpecialIfBoundBy?, bindSpecialIfBound?]
  refine wpAny_bind (wpAny_holding (wpAny_bind (wpAny_bind (wpAny_bind (I.type.here ((PySem.W.looks_findIn KX hs).here ?_))))))
  refine wpAny_bind (wpAny_askSetting (wpAny_ite ?_))
  have fin : wpAny (model P w) A (call (.ref f) ([.ref x] ++ []) >>= fun v => pure (some v)) (fun r s' => wpAny (model P w) A (match r with
    | some r => do if ← isInstance r (.type "str") then pure r else raiseError "TypeError" s!"__repr__ returned non-string (type {← typeNameOf r})"
    | none => unsupported "repr:special-get-raises") (fun v s' => ∃ z u, v = .str z u ∧ Q z s') E s') E s :=
    wpAny_bind (wpAny_mono h (fun v s' hv => by
      obtain ⟨z, u, rfl, hq⟩ := hv
      refine wpAny_pure ?_
      exact wpAny_bind (wpAny_isInstance (T := "str") (b := true) rfl isSubtype_str_str (wpAny_pure ⟨z, u, rfl, hq⟩))) fun _ _ e => e)
  split
  · exact wpAny_bind ((PySem.W.bind_fn KX _ (beq_iff_eq.mp hf)).here (wpAny_pure (by exact fin)))
  · exact wpAny_tryCatch (wpAny_bind ((PySem.W.bind_fn KX _ (beq_iff_eq.mp hf)).here (wpAny_pure (by exact fin))))
end
end TW
set_option Elab.async false
set_option linter.all false
set_option maxRecDepth 100000
set_option maxHeartbeats 4000000
set_option exponentiation.threshold 100000
/-! Rp4: f-strings, digits_of, Ratio.__repr__. -/
namespace TW
open PySem L2
abbrev sDigits : Stmt := top 19
theorem scDigits : FnScope ["number", "left", "told", "part", "sign"] ["number"] (defScope sDigits) := ⟨rfl, rfl, rfl, by decide +kernel, rfl, by decide +kernel, by decide +kernel⟩
abbrev sRRepr : Stmt := inClass (top 21) 19
theorem scRRepr : FnScope ["self"] ["self"] (defScope sRRepr) := ⟨rfl, rfl, rfl, by decide +kernel, rfl, by decide +kernel, by decide +kernel⟩
def joinF (acc : Str) (zs : List Str) : Str := zs.foldl (fun a z => a ++ z) acc
def joinAll (zs : List Str) : Str := joinF Str.empty zs
theorem joinF_len : ∀ (zs : List Str) (acc : Str), (joinF acc zs).length = acc.length + (zs.map (·.length)).sum
  | [], acc => by simp [joinF]
  | z :: zs, acc => by
    show (joinF (acc ++ z) zs).length = _
    rw [joinF_len zs, strLen_append, List.map_cons, List.sum_cons]
    omega
theorem joinAll_len (zs : List Str) : (joinAll zs).length = (zs.map (·.length)).sum := by
  unfold joinAll
  rw [joinF_len]
  show 0 + _ = _
  omega
section
variable {S : Stat} {N : List Str} {n : Nat} {ι : Type} {XX : ι → Cx} {m : Pm} {env : TEnv} {c c1 c2 c3 : Pot}
inductive EJs (m : Pm) {ι : Type} (XX : ι → Cx) (env : TEnv) (c : Pot) : List Expr → List Str → Prop where
  | nil : EJs m XX env c [] []
  | cons {e : Expr} {es : List Expr} {z : Str} {zs : List Str} (h : EJ m XX e env c (.str z) c) (r : EJs m XX env c es zs) : EJs m XX env c (e :: es) (z :: zs)
theorem pj_rd (i : ι) : ∀ es : List Expr, PJ (XX i) es (es.map (rdE XX))
  | [] => .nil
  | e :: es => .cons (pe_rd i) (pj_rd i es)
theorem den_js {σ : L2.St} : ∀ {es : List Expr} {zs : List Str}, EJs m XX env c es zs → ∀ (acc : Str) (B H : Hp), Sit m c B H → RepE m env σ B H → (joinF acc zs).length ≤ sizeLine → ∀ Q : Str → Hp → Prop, (∀ B' H', Sit m c B' H' → Stp m B H B' H' → Q (joinF acc zs) H') → tJs (es.map (rdE XX)) acc σ H Q
  | _, _, .nil, acc, B, H, s, r, hz, Q, q => q B H s (Stp.refl m B H)
  | _, _, .cons (z := z) (zs := zs) h rs, acc, B, H, s, r, hz, Q, q => h σ B H s r _ fun v B1 H1 s1 t1 rv => by
    rw [rep_str] at rv
    subst rv
    have hz' : (joinF (acc ++ z) zs).length ≤ sizeLine := hz
    refine ⟨z, rfl, ?_, den_js rs (acc ++ z) B1 H1 s1 (r.step t1) hz' Q fun B' H' s' t' => q B' H' s' (t1.trans t')⟩
    rw [joinF_len] at hz'
    omega
theorem e_join {v1 v2 : Expr} {rest : List Expr} {pos : Pos} {zs : List Str} (h : EJs m XX env c (v1 :: v2 :: rest) zs) (hz : (joinAll zs).length ≤ sizeLine) : EJ m XX (.JoinedStr (v1 :: v2 :: rest) pos) env c (.str (joinAll zs)) c :=
  EJ.of (fun i => pe_joined (pj_rd i _)) fun σ B H s r Q q => den_js h Str.empty B H s r hz _ fun B' H' s' t' => q _ B' H' s' t' (rep_str.mpr rfl)
theorem e_fmtS {e : Expr} {pos : Pos} {z : Str} (h : EJ m XX e env c (.str z) c1) (hz : z.length ≤ sizeLine) : EJ m XX (.FormattedValue e (-1) none pos) env c (.str z) c1 :=
  EJ.of (fun i => pe_fmt (pe_rd i)) fun σ B H s r Q q => h σ B H s r _ fun v B1 H1 s1 t1 rv => .inl ⟨z, rep_str.mp rv, hz, q _ B1 H1 s1 t1 (rep_str.mpr rfl)⟩
theorem e_fmtI {e : Expr} {pos : Pos} {i : Int} (h : EJ m XX e env c (.int i) c1) (hz : i.natAbs.log2 < 1920) : EJ m XX (.FormattedValue e (-1) none pos) env c (.str (Str.ofString (toString i))) c1 :=
  EJ.of (fun j => pe_fmt (pe_rd j)) fun σ B H s r Q q => h σ B H s r _ fun v B1 H1 s1 t1 rv => .inr ⟨i, rep_int.mp rv, hz, q _ B1 H1 s1 t1 (rep_str.mpr rfl)⟩
end
/-! ### the digits -/
abbrev PT : Nat := 10 ^ 60
def leftI (n i : Nat) : Nat := n / PT ^ i
def chunk (l : Nat) : Str := cutS (Str.ofString (toString ((l % PT + PT : Nat) : Int))) (some 1) none
def toldI (n : Nat) : Nat → Str
  | 0 => Str.ofString ""
  | i + 1 => joinAll [chunk (leftI n i), toldI n i]
def turnsD : Nat → Nat → Nat
  | 0, _ => 0
  | f + 1, n => if n < PT then 0 else turnsD f (n / PT) + 1
def digTx (i : Int) : Str := joinAll [if i < 0 then Str.ofString "-" else Str.ofString "", Str.ofString (toString ((leftI i.natAbs (turnsD i.natAbs i.natAbs) : Nat) : Int)), toldI i.natAbs (turnsD i.natAbs i.natAbs)]
def ratTx (q : Rat) : Str := joinAll [Str.ofString "Ratio(", digTx q.num, Str.ofString ", ", digTx (q.den : Int), Str.ofString ")"]
theorem leftI_succ (n i : Nat) : leftI n (i + 1) = leftI n i / PT := by
  unfold leftI
  rw [Nat.pow_succ, Nat.div_div_eq_div_mul]
theorem turnsD_ok : ∀ (f n : Nat), n ≤ f → (∀ i, i < turnsD f n → PT ≤ leftI n i) ∧ leftI n (turnsD f n) < PT
  | 0, n, h => by
    have : n = 0 := by omega
    subst this
    exact ⟨fun i hi => absurd hi (Nat.not_lt_zero i), by simp [turnsD, leftI]⟩
  | f + 1, n, h => by
    unfold turnsD
    by_cases hn : n < PT
    · rw [if_pos hn]
      exact ⟨fun i hi => absurd hi (Nat.not_lt_zero i), by simpa [leftI] using hn⟩
    · rw [if_neg hn]
      have hlt : n / PT ≤ f := by
        have : n / PT < n := Nat.div_lt_self (by have : 0 < PT := by decide
                                                 omega) (by decide)
        omega
      obtain ⟨h1, h2⟩ := turnsD_ok f (n / PT) hlt
      have e : ∀ i, leftI n (i + 1) = leftI (n / PT) i := fun i => by
        unfold leftI
        rw [Nat.pow_succ, Nat.mul_comm, Nat.div_div_eq_div_mul]
      refine ⟨fun i hi => ?_, by rw [e]; exact h2⟩
      match i with
      | 0 => simpa [leftI] using Nat.le_of_not_lt hn
      | i + 1 => rw [e]; exact h1 i (by omega)
theorem turnsD_le {n : Nat} (h : n < 2 ^ 100000) : turnsD n n < 600 := by
  obtain ⟨h1, _⟩ := turnsD_ok n n (Nat.le_refl n)
  by_cases hk : turnsD n n < 600
  · exact hk
  · exfalso
    have h2 := h1 599 (by omega)
    have h3 : PT ^ 600 ≤ n := by
      have := (Nat.le_div_iff_mul_le (by exact Nat.pow_pos (by decide))).mp h2
      rw [Nat.pow_succ, Nat.mul_comm]
      exact this
    have h4 : (2 : Nat) ^ 100000 ≤ PT ^ 600 := by
      have e1 : (2 : Nat) ^ 199 ≤ PT := by decide
      have e2 : ((2 : Nat) ^ 199) ^ 600 ≤ PT ^ 600 := Nat.pow_le_pow_left e1 600
      rw [← Nat.pow_mul] at e2
      exact Nat.le_trans (Nat.pow_le_pow_right (by decide) (by decide)) e2
    omega
theorem cutS_len (z : Str) (lo hi : Option Int) : (cutS z lo hi).length ≤ z.length := by
  show ((z.cps.toList.drop _).take _).toArray.size ≤ z.cps.size
  rw [List.size_toArray, List.length_take, List.length_drop, Array.length_toList]
  omega
theorem intTx_len {i : Int} {k : Nat} (hk : 0 < k) (h : i.natAbs < 10 ^ k) : (Str.ofString (toString i)).length ≤ k + 1 := by
  rw [ofString_length]; exact int_text_length_le10 hk h
theorem chunk_len (l : Nat) : (chunk l).length ≤ 62 := by
  refine Nat.le_trans (cutS_len _ _ _) (intTx_len (k := 61) (by decide) ?_)
  rw [Int.natAbs_natCast]
  have : l % PT < PT := Nat.mod_lt _ (by decide)
  have : PT + PT ≤ 10 ^ 61 := by decide
  omega
theorem toldI_len (n : Nat) : ∀ i, (toldI n i).length ≤ 62 * i
  | 0 => Nat.zero_le _
  | i + 1 => by
    have h1 := chunk_len (leftI n i)
    have h2 := toldI_len n i
    show (joinAll [chunk (leftI n i), toldI n i]).length ≤ _
    rw [joinAll_len]
    simp
    omega
theorem digTx_len {i : Int} (h : i.natAbs < 2 ^ 100000) : (digTx i).length ≤ 40000 := by
  have h1 := toldI_len i.natAbs (turnsD i.natAbs i.natAbs)
  have h2 := turnsD_le h
  have h3 := (turnsD_ok i.natAbs i.natAbs (Nat.le_refl _)).2
  have h4 : (Str.ofString (toString ((leftI i.natAbs (turnsD i.natAbs i.natAbs) : Nat) : Int))).length ≤ 61 := intTx_len (by decide) (by rw [Int.natAbs_natCast]; exact h3)
  have h5 : ((if i < 0 then Str.ofString "-" else Str.ofString "" : Str)).length ≤ 1 := by split <;> decide
  unfold digTx
  rw [joinAll_len]
  simp only [List.map_cons, List.map_nil, List.sum_cons, List.sum_nil]
  omega
theorem le_size {k : Nat} (h : k ≤ 1000000) : k ≤ sizeLine := Nat.le_trans h (by decide)
def rDigits : List T → T → Prop := fun ts t => ∃ i : Int, ts = [.int i] ∧ t = .str (digTx i) ∧ i.natAbs < 2 ^ 100000
def rRRepr : List T → T → Prop := fun ts t => ∃ q : Rat, ts = [.rat q] ∧ t = .str (ratTx q) ∧ RSz 100000 q
section
variable {S : Stat} {CR CH : Addr}
theorem ok_digits {f : Addr} {fd : FuncData} (Fd : FnS S "digits_of" sDigits f fd) (hm : S.mg "digits_of" = some (.ref f)) (g : MG S) (hM : ∃ t, S.mg "PART" = some (.int (PT : Int) t)) : Dn S CR CH "digits_of" ["number"] 1 (pureR rDigits) := by
  refine Dn.pure Fd hm scDigits (fun ts t h => ?_) (fun _ _ _ _ _ _ us hl => match us, hl with | [_], _ => rfl) ?_
  · obtain ⟨_, rfl, _⟩ := h; rfl
  · rintro p0 h0 cdv A outer s H E c ts t F ⟨i, rfl, rfl, hi⟩
    have ok := turnsD_ok i.natAbs i.natAbs (Nat.le_refl _)
    have hk := turnsD_le hi
    have e0 : ((leftI i.natAbs 0 : Nat) : Int) = if 0 ≤ i then i else 0 - i := by
      unfold leftI
      simp only [Nat.pow_zero, Nat.div_one]
      split <;> omega
    refine .rt (b_cons (s_par F 1 2 (t := .int ((leftI i.natAbs 0 : Nat) : Int)) ?_ e_str)
      (b_cons (s_while F (turnsD i.natAbs i.natAbs) (fun j => ([Sl.val (.int i), Sl.val (.int ((leftI i.natAbs j : Nat) : Int)), Sl.val (.str (toldI i.natAbs j)), Sl.un, Sl.un], c)) rfl (fun j hj => t_ge (e_var F 1) (e_globI F hM) (decide_eq_true (by have := ok.1 j hj; omega))) (fun j hj => ?_) (t_ge (e_var F 1) (e_globI F hM) (decide_eq_false (by have := ok.2; omega))))
      (b_cons (s_set F 4 (t := .str (if i < 0 then Str.ofString "-" else Str.ofString "")) ?_)
      (b_one (s_ret (e_join (.cons (e_fmtS (e_var F 4) ?_) (.cons (e_fmtI (e_var F 1) ?_) (.cons (e_fmtS (e_var F 2) ?_) .nil))) ?_))))))
    · rw [e0]
      by_cases h : 0 ≤ i
      · rw [if_pos h]
        exact e_ifT (t_ge (e_var F 0) e_int (decide_eq_true h)) (e_var F 0)
      · rw [if_neg h]
        exact e_ifF (t_ge (e_var F 0) e_int (decide_eq_false h)) (e_sub e_int (e_var F 0))
    · have hml : (leftI i.natAbs j) % PT < PT := Nat.mod_lt _ (by decide)
      have hlog : (((leftI i.natAbs j % PT + PT : Nat) : Int)).natAbs.log2 < 1920 := by
        rw [Int.natAbs_natCast]
        refine PySem.Flt.log2_lt_of (by decide) ?_
        have : PT + PT ≤ 2 ^ 1920 := by decide
        omega
      have hcl := chunk_len (leftI i.natAbs j)
      have htl := toldI_len i.natAbs j
      have hsl : (Str.ofString (toString ((leftI i.natAbs j % PT + PT : Nat) : Int))).length ≤ sizeLine := int_text_fits hlog
      refine b_weak [3] (b_cons (s_set F 3 (EJ.to (e_add (e_mod (e_intI F g.int_ (e_var F 1)) (e_globI F hM) (by decide)) (e_globI F hM)) (t' := .int ((leftI i.natAbs j % PT + PT : Nat) : Int)) (by simp)))
        (b_cons (s_set F 2 (t := .str (toldI i.natAbs (j + 1))) (e_join (zs := [chunk (leftI i.natAbs j), toldI i.natAbs j]) (.cons (e_fmtS (e_slS (e_strI F g.str_ (e_var F 3) hlog) (o_some e_int) o_none hsl) ?_) (.cons (e_fmtS (e_var F 2) ?_) .nil)) ?_))
        (b_one (s_set F 1 (EJ.to (e_div (e_var F 1) (e_globI F hM) ⟨by decide, by decide⟩) (t' := .int ((leftI i.natAbs (j + 1) : Nat) : Int)) ?_)))))
      · exact le_size (by show (chunk (leftI i.natAbs j)).length ≤ _; omega)
      · exact le_size (by omega)
      · rw [joinAll_len]
        refine le_size ?_
        simp
        omega
      · rw [leftI_succ]; simp
    · by_cases h : i < 0
      · rw [if_pos h]
        exact e_ifT (t_lt (e_var F 0) e_int (decide_eq_true h)) e_str
      · rw [if_neg h]
        exact e_ifF (t_lt (e_var F 0) e_int (decide_eq_false h)) e_str
    · refine le_size ?_
      split <;> decide
    · rw [Int.natAbs_natCast]
      refine PySem.Flt.log2_lt_of (by decide) (Nat.lt_of_lt_of_le ok.2 (by decide))
    · have := toldI_len i.natAbs (turnsD i.natAbs i.natAbs)
      exact le_size (by omega)
    · have := digTx_len hi
      exact le_size (by show (digTx i).length ≤ _; omega)
theorem ok_rrepr {f : Addr} {fd : FuncData} (Fd : FunD S.K "__repr__" "Ratio.__repr__" (defArgs sRRepr) (defBody sRRepr) (defScope sRRepr) [] [] f fd) (hs : PySem.W.findIn S.K (.ref CR) "__repr__" = some (some (.ref f))) (hf : PySem.W.isFn S.K (.ref f) = true) (kf : KF S CR CH) (D : Dn S CR CH "digits_of" ["number"] 1 (pureR rDigits)) : Me S CR CH CR "__repr__" ["self"] 2 (pureR rRRepr) := by
  refine Me.mk' Fd hs hf scRRepr (fun ts t h => ?_) (fun _ _ _ _ _ _ us hl => match us, hl with | [_], _ => rfl) ?_
  · obtain ⟨p, rfl, _⟩ := h; rfl
  · rintro p0 h0 cdv A outer s H E c ts t F ⟨p, rfl, rfl, hz⟩
    have h1 := digTx_len hz.1
    have h2 : (digTx (p.den : Int)).length ≤ 40000 := digTx_len (by rw [Int.natAbs_natCast]; exact hz.2)
    refine .rt (b_one (s_ret (e_join (.cons e_str (.cons (e_fmtS (e_call F D (a_cons (e_top F kf (e_var F 0)) a_nil) ⟨rfl, _, rfl, rfl, hz.1⟩) (le_size (by omega))) (.cons e_str (.cons (e_fmtS (e_call F D (a_cons (e_bottom F kf (e_var F 0)) a_nil) ⟨rfl, _, rfl, rfl, by rw [Int.natAbs_natCast]; exact hz.2⟩) (le_size (by omega))) (.cons e_str .nil))))) ?_)))
    rw [joinAll_len]
    refine le_size ?_
    have e1 : (Str.ofString "Ratio(").length = 6 := by decide
    have e2 : (Str.ofString ", ").length = 2 := by decide
    have e3 : (Str.ofString ")").length = 1 := by decide
    simp only [List.map_cons, List.map_nil, List.sum_cons, List.sum_nil, e1, e2, e3]
    omega
end
end TW
set_option Elab.async false
set_option linter.all false
set_option maxRecDepth 100000
set_option maxHeartbeats 4000000
set_option exponentiation.threshold 100000
/-! Rp5: repr of data. -/
namespace TW
open PySem L2 PySem.Spec PyProof.Rows
mutual
def txt : T → Str
  | .int i => Str.ofString (toString i)
  | .rat q => ratTx q
  | .lst xs => listText (txtL xs)
  | .tup xs => tupleText (txtL xs)
  | .house ls _ => joinAll [Str.ofString "House(", txt ls, Str.ofString ")"]
  | .new t => txt t
  | _ => Str.empty
def txtL : List T → List Str
  | [] => []
  | t :: ts => txt t :: txtL ts
end
mutual
def ht : T → Nat
  | .lst xs => htL xs + 1
  | .tup xs => htL xs + 1
  | .house ls _ => ht ls
  | .new t => ht t
  | _ => 0
def htL : List T → Nat
  | [] => 0
  | t :: ts => max (ht t) (htL ts)
end
mutual
def fu : T → Nat
  | .rat _ => 1
  | .lst xs => fuL xs + 1
  | .tup xs => fuL xs + 1
  | .house ls _ => fu ls + 1
  | .new t => fu t
  | _ => 0
def fuL : List T → Nat
  | [] => 0
  | t :: ts => max (fu t) (fuL ts)
end
mutual
def Sup (hs : Bool) : T → Prop
  | .int i => i.natAbs.log2 < 1920
  | .rat q => RSz 100000 q
  | .lst xs => SupL hs xs
  | .tup xs => SupL hs xs
  | .house ls _ => hs = true ∧ Sup false ls ∧ ∃ xs, ls = .lst xs
  | .new t => Sup hs t
  | _ => False
def SupL (hs : Bool) : List T → Prop
  | [] => True
  | t :: ts => Sup hs t ∧ SupL hs ts
end
def mx (l : List Nat) : Nat := l.foldr max 0
def dep : Nat → Hp → V → Nat
  | 0, _, _ => 0
  | f + 1, B, .ref a => match B a with
    | some (.lst vs) => mx (vs.map (dep f B)) + 1
    | some (.tup vs) => mx (vs.map (dep f B)) + 1
    | some (.ins _ _ fs) => mx (fs.map fun p => dep f B p.2)
    | _ => 0
  | _ + 1, _, _ => 0
theorem dep_int (f : Nat) (B : Hp) (i : Int) : dep f B (.int i) = 0 := by cases f <;> rfl
theorem dep_eq (f : Nat) (B : Hp) (a : Addr) : dep (f + 1) B (.ref a) = match B a with
    | some (.lst vs) => mx (vs.map (dep f B)) + 1
    | some (.tup vs) => mx (vs.map (dep f B)) + 1
    | some (.ins _ _ fs) => mx (fs.map fun p => dep f B p.2)
    | _ => 0 := rfl
theorem dep_lst {f : Nat} {B : Hp} {a : Addr} {vs : List V} (h : B a = some (.lst vs)) : dep (f + 1) B (.ref a) = mx (vs.map (dep f B)) + 1 := by
  rw [dep_eq, h]
theorem dep_tup {f : Nat} {B : Hp} {a : Addr} {vs : List V} (h : B a = some (.tup vs)) : dep (f + 1) B (.ref a) = mx (vs.map (dep f B)) + 1 := by
  rw [dep_eq, h]
theorem dep_ins {f : Nat} {B : Hp} {a C dx : Addr} {fs : List (Str × V)} (h : B a = some (.ins C dx fs)) : dep (f + 1) B (.ref a) = mx (fs.map fun p => dep f B p.2) := by
  rw [dep_eq, h]
mutual
theorem dep_rep {m : Pm} {B : Hp} {hs : Bool} : ∀ (t : T) (v : V) (f : Nat), Sup hs t → Rep m t v B → fu t ≤ f → dep f B v = ht t
  | .int i, v, f, _, r, _ => by rw [rep_int.mp r, dep_int]; rfl
  | .rat q, v, f, _, r, hf => by
    obtain ⟨a, dx, rfl, e⟩ := rep_rat.mp r
    match f, hf with
    | f + 1, _ =>
      rw [dep_ins e]
      show mx [dep f B (.int q.num), dep f B (.int (q.den : Int))] = 0
      rw [dep_int, dep_int]; rfl
  | .lst xs, v, f, s, r, hf => by
    obtain ⟨a, vs, rfl, e, rl⟩ := rep_lst.mp r
    match f, hf with
    | f + 1, hf =>
      rw [dep_lst e, dep_repL xs vs f (by simpa only [Sup] using s) rl (by simp only [fu] at hf; omega)]
      rfl
  | .tup xs, v, f, s, r, hf => by
    obtain ⟨a, vs, rfl, e, rl⟩ := rep_tup.mp r
    match f, hf with
    | f + 1, hf =>
      rw [dep_tup e, dep_repL xs vs f (by simpa only [Sup] using s) rl (by simp only [fu] at hf; omega)]
      rfl
  | .house ls w, v, f, s, r, hf => by
    obtain ⟨a, dx, l, rfl, e, rl⟩ := rep_house.mp r
    simp only [Sup] at s
    match f, hf with
    | f + 1, hf =>
      rw [dep_ins e]
      show mx [dep f B l, dep f B (.int w)] = ht ls
      rw [dep_int, dep_rep (hs := false) ls l f s.2.1 rl (by simp only [fu] at hf; omega)]
      simp [mx]
  | .new t, v, f, s, r, hf => by
    have := dep_rep t v f (by simpa only [Sup] using s) (rep_new.mp r).1 (by simpa only [fu] using hf)
    rw [this]; rfl
  | .non, _, _, s, _, _ => by simp only [Sup] at s
  | .bl _, _, _, s, _, _ => by simp only [Sup] at s
  | .str _, _, _, s, _, _ => by simp only [Sup] at s
  | .pot, _, _, s, _, _ => by simp only [Sup] at s
  | .at _ _, _, _, s, _, _ => by simp only [Sup] at s
theorem dep_repL {m : Pm} {B : Hp} {hs : Bool} : ∀ (ts : List T) (vs : List V) (f : Nat), SupL hs ts → RepL m ts vs B → fuL ts ≤ f → mx (vs.map (dep f B)) = htL ts
  | [], vs, f, _, r, _ => by rw [repL_nil] at r; subst r; rfl
  | t :: ts, vs, f, s, r, hf => by
    obtain ⟨v, vr, rfl, h1, h2⟩ := repL_cons.mp r
    simp only [SupL] at s
    simp only [fuL] at hf
    show max (dep f B v) (mx (vr.map (dep f B))) = max (ht t) (htL ts)
    rw [dep_rep t v f s.1 h1 (by omega), dep_repL ts vr f s.2 h2 (by omega)]
end
def lvB (B : Hp) (a : Addr) : Nat := dep 20 B (.ref a)
def DT (m : Pm) (B : Hp) (t : T) : Rpv := fun v x H => Same B H ∧ Rep m t v B ∧ x = txt t
theorem DT_mon {m : Pm} {B : Hp} {t : T} : MonR (DT m B t) := fun v x H H' e ⟨h1, h2, h3⟩ => ⟨fun a o q => e a o (h1 a o q), h2, h3⟩
def DTs (m : Pm) (B : Hp) (ts : List T) : Rpv := fun v x H => ∃ t ∈ ts, DT m B t v x H
theorem DTs_mon {m : Pm} {B : Hp} {ts : List T} : MonR (DTs m B ts) := fun v x H H' e ⟨t, h, d⟩ => ⟨t, h, DT_mon v x H H' e d⟩
theorem RpG.imp {X : Cx} {n : Nat} {gp : List Code → Prop} {D D' : Rpv} (h : RpG X n gp D) (hd : ∀ v t H, D' v t H → D v t H) : RpG X n gp D' := fun A base g pins s σ H v u t hb sb hg hgo I rv d => h A base g pins s σ H v u t hb sb hg hgo I rv (hd v t H d)
theorem dall_of {m : Pm} {B H : Hp} (s : Same B H) : ∀ {ts : List T} {vs : List V}, RepL m ts vs B → DAll (DTs m B ts) vs (txtL ts) H := by
  intro ts vs r
  have len : ∀ ts : List T, (txtL ts).length = ts.length := fun ts => by
    induction ts with
    | nil => rfl
    | cons t ts ih => simp [txtL, ih]
  refine ⟨by rw [len, r.length], fun i v x hv hx => ?_⟩
  obtain ⟨t, ht, rv⟩ := r.get' hv
  have hx' : ∀ (ts : List T) (i : Nat), (txtL ts)[i]? = (ts[i]?).map txt := fun ts => by
    induction ts with
    | nil => intro i; simp [txtL]
    | cons t ts ih =>
      intro i
      cases i with
      | zero => rfl
      | succ i => simpa [txtL] using ih i
  rw [hx', ht] at hx
  cases hx
  exact ⟨t, List.mem_of_getElem? ht, s, rv, rfl⟩
theorem rpG_int {X : Cx} {gp : List Code → Prop} : RpG X 0 gp (fun v x H => ∃ i : Int, v = .int i ∧ i.natAbs.log2 < 1920 ∧ x = Str.ofString (toString i)) := by
  intro A base g pins s σ H v u t hb sb hg hgo I rv d
  obtain ⟨i, rfl, hi, rfl⟩ := d
  obtain ⟨tk, rfl⟩ := rv
  exact ReprIs.int tk hi base hb A _ s _ fun tk' => ⟨rfl, H, I.tok _, Ext.rfl'⟩
mutual
def nd : T → Nat
  | .rat _ => 2
  | .lst xs => ndL xs + 1
  | .tup xs => ndL xs + 1
  | .house _ _ => 30
  | .new t => nd t
  | _ => 0
def ndL : List T → Nat
  | [] => 0
  | t :: ts => max (nd t) (ndL ts)
end
section
variable {X : Cx} {m : Pm} {B : Hp}
def DRr (CR : Addr) : Rpv := fun v x H => ∃ (q : Rat) (a dx : Addr), v = .ref a ∧ H a = some (.ins CR dx (rF q)) ∧ RSz 100000 q ∧ x = ratTx q
mutual
theorem rp_T (hR : ∀ gp, RpG X 2 gp (DRr m.CR)) {hs : Bool} (hH : hs = true → ∀ ls w, Sup false ls → (∃ xs, ls = .lst xs) → fu ls ≤ 18 → RpG X 30 (go (lvB B) (ht ls)) (DT m B (.house ls w))) : ∀ (t : T), Sup hs t → fu t ≤ 19 → RpG X (nd t) (go (lvB B) (ht t)) (DT m B t)
  | .int i, s, _ => rpG_int.imp fun v x H ⟨_, r, e⟩ => ⟨i, rep_int.mp r, s, e⟩
  | .rat q, s, _ => (hR _).imp fun v x H ⟨sm, r, e⟩ => by
    obtain ⟨a, dx, rfl, h⟩ := rep_rat.mp r
    exact ⟨q, a, dx, rfl, sm _ _ h, s, e⟩
  | .lst xs, s, hf => by
    have s' : SupL hs xs := by simpa only [Sup] using s
    have h := rpG_list DTs_mon (rp_L hR hH xs s' (by simp only [fu] at hf; omega))
    refine RpG.imp h fun v x H ⟨sm, r, e⟩ => ?_
    have hl := dep_rep (hs := hs) (.lst xs) v 20 s r (by omega)
    obtain ⟨a, vs, rfl, h1, rl⟩ := rep_lst.mp r
    exact ⟨a, vs, txtL xs, rfl, hl, sm _ _ h1, e, dall_of sm rl⟩
  | .tup xs, s, hf => by
    have s' : SupL hs xs := by simpa only [Sup] using s
    have h := rpG_tup DTs_mon (rp_L hR hH xs s' (by simp only [fu] at hf; omega))
    refine RpG.imp h fun v x H ⟨sm, r, e⟩ => ?_
    have hl := dep_rep (hs := hs) (.tup xs) v 20 s r (by omega)
    obtain ⟨a, vs, rfl, h1, rl⟩ := rep_tup.mp r
    exact ⟨a, vs, txtL xs, rfl, hl, sm _ _ h1, e, dall_of sm rl⟩
  | .house ls w, s, hf => by
    simp only [Sup] at s
    exact hH s.1 ls w s.2.1 s.2.2 (by simp only [fu] at hf; omega)
  | .new t, s, hf => (rp_T hR hH t (by simpa only [Sup] using s) (by simpa only [fu] using hf)).imp fun v x H ⟨sm, r, e⟩ => ⟨sm, (rep_new.mp r).1, e⟩
  | .non, s, _ => by simp only [Sup] at s
  | .bl _, s, _ => by simp only [Sup] at s
  | .str _, s, _ => by simp only [Sup] at s
  | .pot, s, _ => by simp only [Sup] at s
  | .at _ _, s, _ => by simp only [Sup] at s
theorem rp_L (hR : ∀ gp, RpG X 2 gp (DRr m.CR)) {hs : Bool} (hH : hs = true → ∀ ls w, Sup false ls → (∃ xs, ls = .lst xs) → fu ls ≤ 18 → RpG X 30 (go (lvB B) (ht ls)) (DT m B (.house ls w))) : ∀ (ts : List T), SupL hs ts → fuL ts ≤ 19 → RpG X (ndL ts) (go (lvB B) (htL ts)) (DTs m B ts)
  | [], _, _ => fun A base g pins s σ H v u t hb sb hg hgo I rv ⟨t', h, _⟩ => absurd h List.not_mem_nil
  | t :: ts, s, hf => by
    simp only [SupL] at s
    simp only [fuL] at hf
    have h1 := rp_T hR hH t s.1 (by omega)
    have h2 := rp_L hR hH ts s.2 (by omega)
    intro A base g pins s' σ H v u x hb sb hg hgo I rv d
    obtain ⟨t', hm, d⟩ := d
    rcases List.mem_cons.mp hm with rfl | hm
    · exact h1 A base g pins s' σ H v u x hb (sb.mono (by simp only [ndL]; omega)) hg (hgo.mono (by simp only [htL]; omega)) I rv d
    · exact h2 A base g pins s' σ H v u x hb (sb.mono (by simp only [ndL]; omega)) hg (hgo.mono (by simp only [htL]; omega)) I rv ⟨t', hm, d⟩
end
end
section
variable {S : Stat} {N : List Str} {n : Nat} {ι : Type} {XX : ι → Cx} {m : Pm} {env : TEnv} {c c1 c2 c3 : Pot}
theorem rpG_rat (F : Fam S N n XX) (M : Me S m.CR m.CH m.CR "__repr__" ["self"] 2 (pureR rRRepr)) (i : ι) (gp : List Code → Prop) : RpG (XX i) 2 gp (DRr m.CR) := by
  obtain ⟨f, fd, G, hs, hf, hb⟩ := M.ex
  intro A base g pins s σ H v u t hb' sb hg hgo I rv d
  obtain ⟨q, a, dx, rfl, ha, hz, rfl⟩ := d
  cases rv
  obtain ⟨mA, J, _⟩ := ins_get I.hok ha
  obtain ⟨od, J, _⟩ := J.look
  refine under_own (by omega) sb.room.units0 I.kIn J (by rw [F.k i]; exact hs) (by rw [F.k i]; exact hf) ?_
  refine wpAny_mono (run_sub (Q := fun z H' => z = .str (ratTx q) ∧ Ext H H') (vs := [V.ref a]) (us := [Value.ref a]) sb (F.fn G i) (by rw [F.k i]; exact hb) pass0 (E := E0) I (.cons rfl .nil) ?_) (fun v s' hv => ?_) fun _ _ e => e
  · refine ⟨none, fun _ => none, H, P0, _, _, P0, ⟨rfl, q, rfl, rfl, hz⟩, ⟨fun _ _ e => e, fun _ z => absurd rfl z, fun _ z => (nomatch z)⟩, repL_cons.mpr ⟨_, _, rfl, rep_rat.mpr ⟨a, dx, rfl, ha⟩, repL_nil.mpr rfl⟩, fun v B' H' s' st rv => ?_⟩
    exact ⟨rep_str.mp rv, fun b o e => st.h b o e (fun z => nomatch z)⟩
  · obtain ⟨z, H', I', rz, rfl, ex⟩ := hv
    obtain ⟨tk, rfl⟩ := rz
    exact ⟨_, _, rfl, rfl, H', I', ex⟩
end
end TW
set_option Elab.async false
set_option linter.all false
set_option maxRecDepth 100000
set_option maxHeartbeats 4000000
set_option exponentiation.threshold 100000
/-! Rp6: House.__repr__; repr(x) as an expression. -/
namespace TW
open PySem L2 PySem.Spec PyProof.Rows
abbrev sHRepr : Stmt := inClass (top 53) 7
theorem scHRepr : FnScope ["self"] ["self"] (defScope sHRepr) := ⟨rfl, rfl, rfl, by decide +kernel, rfl, by decide +kernel, by decide +kernel⟩
mutual
theorem nd_le : ∀ t : T, Sup false t → nd t ≤ fu t + 2
  | .int _, _ => Nat.zero_le _
  | .rat _, _ => by simp [nd, fu]
  | .lst xs, s => by
    have := ndL_le xs (by simpa only [Sup] using s)
    simp only [nd, fu]; omega
  | .tup xs, s => by
    have := ndL_le xs (by simpa only [Sup] using s)
    simp only [nd, fu]; omega
  | .house ls w, s => by simp only [Sup] at s; exact absurd s.1 (by decide)
  | .new t, s => by
    have := nd_le t (by simpa only [Sup] using s)
    simpa only [nd, fu] using this
  | .non, s => by simp only [Sup] at s
  | .bl _, s => by simp only [Sup] at s
  | .str _, s => by simp only [Sup] at s
  | .pot, s => by simp only [Sup] at s
  | .at _ _, s => by simp only [Sup] at s
theorem ndL_le : ∀ ts : List T, SupL false ts → ndL ts ≤ fuL ts + 2
  | [], _ => Nat.zero_le _
  | t :: ts, s => by
    simp only [SupL] at s
    have h1 := nd_le t s.1
    have h2 := ndL_le ts s.2
    simp only [ndL, fuL]; omega
end
section
variable {S : Stat} {N : List Str} {n : Nat} {ι : Type} {XX : ι → Cx} {m : Pm} {env : TEnv} {c c1 c2 c3 : Pot}
def rRep {ι : Type} (XX : ι → Cx) (g : List Code) : List V → Hp → VK → Prop := fun xs H Q => ∃ (lv : Addr → Nat) (k nn : Nat) (D : Rpv) (a : Addr) (vs : List V) (ts : List Str), xs = [.ref a] ∧ MonR D ∧ (∀ i, RpG (XX i) nn (go lv k) D) ∧ (∀ i, Room (nn + 2) (XX i).A) ∧ go lv (k + 1) g ∧ lv a = k + 1 ∧ H a = some (.lst vs) ∧ DAll D vs ts H ∧ (listText ts).length ≤ sizeLine ∧ ∀ H', Ext H H' → Q (.str (listText ts)) H'
theorem cr_repr {g : List Code} (hg : ∀ i, (XX i).A.guards = some g) (i : ι) : CallR (XX i) (.builtin "repr") (rRep XX g) := by
  intro pins s σ H xs us Q I r h
  obtain ⟨lv, k, nn, D, a, vs, ts, rfl, hD, hR, hr, hgo, hl, ha, hd, hz, q⟩ := h
  obtain ⟨u, rfl, ru⟩ := r.one
  cases ru
  exact repr_list hD (hR i) ⟨hr i, rfl⟩ (hg i) hgo I hl ha hd hz fun s' H' u I' ex => ⟨.str (listText ts), H', I', ⟨_, rfl⟩, q H' ex⟩
/-- the parts of repr(list) from data -/
theorem rRep_of (F : Fam S N n XX) (M : Me S m.CR m.CH m.CR "__repr__" ["self"] 2 (pureR rRRepr)) {hs : Bool} {B : Hp} (hH : ∀ i, hs = true → ∀ ls w, Sup false ls → (∃ xs, ls = .lst xs) → fu ls ≤ 18 → RpG (XX i) 30 (go (lvB B) (ht ls)) (DT m B (.house ls w))) {g : List Code} {xs : List T} {v : V} {H : Hp} {Q : VK} (s : SupL hs xs) (hf : fuL xs ≤ 18)
    (hn : ndL xs + 2 ≤ n) (hgo : go (lvB B) (htL xs + 1) g) (sm : Same B H) (r : Rep m (.lst xs) v B) (hz : (txt (.lst xs)).length ≤ sizeLine) (q : ∀ H', Ext H H' → Q (.str (txt (.lst xs))) H') : rRep XX g [v] H Q := by
  have hl := dep_rep (hs := hs) (.lst xs) v 20 (by simpa only [Sup] using s) r (by simp only [fu]; omega)
  obtain ⟨a, vs, rfl, h1, rl⟩ := rep_lst.mp r
  exact ⟨lvB B, htL xs, ndL xs, DTs m B xs, a, vs, txtL xs, rfl, DTs_mon, fun i => rp_L (fun gp => rpG_rat F M i gp) (hH i) xs s (by omega), fun i => (F.room i).mono hn, hgo, hl, sm _ _ h1, dall_of sm rl, hz, q⟩
end
def spHR (CR CH : Addr) : List Code → Sp := fun g vs H Q _ => ∃ (p0 : Option Addr) (h0 : Hp) (B : Hp) (v : V) (xs : List T) (w : Int), vs = [v] ∧ Same B H ∧ Rep ⟨CR, CH, p0, h0⟩ (.house (.lst xs) w) v B ∧ SupL false xs ∧ fuL xs ≤ 17 ∧ go (lvB B) (htL xs + 1) g ∧ (txt (.house (.lst xs) w)).length ≤ sizeLine ∧ ∀ H', Ext H H' → Q (.str (txt (.house (.lst xs) w))) H'
structure Hr (S : Stat) (CR CH : Addr) : Prop where
  ex : ∃ f fd, FnG S.P S.w S.K S.mg S.base CX0 30 f fd ["self"] (spHR CR CH) ∧ PySem.W.findIn S.K (.ref CH) "__repr__" = some (some (.ref f)) ∧ PySem.W.isFn S.K (.ref f) = true ∧ Binds S.K fd ["self"] []
section
variable {S : Stat} {CR CH : Addr}
theorem ok_hrepr {f : Addr} {fd : FuncData} (Fd : FunD S.K "__repr__" "House.__repr__" (defArgs sHRepr) (defBody sHRepr) (defScope sHRepr) [] [] f fd) (hs : PySem.W.findIn S.K (.ref CH) "__repr__" = some (some (.ref f))) (hf : PySem.W.isFn S.K (.ref f) = true) (kf : KF S CR CH) (hrp : S.mg "repr" = none) (M : Me S CR CH CR "__repr__" ["self"] 2 (pureR rRRepr)) : Hr S CR CH := by
  refine ⟨f, fd, fn_ofG (k := 29) Fd scHRepr (fun g vs H Q E h => ?_) (fun cdv A g outer s H vs Q E hg hr h => ?_), hs, hf, Fd.bindsN (fun _ _ _ _ _ _ us hl => match us, hl with | [_], _ => rfl)⟩
  · obtain ⟨p0, h0, B, v, xs, w, rfl, _⟩ := h; rfl
  · obtain ⟨p0, h0, B, v, xs, w, rfl, sm, rv, sup, hfu, hgo, hz, q⟩ := h
    let XX := dcx S ["self"] "House.__repr__" sHRepr f cdv A outer s H E
    let m : Pm := ⟨CR, CH, p0, h0⟩
    have F : Fam S ["self"] 29 XX := ⟨fun _ => rfl, fun _ => rfl, fun _ => rfl, fun _ => rfl, fun _ => rfl, fun _ => rfl, scHRepr.nd, fun _ => rfl, fun _ => hr⟩
    have hgX : ∀ i, (XX i).A.guards = some g := fun _ => hg
    refine ⟨rdB XX (defBody sHRepr), PSs.nox (pb_rd (XX := XX) ()), ?_⟩
    refine ⟨tRet (fun σ H Q => tJs [tC (.str (Str.ofString "House(")), tFmt (tCB (rRep XX g) (tCons (tFld S.K (tVar 0) "own_letters") tNil)), tC (.str (Str.ofString ")"))] Str.empty σ H fun out H1 => Q (.str out) H1), fun i => pss_one (ps_ret (pe_joined (PJ.cons pe_str (.cons (pe_fmt (pe_callB (cr_repr hgX i) rfl hrp (by decide +kernel) (pa_cons (pe_fld (pv 0) rfl) pa_nil rfl) (by decide) (by decide) rfl rfl)) (.cons pe_str .nil))))), ?_⟩
    obtain ⟨a, dx, l, rfl, h1, rl⟩ := rep_house.mp rv
    have hzt : (txt (.house (.lst xs) w)).length = 6 + (txt (.lst xs)).length + 1 := by
      show (joinAll [Str.ofString "House(", txt (.lst xs), Str.ofString ")"]).length = _
      rw [joinAll_len]
      have e1 : (Str.ofString "House(").length = 6 := by decide
      have e3 : (Str.ofString ")").length = 1 := by decide
      simp only [List.map_cons, List.map_nil, List.sum_cons, List.sum_nil, e1, e3]
      omega
    have hnd := ndL_le xs sup
    refine ⟨_, rfl, by decide, ?_⟩
    refine ⟨_, rfl, a, CH, dx, _, l, rfl, sm _ _ h1, kf.clH, kf.nL, by rfl, ?_⟩
    dsimp only [tNil]
    refine rRep_of F M (fun i z => absurd z (by decide)) sup (by omega) (by omega) hgo sm rl (by omega) fun H' ex => .inl ⟨_, rfl, by omega, ?_⟩
    refine ⟨_, rfl, ?_, _, rfl, ?_, ?_⟩
    · rw [strLen_append, strLen_append]
      have e1 : (Str.ofString "House(").length = 6 := by decide
      have e0 : Str.empty.length = 0 := by decide
      omega
    · have : (joinAll [Str.ofString "House(", txt (.lst xs), Str.ofString ")"]).length ≤ sizeLine := hz
      exact this
    · exact q H' ex
end
section
variable {S : Stat} {N : List Str} {n : Nat} {ι : Type} {XX : ι → Cx} {m : Pm} {env : TEnv} {c c1 c2 c3 : Pot}
theorem rpG_house (F : Fam S N n XX) (M : Hr S m.CR m.CH) (B : Hp) (i : ι) (ls : T) (w : Int) (sup : Sup false ls) (hl : ∃ xs, ls = .lst xs) (hfu : fu ls ≤ 18) : RpG (XX i) 30 (go (lvB B) (ht ls)) (DT m B (.house ls w)) := by
  obtain ⟨xs, rfl⟩ := hl
  obtain ⟨f, fd, G, hs, hf, hb⟩ := M.ex
  intro A base g pins s σ H v u t hb' sb hg hgo I rv d
  obtain ⟨sm, r, rfl⟩ := d
  obtain ⟨a, dx, l, rfl, h1, rl⟩ := rep_house.mp r
  cases rv
  obtain ⟨mA, J, _⟩ := ins_get I.hok (sm _ _ h1)
  obtain ⟨od, J, _⟩ := J.look
  have G' : FnG (XX i).prog (XX i).w (XX i).K (XX i).mg (XX i).base CX0 30 f fd ["self"] (spHR m.CR m.CH) := by rw [F.prog i, F.w i, F.k i, F.mg i, F.base i]; exact G
  refine under_own (by omega) sb.room.units0 I.kIn J (by rw [F.k i]; exact hs) (by rw [F.k i]; exact hf) ?_
  refine wpAny_mono (run_subG (Q := fun z H' => z = .str (txt (.house (.lst xs) w)) ∧ Ext H H') (vs := [V.ref a]) (us := [Value.ref a]) sb hg G' (by rw [F.k i]; exact hb) pass0 (E := E0) I (.cons rfl .nil) ?_) (fun v s' hv => ?_) fun _ _ e => e
  · exact ⟨m.p0, m.h0, B, _, xs, w, rfl, sm, r, by simpa only [Sup] using sup, by simp only [fu] at hfu; omega, hgo, by omega, fun H' ex => ⟨rfl, ex⟩⟩
  · obtain ⟨z, H', I', rz, rfl, ex⟩ := hv
    obtain ⟨tk, rfl⟩ := rz
    exact ⟨_, _, rfl, rfl, H', I', ex⟩
/-- repr(x), x a list; no display is running -/
theorem e_repr (F : Fam S N n XX) (M : Me S m.CR m.CH m.CR "__repr__" ["self"] 2 (pureR rRRepr)) (HM : Hr S m.CR m.CH) (hg : ∀ i, (XX i).A.guards = some []) (hm : S.mg "repr" = none) {p pos : Pos} {e : Expr} {xs : List T} (he : EJ m XX e env c (.lst xs) c1) (s : SupL true xs) (hf : fuL xs ≤ 18) (hn : ndL xs + 2 ≤ n) (hz : (txt (.lst xs)).length ≤ sizeLine)
    (hgl : ∀ i, Gl (XX i) "repr" := by intro _; rfl) (hs : ∀ i, starEach [e] (XX i).env = [(false, eval e (XX i).env)] := by intro _; rfl) : EJ m XX (.Call (.Name "repr" p) [e] [] pos) env c (.str (txt (.lst xs))) c1 :=
  EJ.of (te := tCB (rRep XX []) (tCons (rdE XX e) tNil)) (fun i => pe_callB (cr_repr hg i) (hgl i) (by rw [F.mg i]; exact hm) (by decide +kernel) (pa_cons (pe_rd i) pa_nil (hs i)) (by decide) (by decide) (hs i) rfl) (fun σ B H si r Q q => he σ B H si r _ fun v B1 H1 s1 t1 rv =>
    rRep_of F M (fun i _ ls w sup hl hfu => rpG_house F HM B1 i ls w sup hl hfu) s hf hn go.nil s1.sub rv hz fun H' ex => q _ B1 H' (s1.same ex) (t1.trans (Stp.same ex)) (rep_str.mpr rfl))
end
end TW
set_option Elab.async false
set_option linter.all false
set_option maxRecDepth 100000
set_option maxHeartbeats 4000000
set_option exponentiation.threshold 100000
/-! Lr1: calls by keywords alone; noughts and images by name. -/
namespace TW
open PySem L2 PySem.Spec PyProof.Rows
section
variable {X : Cx} {CX : CXT} {k : Nat} {f : Addr} {fd : FuncData} {ps ks : List Str} {sp : Sp} {E : XK} {x : Str} {p pos : Pos} {kws : List Keyword} {tk : TA} {g : List Value → List Value → List Value} {gV : List V → List V → List V}
theorem pe_callK0 (F : FnOk X.prog X.w X.K X.mg X.base CX k f fd ps sp) (hr : Room k X.A) (hg : Gl X x) (hm : X.mg x = some (.ref f)) (hk : PySem.W.keepIn X.K (.ref f) = true) (hb : KBinds X.K fd ps ks g gV) (hx : Passes CX X E)
    (hkw : PK X kws tk) (hall : (backToKw pos (keywordEach kws X.env)).all (·.1.isSome) = true := by rfl) (hks : (backToKw pos (keywordEach kws X.env)).filterMap (·.1) = ks := by rfl)
    (hdb : (x == ("__debug__" : Str)) = false := by decide)
    (hpl : ((backTo pos (starEach [] X.env)).any (·.1) || (backToKw pos (keywordEach kws X.env)).any (·.1.isNone)) = false := by rfl) :
    PE X (.Call (.Name x p) [] kws pos) (tCallK sp gV E tNil tk) := by
  refine ⟨fun pins s σ H Q I h => ?_⟩
  refine wpAny_Call_Name_kw (ld_glob I hg hm ?_ hdb)
  refine PySem.W.callWith_KW0 (h₀ := X.base) I.ok.mod.kin hk hall ?_ hpl
  refine thn (hkw.run pos pins s σ H _ I h) fun ws s2 ⟨zs, H2, I2, rz, q2⟩ => ⟨I2.kIn, ?_⟩
  rw [hks]
  exact run_fnk (us := []) (vs := []) F hr hb hx I2 .nil rz q2
end
def g2 : List Value → List Value → List Value
  | [], [t, h] => [h, t]
  | _, _ => []
def gV2 : List V → List V → List V
  | [], [t, h] => [h, t]
  | _, _ => []
theorem kb2 {K : PySem.W.Frag} {x : Str} {params : Arguments} {body : List Stmt} {scope : Scope} {f : Addr} {fd : FuncData} (F : FunD K x x params body scope [] [] f fd)
    (h : ∀ (kV doc pm : Value) (an : Option Addr) (cdv ct : Value) (t h : Value), bindArgs (PySem.W.fnOf x x params body scope .none kV doc pm an cdv ct) ⟨[], [(("table" : Str), t), (("house" : Str), h)]⟩ = pure [(("house" : Str), h), (("table" : Str), t)]) : KBinds K fd ["house", "table"] ["table", "house"] g2 gV2 := by
  refine ⟨fun s us ws _ hl => ?_, fun {vs us zs ws} r rz => ?_⟩
  · match us, ws, hl with
    | [], [t, hh], _ =>
      obtain ⟨oc, od, dV, kV, doc, pm, an, cdv, ct, osl, rfl, lk, hcd, hD, hK⟩ := F.ex
      rcases hD with ⟨_, rfl⟩ | ⟨e, _⟩
      · exact .of_eq (h kV doc pm an cdv ct t hh)
      · exact absurd rfl e
    | [], [], hl => simp [g2] at hl
    | [], [_], hl => simp [g2] at hl
    | [], _ :: _ :: _ :: _, hl => simp [g2] at hl
    | _ :: _, _, hl => simp [g2] at hl
  · cases r with
    | nil =>
      cases rz with
      | nil => exact .nil
      | cons h1 r1 =>
        cases r1 with
        | nil => exact .nil
        | cons h2 r2 =>
          cases r2 with
          | nil => exact .cons h2 (.cons h1 .nil)
          | cons h3 r3 => exact .nil
    | cons h1 r1 => cases rz <;> exact .nil
structure DnK (S : Stat) (CR CH : Addr) (x : Str) (k : Nat) (R : Rel) : Prop where
  ex : ∃ f fd, FnOk S.P S.w S.K S.mg S.base CX0 k f fd ["house", "table"] (spD CR CH R) ∧ S.mg x = some (.ref f) ∧ PySem.W.keepIn S.K (.ref f) = true ∧ KBinds S.K fd ["house", "table"] ["table", "house"] g2 gV2
theorem DnK.pure {S : Stat} {CR CH : Addr} {x : Str} {st : Stmt} {f : Addr} {fd : FuncData} {N : List Str} {k : Nat} {R : List T → T → Prop} (Fd : FnS S x st f fd) (hm : S.mg x = some (.ref f)) (sc : FnScope N ["house", "table"] (defScope st)) (len : ∀ ts t, R ts t → ts.length = 2)
    (hb : ∀ (kV doc pm : Value) (an : Option Addr) (cdv ct : Value) (t h : Value), bindArgs (PySem.W.fnOf x x (defArgs st) (defBody st) (defScope st) .none kV doc pm an cdv ct) ⟨[], [(("table" : Str), t), (("house" : Str), h)]⟩ = Pure.pure [(("house" : Str), h), (("table" : Str), t)])
    (body : ∀ (p0 : Option Addr) (h0 : Hp) (cdv : Value) (A : Around) (outer : List Env) (s : Shared) (H : Hp) (E : XK) (c : Pot) (ts : List T) (t : T), Fam S N k (dcx S N x st f cdv A outer s H E) → R ts t →
      Gives ⟨CR, CH, p0, h0⟩ (dcx S N x st f cdv A outer s H E) (defBody st) (startE N ts) c t c) : DnK S CR CH x (k + 1) (pureR R) :=
  ⟨f, fd, fn_spD Fd sc (fun c ts t c' h => len ts t h.2) (fun p0 h0 cdv A outer s H E c ts t c' F h => by
    obtain ⟨rfl, h⟩ := h
    exact body p0 h0 cdv A outer s H E _ ts t F h), hm, Fd.kp, kb2 Fd hb⟩
section
variable {S : Stat} {N : List Str} {n : Nat} {ι : Type} {XX : ι → Cx} {m : Pm} {env : TEnv} {c c1 c2 c3 : Pot}
/-- x(table=a, house=b) -/
theorem e_callK (F : Fam S N n XX) {x : Str} {k : Nat} {R : Rel} {p p1 p2 pos : Pos} {a b : Expr} {ta tb t : T} (D : DnK S m.CR m.CH x k R) (ha : EJ m XX a env c ta c1) (hb : EJ m XX b env c1 tb c2) (hR : R c2 [tb, ta] t c3) (hk : k ≤ n := by decide)
    (hg : ∀ i, Gl (XX i) x := by intro _; rfl) (hdb : (x == ("__debug__" : Str)) = false := by decide)
    (h1 : ∀ i, (backToKw pos (keywordEach [⟨some "table", a, p1⟩, ⟨some "house", b, p2⟩] (XX i).env)).all (·.1.isSome) = true := by intro _; rfl)
    (h2 : ∀ i, (backToKw pos (keywordEach [⟨some "table", a, p1⟩, ⟨some "house", b, p2⟩] (XX i).env)).filterMap (·.1) = ([("table" : Str), ("house" : Str)] : List Str) := by intro _; rfl)
    (h3 : ∀ i, ((backTo pos (starEach [] (XX i).env)).any (·.1) || (backToKw pos (keywordEach [⟨some "table", a, p1⟩, ⟨some "house", b, p2⟩] (XX i).env)).any (·.1.isNone)) = false := by intro _; rfl) :
    EJ m XX (.Call (.Name x p) [] [⟨some "table", a, p1⟩, ⟨some "house", b, p2⟩] pos) env c t c3 := by
  obtain ⟨f, fd, G, hm, hkp, hbd⟩ := D.ex
  refine EJ.of (te := tCallK (spD m.CR m.CH R) gV2 E0 tNil (tCons (rdE XX a) (tCons (rdE XX b) tNil))) (fun i => pe_callK0 (F.fn G i) ((F.room i).mono hk) (hg i) (by rw [F.mg i]; exact hm) (by rw [F.k i]; exact hkp) (by rw [F.k i]; exact hbd) pass0 (pk_cons (pe_rd i) (pk_cons (pe_rd i) pk_nil)) (h1 i) (h2 i) hdb (h3 i)) ?_
  intro σ B H s r Q q
  refine ha σ B H s r _ fun v B1 H1 s1 t1 rv => ?_
  refine hb σ B1 H1 s1 (r.step t1) _ fun w B2 H2 s2 t2 rw_ => ?_
  exact ⟨m.p0, m.h0, B2, c2, _, t, c3, hR, s2, repL_cons.mpr ⟨_, _, rfl, rw_, repL_cons.mpr ⟨_, _, rfl, rv.mono t2.b, repL_nil.mpr rfl⟩⟩, fun u B' H' s' t' ru => q u B' H' s' ((t1.trans t2).trans t') ru⟩
end
section
variable {S : Stat} {CR CH : Addr}
theorem ok_noughtsK {f : Addr} {fd : FuncData} (Fd : FnS S "noughts" sNoughts f fd) (hm : S.mg "noughts" = some (.ref f)) (kf : KF S CR CH) (D1 : Dn S CR CH "want_house" ["value"] 1 (pureR rWantHouse)) (D2 : Dn S CR CH "want_commuting" ["house", "value"] 8 (pureR rWantComm)) (D3 : Dn S CR CH "kernel_of" ["rows", "wide"] 7 (pureR rKernel)) (D4 : Dn S CR CH "about_of" ["table"] 1 (pureR rAbout)) : DnK S CR CH "noughts" 9 (pureR rNoughts) := by
  refine DnK.pure Fd hm scNoughts (fun ts t h => ?_) (fun _ _ _ _ _ _ _ _ => rfl) ?_
  · obtain ⟨_, _, _, rfl, _⟩ := h; rfl
  · rintro p0 h0 cdv A outer s H E c ts t F ⟨ls, k, tb, rfl, rfl, sq, h1, h4, ok, ker⟩
    have hl : tb.q.length = k := by simpa [GTab.q] using sq.1
    refine .rt (b_cons (s_set F 2 (e_call F D1 (a_cons (e_var F 0) a_nil) ⟨rfl, _, _, rfl, rfl⟩)) (b_one (s_ret (e_call F D3 (a_cons (e_call F D4 (a_cons (e_call F D2 (a_cons (e_var F 2) (a_cons (e_var F 1) a_nil)) ⟨rfl, ls, k, tb, rfl, rfl, sq, h1, h4, ok⟩) a_nil) ⟨rfl, tb.q, rfl, rfl, by omega, ?_⟩) (a_cons (e_width F kf (e_var F 2)) a_nil)) ⟨rfl, aboutT tb.q, k, rfl, rfl, ker⟩))))
    intro r hr
    obtain ⟨x, hx, rfl⟩ := List.mem_map.mp hr
    rw [List.length_map, hl, sq.2 x hx]
theorem ok_imagesK {f : Addr} {fd : FuncData} (Fd : FnS S "images" sImages f fd) (hm : S.mg "images" = some (.ref f)) (D1 : Dn S CR CH "want_house" ["value"] 1 (pureR rWantHouse)) (D2 : Dn S CR CH "want_commuting" ["house", "value"] 8 (pureR rWantComm)) (D3 : Dn S CR CH "steps_of" ["rows"] 6 (pureR rStepsOf)) : DnK S CR CH "images" 9 (pureR rImages) := by
  refine DnK.pure Fd hm scImages (fun ts t h => ?_) (fun _ _ _ _ _ _ _ _ => rfl) ?_
  · obtain ⟨_, _, _, rfl, _⟩ := h; rfl
  · rintro p0 h0 cdv A outer s H E c ts t F ⟨ls, k, tb, rfl, rfl, sq, h1, h4, ok, st⟩
    exact .rt (b_one (s_ret (e_call F D3 (a_cons (e_call F D2 (a_cons (e_call F D1 (a_cons (e_var F 0) a_nil) ⟨rfl, _, _, rfl, rfl⟩) (a_cons (e_var F 1) a_nil)) ⟨rfl, ls, k, tb, rfl, rfl, sq, h1, h4, ok⟩) a_nil) ⟨rfl, tb.q, rfl, rfl, st⟩)))
end
end TW
set_option Elab.async false
set_option linter.all false
set_option maxRecDepth 100000
set_option maxHeartbeats 4000000
set_option exponentiation.threshold 100000
/-! Lr2: what _law_right reckons. -/
namespace TW
open PySem L2
abbrev sLRight : Stmt := top 100
theorem scLRight : FnScope ["_law_pot_here", "_law_size", "_law_letters", "_law_table", "_law_turned_here", "_law_house_here", "_law_given_here", "_law_due", "_law_shown", "_law_told_here", "_law_again", "_law_square", "_law_near", "_law_far", "_law_some"] ["_law_pot_here"] (defScope sLRight) := ⟨rfl, rfl, rfl, by decide +kernel, rfl, by decide +kernel, by decide +kernel⟩
def cmC (c : Pot) : Cm := (commP c).1
def nC (c : Pot) : Nat := (cmC c).n
def tuC (c : Pot) : Tri := turnedP (nC c) ((cmC c).ls ++ [(cmC c).tb]) (commP c).2
def LC (c : Pot) : List (List (List Int)) := (tuC c).1.dropLast
def TC (c : Pot) : List (List Int) := (tuC c).1.getLastD []
def gsC (c : Pot) : List GTab × Pot := mapP givenP (LC c) (tuC c).2.2
def gC (c : Pot) : GTab × Pot := givenP (TC c) (gsC c).2
def lsC (c : Pot) : List (List (List Rat)) := (gsC c).1.map GTab.q
def KC (c : Pot) : List (List Rat) := (lawNoughts (TC c) (nC c)).map toldRow
def IC (c : Pot) : List (List Rat) := (lawSteps (TC c)).map toldRow
def sqG (c : Pot) : GTab := ⟨false, (times (TC c) (TC c)).map fun r => ⟨false, r.map Num.i⟩⟩
def K2 (c : Pot) : List (List Rat) := kernelOf (aboutT (sqG c).q) (nC c)
def I2 (c : Pot) : List (List Rat) := stepsOf (sqG c).q
structure RightOk (c : Pot) : Prop where
  tu : TuOk (nC c) ((cmC c).ls ++ [(cmC c).tb]) (commP c).2
  lo : LOk (gsC c).1 (nC c)
  lw : ∀ l ∈ LC c, l.length ≤ 500 ∧ ∀ r ∈ l, r.length ≤ 500
  no : NOk (TC c) (nC c)
  nt : ToldOk (lawNoughts (TC c) (nC c))
  sf : LFit (TC c)
  st : ToldOk (lawSteps (TC c))
  gs : (gC c).1.Sq (nC c)
  n1 : 1 ≤ nC c
  n4 : nC c ≤ 4
  cm : CommOk (lsC c) (gC c).1.q
  kr : KerOk (aboutT (gC c).1.q) (nC c)
  ir : StepsOk (gC c).1.q
  ek : kernelOf (aboutT (gC c).1.q) (nC c) = KC c
  ei : stepsOf (gC c).1.q = IC c
  s1 : SupL true [tH (lsC c) (nC c), (gC c).1.t]
  z1 : (txt (.lst [tH (lsC c) (nC c), (gC c).1.t])).length ≤ sizeLine
  s2 : SupL true [tRR (KC c), tRR (IC c)]
  z2 : (txt (.lst [tRR (KC c), tRR (IC c)])).length ≤ sizeLine
  rk : RoomOk (lsC c) (nC c) (KC c)
  ri : RoomOk (lsC c) (nC c) (IC c)
  kn : (KC c).length + (IC c).length = nC c
  tw : (TC c).length = nC c ∧ ∀ r ∈ TC c, r.length = nC c ∧ Bd 100000 r
  qs : (sqG c).Sq (nC c)
  qc : CommOk (lsC c) (sqG c).q
  qk : KerOk (aboutT (sqG c).q) (nC c)
  qi : StepsOk (sqG c).q
  r2 : RoomOk (lsC c) (nC c) (K2 c)
  j2 : RoomOk (lsC c) (nC c) (I2 c)
  sm : StepsOk (K2 c ++ KC c)
  es : stepsOf (K2 c ++ KC c) = K2 c
  k1 : KerOk (IC c) (nC c)
  k2 : KerOk (I2 c) (nC c)
  k3 : KerOk (kernelOf (IC c) (nC c) ++ kernelOf (I2 c) (nC c)) (nC c)
  em : kernelOf (kernelOf (IC c) (nC c) ++ kernelOf (I2 c) (nC c)) (nC c) = I2 c
/-! ### shapes of data -/
theorem fuL_map {α : Type} {f : α → T} {k : Nat} : ∀ {xs : List α}, (∀ x ∈ xs, fu (f x) ≤ k) → fuL (xs.map f) ≤ k
  | [], _ => Nat.zero_le _
  | x :: xs, h => by
    have h1 := h x List.mem_cons_self
    have h2 := fuL_map (xs := xs) fun y hy => h y (List.mem_cons_of_mem _ hy)
    simp only [List.map_cons, fuL]; omega
theorem ndL_map {α : Type} {f : α → T} {k : Nat} : ∀ {xs : List α}, (∀ x ∈ xs, nd (f x) ≤ k) → ndL (xs.map f) ≤ k
  | [], _ => Nat.zero_le _
  | x :: xs, h => by
    have h1 := h x List.mem_cons_self
    have h2 := ndL_map (xs := xs) fun y hy => h y (List.mem_cons_of_mem _ hy)
    simp only [List.map_cons, ndL]; omega
theorem fu_tR (r : List Rat) : fu (tR r) ≤ 2 := by
  have := fuL_map (f := T.rat) (k := 1) (xs := r) fun x _ => by simp [fu]
  simp only [fu]; omega
theorem fu_tRR (r : List (List Rat)) : fu (tRR r) ≤ 3 := by
  have := fuL_map (f := tR) (k := 2) (xs := r) fun x _ => fu_tR x
  simp only [fu]; omega
theorem fu_tH (ls : List (List (List Rat))) (n : Nat) : fu (tH ls n) ≤ 5 := by
  have := fuL_map (f := tRR) (k := 3) (xs := ls) fun x _ => fu_tRR x
  simp only [fu]; omega
theorem nd_tR (r : List Rat) : nd (tR r) ≤ 3 := by
  have := ndL_map (f := T.rat) (k := 2) (xs := r) fun x _ => by simp [nd]
  simp only [nd]; omega
theorem nd_tRR (r : List (List Rat)) : nd (tRR r) ≤ 4 := by
  have := ndL_map (f := tR) (k := 3) (xs := r) fun x _ => nd_tR x
  simp only [nd]; omega
theorem fu_num (x : Num) : fu x.t ≤ 1 := by cases x <;> simp [Num.t, fu]
theorem nd_num (x : Num) : nd x.t ≤ 2 := by cases x <;> simp [Num.t, nd]
theorem fu_seq (b : Bool) (xs : List T) : fu (seqT b xs) = fuL xs + 1 := by cases b <;> simp [seqT, fu]
theorem nd_seq (b : Bool) (xs : List T) : nd (seqT b xs) = ndL xs + 1 := by cases b <;> simp [seqT, nd]
theorem fu_gt (g : GTab) : fu g.t ≤ 3 := by
  have h1 : ∀ r : GRow, fu r.t ≤ 2 := fun r => by
    have := fuL_map (f := Num.t) (k := 1) (xs := r.xs) fun x _ => fu_num x
    rw [GRow.t, fu_seq]; omega
  have := fuL_map (f := GRow.t) (k := 2) (xs := g.rows) fun x _ => h1 x
  rw [GTab.t, fu_seq]; omega
theorem nd_gt (g : GTab) : nd g.t ≤ 4 := by
  have h1 : ∀ r : GRow, nd r.t ≤ 3 := fun r => by
    have := ndL_map (f := Num.t) (k := 2) (xs := r.xs) fun x _ => nd_num x
    rw [GRow.t, nd_seq]; omega
  have := ndL_map (f := GRow.t) (k := 3) (xs := g.rows) fun x _ => h1 x
  rw [GTab.t, nd_seq]; omega
/-! ### data without marks -/
mutual
def NoNew : T → Prop
  | .lst xs => NoNewL xs
  | .tup xs => NoNewL xs
  | .house ls _ => NoNew ls
  | .new _ => False
  | .at _ t => NoNew t
  | _ => True
def NoNewL : List T → Prop
  | [] => True
  | t :: ts => NoNew t ∧ NoNewL ts
end
mutual
theorem rep_sw {m m' : Pm} {B : Hp} (h1 : m.CR = m'.CR) (h2 : m.CH = m'.CH) (h3 : m.p0 = m'.p0) : ∀ (t : T) (v : V), NoNew t → Rep m t v B → Rep m' t v B
  | .non, v, _, r => rep_non.mpr (rep_non.mp r)
  | .bl _, v, _, r => rep_bl.mpr (rep_bl.mp r)
  | .int _, v, _, r => rep_int.mpr (rep_int.mp r)
  | .str _, v, _, r => rep_str.mpr (rep_str.mp r)
  | .rat q, v, _, r => by
    obtain ⟨a, dx, e, h⟩ := rep_rat.mp r
    exact rep_rat.mpr ⟨a, dx, e, by rw [← h1]; exact h⟩
  | .lst xs, v, n, r => by
    obtain ⟨a, vs, e, h, rl⟩ := rep_lst.mp r
    exact rep_lst.mpr ⟨a, vs, e, h, repL_sw h1 h2 h3 xs vs (by simpa only [NoNew] using n) rl⟩
  | .tup xs, v, n, r => by
    obtain ⟨a, vs, e, h, rl⟩ := rep_tup.mp r
    exact rep_tup.mpr ⟨a, vs, e, h, repL_sw h1 h2 h3 xs vs (by simpa only [NoNew] using n) rl⟩
  | .house ls w, v, n, r => by
    obtain ⟨a, dx, l, e, h, rl⟩ := rep_house.mp r
    exact rep_house.mpr ⟨a, dx, l, e, by rw [← h2]; exact h, rep_sw h1 h2 h3 ls l (by simpa only [NoNew] using n) rl⟩
  | .pot, v, _, r => by
    obtain ⟨p, e1, e2⟩ := rep_pot.mp r
    exact rep_pot.mpr ⟨p, by rw [← h3]; exact e1, e2⟩
  | .new t, v, n, r => by simp only [NoNew] at n
  | .at a t, v, n, r => by
    obtain ⟨e1, e2⟩ := rep_at.mp r
    exact rep_at.mpr ⟨e1, rep_sw h1 h2 h3 t v (by simpa only [NoNew] using n) e2⟩
theorem repL_sw {m m' : Pm} {B : Hp} (h1 : m.CR = m'.CR) (h2 : m.CH = m'.CH) (h3 : m.p0 = m'.p0) : ∀ (ts : List T) (vs : List V), NoNewL ts → RepL m ts vs B → RepL m' ts vs B
  | [], vs, _, r => repL_nil.mpr (repL_nil.mp r)
  | t :: ts, vs, n, r => by
    obtain ⟨v, vr, e, r1, r2⟩ := repL_cons.mp r
    simp only [NoNewL] at n
    exact repL_cons.mpr ⟨v, vr, e, rep_sw h1 h2 h3 t v n.1 r1, repL_sw h1 h2 h3 ts vr n.2 r2⟩
end
theorem nn_map {α : Type} {f : α → T} : ∀ {xs : List α}, (∀ x ∈ xs, NoNew (f x)) → NoNewL (xs.map f)
  | [], _ => by simp only [List.map_nil, NoNewL]
  | x :: xs, h => by
    simp only [List.map_cons, NoNewL]
    exact ⟨h x List.mem_cons_self, nn_map fun y hy => h y (List.mem_cons_of_mem _ hy)⟩
theorem nn_lst {xs : List T} (h : NoNewL xs) : NoNew (.lst xs) := by simpa only [NoNew] using h
theorem nn_tR (r : List Rat) : NoNew (tR r) := nn_lst (nn_map fun _ _ => by simp only [NoNew])
theorem nn_tRR (r : List (List Rat)) : NoNew (tRR r) := nn_lst (nn_map fun _ _ => nn_tR _)
theorem nn_tI (r : List Int) : NoNew (tI r) := nn_lst (nn_map fun _ _ => by simp only [NoNew])
theorem nn_tII (r : List (List Int)) : NoNew (tII r) := nn_lst (nn_map fun _ _ => nn_tI _)
theorem nn_tH (ls : List (List (List Rat))) (n : Nat) : NoNew (tH ls n) := by
  have : NoNew (tRRR ls) := nn_lst (nn_map fun _ _ => nn_tRR _)
  simpa only [NoNew] using this
theorem nn_tup {xs : List T} (h : NoNewL xs) : NoNew (.tup xs) := by simpa only [NoNew] using h
theorem nn_seq (b : Bool) {xs : List T} (h : NoNewL xs) : NoNew (seqT b xs) := by
  cases b
  · exact nn_lst h
  · exact nn_tup h
theorem nn_num (x : Num) : NoNew x.t := by cases x <;> simp only [Num.t, NoNew]
theorem nn_gt (g : GTab) : NoNew g.t := nn_seq _ (nn_map fun r _ => nn_seq _ (nn_map fun _ _ => nn_num _))
section
variable {S : Stat} {N : List Str} {n : Nat} {ι : Type} {XX : ι → Cx} {m : Pm} {env : TEnv} {c c1 c2 c3 : Pot}
theorem EJ.un {e : Expr} {a : Addr} {t : T} (h : EJ m XX e env c (.at a t) c1) : EJ m XX e env c t c1 := h.weak fun v B r => (rep_at.mp r).2
theorem g_tup3 (F : Fam S N n XX) {a b d : Expr} {kk : Nat} {pos : Pos} {k1 k2 k3 : List Nat} {x y z : T} {e1 e2 e3 : TEnv} (ha : GJ m XX a k1 env x e1) (hb : GJ m XX b k2 e1 y e2) (hd : GJ m XX d k3 e2 z e3)
    (h1 : ∀ i, (assignEach [a, b, d] (XX i).env).length = 3 := by intro _; rfl) (h2 : ∀ i, (assignEach [a, b, d] (XX i).env).findIdx? (·.1) = none := by intro _; rfl)
    (h3 : ∀ i, assignEach [a, b, d] (XX i).env = (false, assign a (XX i).env) :: assignEach [b, d] (XX i).env := by intro _; rfl) (h4 : ∀ i, assignEach [b, d] (XX i).env = (false, assign b (XX i).env) :: assignEach [d] (XX i).env := by intro _; rfl) (h5 : ∀ i, assignEach [d] (XX i).env = [(false, assign d (XX i).env)] := by intro _; rfl) :
    GJ m XX (.Tuple [a, b, d] kk pos) (k1 ++ (k2 ++ k3)) env (.tup [x, y, z]) e3 := by
  refine GJ.of (g := gTup S.K 3 (gCons (rdG XX a) (gCons (rdG XX b) (gCons (rdG XX d) gNil)))) (fun i => ?_) ?_
  · rw [← F.k i]
    exact pg_tup (F.calm i) (pgs_cons (pg_rd i) (pgs_cons (pg_rd i) (pgs_cons (pg_rd i) pgs_nil (by rw [h5 i]; rfl)) (by rw [h4 i]; rfl)) (by rw [h3 i]; rfl)) (h1 i) (h2 i)
  · intro σ B H v s r h Q q
    obtain ⟨p, vs, rfl, g1, g2⟩ := rep_tup.mp h
    obtain ⟨v1, r1, rfl, i1, i2⟩ := repL_cons.mp g2
    obtain ⟨v2, r2, rfl, j1, j2⟩ := repL_cons.mp i2
    obtain ⟨v3, r3, rfl, l1, l2⟩ := repL_cons.mp j2
    rw [repL_nil] at l2
    subst l2
    refine ⟨p, _, rfl, SqT.of (s _ _ g1), rfl, v1, [v2, v3], rfl, ?_⟩
    refine ha σ B H v1 s r i1 _ fun σ1 ll1 h1 h2 r1 => ?_
    refine ⟨v2, [v3], rfl, ?_⟩
    refine hb σ1 B H v2 s r1 j1 _ fun σ2 ll2 h3 h4 r2 => ?_
    refine ⟨v3, [], rfl, ?_⟩
    refine hd σ2 B H v3 s r2 l1 _ fun σ3 ll3 h5 h6 r3 => ?_
    exact ⟨rfl, q σ3 (ll1 ++ (ll2 ++ ll3)) (by rw [h5, h3, h1, sets_append, sets_append]) (by rw [List.map_append, List.map_append, h2, h4, h6]) r3⟩
end
end TW
set_option Elab.async false
set_option linter.all false
set_option maxRecDepth 100000
set_option maxHeartbeats 4000000
set_option exponentiation.threshold 100000
/-! Lr3: the last loop of _law_right. -/
namespace TW
open PySem L2
abbrev NR : List Str := ["_law_pot_here", "_law_size", "_law_letters", "_law_table", "_law_turned_here", "_law_house_here", "_law_given_here", "_law_due", "_law_shown", "_law_told_here", "_law_again", "_law_square", "_law_near", "_law_far", "_law_some"]
abbrev stF : Stmt := nthS (defBody sLRight) 12
section
variable {S : Stat} {k : Nat} {f : Addr} {cdv : Value} {A : Around} {outer : List Env} {s : Shared} {Hc : Hp} {Ex : XK}
/-- a list at t; its first item (if there is one) is the list at r -/
def Lof (H : Hp) (t : Addr) (vs : List V) (r : Addr) (ws : List V) : Prop := H t = some (.lst vs) ∧ vs.length ≤ 1000 ∧ (vs ≠ [] → r ≠ t ∧ vs.head? = some (.ref r) ∧ H r = some (.lst ws) ∧ ws.length ≤ 1000)
theorem some_body (F : Fam S NR k (dcx S NR "_law_right" sLRight f cdv A outer s Hc Ex)) (hk : 1 ≤ k) {σ : L2.St} {H : Hp} {t r : Addr} {vs ws : List V} {D : Ends} (hσ : σ[14]? = some (some (.ref t))) (h : Lof H t vs r ws)
    (kk : ∀ H', (∀ a o, H a = some o → a ≠ t → (vs ≠ [] → a ≠ r) → H' a = some o) → (∀ a, H a ≠ none → H' a ≠ none) → H' t = some (.lst (vs ++ [.non])) → (vs ≠ [] → H' r = some (.lst (ws ++ [.non]))) → D.nx σ H') :
    rdB (dcx S NR "_law_right" sLRight f cdv A outer s Hc Ex) (forB stF) D σ H := by
  let XX := dcx S NR "_law_right" sLRight f cdv A outer s Hc Ex
  obtain ⟨h1, h2, h3⟩ := h
  have sz : ∀ {n : Nat}, n ≤ 1000 → n < sizeLine := fun h => sz1000 h
  refine ⟨tSeq (tIfS (rdT XX _) (rdB XX _) (rdB XX [])) (tDrop (tBM S.K "list" rAppend (tVar 14) (tCons (tC .non) tNil))), fun i => pss_cons (ps_if (pt_rd i) (pb_rd i) (pb_rd i)) (pss_one (ps_expr (pe_bm PySem.F.plainAttrs_list PySem.F.slot_list_append PySem.F.type_list_append mt_append (pv 14) (pa_cons pe_non pa_nil rfl) rfl rfl rfl rfl rfl) rfl)), ?_⟩
  -- the second append
  have last : ∀ (H2 : Hp) (xs : List V), H2 t = some (.lst xs) → xs.length ≤ 1000 → ∀ Q : L2.St → Hp → Prop, Q σ (upd H2 t (.lst (xs ++ [.non]))) → (tDrop (tBM S.K "list" rAppend (tVar 14) (tCons (tC .non) tNil))) { D with nx := Q } σ H2 := fun H2 xs e z Q q => ⟨_, hσ, .inl ⟨rfl, _, SqL.of e⟩, t, xs, .non, rfl, rfl, e, sz z, q⟩
  by_cases hv : vs = []
  · subst hv
    refine ⟨tTest (tOp (rNeG DFlat) (tVar 14) (tLst tNil)), fun i => pt_cmpR (op_neG mon_flat (eqG_flat (X := XX i)) ((F.room i).mono hk)) (pv 14) (pe_lst pa_nil) rfl, ?_⟩
    refine ⟨_, hσ, by exact Nat.zero_le _, fun p hp => ?_⟩
    have sm : ∀ a o, H a = some o → upd H p (.lst []) a = some o := fun a o e => by rw [upd_ne (ne_of_none e hp)]; exact e
    refine ⟨⟨t, p, [], [], rfl, rfl, sm _ _ h1, upd_same, Prs.nil⟩, fun H' ex => ⟨false, rfl, ?_⟩⟩
    dsimp only
    rw [if_neg Bool.false_ne_true]
    refine ⟨tNext, fun i => pss_nil, ?_⟩
    have e1 : H' t = some (.lst []) := ex _ _ (sm _ _ h1)
    refine last H' [] e1 (by exact Nat.zero_le _) _ (kk _ (fun a o e na _ => ?_) (fun a ha => ?_) (by rw [upd_same]) fun z => absurd rfl z)
    · rw [upd_ne na]; exact ex _ _ (sm _ _ e)
    · refine dom_upd ?_
      cases e : H a with
      | none => exact absurd e ha
      | some o => rw [ex _ _ (sm _ _ e)]; exact fun z => nomatch z
  · obtain ⟨hr, hh, hw, hz⟩ := h3 hv
    refine ⟨tTest (tOp rNeLen (tVar 14) (tLst tNil)), fun i => pt_cmpR (op_neLen ((F.room i).mono hk)) (pv 14) (pe_lst pa_nil) rfl, ?_⟩
    refine ⟨_, hσ, by exact Nat.zero_le _, fun p hp => ?_⟩
    have sm : ∀ a o, H a = some o → upd H p (.lst []) a = some o := fun a o e => by rw [upd_ne (ne_of_none e hp)]; exact e
    refine ⟨t, p, vs, [], rfl, rfl, sm _ _ h1, upd_same, fun z => hv (List.length_eq_zero_iff.mp z), true, rfl, ?_⟩
    dsimp only
    rw [if_pos rfl]
    refine ⟨tDrop (tBM S.K "list" rAppend (tOp (rIxL S.K) (tVar 14) (tC (.int 0))) (tCons (tC .non) tNil)), fun i => pss_one (ps_expr (pe_bm PySem.F.plainAttrs_list PySem.F.slot_list_append PySem.F.type_list_append mt_append (pe_ix ix_list (pv 14) pe_int (fun _ _ => rfl)) (pa_cons pe_non pa_nil rfl) rfl rfl rfl rfl rfl) rfl), ?_⟩
    have hat : atI vs 0 = some (.ref r) := by
      cases vs with
      | nil => exact absurd rfl hv
      | cons v rest =>
        simp at hh
        subst hh
        exact atI_pos (p := 0) rfl
    refine ⟨_, hσ, t, vs, 0, .ref r, rfl, rfl, SqL.of (sm _ _ h1), hat, .inl ⟨rfl, _, SqL.of (sm _ _ hw)⟩, r, ws, .non, rfl, rfl, sm _ _ hw, sz hz, ?_⟩
    have e1 : upd (upd H p (.lst [])) r (.lst (ws ++ [.non])) t = some (.lst vs) := by rw [upd_ne (Ne.symm hr)]; exact sm _ _ h1
    refine last _ vs e1 h2 _ (kk _ (fun a o e na nr => ?_) (fun a ha => ?_) (by rw [upd_same]) fun _ => ?_)
    · rw [upd_ne na, upd_ne (nr hv)]; exact sm _ _ e
    · refine dom_upd (dom_upd (dom_upd ha))
    · rw [upd_ne hr, upd_same]
theorem last_loop (F : Fam S NR k (dcx S NR "_law_right" sLRight f cdv A outer s Hc Ex)) (hk : 1 ≤ k) {σ : L2.St} {H : Hp} {td t0 t1 r0 r1 : Addr} {v0 w0 v1 w1 : List V} {D : Ends} (hσ : σ[9]? = some (some (.ref td))) (hl : 14 < σ.length) (ht : H td = some (.lst [.ref t0, .ref t1])) (l0 : Lof H t0 v0 r0 w0) (l1 : Lof H t1 v1 r1 w1)
    (n0 : td ≠ t0) (n1 : v0 ≠ [] → td ≠ r0) (n2 : v0 ≠ [] → t1 ≠ r0) (n3 : t1 = t0 → v0 ≠ []) (n4 : v1 ≠ [] → r1 ≠ t0) (hz : v0.length ≤ 900 ∧ v1.length ≤ 900 ∧ w0.length ≤ 900 ∧ w1.length ≤ 900) (n5 : td ≠ t1) (n6 : v1 ≠ [] → td ≠ r1)
    (kk : ∀ σ' H', (∀ a o, H a = some o → a ≠ t0 → a ≠ t1 → (v0 ≠ [] → a ≠ r0) → (v1 ≠ [] → a ≠ r1) → H' a = some o) → (∀ a, H a ≠ none → H' a ≠ none) → (∀ j, j ≠ 14 → σ'[j]? = σ[j]?) → σ'.length = σ.length → D.nx σ' H') :
    rdS (dcx S NR "_law_right" sLRight f cdv A outer s Hc Ex) stF D σ H := by
  let XX := dcx S NR "_law_right" sLRight f cdv A outer s Hc Ex
  refine ⟨tFor (iSeq S.K (tVar 9)) (gName 14) (rdB XX (forB stF)), fun i => ps_for PassesOwn.never (F.calm i) (pi_seq (pv 9)) (pg_name F.nd rfl (Or.inl rfl) (Or.inr rfl)) (pb_rd i) (fun _ => rfl), ?_⟩
  refine ⟨_, hσ, td, rfl, .inl ⟨⟨_, SqL.of ht⟩, ?_⟩⟩
  let Fr : Hp → Prop := fun H' => (∀ a o, H a = some o → a ≠ t0 → a ≠ t1 → (v0 ≠ [] → a ≠ r0) → (v1 ≠ [] → a ≠ r1) → H' a = some o) ∧ (∀ a, H a ≠ none → H' a ≠ none)
  let I : Nat → L2.St → Hp → Prop := fun i σ' H' => Fr H' ∧ (∀ j, j ≠ 14 → σ'[j]? = σ[j]?) ∧ σ'.length = σ.length ∧ H' td = some (.lst [.ref t0, .ref t1]) ∧ (i = 0 → H' = H) ∧ (i = 1 → ∃ v1' w1', Lof H' t1 v1' r1 w1' ∧ (v1' ≠ [] → v1 ≠ [] ∨ False)) 
  have frs : ∀ {H1 H2 : Hp} {t r : Addr} {vs : List V}, Fr H1 → (t = t0 ∧ (vs ≠ [] → v0 ≠ [] ∧ r = r0) ∨ t = t1 ∧ (vs ≠ [] → v1 ≠ [] ∧ r = r1)) → (∀ a o, H1 a = some o → a ≠ t → (vs ≠ [] → a ≠ r) → H2 a = some o) → (∀ a, H1 a ≠ none → H2 a ≠ none) → Fr H2 := by
    intro H1 H2 t r vs fr ht hk hd
    refine ⟨fun a o e a0 a1 a2 a3 => hk a o (fr.1 a o e a0 a1 a2 a3) ?_ fun hv => ?_, fun a ha => hd a (fr.2 a ha)⟩
    · rcases ht with ⟨rfl, _⟩ | ⟨rfl, _⟩
      · exact a0
      · exact a1
    · rcases ht with ⟨_, h⟩ | ⟨_, h⟩
      · obtain ⟨q1, q2⟩ := h hv; rw [q2]; exact a2 q1
      · obtain ⟨q1, q2⟩ := h hv; rw [q2]; exact a3 q1
  refine ⟨fun i mm σ' H' => mm = 2 - i ∧ i ≤ 2 ∧ I i σ' H', ⟨2, rfl, by decide, ⟨fun a o e _ _ _ _ => e, fun a h => h⟩, fun _ _ => rfl, rfl, ht, fun _ => rfl, fun z => absurd z (by decide)⟩, ?_⟩
  rintro i mm σ' H' ⟨rfl, hi, fr, hs, hsl, htd, h0, h1⟩
  have set14 : ∀ (u : Option V) (j : Nat), j ≠ 14 → (σ'.set 14 u)[j]? = σ[j]? := fun u j hj => by rw [List.getElem?_set_ne (Ne.symm hj)]; exact hs j hj
  match i, hi with
  | 0, _ =>
    have e := h0 rfl
    subst e
    refine .inr ⟨⟨_, _, SqL.of htd, rfl⟩, I 1, fun σ2 H2 q => ⟨1, by decide, rfl, by decide, q⟩, fun x H2 y => ?_⟩
    obtain ⟨rfl, y⟩ := y
    have ex := y _ (SqL.of htd)
    cases ex
    refine some_body F hk (by rw [List.getElem?_set_self (by omega)]) l0 fun H3 k1 k2 k3 k4 => ?_
    refine ⟨frs fr (.inl ⟨rfl, fun z => ⟨z, rfl⟩⟩) k1 k2, set14 _, by rw [List.length_set]; exact hsl, k1 td _ htd n0 n1, fun z => absurd z (by decide), fun _ => ?_⟩
    obtain ⟨a1, a2, a3⟩ := l1
    have row : v1 ≠ [] → ∃ ws', H3 r1 = some (.lst ws') ∧ ws'.length ≤ 1000 := fun hv => by
      obtain ⟨b1, b2, b3, b4⟩ := a3 hv
      by_cases z : v0 ≠ [] ∧ r1 = r0
      · obtain ⟨z1, z2⟩ := z
        rw [z2]
        refine ⟨_, k4 z1, ?_⟩
        rw [List.length_append]
        have := hz.2.2.1
        show _ + 1 ≤ 1000
        omega
      · exact ⟨w1, k1 r1 _ b3 (n4 hv) fun q1 q2 => z ⟨q1, q2⟩, b4⟩
    by_cases z : t1 = t0
    · subst z
      have e1 : v1 = v0 := by
        have := l0.1
        rw [a1] at this
        cases this; rfl
      have hv0 := n3 rfl
      have hv1 : v1 ≠ [] := by rw [e1]; exact hv0
      obtain ⟨ws', q1, q2⟩ := row hv1
      obtain ⟨b1, b2, b3, b4⟩ := a3 hv1
      refine ⟨v0 ++ [.non], ws', ⟨k3, by rw [List.length_append]; have := hz.1; show _ + 1 ≤ 1000; omega, fun _ => ⟨b1, ?_, q1, q2⟩⟩, fun _ => .inl hv1⟩
      rw [e1] at b2
      cases v0 with
      | nil => exact absurd rfl hv0
      | cons a b => exact b2
    · have e1 : H3 t1 = some (.lst v1) := k1 t1 _ a1 z n2
      by_cases hv : v1 = []
      · exact ⟨v1, w1, ⟨e1, a2, fun q => absurd hv q⟩, fun q => absurd hv q⟩
      · obtain ⟨ws', q1, q2⟩ := row hv
        obtain ⟨b1, b2, b3, b4⟩ := a3 hv
        exact ⟨v1, ws', ⟨e1, a2, fun _ => ⟨b1, b2, q1, q2⟩⟩, fun _ => .inl hv⟩
  | 1, _ =>
    obtain ⟨v1', w1', l1', hne⟩ := h1 rfl
    refine .inr ⟨⟨_, _, SqL.of htd, rfl⟩, I 2, fun σ2 H2 q => ⟨0, by decide, rfl, by decide, q⟩, fun x H2 y => ?_⟩
    obtain ⟨rfl, y⟩ := y
    have ex := y _ (SqL.of htd)
    cases ex
    refine some_body F hk (by rw [List.getElem?_set_self (by omega)]) l1' fun H3 k1 k2 k3 k4 => ?_
    exact ⟨frs fr (.inr ⟨rfl, fun z => ⟨(hne z).elim id False.elim, rfl⟩⟩) k1 k2, set14 _, by rw [List.length_set]; exact hsl, k1 td _ htd n5 fun z => n6 ((hne z).elim id False.elim), fun z => absurd z (by decide), fun z => absurd z (by decide)⟩
  | 2, _ => exact .inl ⟨⟨_, SqL.of htd, by exact Nat.le_refl _⟩, kk σ' H' fr.1 fr.2 hs hsl⟩
end
end TW
set_option Elab.async false
set_option linter.all false
set_option maxRecDepth 100000
set_option maxHeartbeats 4000000
set_option exponentiation.threshold 100000
/-! Lr4: the walk of _law_right. -/
namespace TW
open PySem L2
/-- what _law_right calls -/
structure Cs (S : Stat) (CR CH : Addr) : Prop where
  comm : Dn S CR CH "_law_commuting" ["_law_pot_here"] 5 rComm
  turned : Dn S CR CH "_law_turned" ["_law_pot_here", "_law_size", "_law_tables"] 3 rTurned
  house : Dn S CR CH "_law_house" ["_law_pot_here", "_law_letters"] 10 rLHouse
  given : Dn S CR CH "_law_given" ["_law_pot_here", "_law_rows"] 6 rGiven
  told : Dn S CR CH "_law_told" ["_law_own"] 5 (pureR rLTold)
  lnou : Dn S CR CH "_law_noughts" ["_law_table", "_law_size"] 5 (pureR rLNoughts)
  lsteps : Dn S CR CH "_law_steps" ["_law_rows"] 4 (pureR rLSteps)
  nou : Dn S CR CH "noughts" ["house", "table"] 9 (pureR rNoughts)
  ima : Dn S CR CH "images" ["house", "table"] 9 (pureR rImages)
  nouK : DnK S CR CH "noughts" 9 (pureR rNoughts)
  imaK : DnK S CR CH "images" 9 (pureR rImages)
  isroom : Dn S CR CH "is_room" ["house", "value"] 11 (pureR rIsRoom)
  times : Dn S CR CH "_law_times" ["_law_table", "_law_other"] 3 (pureR rLTimes)
  sum : Dn S CR CH "sum_room" ["house", "room", "other"] 12 (pureR rSumRoom)
  meet : Dn S CR CH "meet_room" ["house", "room", "other"] 12 (pureR rMeetRoom)
  rrepr : Me S CR CH CR "__repr__" ["self"] 2 (pureR rRRepr)
  hrepr : Hr S CR CH
  eqq : Me S CR CH CR "__eq__" ["self", "other"] 1 (pureR rEqq)
theorem turnsP_len (n : Nat) : ∀ (k : Nat) (x : Tri), (turnsP n k x).1.length = x.1.length
  | 0, _ => rfl
  | k + 1, x => by
    show ((turnsP n k x).1.map _).length = _
    rw [List.length_map, turnsP_len n k x]
theorem tuC_len (c : Pot) : (tuC c).1.length = (cmC c).ls.length + 1 := by
  unfold tuC turnedP
  rw [turnsP_len]
  simp
theorem cut_last {α : Type} (xs : List α) (h : xs ≠ []) : cutL xs none (some (-1)) = xs.dropLast := by
  unfold cutL
  rw [HT.sIx_none]
  have hl : 0 < xs.length := List.length_pos_iff.mpr h
  have e : HT.sIx xs.length xs.length (some (-1)) = xs.length - 1 := by
    unfold HT.sIx
    simp
    omega
  rw [e, List.drop_zero, Nat.sub_zero, List.dropLast_eq_take]
theorem at_last {α : Type} (xs : List α) (d : α) (h : xs ≠ []) : atI xs (-1) = some (xs.getLastD d) := by
  have hl : 0 < xs.length := List.length_pos_iff.mpr h
  unfold atI ixN
  have e : xs.getLastD d = xs.getLast h := by
    cases xs with
    | nil => exact absurd rfl h
    | cons x xs => simp [List.getLastD, List.getLast?_eq_getLast]
  rw [e]
  rw [if_neg (by decide), if_pos (by omega)]
  show xs[((-1 : Int) + (xs.length : Int)).toNat]? = _
  have e2 : ((-1 : Int) + (xs.length : Int)).toNat = xs.length - 1 := by omega
  rw [e2, List.getLast_eq_getElem]
  exact List.getElem?_eq_getElem (by omega)
section
variable {S : Stat} {CR CH : Addr}
/-- statements 0 to 4, then what is left -/
theorem right_a {k : Nat} {f : Addr} {cdv : Value} {A : Around} {outer : List Env} {s : Shared} {H : Hp} {E : XK} (m : Pm) (C : Cs S m.CR m.CH) (kf : KF S m.CR m.CH) (F : Fam S NR k (dcx S NR "_law_right" sLRight f cdv A outer s H E)) (hk : 33 ≤ k) {c : Pot} (ok : RightOk c) {o : Out}
    (rest : BJ m (dcx S NR "_law_right" sLRight f cdv A outer s H E) ((defBody sLRight).drop 5) [Sl.val .pot, Sl.val (.int (nC c : Nat)), Sl.val (tIII (LC c)), Sl.val (tII (TC c)), Sl.val (tIII (tuC c).1), Sl.val (tH (lsC c) (nC c)), Sl.val (gC c).1.t, Sl.val (.lst [tRR (KC c), tRR (IC c)]), Sl.un, Sl.un, Sl.un, Sl.un, Sl.un, Sl.un, Sl.un] (gC c).2 o) :
    BJ m (dcx S NR "_law_right" sLRight f cdv A outer s H E) (defBody sLRight) (startE NR [.pot]) c o := by
  have hne : (tuC c).1 ≠ [] := fun z => by have := tuC_len c; rw [z] at this; simp at this
  have hnem : ((tuC c).1.map tII) ≠ [] := fun z => hne (List.map_eq_nil_iff.mp z)
  refine b_cons (s_asg F (e_call F C.comm (a_cons (e_var F 0) a_nil) ⟨rfl, rfl, rfl⟩ (by omega)) (g_tup3 F (g_name F 1) (g_name F 2) (g_name F 3)) ?_)
    (b_cons (s_set F 4 (e_ixT F (e_call F C.turned (a_cons (e_var F 0) (a_cons (e_var F 1) (a_cons (EJ.to (e_cat (e_var F 2) (e_lst (a_cons (e_var F 3) a_nil)) (cons_sz ?_)) (catM tII _ [(cmC c).tb])) a_nil))) ⟨nC c, _, rfl, rfl, rfl, ok.tu⟩ (by omega)) e_int rfl))
    (b_cons (s_par F 2 3 (EJ.to (e_slL F (e_var F 4) o_none (o_some (e_neg e_int))) (t' := tIII (LC c)) ?_) (e_ixL F (e_var F 4) (e_neg e_int) (t := tII (TC c)) ?_))
    (b_cons (s_par F 5 6 (e_call F C.house (a_cons (e_var F 0) (a_cons (e_var F 2) a_nil)) ⟨LC c, nC c, rfl, rfl, rfl, ok.lo, ok.lw⟩ (by omega)) (e_call F C.given (a_cons (e_var F 0) (a_cons (e_var F 3) a_nil)) ⟨TC c, rfl, rfl, rfl, ?_, ?_⟩ (by omega)))
    (b_cons (s_set F 7 (e_lst (a_cons (e_call F C.told (a_cons (e_call F C.lnou (a_cons (e_var F 3) (a_cons (e_var F 1) a_nil)) ⟨rfl, TC c, nC c, rfl, rfl, ok.no⟩ (by omega)) a_nil) ⟨rfl, _, rfl, rfl, ok.nt⟩ (by omega)) (a_cons (e_call F C.told (a_cons (e_call F C.lsteps (a_cons (e_var F 3) a_nil) ⟨rfl, TC c, rfl, rfl, ok.sf⟩ (by omega)) a_nil) ⟨rfl, _, rfl, rfl, ok.st⟩ (by omega)) a_nil))))
    rest))))
  · intro j ts q
    obtain ⟨q1, h1⟩ := own_set j ts q
    obtain ⟨q2, h2⟩ := own_set j ts q1
    obtain ⟨q3, h3⟩ := own_set j ts q2
    refine ⟨q3, ?_⟩
    simp only [List.mem_singleton, List.mem_append, not_or] at h1 h2 h3 ⊢
    exact ⟨h3, h2, h1⟩
  · have := ok.tu.l
    rw [List.length_append] at this
    rw [List.length_map]
    show _ + 1 ≤ _
    have : ((cmC c).ls).length + 1 ≤ 500 := this
    exact Nat.le_trans this (by decide)
  · show T.lst (cutL ((tuC c).1.map tII) none (some (-1))) = _
    rw [cut_last _ hnem, LC, tIII, List.map_dropLast]
  · show atI ((tuC c).1.map tII) (-1) = _
    rw [at_last _ (tII []) hnem, TC]
    congr 1
    have key : ∀ (l : List (List (List Int))), (l.map tII).getLastD (tII []) = tII (l.getLastD []) := fun l => by
      rw [List.getLastD_eq_getLast?, List.getLastD_eq_getLast?, List.getLast?_map]
      cases l.getLast? <;> rfl
    exact key _
  · have := ok.n4
    rw [ok.tw.1]; omega
  · intro r hr
    have := ok.n4
    rw [(ok.tw.2 r hr).1]; omega
end
end TW
set_option Elab.async false
set_option linter.all false
set_option maxRecDepth 100000
set_option maxHeartbeats 4000000
set_option exponentiation.threshold 100000
/-! Lr5: the middle of _law_right. -/
namespace TW
open PySem L2
theorem sqG_t (c : Pot) : (sqG c).t = tII (times (TC c) (TC c)) := by
  show T.lst ((((times (TC c) (TC c)).map fun r => (⟨false, r.map Num.i⟩ : GRow))).map GRow.t) = _
  rw [List.map_map]
  congr 1
  apply List.map_congr_left
  intro r _
  show T.lst ((r.map Num.i).map Num.t) = _
  rw [List.map_map]
  rfl
theorem rep_two {m : Pm} {a b a' b' : T} {v : V} {B : Hp} (h1 : ∀ v, Rep m a v B → Rep m a' v B) (h2 : ∀ v, Rep m b v B → Rep m b' v B) (h : Rep m (.lst [a, b]) v B) : Rep m (.lst [a', b']) v B := by
  obtain ⟨p, vs, e, g1, g2⟩ := rep_lst.mp h
  obtain ⟨v1, r1, rfl, i1, i2⟩ := repL_cons.mp g2
  obtain ⟨v2, r2, rfl, j1, j2⟩ := repL_cons.mp i2
  exact rep_lst.mpr ⟨p, _, e, g1, repL_cons.mpr ⟨_, _, rfl, h1 _ i1, repL_cons.mpr ⟨_, _, rfl, h2 _ j1, j2⟩⟩⟩
theorem rep_NN2 {m : Pm} {K I : List (List Rat)} {v : V} {B : Hp} (h : Rep m (.lst [tNN K, tNN I]) v B) : Rep m (.lst [tRR K, tRR I]) v B := rep_two (fun _ => rep_NN) (fun _ => rep_NN) h
abbrev env7 (c : Pot) (a5 a6 a7 : Addr) (S1 : Str) : TEnv := [Sl.val .pot, Sl.val (.int (nC c : Nat)), Sl.un, Sl.val (tII (TC c)), Sl.un, Sl.val (.at a5 (tH (lsC c) (nC c))), Sl.val (.at a6 (gC c).1.t), Sl.val (.at a7 (.lst [tRR (KC c), tRR (IC c)])), Sl.val (.str S1), Sl.val (.lst [tNN (KC c), tNN (IC c)]), Sl.un, Sl.un, Sl.un, Sl.un, Sl.un]
abbrev env12 (c : Pot) (a5 a6 a7 : Addr) (S1 : Str) : TEnv := [Sl.val .pot, Sl.val (.int (nC c : Nat)), Sl.un, Sl.val (tII (TC c)), Sl.un, Sl.val (.at a5 (tH (lsC c) (nC c))), Sl.val (.at a6 (gC c).1.t), Sl.val (.at a7 (.lst [tRR (KC c), tRR (IC c)])), Sl.val (.str S1), Sl.val (.lst [tNN (KC c), tNN (IC c)]), Sl.val (.lst [tRR (KC c), tRR (IC c)]), Sl.val (tII (times (TC c) (TC c))), Sl.val (tRR (K2 c)), Sl.val (tRR (I2 c)), Sl.un]
section
variable {S : Stat} {CR CH : Addr}
theorem fuTwo (K I : List (List Rat)) : fuL [tRR K, tRR I] ≤ 18 := by
  have h1 := fu_tRR K
  have h2 := fu_tRR I
  simp only [fuL]; omega
theorem ndTwo (K I : List (List Rat)) : ndL [tRR K, tRR I] + 2 ≤ 33 := by
  have h1 := nd_tRR K
  have h2 := nd_tRR I
  simp only [ndL]; omega
theorem fuHG (ls : List (List (List Rat))) (n : Nat) (g : GTab) : fuL [tH ls n, g.t] ≤ 18 := by
  have h1 := fu_tH ls n
  have h2 := fu_gt g
  simp only [fuL]; omega
theorem ndHG (ls : List (List (List Rat))) (n : Nat) (g : GTab) : ndL [tH ls n, g.t] + 2 ≤ 33 := by
  have h2 := nd_gt g
  have h1 : nd (tH ls n) = 30 := by simp only [nd]
  simp only [ndL, h1]; omega
theorem right_b {k : Nat} {f : Addr} {cdv : Value} {A : Around} {outer : List Env} {s : Shared} {H : Hp} {E : XK} (m : Pm) (C : Cs S m.CR m.CH) (g : MG S) (F : Fam S NR k (dcx S NR "_law_right" sLRight f cdv A outer s H E)) (hk : 33 ≤ k) (hg : ∀ i, (dcx S NR "_law_right" sLRight f cdv A outer s H E i).A.guards = some []) {c : Pot} (ok : RightOk c) {cc : Pot} {a5 a6 a7 : Addr} {o : Out}
    (rest : BJ m (dcx S NR "_law_right" sLRight f cdv A outer s H E) ((defBody sLRight).drop 12) (env12 c a5 a6 a7 (txt (.lst [tH (lsC c) (nC c), (gC c).1.t]))) cc o) :
    BJ m (dcx S NR "_law_right" sLRight f cdv A outer s H E) ((defBody sLRight).drop 6) (env7 c a5 a6 a7 (txt (.lst [tH (lsC c) (nC c), (gC c).1.t]))) cc o := by
  have nou : ∀ c', pureR rNoughts c' [tH (lsC c) (nC c), (gC c).1.t] (tNN (KC c)) c' := fun c' => ⟨rfl, lsC c, nC c, (gC c).1, rfl, by rw [ok.ek], ok.gs, ok.n1, ok.n4, ok.cm, ok.kr⟩
  have ima : ∀ c', pureR rImages c' [tH (lsC c) (nC c), (gC c).1.t] (tNN (IC c)) c' := fun c' => ⟨rfl, lsC c, nC c, (gC c).1, rfl, by rw [ok.ei], ok.gs, ok.n1, ok.n4, ok.cm, ok.ir⟩
  have nou2 : ∀ c', pureR rNoughts c' [tH (lsC c) (nC c), (sqG c).t] (tNN (K2 c)) c' := fun c' => ⟨rfl, lsC c, nC c, sqG c, rfl, rfl, ok.qs, ok.n1, ok.n4, ok.qc, ok.qk⟩
  have ima2 : ∀ c', pureR rImages c' [tH (lsC c) (nC c), (sqG c).t] (tNN (I2 c)) c' := fun c' => ⟨rfl, lsC c, nC c, sqG c, rfl, rfl, ok.qs, ok.n1, ok.n4, ok.qc, ok.qi⟩
  rw [sqG_t] at nou2 ima2
  have n2 := Nat.le_trans (ndTwo (KC c) (IC c)) hk
  have f2 := fuTwo (KC c) (IC c)
  have n4 := ok.n4
  refine b_cons (s_set F 10 (e_lst (a_cons ((e_callK F C.nouK (e_var F 6).un (e_var F 5).un (nou _) (by omega)).weak fun v B => rep_NN) (a_cons ((e_callK F C.imaK (e_var F 6).un (e_var F 5).un (ima _) (by omega)).weak fun v B => rep_NN) a_nil))))
    (b_cons (s_ifF (WJ.t (w_orF (t_neS (e_repr F C.rrepr C.hrepr hg g.repr_ ((e_var F 9).weak fun v B => rep_NN2) ok.s2 f2 n2 ok.z2) (e_repr F C.rrepr C.hrepr hg g.repr_ (e_var F 7).un ok.s2 f2 n2 ok.z2) (by simp)) (w_orF (t_neS (e_repr F C.rrepr C.hrepr hg g.repr_ (e_var F 10) ok.s2 f2 n2 ok.z2) (e_repr F C.rrepr C.hrepr hg g.repr_ (e_var F 7).un ok.s2 f2 n2 ok.z2) (by simp)) (w_or1 (t_neS (e_repr F C.rrepr C.hrepr hg g.repr_ (e_lst (a_cons (e_var F 5).un (a_cons (e_var F 6).un a_nil))) ok.s1 (fuHG _ _ _) (Nat.le_trans (ndHG _ _ _) hk) ok.z1) (e_var F 8) (by simp)))))) b_nil)
    (b_cons (s_ifF (WJ.t (w_orF (t_not (t_val (e_call F C.isroom (a_cons (e_var F 5).un (a_cons (e_ixL F ((e_var F 9).weak fun v B => rep_NN2) e_int (atI_pos (p := 0) (x := tRR (KC c)) rfl)) a_nil)) ⟨rfl, lsC c, nC c, KC c, rfl, rfl, ok.rk⟩ (by omega)))) (w_orF (t_not (t_val (e_call F C.isroom (a_cons (e_var F 5).un (a_cons (e_ixL F ((e_var F 9).weak fun v B => rep_NN2) e_int (atI_pos (p := 1) (x := tRR (IC c)) rfl)) a_nil)) ⟨rfl, lsC c, nC c, IC c, rfl, rfl, ok.ri⟩ (by omega)))) (w_or1 (t_neI (e_add (e_len F g.len_ (e_ixL F ((e_var F 9).weak fun v B => rep_NN2) e_int (atI_pos (p := 0) (x := tRR (KC c)) rfl)) rfl) (e_len F g.len_ (e_ixL F ((e_var F 9).weak fun v B => rep_NN2) e_int (atI_pos (p := 1) (x := tRR (IC c)) rfl)) rfl)) (e_var F 1) ?_))))) b_nil)
    (b_cons (s_set F 11 (e_call F C.times (a_cons (e_var F 3) (a_cons (e_var F 3) a_nil)) ⟨rfl, TC c, TC c, rfl, rfl, ?_, ?_, ?_, ?_⟩ (by omega)))
    (b_cons (s_par F 12 13 ((e_call F C.nou (a_cons (e_var F 5).un (a_cons (e_var F 11) a_nil)) (nou2 _) (by omega)).weak fun v B => rep_NN) ((e_call F C.ima (a_cons (e_var F 5).un (a_cons (e_var F 11) a_nil)) (ima2 _) (by omega)).weak fun v B => rep_NN))
    (b_cons (s_ifF (WJ.t (w_orF (t_neTab F C.eqq (EJ.to ((e_call F C.sum (a_cons (e_var F 5).un (a_cons (e_var F 12) (a_cons (e_ixL F ((e_var F 9).weak fun v B => rep_NN2) e_int (atI_pos (p := 0) (x := tRR (KC c)) rfl)) a_nil))) ⟨rfl, lsC c, nC c, K2 c, KC c, rfl, rfl, ok.r2, ok.rk, ok.sm⟩ (by omega)).weak fun v B => rep_NN) (by rw [ok.es])) (e_var F 12) (by omega)) (w_or1 (t_neTab F C.eqq (EJ.to ((e_call F C.meet (a_cons (e_var F 5).un (a_cons (e_ixL F ((e_var F 9).weak fun v B => rep_NN2) e_int (atI_pos (p := 1) (x := tRR (IC c)) rfl)) (a_cons (e_var F 13) a_nil))) ⟨rfl, lsC c, nC c, IC c, I2 c, rfl, rfl, ok.ri, ok.j2, ok.k1, ok.k2, ok.k3⟩ (by omega)).weak fun v B => rep_NN) (by rw [ok.em])) (e_var F 13) (by omega))))) b_nil)
    rest)))))
  · have := ok.kn
    simp only [List.length_map]
    simp
    omega
  · rw [ok.tw.1]; omega
  · exact fun r hr => ⟨by rw [(ok.tw.2 r hr).1]; omega, (ok.tw.2 r hr).2⟩
  · rw [ok.tw.1]; omega
  · exact fun r hr => ⟨by rw [(ok.tw.2 r hr).1, ok.tw.1], (ok.tw.2 r hr).2⟩
end
end TW
set_option Elab.async false
set_option linter.all false
set_option maxRecDepth 100000
set_option maxHeartbeats 4000000
set_option exponentiation.threshold 100000
/-! Lr6: _law_right whole. -/
namespace TW
open PySem L2
theorem tab_facts {m : Pm} {B : Hp} {K : List (List Rat)} {w : V} (h : Rep m (tNN K) w B) (hk : K.length ≤ 500) (hr : ∀ r ∈ K, 1 ≤ r.length ∧ r.length ≤ 500) : ∃ (t r : Addr) (vs ws : List V), w = .ref t ∧ m.h0 t = none ∧ B t = some (.lst vs) ∧ vs.length = K.length ∧ ws.length ≤ 500 ∧
    (vs ≠ [] → m.h0 r = none ∧ vs.head? = some (.ref r) ∧ B r = some (.lst ws) ∧ ∃ q C dx fs, ws.head? = some (.ref q) ∧ B q = some (.ins C dx fs)) := by
  obtain ⟨h1, a, rfl, h2⟩ := rep_new.mp h
  obtain ⟨b, vs, e, h3, h4⟩ := rep_lst.mp h1
  cases e
  have hl : vs.length = K.length := by rw [h4.length, List.length_map]
  cases K with
  | nil =>
    have : vs = [] := List.length_eq_zero_iff.mp hl
    subst this
    exact ⟨a, a, [], [], rfl, h2, h3, rfl, Nat.zero_le _, fun z => absurd rfl z⟩
  | cons r K =>
    obtain ⟨v, vr, rfl, g1, g2⟩ := repL_cons.mp h4
    obtain ⟨g3, r0, rfl, g4⟩ := rep_new.mp g1
    obtain ⟨b, ws, e, g5, g6⟩ := rep_lst.mp g3
    cases e
    obtain ⟨l1, l2⟩ := hr r List.mem_cons_self
    have lw : ws.length = r.length := by rw [g6.length, List.length_map]
    refine ⟨a, r0, _, ws, rfl, h2, h3, hl, by omega, fun _ => ⟨g4, rfl, g5, ?_⟩⟩
    cases r with
    | nil => exact absurd l1 (by decide)
    | cons q r =>
      obtain ⟨u, ur, rfl, k1, k2⟩ := repL_cons.mp g6
      obtain ⟨qa, dx, rfl, k3⟩ := rep_rat.mp k1
      exact ⟨qa, _, _, _, rfl, k3⟩
def spLR : List Code → Sp := fun g vs H Q _ => ∃ (p : Addr) (c : Pot), g = [] ∧ vs = [.ref p] ∧ H p = some (.lst [.int c.a, .int c.b]) ∧ RightOk c ∧ ∀ H', Q (.bl true) H'
section
variable {S : Stat} {CR CH : Addr}
theorem ok_right {f : Addr} {fd : FuncData} (Fd : FnS S "_law_right" sLRight f fd) (g : MG S) (kf : KF S CR CH) (C : Cs S CR CH) : FnG S.P S.w S.K S.mg S.base CX0 34 f fd ["_law_pot_here"] spLR := by
  refine fn_ofG (k := 33) Fd scLRight (fun g vs H Q E h => ?_) (fun cdv A gg outer s H vs Q E hgA hr h => ?_)
  · obtain ⟨p, c, _, rfl, _⟩ := h; rfl
  · obtain ⟨p, c, rfl, rfl, hp, ok, q⟩ := h
    let XX := dcx S NR "_law_right" sLRight f cdv A outer s H E
    have F : Fam S NR 33 XX := ⟨fun _ => rfl, fun _ => rfl, fun _ => rfl, fun _ => rfl, fun _ => rfl, fun _ => rfl, scLRight.nd, fun _ => rfl, fun _ => hr⟩
    have hgX : ∀ i, (XX i).A.guards = some [] := fun _ => hgA
    let m : Pm := ⟨CR, CH, some p, fun _ => none⟩
    have sit : Sit m c (fun _ => none) H := ⟨fun _ _ z => (nomatch z), fun _ z => absurd rfl z, fun q hq => by cases hq; exact ⟨rfl, hp⟩⟩
    have rl : RepL m [.pot] [.ref p] (fun _ => none) := repL_cons.mpr ⟨_, _, rfl, rep_pot.mpr ⟨p, rfl, rfl⟩, repL_nil.mpr rfl⟩
    refine ⟨rdB XX (defBody sLRight), PSs.nox (pb_rd (XX := XX) ()), ?_⟩
    have an0 : Anc m (fun _ => none) H (startE NR [.pot]) c (L2.start NR [.ref p]) (fun _ => none) H := ⟨sit, start_rep rl (by decide), Stp.refl _ _ _, fun i us a q1 _ => (start_own (m := m) i us q1).elim⟩
    refine right_a m C kf F (Nat.le_refl _) ok (o := .raw fun _ _ D => ∀ v H', v = .bl true → D.rt v H') ?_ (fun _ => none) H _ (fun _ => none) H an0 _ (fun v H' e => by subst e; exact q H')
    refine BJ.of (XX := XX) (ts := tSeq (tPar 8 9 (tCons (rdE XX _) (tCons (rdE XX _) tNil))) (rdB XX _)) (fun i => pss_cons (ps_par (F.calm i) F.nd rfl rfl (by decide) rfl rfl (pa_cons (pe_rd i) (pa_cons (pe_rd i) pa_nil rfl) rfl) rfl rfl) (pb_rd i)) ?_
    intro B0 H0 σ B H1 an D q0
    let m' : Pm := ⟨CR, CH, some p, H1⟩
    have hl : σ.length = 15 := by rw [← an.env.len]; rfl
    have sw : ∀ {t : T} {v : V}, NoNew t → Rep m t v B → Rep m' t v B := fun {t v} => rep_sw (m := m) (m' := m') rfl rfl rfl t v
    have sit' : Sit m' (gC c).2 B H1 := ⟨an.sit.sub, fun a h => h, an.sit.pot⟩
    obtain ⟨v5, y5, r5⟩ := an.env.val 5 _ rfl
    obtain ⟨v6, y6, r6⟩ := an.env.val 6 _ rfl
    obtain ⟨v7, y7, r7⟩ := an.env.val 7 _ rfl
    obtain ⟨v0, y0, r0⟩ := an.env.val 0 _ rfl
    obtain ⟨v1, y1, r1⟩ := an.env.val 1 _ rfl
    obtain ⟨v3, y3, r3⟩ := an.env.val 3 _ rfl
    have re' : RepE m' [Sl.val .pot, Sl.val (.int (nC c : Nat)), Sl.un, Sl.val (tII (TC c)), Sl.un, Sl.val (tH (lsC c) (nC c)), Sl.val (gC c).1.t, Sl.val (.lst [tRR (KC c), tRR (IC c)]), Sl.un, Sl.un, Sl.un, Sl.un, Sl.un, Sl.un, Sl.un] σ B H1 := by
      refine ⟨by rw [hl]; rfl, fun i t h => ?_, fun i ts h => ?_, fun i v h => ?_, fun i j ts us a _ h => ?_⟩
      · match i, h with
        | 0, h => cases h; exact ⟨v0, y0, sw (by simp only [NoNew]) r0⟩
        | 1, h => cases h; exact ⟨v1, y1, sw (by simp only [NoNew]) r1⟩
        | 3, h => cases h; exact ⟨v3, y3, sw (nn_tII _) r3⟩
        | 5, h => cases h; exact ⟨v5, y5, sw (nn_tH _ _) r5⟩
        | 6, h => cases h; exact ⟨v6, y6, sw (nn_gt _) r6⟩
        | 7, h => cases h; exact ⟨v7, y7, sw (nn_lst (by simp only [NoNewL]; exact ⟨nn_tRR _, nn_tRR _, trivial⟩)) r7⟩
        | i + 15, h => simp at h
      · have hm := List.mem_of_getElem? h
        simp at hm
      · have hm := List.mem_of_getElem? h
        simp at hm
      · have hm := List.mem_of_getElem? h
        simp at hm
    have nou : ∀ c', pureR rNoughts c' [tH (lsC c) (nC c), (gC c).1.t] (tNN (KC c)) c' := fun c' => ⟨rfl, lsC c, nC c, (gC c).1, rfl, by rw [ok.ek], ok.gs, ok.n1, ok.n4, ok.cm, ok.kr⟩
    have ima : ∀ c', pureR rImages c' [tH (lsC c) (nC c), (gC c).1.t] (tNN (IC c)) c' := fun c' => ⟨rfl, lsC c, nC c, (gC c).1, rfl, by rw [ok.ei], ok.gs, ok.n1, ok.n4, ok.cm, ok.ir⟩
    refine (e_repr F C.rrepr C.hrepr hgX g.repr_ (e_lst (a_cons (e_var F 5) (a_cons (e_var F 6) a_nil))) ok.s1 (fuHG _ _ _) (ndHG _ _ _) ok.z1 : EJ m' XX _ [Sl.val .pot, Sl.val (.int (nC c : Nat)), Sl.un, Sl.val (tII (TC c)), Sl.un, Sl.val (tH (lsC c) (nC c)), Sl.val (gC c).1.t, Sl.val (.lst [tRR (KC c), tRR (IC c)]), Sl.un, Sl.un, Sl.un, Sl.un, Sl.un, Sl.un, Sl.un] (gC c).2 _ _) σ B H1 sit' re' _ fun vS B2 H2 s2 t2 rS => ?_
    refine (e_lst (a_cons (e_call F C.nou (a_cons (e_var F 5) (a_cons (e_var F 6) a_nil)) (nou _)) (a_cons (e_call F C.ima (a_cons (e_var F 5) (a_cons (e_var F 6) a_nil)) (ima _)) a_nil)) : EJ m' XX _ [Sl.val .pot, Sl.val (.int (nC c : Nat)), Sl.un, Sl.val (tII (TC c)), Sl.un, Sl.val (tH (lsC c) (nC c)), Sl.val (gC c).1.t, Sl.val (.lst [tRR (KC c), tRR (IC c)]), Sl.un, Sl.un, Sl.un, Sl.un, Sl.un, Sl.un, Sl.un] (gC c).2 _ _) σ B2 H2 s2 (re'.step t2) _ fun vT B3 H3 s3 t3 rT => ?_
    refine ⟨vS, vT, rfl, ?_⟩
    have sb3 : Same B B3 := t2.b.trans t3.b
    obtain ⟨a5, dx5, l5, rfl, _⟩ := rep_house.mp r5
    have h6 : ∃ a6, v6 = .ref a6 := by
      have : Rep m (seqT (gC c).1.b ((gC c).1.rows.map GRow.t)) v6 B := r6
      cases hb : (gC c).1.b with
      | true => rw [hb] at this; obtain ⟨a, _, e, _⟩ := rep_tup.mp this; exact ⟨a, e⟩
      | false => rw [hb] at this; obtain ⟨a, _, e, _⟩ := rep_lst.mp this; exact ⟨a, e⟩
    obtain ⟨a6, rfl⟩ := h6
    obtain ⟨a7, vs7, rfl, _⟩ := rep_lst.mp r7
    have q5 := sw (nn_tH _ _) r5
    have q6 := sw (nn_gt _) r6
    have q7 : Rep m' (.lst [tRR (KC c), tRR (IC c)]) (.ref a7) B := sw (nn_lst (by simp only [NoNewL]; exact ⟨nn_tRR _, nn_tRR _, trivial⟩)) r7
    have re7 : RepE m' (env7 c a5 a6 a7 (txt (.lst [tH (lsC c) (nC c), (gC c).1.t]))) ((σ.set 8 (some vS)).set 9 (some vT)) B3 H3 := by
      refine ⟨by simp [hl], fun i t h => ?_, fun i ts h => ?_, fun i v h => ?_, fun i j ts us a _ h => ?_⟩
      · have ns : ∀ j, j ≠ 8 → j ≠ 9 → ((σ.set 8 (some vS)).set 9 (some vT))[j]? = σ[j]? := fun j h1 h2 => by rw [List.getElem?_set_ne (Ne.symm h2), List.getElem?_set_ne (Ne.symm h1)]
        match i, h with
        | 0, h => cases h; exact ⟨v0, by rw [ns 0 (by decide) (by decide)]; exact y0, (sw (by simp only [NoNew]) r0).mono sb3⟩
        | 1, h => cases h; exact ⟨v1, by rw [ns 1 (by decide) (by decide)]; exact y1, (sw (by simp only [NoNew]) r1).mono sb3⟩
        | 3, h => cases h; exact ⟨v3, by rw [ns 3 (by decide) (by decide)]; exact y3, (sw (nn_tII _) r3).mono sb3⟩
        | 5, h => cases h; exact ⟨.ref a5, by rw [ns 5 (by decide) (by decide)]; exact y5, rep_at.mpr ⟨rfl, q5.mono sb3⟩⟩
        | 6, h => cases h; exact ⟨.ref a6, by rw [ns 6 (by decide) (by decide)]; exact y6, rep_at.mpr ⟨rfl, q6.mono sb3⟩⟩
        | 7, h => cases h; exact ⟨.ref a7, by rw [ns 7 (by decide) (by decide)]; exact y7, rep_at.mpr ⟨rfl, q7.mono sb3⟩⟩
        | 8, h => cases h; exact ⟨vS, by rw [List.getElem?_set_ne (by decide), List.getElem?_set_self (by omega)], rS.mono t3.b⟩
        | 9, h => cases h; exact ⟨vT, by rw [List.getElem?_set_self (by simp [hl])], rT⟩
        | i + 15, h => simp at h
      · have hm := List.mem_of_getElem? h
        simp at hm
      · have hm := List.mem_of_getElem? h
        simp at hm
      · have hm := List.mem_of_getElem? h
        simp at hm
    refine right_b m' C g F (Nat.le_refl _) hgX ok (o := .raw fun B0' _ D => Same B3 B0' ∧ ∀ (v : V) (H' : Hp), v = V.bl true → D.rt v H') ?_ B3 H3 _ B3 H3 ⟨s3, re7, Stp.refl _ _ _, fun i ts a h => ?_⟩ _ ⟨Same.refl _, q0⟩
    rotate_left
    · have hm := List.mem_of_getElem? h
      simp at hm
    refine BJ.of (XX := XX) (ts := tSeq (rdS XX stF) (rdB XX _)) (fun i => pss_cons (ps_rd i) (pb_rd i)) ?_
    intro B0' H0' σ5 B5 H5 an5 D5 qq
    obtain ⟨sb0, q5e⟩ := qq
    have sb5 : Same B B5 := (sb3.trans sb0).trans an5.stp.b
    have hl5 : σ5.length = 15 := by rw [← an5.env.len]; rfl
    obtain ⟨v9, y9, r9⟩ := an5.env.val 9 _ rfl
    obtain ⟨td, vs9, rfl, etd, rl9⟩ := rep_lst.mp r9
    obtain ⟨w0, vr0, rfl, k0, krest⟩ := repL_cons.mp rl9
    obtain ⟨w1, vr1, rfl, k1, knil⟩ := repL_cons.mp krest
    rw [repL_nil] at knil
    subst knil
    have n1 := ok.n1
    have n4 := ok.n4
    have hK : ∀ r ∈ KC c, 1 ≤ r.length ∧ r.length ≤ 500 := fun r hr => by rw [ok.rk.w r hr]; omega
    have hI : ∀ r ∈ IC c, 1 ≤ r.length ∧ r.length ≤ 500 := fun r hr => by rw [ok.ri.w r hr]; omega
    have aK := ok.rk.a
    have aI := ok.ri.a
    obtain ⟨t0, ra0, u0, x0, rfl, f0, e0, len0, lx0, g0⟩ := tab_facts k0 (by omega) hK
    obtain ⟨t1', ra1, u1, x1, rfl, f1, e1, len1, lx1, g1⟩ := tab_facts k1 (by omega) hI
    have sub5 := an5.sit.sub
    have ne0 : u0 ≠ [] → ra0 ≠ t0 := fun hv z => by
      obtain ⟨_, a2, a3, q, C', dx, fs, a4, a5'⟩ := g0 hv
      rw [z, e0] at a3
      cases a3
      rw [a2] at a4
      cases a4
      rw [z, e0] at a5'
      cases a5'
    have ne1 : u1 ≠ [] → ra1 ≠ t1' := fun hv z => by
      obtain ⟨_, a2, a3, q, C', dx, fs, a4, a5'⟩ := g1 hv
      rw [z, e1] at a3
      cases a3
      rw [a2] at a4
      cases a4
      rw [z, e1] at a5'
      cases a5'
    have L0 : Lof H5 t0 u0 ra0 x0 := ⟨sub5 _ _ e0, by omega, fun hv => ⟨ne0 hv, (g0 hv).2.1, sub5 _ _ (g0 hv).2.2.1, by omega⟩⟩
    have L1 : Lof H5 t1' u1 ra1 x1 := ⟨sub5 _ _ e1, by omega, fun hv => ⟨ne1 hv, (g1 hv).2.1, sub5 _ _ (g1 hv).2.2.1, by omega⟩⟩
    have N4 : u1 ≠ [] → ra1 ≠ t0 := fun hv z => by
      obtain ⟨_, a2, a3, q, C', dx, fs, a4, a5'⟩ := g1 hv
      rw [z, e0] at a3
      cases a3
      have hv0 : u0 ≠ [] := fun e => by rw [e] at a4; cases a4
      obtain ⟨_, b2, b3, _⟩ := g0 hv0
      rw [b2] at a4
      cases a4
      rw [b3] at a5'
      cases a5'
    have N0 : td ≠ t0 := fun z => by
      have e := etd
      rw [z, e0] at e
      cases e
      have := (g0 (by simp)).2.1
      cases this
      exact ne0 (by simp) rfl
    have N5 : td ≠ t1' := fun z => by
      have e := etd
      rw [z, e1] at e
      cases e
      have := (g1 (by simp)).2.1
      cases this
      exact N4 (by simp) rfl
    have N1 : u0 ≠ [] → td ≠ ra0 := fun hv z => by
      obtain ⟨_, a2, a3, q, C', dx, fs, a4, a5'⟩ := g0 hv
      rw [← z, etd] at a3
      cases a3
      cases a4
      rw [e0] at a5'
      cases a5'
    have N6 : u1 ≠ [] → td ≠ ra1 := fun hv z => by
      obtain ⟨_, a2, a3, q, C', dx, fs, a4, a5'⟩ := g1 hv
      rw [← z, etd] at a3
      cases a3
      cases a4
      rw [e0] at a5'
      cases a5'
    have N2 : u0 ≠ [] → t1' ≠ ra0 := fun hv z => by
      obtain ⟨_, a2, a3, q, C', dx, fs, a4, a5'⟩ := g0 hv
      rw [← z, e1] at a3
      have hxe : u1 = x0 := by injection a3 with a3; injection a3
      rw [← hxe] at a4
      have hv1 : u1 ≠ [] := fun e => by rw [e] at a4; cases a4
      obtain ⟨_, b2, b3, _⟩ := g1 hv1
      rw [b2] at a4
      cases a4
      rw [b3] at a5'
      cases a5'
    have N3 : t1' = t0 → u0 ≠ [] := fun z e => by
      have h2 := e1
      rw [z, e0] at h2
      cases h2
      have := ok.kn
      rw [e] at len0 len1
      simp at len0 len1
      omega
    refine last_loop F (by decide) y9 (by omega) (sub5 _ _ etd) L0 L1 N0 N1 N2 N3 N4 ⟨by omega, by omega, by omega, by omega⟩ N5 N6 fun σ' H' c1 c2 c3 c4 => ?_
    have hn : ∀ {a : Addr} {o : HO}, H1 a = some o → a ≠ t0 ∧ a ≠ t1' ∧ (u0 ≠ [] → a ≠ ra0) ∧ (u1 ≠ [] → a ≠ ra1) := fun {a o} e => by
      refine ⟨fun z => ?_, fun z => ?_, fun hv z => ?_, fun hv z => ?_⟩
      · have : H1 t0 = none := f0
        rw [z, this] at e; cases e
      · have : H1 t1' = none := f1
        rw [z, this] at e; cases e
      · have : H1 ra0 = none := (g0 hv).1
        rw [z, this] at e; cases e
      · have : H1 ra1 = none := (g1 hv).1
        rw [z, this] at e; cases e
    have sitF : Sit m' (gC c).2 B H' := by
      refine ⟨fun a o e => ?_, fun a ha => c2 a (an5.sit.old a ha), fun q hq => ?_⟩
      · obtain ⟨d1, d2, d3, d4⟩ := hn (an.sit.sub a o e)
        exact c1 a o (sub5 _ _ (sb5 _ _ e)) d1 d2 d3 d4
      · refine ⟨(an.sit.pot q hq).1, ?_⟩
        obtain ⟨d1, d2, d3, d4⟩ := hn (an.sit.pot q hq).2
        exact c1 q _ (an5.sit.pot q hq).2 d1 d2 d3 d4
    have z5 : σ5[5]? = some (some (V.ref a5)) := by
      obtain ⟨v, e, r⟩ := an5.env.val 5 _ rfl
      rw [e, (rep_at.mp r).1]
    have z6 : σ5[6]? = some (some (V.ref a6)) := by
      obtain ⟨v, e, r⟩ := an5.env.val 6 _ rfl
      rw [e, (rep_at.mp r).1]
    have z7 : σ5[7]? = some (some (V.ref a7)) := by
      obtain ⟨v, e, r⟩ := an5.env.val 7 _ rfl
      rw [e, (rep_at.mp r).1]
    have hl' : σ'.length = 15 := by rw [c4]; exact hl5
    have reF : RepE m' [Sl.un, Sl.un, Sl.un, Sl.un, Sl.un, Sl.val (tH (lsC c) (nC c)), Sl.val (gC c).1.t, Sl.val (.lst [tRR (KC c), tRR (IC c)]), Sl.un, Sl.un, Sl.un, Sl.un, Sl.un, Sl.un, Sl.un] σ' B H' := by
      refine ⟨by rw [hl']; rfl, fun i t h => ?_, fun i ts h => ?_, fun i v h => ?_, fun i j ts us a _ h => ?_⟩
      · match i, h with
        | 5, h => cases h; exact ⟨_, by rw [c3 5 (by decide)]; exact z5, q5⟩
        | 6, h => cases h; exact ⟨_, by rw [c3 6 (by decide)]; exact z6, q6⟩
        | 7, h => cases h; exact ⟨_, by rw [c3 7 (by decide)]; exact z7, q7⟩
        | i + 15, h => simp at h
      · have hm := List.mem_of_getElem? h
        simp at hm
      · have hm := List.mem_of_getElem? h
        simp at hm
      · have hm := List.mem_of_getElem? h
        simp at hm
    refine ⟨tRet (rdE XX _), fun i => pss_one (ps_ret (pe_rd i)), ?_⟩
    refine (e_eqS (e_repr F C.rrepr C.hrepr hgX g.repr_ (e_lst (a_cons ((e_call F C.nou (a_cons (e_var F 5) (a_cons (e_var F 6) a_nil)) (nou _)).weak fun v B => rep_NN) (a_cons ((e_call F C.ima (a_cons (e_var F 5) (a_cons (e_var F 6) a_nil)) (ima _)).weak fun v B => rep_NN) a_nil))) ok.s2 (fuTwo _ _) (ndTwo _ _) ok.z2) (e_repr F C.rrepr C.hrepr hgX g.repr_ (e_var F 7) ok.s2 (fuTwo _ _) (ndTwo _ _) ok.z2) : EJ m' XX _ [Sl.un, Sl.un, Sl.un, Sl.un, Sl.un, Sl.val (tH (lsC c) (nC c)), Sl.val (gC c).1.t, Sl.val (.lst [tRR (KC c), tRR (IC c)]), Sl.un, Sl.un, Sl.un, Sl.un, Sl.un, Sl.un, Sl.un] (gC c).2 _ _) σ' B H' sitF reF _ fun v BF HF sF tF rF => ?_
    rw [rep_bl] at rF
    subst rF
    exact q5e _ _ (by simp)
end
end TW
set_option Elab.async false
set_option linter.all false
/-! M1: spans of rows, rows in steps (RR), their uniqueness. -/
namespace TW
abbrev Vc := Nat → Rat
def vi (r : List Int) : Vc := fun i => ((r.getD i 0 : Int) : Rat)
def vr (r : List Rat) : Vc := fun i => r.getD i 0
def Spn : List Vc → Vc → Prop
  | [], v => ∀ i, v i = 0
  | a :: A, v => ∃ c : Rat, Spn A (fun i => v i - c * a i)
theorem spn_ext {A : List Vc} {u v : Vc} (h : ∀ i, u i = v i) (s : Spn A u) : Spn A v := by
  have : u = v := funext h
  rw [← this]; exact s
theorem spn_zero : ∀ (A : List Vc) {v : Vc}, (∀ i, v i = 0) → Spn A v
  | [], _, h => h
  | a :: A, v, h => ⟨0, spn_zero A fun i => by have := h i; grind⟩
theorem spn_add : ∀ {A : List Vc} {u v : Vc}, Spn A u → Spn A v → Spn A (fun i => u i + v i)
  | [], u, v, h1, h2 => fun i => by have := h1 i; have := h2 i; grind
  | a :: A, u, v, ⟨c, h1⟩, ⟨d, h2⟩ => ⟨c + d, spn_ext (fun i => by grind) (spn_add h1 h2)⟩
theorem spn_smul : ∀ {A : List Vc} {u : Vc} (k : Rat), Spn A u → Spn A (fun i => k * u i)
  | [], u, k, h1 => fun i => by have := h1 i; grind
  | a :: A, u, k, ⟨c, h1⟩ => ⟨k * c, spn_ext (fun i => by grind) (spn_smul k h1)⟩
theorem spn_sub {A : List Vc} {u v : Vc} (h1 : Spn A u) (h2 : Spn A v) : Spn A (fun i => u i - v i) :=
  spn_ext (fun i => by grind) (spn_add h1 (spn_smul (-1) h2))
theorem spn_cons {A : List Vc} {a v : Vc} (h : Spn A v) : Spn (a :: A) v := ⟨0, spn_ext (fun i => by grind) h⟩
theorem spn_mem : ∀ {A : List Vc} {a : Vc}, a ∈ A → Spn A a
  | b :: A, a, h => by
    rcases List.mem_cons.mp h with h | h
    · subst h
      exact ⟨1, spn_zero A fun i => by grind⟩
    · exact spn_cons (spn_mem h)
theorem spn_le : ∀ {A B : List Vc} {v : Vc}, (∀ a ∈ A, Spn B a) → Spn A v → Spn B v
  | [], B, v, _, h => spn_zero B h
  | a :: A, B, v, h, ⟨c, s⟩ => by
    have h1 := spn_le (fun b hb => h b (List.mem_cons_of_mem _ hb)) s
    have h2 := spn_smul c (h a List.mem_cons_self)
    exact spn_ext (fun i => by grind) (spn_add h1 h2)
theorem spn_elim {P : Vc → Prop} (h0 : ∀ v, (∀ i, v i = 0) → P v) (ha : ∀ u v, P u → P v → P (fun i => u i + v i)) (hs : ∀ (k : Rat) v, P v → P (fun i => k * v i)) :
    ∀ {A : List Vc} {v : Vc}, (∀ a ∈ A, P a) → Spn A v → P v
  | [], v, _, h => h0 v h
  | a :: A, v, h, ⟨c, s⟩ => by
    have h1 := spn_elim h0 ha hs (fun b hb => h b (List.mem_cons_of_mem _ hb)) s
    have h2 := ha _ _ h1 (hs c a (h a List.mem_cons_self))
    have e : v = fun i => (v i - c * a i) + c * a i := funext fun i => by grind
    rw [e]; exact h2
/-- a place where all rows are 0 -/
theorem spn_at {A : List Vc} {v : Vc} {p : Nat} (h : ∀ a ∈ A, a p = 0) (s : Spn A v) : v p = 0 :=
  spn_elim (P := fun v => v p = 0) (fun v h => h p) (fun u v h1 h2 => by grind) (fun k v h => by grind) h s
theorem spn_append_l {A B : List Vc} {v : Vc} (h : Spn A v) : Spn (A ++ B) v := spn_le (fun a ha => spn_mem (List.mem_append_left _ ha)) h
theorem spn_append_r {A B : List Vc} {v : Vc} (h : Spn B v) : Spn (A ++ B) v := spn_le (fun a ha => spn_mem (List.mem_append_right _ ha)) h
/-! ### rows in steps -/
theorem vr_ge {r : List Rat} {i : Nat} (h : r.length ≤ i) : vr r i = 0 := by simp [vr, List.getD, List.getElem?_eq_none h]
theorem vi_ge {r : List Int} {i : Nat} (h : r.length ≤ i) : vi r i = 0 := by simp [vi, List.getD, List.getElem?_eq_none h]
theorem vr_ext {r s : List Rat} (hl : r.length = s.length) (h : ∀ i, vr r i = vr s i) : r = s := by
  apply List.ext_getElem hl
  intro i h1 h2
  have := h i
  simpa [vr, List.getD, h1, h2] using this
theorem vi_ext {r s : List Int} (hl : r.length = s.length) (h : ∀ i, vi r i = vi s i) : r = s := by
  apply List.ext_getElem hl
  intro i h1 h2
  have := h i
  simpa [vi, List.getD, h1, h2, Rat.intCast_inj] using this
theorem headOf_before {r : List Int} {i : Nat} (h : i < headOf r) : r.getD i 0 = 0 := by
  unfold headOf at h
  have hl : i < r.length := Nat.lt_of_lt_of_le h List.findIdx_le_length
  have := List.not_of_lt_findIdx h
  have e : r.getD i 0 = r[i] := by simp [List.getD, hl]
  rw [e]
  simpa using this
theorem headOf_eq {r : List Int} {h : Nat} (h1 : r.getD h 0 ≠ 0) (h2 : ∀ i, i < h → r.getD i 0 = 0) : headOf r = h := by
  have hl : h < r.length := by
    apply Nat.lt_of_not_le
    intro z
    exact h1 (by simp [List.getD, List.getElem?_eq_none z])
  unfold headOf
  rw [List.findIdx_eq hl]
  refine ⟨?_, fun j hj => ?_⟩
  · have e : r.getD h 0 = r[h] := by simp [List.getD, hl]
    rw [e] at h1
    simpa using h1
  · have := h2 j hj
    have e : r.getD j 0 = r[j] := by simp [List.getD, Nat.lt_trans hj hl]
    rw [e] at this
    simpa using this
theorem num_getD (r : List Rat) (i : Nat) : (r.map fun q => q.num).getD i 0 = (vr r i).num := by
  simp only [vr, List.getD, List.getElem?_map]
  cases r[i]? <;> rfl
theorem num_zero {q : Rat} : q.num = 0 ↔ q = 0 := Rat.num_eq_zero
theorem headR_before {r : List Rat} {i : Nat} (h : i < headR r) : vr r i = 0 := by
  have := headOf_before h
  rw [num_getD] at this
  exact num_zero.mp this
theorem headR_eq {r : List Rat} {h : Nat} (h1 : vr r h ≠ 0) (h2 : ∀ i, i < h → vr r i = 0) : headR r = h :=
  headOf_eq (by rw [num_getD]; exact fun z => h1 (num_zero.mp z)) fun i hi => by rw [num_getD, h2 i hi]; rfl
structure RR (w : Nat) (R : List (List Rat)) : Prop where
  len : ∀ r ∈ R, r.length = w
  hd : ∀ r ∈ R, headR r < w
  one : ∀ r ∈ R, vr r (headR r) = 1
  up : R.Pairwise fun a b => headR a < headR b
  out : R.Pairwise fun a b => vr a (headR b) = 0
theorem RR.tail {w : Nat} {r : List Rat} {R : List (List Rat)} (h : RR w (r :: R)) : RR w R :=
  ⟨fun x hx => h.len x (List.mem_cons_of_mem _ hx), fun x hx => h.hd x (List.mem_cons_of_mem _ hx), fun x hx => h.one x (List.mem_cons_of_mem _ hx), (List.pairwise_cons.mp h.up).2, (List.pairwise_cons.mp h.out).2⟩
theorem mem_vr {R : List (List Rat)} {v : Vc} (h : v ∈ R.map vr) : ∃ r ∈ R, v = vr r := by
  obtain ⟨r, h1, h2⟩ := List.mem_map.mp h
  exact ⟨r, h1, h2.symm⟩
theorem spn_row {R : List (List Rat)} {r : List Rat} (h : r ∈ R) : Spn (R.map vr) (vr r) := spn_mem (List.mem_map_of_mem h)
/-- all of the tail is 0 up to the first head -/
theorem RR.low {w : Nat} {r : List Rat} {R : List (List Rat)} (h : RR w (r :: R)) {v : Vc} (s : Spn (R.map vr) v) {i : Nat} (hi : i ≤ headR r) : v i = 0 := by
  refine spn_at (fun a ha => ?_) s
  obtain ⟨b, hb, rfl⟩ := mem_vr ha
  exact headR_before (Nat.lt_of_le_of_lt hi ((List.pairwise_cons.mp h.up).1 b hb))
theorem RR.low' {w : Nat} {r : List Rat} {R : List (List Rat)} (h : RR w (r :: R)) {v : Vc} (s : Spn ((r :: R).map vr) v) {i : Nat} (hi : i < headR r) : v i = 0 := by
  obtain ⟨c, s⟩ := s
  have h1 := h.low s (Nat.le_of_lt hi)
  have h2 := headR_before hi
  simp only [h2] at h1
  grind
theorem RR.tailOf {w : Nat} {r : List Rat} {R : List (List Rat)} (h : RR w (r :: R)) {v : Vc} (s : Spn ((r :: R).map vr) v) (z : v (headR r) = 0) : Spn (R.map vr) v := by
  obtain ⟨c, s⟩ := s
  have h1 := h.low s (Nat.le_refl _)
  have h2 := h.one r List.mem_cons_self
  have hc : c = 0 := by simp only [h2, z] at h1; grind
  subst hc
  exact spn_ext (fun i => by grind) s
/-- a vector of the span with 0 at all heads -/
theorem RR.zero {w : Nat} : ∀ {R : List (List Rat)} (h : RR w R) {v : Vc}, Spn (R.map vr) v → (∀ r ∈ R, v (headR r) = 0) → ∀ i, v i = 0
  | [], _, _, s, _ => s
  | r :: R, h, v, s, z => RR.zero h.tail (h.tailOf s (z r List.mem_cons_self)) fun x hx => z x (List.mem_cons_of_mem _ hx)
/-- the first place of a vector of the span is a head -/
theorem RR.lead {w : Nat} : ∀ {R : List (List Rat)} (h : RR w R) {v : Vc} {p : Nat}, Spn (R.map vr) v → v p ≠ 0 → (∀ i, i < p → v i = 0) → ∃ r ∈ R, headR r = p
  | [], _, v, p, s, n, _ => absurd (s p) n
  | r :: R, h, v, p, s, n, z => by
    by_cases hz : v (headR r) = 0
    · obtain ⟨x, hx, e⟩ := RR.lead h.tail (h.tailOf s hz) n z
      exact ⟨x, List.mem_cons_of_mem _ hx, e⟩
    · refine ⟨r, List.mem_cons_self, ?_⟩
      rcases Nat.lt_trichotomy (headR r) p with g | g | g
      · exact absurd (z _ g) hz
      · exact g
      · exact absurd (h.low' s g) n
theorem RR.uniq {w : Nat} : ∀ {R S : List (List Rat)}, RR w R → RR w S → (∀ v, Spn (R.map vr) v ↔ Spn (S.map vr) v) → R = S
  | [], [], _, _, _ => rfl
  | [], s :: S, _, hS, e => by
    have h1 := (e _).mpr (spn_row List.mem_cons_self) (headR s)
    have h2 := hS.one s List.mem_cons_self
    rw [h2] at h1
    exact absurd h1 (by decide)
  | r :: R, [], hR, _, e => by
    have h1 := (e _).mp (spn_row List.mem_cons_self) (headR r)
    have h2 := hR.one r List.mem_cons_self
    rw [h2] at h1
    exact absurd h1 (by decide)
  | r :: R, s :: S, hR, hS, e => by
    have o1 := hR.one r List.mem_cons_self
    have o2 := hS.one s List.mem_cons_self
    have hh : headR r = headR s := by
      rcases Nat.lt_trichotomy (headR r) (headR s) with g | g | g
      · have := hS.low' ((e _).mp (spn_row List.mem_cons_self)) g
        rw [o1] at this
        exact absurd this (by decide)
      · exact g
      · have := hR.low' ((e _).mpr (spn_row List.mem_cons_self)) g
        rw [o2] at this
        exact absurd this (by decide)
    have et : ∀ v, Spn (R.map vr) v ↔ Spn (S.map vr) v := fun v =>
      ⟨fun s => hS.tailOf ((e v).mp (spn_cons s)) (by rw [← hh]; exact hR.low s (Nat.le_refl _)),
       fun s => hR.tailOf ((e v).mpr (spn_cons s)) (by rw [hh]; exact hS.low s (Nat.le_refl _))⟩
    have eR := RR.uniq hR.tail hS.tail et
    subst eR
    have u : ∀ i, vr r i - vr s i = 0 := by
      have sp : Spn ((r :: R).map vr) (fun i => vr r i - vr s i) := spn_sub (spn_row List.mem_cons_self) ((e _).mpr (spn_row List.mem_cons_self))
      have sp' := hR.tailOf sp (by show vr r (headR r) - vr s (headR r) = 0; rw [o1, hh, o2]; grind)
      refine hR.tail.zero sp' fun x hx => ?_
      show vr r (headR x) - vr s (headR x) = 0
      rw [(List.pairwise_cons.mp hR.out).1 x hx, (List.pairwise_cons.mp hS.out).1 x hx]
      grind
    have : r = s := vr_ext (by rw [hR.len r List.mem_cons_self, hS.len s List.mem_cons_self]) fun i => by have := u i; grind
    rw [this]
theorem RR.dim {w : Nat} {R S : List (List Rat)} (hR : RR w R) (hS : RR w S) (e : ∀ v, Spn (R.map vr) v → Spn (S.map vr) v) : R.length ≤ S.length := by
  have h1 : (R.map headR).Nodup := by
    rw [List.Nodup, List.pairwise_map]
    exact hR.up.imp fun h => Nat.ne_of_lt h
  have h2 : R.map headR ⊆ S.map headR := by
    intro p hp
    obtain ⟨r, hr, rfl⟩ := List.mem_map.mp hp
    obtain ⟨s, hs, e2⟩ := hS.lead (e _ (spn_row hr)) (by rw [hR.one r hr]; decide) fun i hi => headR_before hi
    exact List.mem_map.mpr ⟨s, hs, e2⟩
  have := h1.length_le_of_subset h2
  simpa using this
end TW
set_option Elab.async false
set_option linter.all false
/-! M2: what a stage of bringing rows in steps keeps. -/
namespace TW
theorem getD_map0 {f : Int → Int} (h0 : f 0 = 0) (r : List Int) (i : Nat) : (r.map f).getD i 0 = f (r.getD i 0) := by
  simp only [List.getD, List.getElem?_map]
  cases r[i]? with
  | none => simp [h0]
  | some x => rfl
theorem getD_zip0 {f : Int → Int → Int} (h0 : f 0 0 = 0) : ∀ (r s : List Int), r.length = s.length → ∀ i, ((r.zip s).map fun z => f z.1 z.2).getD i 0 = f (r.getD i 0) (s.getD i 0)
  | [], [], _, i => by simp [h0]
  | [], s :: ss, h, _ => by simp at h
  | r :: rs, [], h, _ => by simp at h
  | r :: rs, s :: ss, h, 0 => by simp
  | r :: rs, s :: ss, h, i + 1 => by
    have := getD_zip0 h0 rs ss (by simpa using h) i
    simpa using this
/-- what goes into all of a row -/
theorem gcdF (row : List Int) : ∀ (a : Nat), (row.foldl (fun g n => if n = 0 then g else Nat.gcd g n.natAbs) a ∣ a) ∧ ∀ x ∈ row, ((row.foldl (fun g n => if n = 0 then g else Nat.gcd g n.natAbs) a : Nat) : Int) ∣ x := by
  induction row with
  | nil => intro a; exact ⟨Nat.dvd_refl _, fun x hx => absurd hx List.not_mem_nil⟩
  | cons y ys ih =>
    intro a
    simp only [List.foldl_cons]
    obtain ⟨h1, h2⟩ := ih (if y = 0 then a else Nat.gcd a y.natAbs)
    refine ⟨?_, fun x hx => ?_⟩
    · split at h1
      · rw [if_pos ‹_›]; exact h1
      · rw [if_neg ‹_›]; exact Nat.dvd_trans h1 (Nat.gcd_dvd_left _ _)
    · rcases List.mem_cons.mp hx with hx | hx
      · subst hx
        by_cases hz : x = 0
        · rw [hz]; exact Int.dvd_zero _
        · rw [if_neg hz] at h1 ⊢
          have := Nat.dvd_trans h1 (Nat.gcd_dvd_right _ _)
          exact Int.ofNat_dvd_left.mpr this
      · exact h2 x hx
theorem bare_spec (row : List Int) : ∃ g : Int, 0 < g ∧ (bareRow row).length = row.length ∧ ∀ i, g * (bareRow row).getD i 0 = row.getD i 0 := by
  unfold bareRow
  split
  · rename_i h
    refine ⟨(rowGcd row : Int), by omega, by simp, fun i => ?_⟩
    rw [getD_map0 (by simp)]
    apply Int.mul_ediv_cancel'
    by_cases hi : i < row.length
    · have e : row.getD i 0 = row[i] := by simp [List.getD, hi]
      rw [e]
      exact (gcdF row 0).2 _ (List.getElem_mem hi)
    · have e : row.getD i 0 = 0 := by simp [List.getD, List.getElem?_eq_none (Nat.le_of_not_lt hi)]
      rw [e]; exact Int.dvd_zero _
  · exact ⟨1, by decide, rfl, fun i => Int.one_mul _⟩
theorem clr_spec {head row : List Int} {p : Nat} (hl : row.length = head.length) (hp : 0 < head.getD p 0) :
    ∃ g : Int, 0 < g ∧ (clr head p row).length = row.length ∧ ∀ i, g * (clr head p row).getD i 0 = head.getD p 0 * row.getD i 0 - row.getD p 0 * head.getD i 0 := by
  unfold clr
  split
  · rename_i h
    exact ⟨head.getD p 0, hp, rfl, fun i => by rw [h]; simp⟩
  · obtain ⟨g, g1, g2, g3⟩ := bare_spec ((row.zip head).map fun x => head.getD p 0 * x.1 - row.getD p 0 * x.2)
    refine ⟨g, g1, by rw [g2]; simp [hl], fun i => ?_⟩
    rw [g3, getD_zip0 (f := fun a b => head.getD p 0 * a - row.getD p 0 * b) (by simp) _ _ hl]
theorem headed_spec {row : List Int} {p : Nat} (hp : row.getD p 0 ≠ 0) : ∃ g : Int, g ≠ 0 ∧ (headed row p).length = row.length ∧ 0 < (headed row p).getD p 0 ∧ ∀ i, g * (headed row p).getD i 0 = row.getD i 0 := by
  obtain ⟨g, g1, g2, g3⟩ := bare_spec row
  have hne : (bareRow row).getD p 0 ≠ 0 := fun z => hp (by rw [← g3, z, Int.mul_zero])
  unfold headed
  split
  · exact ⟨g, by omega, g2, ‹_›, g3⟩
  · rename_i h
    refine ⟨-g, by omega, by simp [g2], ?_, fun i => ?_⟩
    · rw [getD_map0 (by simp)]; omega
    · rw [getD_map0 (by simp), ← g3 i]; grind
/-! ### spans of INTEGER rows -/
abbrev LF := List (List Int) × List (List Int)
theorem mem_vi {R : List (List Int)} {v : Vc} (h : v ∈ R.map vi) : ∃ r ∈ R, v = vi r := by
  obtain ⟨r, h1, h2⟩ := List.mem_map.mp h
  exact ⟨r, h1, h2.symm⟩
theorem spi {R : List (List Int)} {r : List Int} (h : r ∈ R) : Spn (R.map vi) (vi r) := spn_mem (List.mem_map_of_mem h)
/-- g r' = a r - b h, told of vectors -/
theorem vi_lin {r' r h : List Int} {g a b : Int} (hg : g ≠ 0) (e : ∀ i, g * r'.getD i 0 = a * r.getD i 0 - b * h.getD i 0) (i : Nat) : vi r' i = ((a : Rat) / g) * vi r i - ((b : Rat) / g) * vi h i := by
  have := congrArg (fun z : Int => (z : Rat)) (e i)
  simp only [Rat.intCast_mul, Rat.intCast_sub] at this
  have hg' : (g : Rat) ≠ 0 := fun z => hg (Rat.intCast_eq_zero_iff.mp z)
  simp only [vi]
  grind
structure Inv (w p : Nat) (X : List (List Int)) (st : LF) : Prop where
  l : ∀ r ∈ st.1, r.length = w
  f : ∀ r ∈ st.2, r.length = w
  z : ∀ r ∈ st.1, ∀ i, i < p → r.getD i 0 = 0
  hd : ∀ r ∈ st.2, headOf r < p ∧ 0 < r.getD (headOf r) 0
  up : st.2.Pairwise fun a b => headOf a < headOf b
  out : st.2.Pairwise fun a b => a.getD (headOf b) 0 = 0
  sp : ∀ v, Spn ((st.1 ++ st.2).map vi) v ↔ Spn (X.map vi) v
theorem Inv.skip {w p : Nat} {X : List (List Int)} {st : LF} (h : Inv w p X st) (hz : ∀ r ∈ st.1, r.getD p 0 = 0) : Inv w (p + 1) X st where
  l := h.l
  f := h.f
  z := fun r hr i hi => by
    rcases Nat.lt_succ_iff_lt_or_eq.mp hi with g | g
    · exact h.z r hr i g
    · rw [g]; exact hz r hr
  hd := fun r hr => ⟨Nat.lt_succ_of_lt (h.hd r hr).1, (h.hd r hr).2⟩
  up := h.up
  out := h.out
  sp := h.sp
/-- the sign of what is left of a found row -/
theorem found_clr {head row : List Int} {p : Nat} (hl : row.length = head.length) (hp : 0 < head.getD p 0) (hb : ∀ i, i < p → head.getD i 0 = 0) (hh : headOf row < p) (hpos : 0 < row.getD (headOf row) 0) :
    headOf (clr head p row) = headOf row ∧ 0 < (clr head p row).getD (headOf row) 0 ∧ (clr head p row).getD p 0 = 0 ∧ ∀ i, i < p → row.getD i 0 = 0 → (clr head p row).getD i 0 = 0 := by
  obtain ⟨g, g1, g2, g3⟩ := clr_spec hl hp
  have key : ∀ i, i < p → g * (clr head p row).getD i 0 = head.getD p 0 * row.getD i 0 := fun i hi => by rw [g3, hb i hi]; simp
  have zero : ∀ i, i < p → row.getD i 0 = 0 → (clr head p row).getD i 0 = 0 := fun i hi e => by
    have := key i hi
    rw [e, Int.mul_zero] at this
    rcases Int.mul_eq_zero.mp this with z | z
    · omega
    · exact z
  have pos : 0 < (clr head p row).getD (headOf row) 0 := by
    have h1 := key _ hh
    have h2 : 0 < head.getD p 0 * row.getD (headOf row) 0 := Int.mul_pos hp hpos
    rw [← h1] at h2
    exact Int.pos_of_mul_pos_right h2 g1
  refine ⟨headOf_eq (by omega) fun i hi => zero i (Nat.lt_trans hi hh) (headOf_before hi), pos, ?_, zero⟩
  have := g3 p
  rw [Int.mul_comm (row.getD p 0), Int.sub_self] at this
  rcases Int.mul_eq_zero.mp this with z | z
  · omega
  · exact z
theorem left_clr {head row : List Int} {p : Nat} (hl : row.length = head.length) (hp : 0 < head.getD p 0) (hb : ∀ i, i < p → head.getD i 0 = 0) (hr : ∀ i, i < p → row.getD i 0 = 0) : ∀ i, i < p + 1 → (clr head p row).getD i 0 = 0 := by
  obtain ⟨g, g1, g2, g3⟩ := clr_spec hl hp
  intro i hi
  have : g * (clr head p row).getD i 0 = 0 := by
    rw [g3]
    rcases Nat.lt_succ_iff_lt_or_eq.mp hi with z | z
    · rw [hb i z, hr i z]; simp
    · rw [z, Int.mul_comm (row.getD p 0), Int.sub_self]
  rcases Int.mul_eq_zero.mp this with z | z
  · omega
  · exact z
theorem Inv.step {w p : Nat} {X : List (List Int)} {st st' : LF} (I : Inv w p X st) {h : List Int} (hl : h.length = w) (hb : ∀ i, i < p → h.getD i 0 = 0) (hp : 0 < h.getD p 0) (hs : Spn (st.1.map vi) (vi h))
    (e1 : ∀ r ∈ st'.1, ∃ x ∈ st.1, r = clr h p x) (e2 : st'.2 = st.2.map (clr h p) ++ [h]) (e3 : ∀ x ∈ st.1, clr h p x ∈ st'.1 ∨ ∃ k : Rat, ∀ i, vi x i = k * vi h i) : Inv w (p + 1) X st' := by
  have hh : headOf h = p := headOf_eq (by omega) hb
  have ll : ∀ x ∈ st.1, x.length = h.length := fun x hx => by rw [I.l x hx, hl]
  have lf : ∀ x ∈ st.2, x.length = h.length := fun x hx => by rw [I.f x hx, hl]
  have fc : ∀ x ∈ st.2, _ := fun x hx => found_clr (lf x hx) hp hb (I.hd x hx).1 (I.hd x hx).2
  -- spans
  have hmem : ∀ x ∈ st.1 ++ st.2, x.length = h.length := fun x hx => by
    rcases List.mem_append.mp hx with hx | hx
    · exact ll x hx
    · exact lf x hx
  have hS : Spn ((st.1 ++ st.2).map vi) (vi h) := by rw [List.map_append]; exact spn_append_l hs
  have fwd : ∀ x ∈ st.1 ++ st.2, Spn ((st.1 ++ st.2).map vi) (vi (clr h p x)) := fun x hx => by
    obtain ⟨g, g1, g2, g3⟩ := clr_spec (hmem x hx) hp
    refine spn_ext (fun i => (vi_lin (by omega) g3 i).symm) (spn_sub (spn_smul _ (spi hx)) (spn_smul _ hS))
  have hS' : Spn ((st'.1 ++ st'.2).map vi) (vi h) := spi (by rw [e2]; simp)
  have bwd : ∀ x, x.length = h.length → clr h p x ∈ st'.1 ++ st'.2 → Spn ((st'.1 ++ st'.2).map vi) (vi x) := fun x hx hm => by
    obtain ⟨g, g1, g2, g3⟩ := clr_spec hx hp
    refine spn_ext (fun i => ?_) (spn_add (spn_smul ((g : Rat) / (h.getD p 0 : Int)) (spi hm)) (spn_smul ((x.getD p 0 : Rat) / (h.getD p 0 : Int)) hS'))
    have := vi_lin (by omega) g3 i
    have n1 : (g : Rat) ≠ 0 := fun z => by have := Rat.intCast_eq_zero_iff.mp z; omega
    have n2 : ((h.getD p 0 : Int) : Rat) ≠ 0 := fun z => by have := Rat.intCast_eq_zero_iff.mp z; omega
    grind
  refine ⟨?_, ?_, ?_, ?_, ?_, ?_, fun v => ⟨fun s => (I.sp v).mp (spn_le (fun a ha => ?_) s), fun s => spn_le (fun a ha => ?_) ((I.sp v).mpr s)⟩⟩
  · intro r hr
    obtain ⟨x, hx, rfl⟩ := e1 r hr
    obtain ⟨g, g1, g2, g3⟩ := clr_spec (ll x hx) hp
    rw [g2]; exact I.l x hx
  · intro r hr
    rw [e2] at hr
    rcases List.mem_append.mp hr with hr | hr
    · obtain ⟨x, hx, rfl⟩ := List.mem_map.mp hr
      obtain ⟨g, g1, g2, g3⟩ := clr_spec (lf x hx) hp
      rw [g2]; exact I.f x hx
    · rw [List.mem_singleton] at hr; rw [hr]; exact hl
  · intro r hr
    obtain ⟨x, hx, rfl⟩ := e1 r hr
    exact left_clr (ll x hx) hp hb (I.z x hx)
  · intro r hr
    rw [e2] at hr
    rcases List.mem_append.mp hr with hr | hr
    · obtain ⟨x, hx, rfl⟩ := List.mem_map.mp hr
      obtain ⟨f1, f2, _, _⟩ := fc x hx
      rw [f1]
      exact ⟨Nat.lt_succ_of_lt (I.hd x hx).1, f2⟩
    · rw [List.mem_singleton] at hr; rw [hr, hh]; exact ⟨Nat.lt_succ_self _, hp⟩
  · rw [e2, List.pairwise_append]
    refine ⟨?_, List.pairwise_singleton _ _, fun a ha b hb' => ?_⟩
    · rw [List.pairwise_map]
      refine I.up.imp_of_mem fun {a b} ha hb' hab => ?_
      rw [(fc a ha).1, (fc b hb').1]; exact hab
    · obtain ⟨x, hx, rfl⟩ := List.mem_map.mp ha
      rw [List.mem_singleton] at hb'
      rw [hb', hh, (fc x hx).1]
      exact (I.hd x hx).1
  · rw [e2, List.pairwise_append]
    refine ⟨?_, List.pairwise_singleton _ _, fun a ha b hb' => ?_⟩
    · rw [List.pairwise_map]
      refine I.out.imp_of_mem fun {a b} ha hb' hab => ?_
      rw [(fc b hb').1]
      exact (fc a ha).2.2.2 _ (I.hd b hb').1 hab
    · obtain ⟨x, hx, rfl⟩ := List.mem_map.mp ha
      rw [List.mem_singleton] at hb'
      rw [hb', hh]
      exact (fc x hx).2.2.1
  · obtain ⟨r, hr, rfl⟩ := mem_vi ha
    rcases List.mem_append.mp hr with hr | hr
    · obtain ⟨x, hx, rfl⟩ := e1 r hr
      exact fwd x (List.mem_append_left _ hx)
    · rw [e2] at hr
      rcases List.mem_append.mp hr with hr | hr
      · obtain ⟨x, hx, rfl⟩ := List.mem_map.mp hr
        exact fwd x (List.mem_append_right _ hx)
      · rw [List.mem_singleton] at hr; rw [hr]; exact hS
  · obtain ⟨r, hr, rfl⟩ := mem_vi ha
    rcases List.mem_append.mp hr with hr | hr
    · rcases e3 r hr with g | ⟨k, g⟩
      · exact bwd r (ll r hr) (List.mem_append_left _ g)
      · exact spn_ext (fun i => (g i).symm) (spn_smul k hS')
    · exact bwd r (lf r hr) (List.mem_append_right _ (by rw [e2]; exact List.mem_append_left _ (List.mem_map_of_mem hr)))
/-! ### the end -/
theorem vr_told (r : List Int) (i : Nat) : vr (toldRow r) i = vi r i / vi r (headOf r) := by
  simp only [vr, toldRow, vi, List.getD, List.getElem?_map]
  cases r[i]? with
  | none => simp; grind
  | some x => simp [Rat.divInt_eq_div]
theorem vi_ne {r : List Int} {i : Nat} (h : r.getD i 0 ≠ 0) : vi r i ≠ 0 := fun z => h (Rat.intCast_eq_zero_iff.mp z)
theorem headR_told {r : List Int} (h : 0 < r.getD (headOf r) 0) : headR (toldRow r) = headOf r := by
  have hn := vi_ne (r := r) (i := headOf r) (by omega)
  refine headR_eq ?_ fun i hi => ?_
  · rw [vr_told]; intro z; grind
  · rw [vr_told]
    have : vi r i = 0 := by simp only [vi]; rw [headOf_before hi]; rfl
    rw [this]; grind
theorem told_RR {w : Nat} {F : List (List Int)} (hl : ∀ r ∈ F, r.length = w) (hd : ∀ r ∈ F, headOf r < w ∧ 0 < r.getD (headOf r) 0) (up : F.Pairwise fun a b => headOf a < headOf b) (out : F.Pairwise fun a b => a.getD (headOf b) 0 = 0) : RR w (F.map toldRow) := by
  refine ⟨?_, ?_, ?_, ?_, ?_⟩
  · intro r hr
    obtain ⟨x, hx, rfl⟩ := List.mem_map.mp hr
    rw [toldRow, List.length_map]; exact hl x hx
  · intro r hr
    obtain ⟨x, hx, rfl⟩ := List.mem_map.mp hr
    rw [headR_told (hd x hx).2]; exact (hd x hx).1
  · intro r hr
    obtain ⟨x, hx, rfl⟩ := List.mem_map.mp hr
    rw [headR_told (hd x hx).2, vr_told]
    have hn := vi_ne (r := x) (i := headOf x) (by have := (hd x hx).2; omega)
    grind
  · rw [List.pairwise_map]
    refine up.imp_of_mem fun {a b} ha hb hab => ?_
    rw [headR_told (hd a ha).2, headR_told (hd b hb).2]; exact hab
  · rw [List.pairwise_map]
    refine out.imp_of_mem fun {a b} ha hb hab => ?_
    rw [headR_told (hd b hb).2, vr_told]
    have : vi a (headOf b) = 0 := by simp only [vi]; rw [hab]; rfl
    rw [this]; grind
theorem told_spn {F : List (List Int)} (hd : ∀ r ∈ F, 0 < r.getD (headOf r) 0) (v : Vc) : Spn ((F.map toldRow).map vr) v ↔ Spn (F.map vi) v := by
  constructor
  · refine spn_le fun a ha => ?_
    obtain ⟨r, hr, rfl⟩ := mem_vr ha
    obtain ⟨x, hx, rfl⟩ := List.mem_map.mp hr
    refine spn_ext (fun i => ?_) (spn_smul (vi x (headOf x))⁻¹ (spi hx))
    rw [vr_told]; grind
  · refine spn_le fun a ha => ?_
    obtain ⟨x, hx, rfl⟩ := mem_vi ha
    refine spn_ext (fun i => ?_) (spn_smul (vi x (headOf x)) (spn_row (List.mem_map_of_mem hx)))
    have hn := vi_ne (r := x) (i := headOf x) (by have := hd x hx; omega)
    rw [vr_told]; grind
theorem Inv.fin {w : Nat} {X : List (List Int)} {st : LF} (I : Inv w w X st) : RR w (st.2.map toldRow) ∧ ∀ v, Spn ((st.2.map toldRow).map vr) v ↔ Spn (X.map vi) v := by
  refine ⟨told_RR I.f I.hd I.up I.out, fun v => ?_⟩
  rw [told_spn (fun r hr => (I.hd r hr).2), ← I.sp v]
  constructor
  · intro s; rw [List.map_append]; exact spn_append_r s
  · refine spn_le fun a ha => ?_
    obtain ⟨r, hr, rfl⟩ := mem_vi ha
    rcases List.mem_append.mp hr with hr | hr
    · refine spn_zero _ fun i => ?_
      by_cases hi : i < w
      · simp only [vi]; rw [I.z r hr i hi]; rfl
      · exact vi_ge (by rw [I.l r hr]; omega)
    · exact spi hr
/-! ### the program's steps -/
theorem stg_inv {w : Nat} {X : List (List Int)} (hX : ∀ r ∈ X, r.length = w) : ∀ p, Inv w p X (stg X p)
  | 0 => ⟨hX, fun r hr => absurd hr (by show ¬ r ∈ ([] : List (List Int)); exact List.not_mem_nil), fun r _ i hi => absurd hi (Nat.not_lt_zero _), fun r hr => absurd hr (by show ¬ r ∈ ([] : List (List Int)); exact List.not_mem_nil), List.Pairwise.nil, List.Pairwise.nil, fun v => by show Spn ((X ++ []).map vi) v ↔ _; rw [List.append_nil]⟩
  | p + 1 => by
    have I := stg_inv hX p
    have es : stg X (p + 1) = stepAt (stg X p) p := by
      unfold stg
      rw [List.range_succ, List.foldl_append]
      rfl
    rw [es]
    unfold stepAt
    cases hi : firstAt (stg X p).1 p with
    | none =>
      dsimp only
      refine I.skip fun r hr => ?_
      have := List.findIdx?_eq_none_iff.mp hi r hr
      simpa using this
    | some i =>
      dsimp only
      obtain ⟨h1, h2, h3⟩ := List.findIdx?_eq_some_iff_getElem.mp hi
      have eg : (stg X p).1.getD i [] = (stg X p).1[i] := by simp [List.getD, h1]
      have hne : ((stg X p).1.getD i []).getD p 0 ≠ 0 := by rw [eg]; simpa using h2
      have hm : (stg X p).1.getD i [] ∈ (stg X p).1 := by rw [eg]; exact List.getElem_mem h1
      obtain ⟨g, g1, g2, g3, g4⟩ := headed_spec hne
      have g5 : ∀ j, vi ((stg X p).1.getD i []) j = (g : Rat) * vi (headed ((stg X p).1.getD i []) p) j := fun j => by
        have := congrArg (fun z : Int => (z : Rat)) (g4 j)
        simp only [Rat.intCast_mul] at this
        exact this.symm
      have gn : (g : Rat) ≠ 0 := fun z => g1 (Rat.intCast_eq_zero_iff.mp z)
      refine I.step (h := headed ((stg X p).1.getD i []) p) (by rw [g2]; exact I.l _ hm) (fun j hj => ?_) g3 (spn_ext (fun j => ?_) (spn_smul (g : Rat)⁻¹ (spi hm))) (fun r hr => ?_) rfl (fun x hx => ?_)
      · have e1 := g4 j
        rw [I.z _ hm j hj] at e1
        rcases Int.mul_eq_zero.mp e1 with z | z
        · exact absurd z g1
        · exact z
      · rw [g5]; grind
      · obtain ⟨x, hx, rfl⟩ := List.mem_map.mp hr
        refine ⟨x, ?_, rfl⟩
        rcases List.mem_append.mp hx with hx | hx
        · exact List.mem_of_mem_take hx
        · exact List.mem_of_mem_drop hx
      · obtain ⟨j, hj, rfl⟩ := List.mem_iff_getElem.mp hx
        by_cases hji : j = i
        · subst hji
          exact .inr ⟨g, fun k => by rw [← eg]; exact g5 k⟩
        · refine .inl (List.mem_map_of_mem ?_)
          rcases Nat.lt_or_gt_of_ne hji with z | z
          · exact List.mem_append_left _ (List.mem_take_iff_getElem.mpr ⟨j, by omega, rfl⟩)
          · refine List.mem_append_right _ (List.mem_drop_iff_getElem.mpr ⟨j - (i + 1), by omega, ?_⟩)
            congr 1
            omega
theorem wide_eq {w : Nat} {X : List (List Int)} (hX : ∀ r ∈ X, r.length = w) (hn : X ≠ []) : wideOf X = w := by
  cases X with
  | nil => exact absurd rfl hn
  | cons x X => exact hX x List.mem_cons_self
/-- what is found in no rows -/
theorem intSteps_nil : intSteps [] = [] := rfl
theorem RR.nil (w : Nat) : RR w [] := ⟨fun r hr => absurd hr List.not_mem_nil, fun r hr => absurd hr List.not_mem_nil, fun r hr => absurd hr List.not_mem_nil, List.Pairwise.nil, List.Pairwise.nil⟩
theorem intSteps_RR {w : Nat} {X : List (List Int)} (hX : ∀ r ∈ X, r.length = w) : RR w ((intSteps X).map toldRow) ∧ ∀ v, Spn (((intSteps X).map toldRow).map vr) v ↔ Spn (X.map vi) v := by
  by_cases hn : X = []
  · subst hn
    exact ⟨RR.nil w, fun v => Iff.rfl⟩
  · have := (stg_inv hX w).fin
    unfold intSteps
    rw [wide_eq hX hn]
    exact this
/-! ### rows of Ratios -/
theorem lcmF (row : List Rat) : ∀ (b : Nat), 0 < b → 0 < row.foldl (fun b q => Nat.lcm b q.den) b ∧ (b ∣ row.foldl (fun b q => Nat.lcm b q.den) b) ∧ ∀ q ∈ row, q.den ∣ row.foldl (fun b q => Nat.lcm b q.den) b := by
  induction row with
  | nil => intro b hb; exact ⟨hb, Nat.dvd_refl _, fun x hx => absurd hx List.not_mem_nil⟩
  | cons y ys ih =>
    intro b hb
    simp only [List.foldl_cons]
    obtain ⟨h1, h2, h3⟩ := ih (Nat.lcm b y.den) (Nat.lcm_pos hb y.den_pos)
    refine ⟨h1, Nat.dvd_trans (Nat.dvd_lcm_left _ _) h2, fun x hx => ?_⟩
    rcases List.mem_cons.mp hx with hx | hx
    · subst hx; exact Nat.dvd_trans (Nat.dvd_lcm_right _ _) h2
    · exact h3 x hx
theorem lcm_pos' (row : List Rat) : 0 < lcmDen row := (lcmF row 1 (by decide)).1
theorem lcm_dvd' {row : List Rat} {q : Rat} (h : q ∈ row) : q.den ∣ lcmDen row := (lcmF row 1 (by decide)).2.2 q h
theorem rat_num (q : Rat) : (q.num : Rat) = q * (q.den : Rat) := by
  have h := Rat.num_divInt_den q
  rw [Rat.divInt_eq_div] at h
  have hd : (q.den : Rat) ≠ 0 := fun z => by
    have h1 := q.den_pos
    have h2 := Rat.natCast_eq_zero_iff.mp z
    omega
  have e : (((q.den : Nat) : Int) : Rat) = (q.den : Rat) := rfl
  rw [e] at h
  generalize (q.num : Rat) = a at h ⊢
  generalize (q.den : Rat) = b at h hd ⊢
  grind
/-- a Ratio times what its bottom goes into -/
theorem num_over {q : Rat} {L : Nat} (h : q.den ∣ L) : ((q.num * ((L : Int) / (q.den : Int)) : Int) : Rat) = (L : Rat) * q := by
  obtain ⟨k, rfl⟩ := h
  have hd : (q.den : Int) ≠ 0 := by have := q.den_pos; omega
  have : (((q.den * k : Nat) : Int) / (q.den : Int)) = (k : Int) := by
    rw [Int.natCast_mul, Int.mul_ediv_cancel_left _ hd]
  rw [this, Rat.intCast_mul]
  have e := rat_num q
  have e2 : ((q.den * k : Nat) : Rat) = (q.den : Rat) * (k : Rat) := Rat.natCast_mul _ _
  rw [e2, e]
  have e3 : (((k : Nat) : Int) : Rat) = (k : Rat) := rfl
  rw [e3]
  grind
theorem vi_wholes (row : List Rat) (i : Nat) : vi (wholesI row) i = (lcmDen row : Rat) * vr row i := by
  by_cases hi : i < row.length
  · have e1 : (wholesI row).getD i 0 = row[i].num * ((lcmDen row : Int) / (row[i].den : Int)) := by simp [wholesI, List.getD, hi]
    have e2 : vr row i = row[i] := by simp [vr, List.getD, hi]
    rw [vi, e1, e2]
    exact num_over (lcm_dvd' (List.getElem_mem hi))
  · rw [vi_ge (by simp [wholesI]; omega), vr_ge (Nat.le_of_not_lt hi)]
    grind
theorem wholes_spn (X : List (List Rat)) (v : Vc) : Spn ((X.map wholesI).map vi) v ↔ Spn (X.map vr) v := by
  constructor
  · refine spn_le fun a ha => ?_
    obtain ⟨r, hr, rfl⟩ := mem_vi ha
    obtain ⟨x, hx, rfl⟩ := List.mem_map.mp hr
    exact spn_ext (fun i => (vi_wholes x i).symm) (spn_smul _ (spn_row hx))
  · refine spn_le fun a ha => ?_
    obtain ⟨x, hx, rfl⟩ := mem_vr ha
    refine spn_ext (fun i => ?_) (spn_smul (lcmDen x : Rat)⁻¹ (spi (List.mem_map_of_mem hx)))
    rw [vi_wholes]
    have : (lcmDen x : Rat) ≠ 0 := fun z => by
      have h1 := lcm_pos' x
      have h2 := Rat.natCast_eq_zero_iff.mp z
      omega
    grind
theorem steps_RR {w : Nat} {X : List (List Rat)} (hX : ∀ r ∈ X, r.length = w) : RR w (stepsOf X) ∧ ∀ v, Spn ((stepsOf X).map vr) v ↔ Spn (X.map vr) v := by
  have h1 : ∀ r ∈ X.map wholesI, r.length = w := fun r hr => by
    obtain ⟨x, hx, rfl⟩ := List.mem_map.mp hr
    rw [wholesI, List.length_map]; exact hX x hx
  obtain ⟨a, b⟩ := intSteps_RR h1
  exact ⟨a, fun v => (b v).trans (wholes_spn X v)⟩
theorem stepAt_len (st : LF) (p : Nat) : (stepAt st p).1.length + (stepAt st p).2.length = st.1.length + st.2.length := by
  unfold stepAt
  split
  · rfl
  · rename_i i hi
    have := (List.findIdx?_eq_some_iff_getElem.mp hi).1
    simp only [List.length_map, List.length_append, List.length_take, List.length_drop, List.length_singleton]
    omega
theorem stg_len (X : List (List Int)) : ∀ p, (stg X p).1.length + (stg X p).2.length = X.length
  | 0 => rfl
  | p + 1 => by
    have es : stg X (p + 1) = stepAt (stg X p) p := by
      unfold stg
      rw [List.range_succ, List.foldl_append]
      rfl
    rw [es, stepAt_len, stg_len X p]
theorem steps_len (X : List (List Rat)) : (stepsOf X).length ≤ X.length := by
  unfold stepsOf intSteps
  rw [List.length_map]
  have := stg_len (X.map wholesI) (wideOf (X.map wholesI))
  rw [List.length_map] at this
  omega
/-- no more rows in steps than rows by which they are made -/
theorem RR.le {w : Nat} {R X : List (List Rat)} (h : RR w R) (hX : ∀ r ∈ X, r.length = w) (e : ∀ v, Spn (R.map vr) v → Spn (X.map vr) v) : R.length ≤ X.length :=
  Nat.le_trans (h.dim (steps_RR hX).1 fun v s => ((steps_RR hX).2 v).mpr (e v s)) (steps_len X)
theorem RR.steps {w : Nat} {R : List (List Rat)} (h : RR w R) : stepsOf R = R := RR.uniq (steps_RR h.len).1 h (steps_RR h.len).2
end TW
set_option Elab.async false
set_option linter.all false
/-! M3: sums, kernels, ranks. -/
namespace TW
def sm : Nat → (Nat → Rat) → Rat
  | 0, _ => 0
  | n + 1, f => sm n f + f n
theorem sm_congr {n : Nat} {f g : Nat → Rat} (h : ∀ i, i < n → f i = g i) : sm n f = sm n g := by
  induction n with
  | zero => rfl
  | succ n ih =>
    rw [sm, sm, ih fun i hi => h i (Nat.lt_succ_of_lt hi), h n (Nat.lt_succ_self _)]
theorem sm_add (n : Nat) (f g : Nat → Rat) : sm n (fun i => f i + g i) = sm n f + sm n g := by
  induction n with
  | zero => rw [sm, sm, sm]; grind
  | succ n ih => rw [sm, sm, sm, ih]; grind
theorem sm_mul (n : Nat) (k : Rat) (f : Nat → Rat) : sm n (fun i => k * f i) = k * sm n f := by
  induction n with
  | zero => rw [sm, sm]; grind
  | succ n ih => rw [sm, sm, ih]; grind
theorem sm_zero {n : Nat} {f : Nat → Rat} (h : ∀ i, i < n → f i = 0) : sm n f = 0 := by
  induction n with
  | zero => rfl
  | succ n ih => rw [sm, ih fun i hi => h i (Nat.lt_succ_of_lt hi), h n (Nat.lt_succ_self _)]; grind
theorem sm_one {n p : Nat} {f : Nat → Rat} (hp : p < n) (h : ∀ i, i < n → i ≠ p → f i = 0) : sm n f = f p := by
  induction n with
  | zero => omega
  | succ n ih =>
    rw [sm]
    by_cases e : p = n
    · subst e
      rw [sm_zero fun i hi => h i (by omega) (by omega)]; grind
    · rw [ih (by omega) fun i hi => h i (by omega), h n (by omega) (fun z => e z.symm)]; grind
theorem sm_two {n p q : Nat} {f : Nat → Rat} (hp : p < n) (hq : q < n) (hpq : p ≠ q) (h : ∀ i, i < n → i ≠ p → i ≠ q → f i = 0) : sm n f = f p + f q := by
  have e : sm n f = sm n (fun i => (if i = p then f p else 0) + (if i = q then f q else 0)) := sm_congr fun i hi => by
    by_cases h1 : i = p
    · subst h1; rw [if_pos rfl, if_neg hpq]; grind
    · by_cases h2 : i = q
      · subst h2; rw [if_neg h1, if_pos rfl]; grind
      · rw [if_neg h1, if_neg h2, h i hi h1 h2]; grind
  rw [e, sm_add, sm_one hp fun i _ hi => if_neg hi, sm_one hq fun i _ hi => if_neg hi, if_pos rfl, if_pos rfl]
theorem sm_swap (n m : Nat) (f : Nat → Nat → Rat) : sm n (fun i => sm m (fun j => f i j)) = sm m (fun j => sm n (fun i => f i j)) := by
  induction n with
  | zero => exact (sm_zero fun j _ => rfl).symm
  | succ n ih =>
    rw [sm, ih, ← sm_add]
    rfl
/-! ### what is led to nought -/
def Pp (w : Nat) (A : List Vc) (x : Vc) : Prop := ∀ a ∈ A, sm w (fun i => a i * x i) = 0
theorem pp_spn {w : Nat} {A : List Vc} {x v : Vc} (h : Pp w A x) (s : Spn A v) : sm w (fun i => v i * x i) = 0 := by
  refine spn_elim (P := fun v => sm w (fun i => v i * x i) = 0) (fun v h => sm_zero fun i _ => by rw [h i]; grind) (fun u v h1 h2 => ?_) (fun k v h => ?_) h s
  · have : (fun i => (u i + v i) * x i) = fun i => u i * x i + v i * x i := funext fun i => by grind
    rw [this, sm_add, h1, h2]; grind
  · have : (fun i => (k * v i) * x i) = fun i => k * (v i * x i) := funext fun i => by grind
    rw [this, sm_mul, h]; grind
theorem pp_congr {w : Nat} {A B : List Vc} (e : ∀ v, Spn A v ↔ Spn B v) (x : Vc) : Pp w A x ↔ Pp w B x :=
  ⟨fun h b hb => pp_spn h ((e b).mpr (spn_mem hb)), fun h a ha => pp_spn h ((e a).mp (spn_mem ha))⟩
theorem pp_comb {w : Nat} {A X : List Vc} {v : Vc} (h : ∀ x ∈ X, Pp w A x) (s : Spn X v) : Pp w A v := by
  intro a ha
  have h2 : Pp w X a := fun x hx => by
    have := h x hx a ha
    rw [← this]
    exact sm_congr fun i _ => by grind
  rw [← pp_spn h2 s]
  exact sm_congr fun i _ => by grind
/-- places up to a width -/
abbrev Wd (w : Nat) (v : Vc) : Prop := ∀ i, w ≤ i → v i = 0
theorem wd_spn {w : Nat} {A : List Vc} {v : Vc} (h : ∀ a ∈ A, Wd w a) (s : Spn A v) : Wd w v := fun i hi => spn_at (fun a ha => h a ha i hi) s
theorem wd_rows {w : Nat} {X : List (List Rat)} (h : ∀ r ∈ X, r.length = w) {v : Vc} (s : Spn (X.map vr) v) : Wd w v := wd_spn (fun a ha i hi => by
  obtain ⟨r, hr, rfl⟩ := mem_vr ha
  exact vr_ge (by rw [h r hr]; exact hi)) s
/-! ### the rows of a kernel -/
theorem vr_set {r : List Rat} {p : Nat} {q : Rat} {i : Nat} : vr (r.set p q) i = if i = p ∧ p < r.length then q else vr r i := by
  simp only [vr, List.getD, List.getElem?_set]
  by_cases h : p = i
  · subst h
    by_cases hl : p < r.length
    · simp [hl]
    · simp [hl]
  · have h' : ¬ i = p := fun z => h z.symm
    simp [h, h']
def kerFold (S : List (List Rat)) (free : Nat) (b : List Rat) : List Rat := S.foldl (fun row step => row.set (headR step) (-(step.getD free 0))) b
theorem kerFold_len (S : List (List Rat)) (free : Nat) : ∀ b : List Rat, (kerFold S free b).length = b.length := by
  induction S with
  | nil => intro b; rfl
  | cons s S ih => intro b; show (kerFold S free _).length = _; rw [ih, List.length_set]
theorem kerFold_out (S : List (List Rat)) (free : Nat) {i : Nat} : ∀ (b : List Rat), (∀ s ∈ S, headR s ≠ i) → vr (kerFold S free b) i = vr b i := by
  induction S with
  | nil => intro b _; rfl
  | cons s S ih =>
    intro b h
    show vr (kerFold S free _) i = _
    rw [ih _ fun x hx => h x (List.mem_cons_of_mem _ hx), vr_set, if_neg fun z => h s List.mem_cons_self z.1.symm]
theorem kerFold_in (S : List (List Rat)) (free : Nat) (up : S.Pairwise fun a b => headR a < headR b) : ∀ (b : List Rat), (∀ s ∈ S, headR s < b.length) → ∀ s ∈ S, vr (kerFold S free b) (headR s) = -(vr s free) := by
  induction S with
  | nil => intro b _ s hs; exact absurd hs List.not_mem_nil
  | cons x S ih =>
    intro b h s hs
    obtain ⟨u1, u2⟩ := List.pairwise_cons.mp up
    show vr (kerFold S free _) _ = _
    rcases List.mem_cons.mp hs with e | hs
    · subst e
      rw [kerFold_out _ _ _ fun y hy => Nat.ne_of_gt (u1 y hy), vr_set, if_pos ⟨rfl, h s List.mem_cons_self⟩]
      rfl
    · exact ih u2 _ (fun y hy => by rw [List.length_set]; exact h y (List.mem_cons_of_mem _ hy)) s hs
theorem vr_unit (w free i : Nat) : vr ((List.range w).map fun i => if i = free then (1 : Rat) else 0) i = if i = free ∧ i < w then 1 else 0 := by
  simp only [vr, List.getD, List.getElem?_map]
  by_cases h : i < w
  · simp [List.getElem?_range h, h]
  · rw [List.getElem?_eq_none (by simpa using h)]
    simp [h]
theorem kerRow_out {S : List (List Rat)} {w free i : Nat} (h : ∀ s ∈ S, headR s ≠ i) : vr (kerRow S w free) i = if i = free ∧ i < w then 1 else 0 := by
  show vr (kerFold S free _) i = _
  rw [kerFold_out _ _ _ h, vr_unit]
theorem kerRow_in {S : List (List Rat)} {w : Nat} (h : RR w S) (free : Nat) {s : List Rat} (hs : s ∈ S) : vr (kerRow S w free) (headR s) = -(vr s free) :=
  kerFold_in S free h.up _ (fun s hs => by simpa using h.hd s hs) s hs
theorem kerRow_len (S : List (List Rat)) (w free : Nat) : (kerRow S w free).length = w := by
  show (kerFold S free _).length = w
  rw [kerFold_len]; simp
def frees (S : List (List Rat)) (w : Nat) : List Nat := (List.range w).filter fun f => !(S.map headR).contains f
theorem mem_frees {S : List (List Rat)} {w f : Nat} : f ∈ frees S w ↔ f < w ∧ ∀ s ∈ S, headR s ≠ f := by
  unfold frees
  rw [List.mem_filter, List.mem_range]
  refine and_congr Iff.rfl ?_
  simp only [Bool.not_eq_true', List.contains_eq_mem, decide_eq_false_iff_not, List.mem_map, not_exists, not_and]
theorem kerRows_eq (S : List (List Rat)) (w : Nat) : kerRows S w = (frees S w).map (kerRow S w) := rfl
theorem kerRows_len {S : List (List Rat)} {w : Nat} : ∀ r ∈ kerRows S w, r.length = w := fun r hr => by
  obtain ⟨f, _, rfl⟩ := List.mem_map.mp hr
  exact kerRow_len _ _ _
theorem frees_len {S : List (List Rat)} {w : Nat} (h : RR w S) : (frees S w).length + S.length = w := by
  have n1 : (S.map headR).Nodup := by
    rw [List.Nodup, List.pairwise_map]
    exact h.up.imp fun h => Nat.ne_of_lt h
  have n2 : (frees S w).Nodup := List.Nodup.sublist List.filter_sublist List.nodup_range
  have n3 : (frees S w ++ S.map headR).Nodup := by
    rw [List.nodup_append]
    refine ⟨n2, n1, fun a ha b hb e => ?_⟩
    subst e
    obtain ⟨s, hs, e⟩ := List.mem_map.mp hb
    exact (mem_frees.mp ha).2 s hs e
  have l1 := n3.length_le_of_subset (l₂ := List.range w) fun a ha => by
    rw [List.mem_range]
    rcases List.mem_append.mp ha with ha | ha
    · exact (mem_frees.mp ha).1
    · obtain ⟨s, hs, rfl⟩ := List.mem_map.mp ha; exact h.hd s hs
  have l2 := (List.nodup_range (n := w)).length_le_of_subset (l₂ := frees S w ++ S.map headR) fun a ha => by
    rw [List.mem_append]
    by_cases g : ∃ s ∈ S, headR s = a
    · obtain ⟨s, hs, e⟩ := g
      exact .inr (List.mem_map.mpr ⟨s, hs, e⟩)
    · exact .inl (mem_frees.mpr ⟨List.mem_range.mp ha, fun s hs e => g ⟨s, hs, e⟩⟩)
  simp only [List.length_append, List.length_map, List.length_range] at l1 l2
  omega
theorem kerRow_perp {S : List (List Rat)} {w f : Nat} (h : RR w S) (hf : f ∈ frees S w) : Pp w (S.map vr) (vr (kerRow S w f)) := by
  intro a ha
  obtain ⟨s, hs, rfl⟩ := mem_vr ha
  obtain ⟨f1, f2⟩ := mem_frees.mp hf
  rw [sm_two (h.hd s hs) f1 (f2 s hs) fun i hi h1 h2 => ?_]
  · rw [kerRow_in h f hs, kerRow_out f2, if_pos ⟨rfl, f1⟩, h.one s hs]; grind
  · by_cases g : ∃ t ∈ S, headR t = i
    · obtain ⟨t, ht, e⟩ := g
      have hne : s ≠ t := fun z => h1 (by rw [z]; exact e.symm)
      have : vr s i = 0 := by
        rw [← e]
        -- s is 0 at the head of another step
        have key : ∀ {R : List (List Rat)}, RR w R → ∀ s ∈ R, ∀ t ∈ R, s ≠ t → vr s (headR t) = 0 := by
          intro R
          induction R with
          | nil => intro _ s hs; exact absurd hs List.not_mem_nil
          | cons r R ih =>
            intro hR s hs t ht hst
            rcases List.mem_cons.mp hs with e1 | hs'
            · subst e1
              rcases List.mem_cons.mp ht with e2 | ht'
              · exact absurd e2.symm hst
              · exact (List.pairwise_cons.mp hR.out).1 t ht'
            · rcases List.mem_cons.mp ht with e2 | ht'
              · subst e2
                exact headR_before ((List.pairwise_cons.mp hR.up).1 s hs')
              · exact ih hR.tail s hs' t ht' hst
        exact key h s hs t ht hne
      rw [this]; grind
    · rw [kerRow_out fun t ht e => g ⟨t, ht, e⟩, if_neg fun z => h2 z.1]; grind
theorem RR.cross {w : Nat} : ∀ {R : List (List Rat)}, RR w R → ∀ s ∈ R, ∀ t ∈ R, s ≠ t → vr s (headR t) = 0 := by
  intro R
  induction R with
  | nil => intro _ s hs; exact absurd hs List.not_mem_nil
  | cons r R ih =>
    intro hR s hs t ht hst
    rcases List.mem_cons.mp hs with e1 | hs'
    · subst e1
      rcases List.mem_cons.mp ht with e2 | ht'
      · exact absurd e2.symm hst
      · exact (List.pairwise_cons.mp hR.out).1 t ht'
    · rcases List.mem_cons.mp ht with e2 | ht'
      · subst e2
        exact headR_before ((List.pairwise_cons.mp hR.up).1 s hs')
      · exact ih hR.tail s hs' t ht' hst
/-- sum of the rows of some free places, each times a number -/
theorem spn_pick {S : List (List Rat)} {w : Nat} (x : Vc) : ∀ (F : List Nat), F.Nodup → (∀ f ∈ F, f ∈ frees S w) → ∃ v, Spn ((F.map (kerRow S w)).map vr) v ∧ (∀ f ∈ F, v f = x f) ∧ ∀ i, i ∈ frees S w → i ∉ F → v i = 0
  | [], _, _ => ⟨fun _ => 0, fun _ => rfl, fun f hf => absurd hf List.not_mem_nil, fun _ _ _ => rfl⟩
  | f :: F, hn, h => by
    obtain ⟨n1, n2⟩ := List.nodup_cons.mp hn
    obtain ⟨v, h1, h2, h3⟩ := spn_pick x F n2 fun g hg => h g (List.mem_cons_of_mem _ hg)
    have hf := h f List.mem_cons_self
    have at_ : ∀ i, i ∈ frees S w → vr (kerRow S w f) i = if i = f then 1 else 0 := fun i hi => by
      rw [kerRow_out (mem_frees.mp hi).2]
      by_cases e : i = f
      · rw [if_pos ⟨e, (mem_frees.mp hi).1⟩, if_pos e]
      · rw [if_neg fun z => e z.1, if_neg e]
    refine ⟨fun i => v i + x f * vr (kerRow S w f) i, ⟨x f, spn_ext (fun i => by grind) h1⟩, fun g hg => ?_, fun i hi hni => ?_⟩
    · dsimp only
      rw [at_ g (h g hg)]
      rcases List.mem_cons.mp hg with e | hg
      · subst e; rw [if_pos rfl, h3 g hf n1]; grind
      · rw [if_neg fun (z : g = f) => n1 (z ▸ hg), h2 g hg]; grind
    · dsimp only
      rw [at_ i hi, if_neg fun (z : i = f) => hni (z ▸ List.mem_cons_self), h3 i hi fun z => hni (List.mem_cons_of_mem _ z)]; grind
theorem kerRows_spn {S : List (List Rat)} {w : Nat} (h : RR w S) (v : Vc) : Spn ((kerRows S w).map vr) v ↔ Wd w v ∧ Pp w (S.map vr) v := by
  constructor
  · intro s
    refine ⟨wd_rows kerRows_len s, pp_comb (fun x hx => ?_) s⟩
    obtain ⟨r, hr, rfl⟩ := mem_vr hx
    obtain ⟨f, hf, rfl⟩ := List.mem_map.mp hr
    exact kerRow_perp h hf
  · rintro ⟨hw, hp⟩
    obtain ⟨u, u1, u2, u3⟩ := spn_pick (S := S) (w := w) v (frees S w) (List.Nodup.sublist List.filter_sublist List.nodup_range) fun f hf => hf
    rw [kerRows_eq]
    have uw : Wd w u := wd_rows (X := kerRows S w) kerRows_len u1
    have up : Pp w (S.map vr) u := pp_comb (fun x hx => by
      obtain ⟨r, hr, rfl⟩ := mem_vr hx
      obtain ⟨f, hf, rfl⟩ := List.mem_map.mp hr
      exact kerRow_perp h hf) u1
    refine spn_ext (fun i => ?_) u1
    by_cases hi : i < w
    · by_cases g : ∃ s ∈ S, headR s = i
      · obtain ⟨s, hs, e⟩ := g
        have e1 := hp _ (List.mem_map_of_mem hs)
        have e2 := up _ (List.mem_map_of_mem hs)
        have e3 : sm w (fun i => vr s i * (u i - v i)) = 0 := by
          have : (fun i => vr s i * (u i - v i)) = fun i => vr s i * u i + (-1) * (vr s i * v i) := funext fun i => by grind
          rw [this, sm_add, sm_mul, e1, e2]; grind
        rw [sm_one (h.hd s hs) fun j hj hne => ?_] at e3
        · rw [h.one s hs, e] at e3; grind
        · by_cases g : ∃ t ∈ S, headR t = j
          · obtain ⟨t, ht, e⟩ := g
            have : vr s j = 0 := by rw [← e]; exact h.cross s hs t ht fun z => hne (by rw [z]; exact e.symm)
            rw [this]; grind
          · rw [u2 j (mem_frees.mpr ⟨hj, fun t ht e => g ⟨t, ht, e⟩⟩)]; grind
      · exact u2 i (mem_frees.mpr ⟨hi, fun t ht e => g ⟨t, ht, e⟩⟩)
    · rw [uw i (by omega), hw i (by omega)]
theorem kernel_RR {w : Nat} {X : List (List Rat)} (hX : ∀ r ∈ X, r.length = w) : RR w (kernelOf X w) ∧ ∀ v, Spn ((kernelOf X w).map vr) v ↔ Wd w v ∧ Pp w (X.map vr) v := by
  obtain ⟨h1, h2⟩ := steps_RR hX
  obtain ⟨h3, h4⟩ := steps_RR (kerRows_len (S := stepsOf X) (w := w))
  refine ⟨h3, fun v => (h4 v).trans ((kerRows_spn h1 v).trans (and_congr Iff.rfl (pp_congr h2 v)))⟩
/-! ### how many -/
theorem spn_lin {L : Vc → Vc} (h0 : ∀ v, (∀ i, v i = 0) → ∀ i, L v i = 0) (ha : ∀ u v i, L (fun i => u i + v i) i = L u i + L v i) (hs : ∀ (k : Rat) v i, L (fun i => k * v i) i = k * L v i) {A : List Vc} {v : Vc} (s : Spn A v) : Spn (A.map L) (L v) :=
  spn_elim (P := fun v => Spn (A.map L) (L v)) (fun v h => spn_zero _ (h0 v h)) (fun u v h1 h2 => spn_ext (fun i => (ha u v i).symm) (spn_add h1 h2)) (fun k v h => spn_ext (fun i => (hs k v i).symm) (spn_smul k h)) (fun a h => spn_mem (List.mem_map_of_mem h)) s
def units (m : Nat) : List (List Rat) := (List.range m).map fun j => (List.range m).map fun i => if i = j then (1 : Rat) else 0
theorem units_RR (m : Nat) : RR m (units m) := by
  have hh : ∀ j, j < m → headR ((List.range m).map fun i => if i = j then (1 : Rat) else 0) = j := fun j hj => by
    refine headR_eq ?_ fun i hi => ?_
    · rw [vr_unit, if_pos ⟨rfl, hj⟩]; decide
    · rw [vr_unit, if_neg fun z => by omega]
  refine ⟨?_, ?_, ?_, ?_, ?_⟩
  · intro r hr; obtain ⟨j, hj, rfl⟩ := List.mem_map.mp hr; simp
  · intro r hr; obtain ⟨j, hj, rfl⟩ := List.mem_map.mp hr
    rw [hh j (List.mem_range.mp hj)]; exact List.mem_range.mp hj
  · intro r hr; obtain ⟨j, hj, rfl⟩ := List.mem_map.mp hr
    rw [hh j (List.mem_range.mp hj), vr_unit, if_pos ⟨rfl, List.mem_range.mp hj⟩]
  · unfold units
    rw [List.pairwise_map]
    refine (List.pairwise_lt_range (n := m)).imp_of_mem fun {a b} ha hb hab => ?_
    rw [hh a (List.mem_range.mp ha), hh b (List.mem_range.mp hb)]; exact hab
  · unfold units
    rw [List.pairwise_map]
    refine (List.pairwise_lt_range (n := m)).imp_of_mem fun {a b} ha hb hab => ?_
    rw [hh b (List.mem_range.mp hb), vr_unit, if_neg fun z => by omega]
theorem kernel_len {w : Nat} {X : List (List Rat)} (hX : ∀ r ∈ X, r.length = w) : (kernelOf X w).length + (stepsOf X).length = w := by
  obtain ⟨h1, _⟩ := steps_RR hX
  have e1 := frees_len h1
  have le1 : (kernelOf X w).length ≤ (frees (stepsOf X) w).length := by
    have := steps_len (kerRows (stepsOf X) w)
    rw [kerRows_eq, List.length_map, ← kerRows_eq] at this
    exact this
  have le2 : (frees (stepsOf X) w).length ≤ (kernelOf X w).length := by
    let F := frees (stepsOf X) w
    let m := F.length
    let L : Vc → Vc := fun v i => if i < m then v (F.getD i 0) else 0
    have hL := (units_RR m).le (X := (kernelOf X w).map fun r => F.map fun f => r.getD f 0) (fun r hr => by
      obtain ⟨x, _, rfl⟩ := List.mem_map.mp hr
      simp [m]) ?_
    · simpa [units, m] using hL
    · intro v s
      refine spn_le (fun a ha => ?_) s
      obtain ⟨r, hr, rfl⟩ := mem_vr ha
      obtain ⟨j, hj, rfl⟩ := List.mem_map.mp hr
      have hj := List.mem_range.mp hj
      have hFj : F.getD j 0 ∈ F := by
        have e : F.getD j 0 = F[j] := by simp [List.getD, m] at hj ⊢; simp [hj]
        rw [e]; exact List.getElem_mem hj
      have sk : Spn ((kernelOf X w).map vr) (vr (kerRow (stepsOf X) w (F.getD j 0))) := by
        obtain ⟨_, h4⟩ := steps_RR (kerRows_len (S := stepsOf X) (w := w))
        exact (h4 _).mpr (spn_row (List.mem_map_of_mem hFj))
      have sl := spn_lin (L := L) (fun v h i => by simp only [L]; split; exact h _; rfl) (fun u v i => by simp only [L]; split <;> grind) (fun k v i => by simp only [L]; split <;> grind) sk
      have el : ((kernelOf X w).map vr).map L = (((kernelOf X w).map fun r => F.map fun f => r.getD f 0)).map vr := by
        rw [List.map_map, List.map_map]
        apply List.map_congr_left
        intro r _
        funext i
        simp only [Function.comp, L, vr, List.getD, List.getElem?_map]
        by_cases hi : i < m
        · rw [if_pos hi]
          have e : F[i]? = some F[i] := List.getElem?_eq_getElem hi
          rw [e]
          rfl
        · rw [if_neg hi]
          have e : F[i]? = none := List.getElem?_eq_none (Nat.le_of_not_lt hi)
          rw [e]
          rfl
      rw [el] at sl
      refine spn_ext (fun i => ?_) sl
      rw [vr_unit]
      simp only [L]
      by_cases hi : i < m
      · rw [if_pos hi]
        have hFi : F.getD i 0 ∈ F := by
          have e : F.getD i 0 = F[i] := by simp only [List.getD, List.getElem?_eq_getElem hi]; rfl
          rw [e]; exact List.getElem_mem hi
        rw [kerRow_out (mem_frees.mp hFi).2]
        by_cases e : i = j
        · subst e
          rw [if_pos ⟨rfl, (mem_frees.mp hFi).1⟩, if_pos ⟨rfl, hi⟩]
        · have ne : ¬ (F.getD i 0 = F.getD j 0 ∧ F.getD i 0 < w) := fun z => by
            have nd : F.Nodup := List.Nodup.sublist List.filter_sublist List.nodup_range
            have z1 := z.1
            rw [List.getD, List.getD, List.getElem?_eq_getElem hi, List.getElem?_eq_getElem hj] at z1
            exact e ((List.getElem_inj nd).mp z1)
          rw [if_neg ne, if_neg fun z => e z.1]
      · rw [if_neg hi, if_neg fun z => hi z.2]
  omega
/-- rows told by their numbers at the heads -/
theorem RR.cols {w : Nat} : ∀ {R : List (List Rat)}, RR w R → ∀ (v : Nat → Vc), (∀ a, Spn (R.map vr) (v a)) → ∀ j, Spn (R.map fun s => fun a => v a (headR s)) (fun a => v a j)
  | [], _, v, h, j => fun a => h a j
  | s :: R, hR, v, h, j => by
    have h1 : ∀ a, Spn (R.map vr) (fun i => v a i - v a (headR s) * vr s i) := fun a => by
      refine hR.tailOf (spn_sub (h a) (spn_smul _ (spn_row List.mem_cons_self))) ?_
      rw [hR.one s List.mem_cons_self]; grind
    have ih := RR.cols hR.tail (fun a i => v a i - v a (headR s) * vr s i) h1 j
    refine ⟨vr s j, ?_⟩
    have e : (R.map fun t => fun a => v a (headR t) - v a (headR s) * vr s (headR t)) = R.map fun t => fun a => v a (headR t) := by
      apply List.map_congr_left
      intro t ht
      funext a
      rw [(List.pairwise_cons.mp hR.out).1 t ht]; grind
    rw [e] at ih
    refine spn_ext (fun a => ?_) ih
    show v a j - v a (headR s) * vr s j = v a j - vr s j * v a (headR s)
    grind
def colsOf (A : List (List Rat)) (n : Nat) : List (List Rat) := (List.range n).map fun p => A.map fun r => r.getD p 0
theorem vr_col (A : List (List Rat)) (p : Nat) (a : Nat) : vr (A.map fun r => r.getD p 0) a = vr (A.getD a []) p := by
  simp only [vr, List.getD, List.getElem?_map]
  cases A[a]? with
  | none => simp
  | some x => simp
theorem rank_le {n : Nat} {A : List (List Rat)} (hl : A.length = n) (hA : ∀ r ∈ A, r.length = n) : (stepsOf (colsOf A n)).length ≤ (stepsOf A).length := by
  obtain ⟨h1, h2⟩ := steps_RR hA
  have hc : ∀ r ∈ colsOf A n, r.length = n := fun r hr => by
    obtain ⟨p, _, rfl⟩ := List.mem_map.mp hr
    rw [List.length_map]; exact hl
  obtain ⟨g1, g2⟩ := steps_RR hc
  have := g1.le (X := (stepsOf A).map fun s => A.map fun r => r.getD (headR s) 0) (fun r hr => by
    obtain ⟨s, _, rfl⟩ := List.mem_map.mp hr
    rw [List.length_map]; exact hl) ?_
  · simpa using this
  · intro v s
    refine spn_le (fun a ha => ?_) ((g2 v).mp s)
    obtain ⟨r, hr, rfl⟩ := mem_vr ha
    obtain ⟨p, _, rfl⟩ := List.mem_map.mp hr
    have := h1.cols (fun a => vr (A.getD a [])) (fun a => ?_) p
    · have e : (List.map (fun s => fun a => vr (A.getD a []) (headR s)) (stepsOf A)) = List.map vr (List.map (fun s => A.map fun r => r.getD (headR s) 0) (stepsOf A)) := by
        rw [List.map_map]
        apply List.map_congr_left
        intro s _
        funext a
        exact (vr_col A _ a).symm
      rw [e] at this
      exact spn_ext (fun a => (vr_col A p a).symm) this
    · by_cases ha : a < A.length
      · have e : A.getD a [] = A[a] := by simp [List.getD, ha]
        rw [e]
        exact (h2 _).mpr (spn_row (List.getElem_mem ha))
      · have e : A.getD a [] = [] := by simp [List.getD, List.getElem?_eq_none (Nat.le_of_not_lt ha)]
        rw [e]
        exact spn_zero _ fun i => vr_ge (by simp)
theorem cols_cols {n : Nat} {A : List (List Rat)} (hl : A.length = n) (hA : ∀ r ∈ A, r.length = n) : colsOf (colsOf A n) n = A := by
  apply List.ext_getElem
  · simp [colsOf, hl]
  · intro i h1 h2
    have hi : i < n := by simpa [colsOf] using h1
    refine vr_ext ?_ fun j => ?_
    · simp [colsOf, hA _ (List.getElem_mem h2)]
    · have e : (colsOf (colsOf A n) n)[i] = (colsOf A n).map fun r => r.getD i 0 := by simp [colsOf]
      rw [e, vr_col]
      by_cases hj : j < n
      · have e2 : (colsOf A n).getD j [] = A.map fun r => r.getD j 0 := by simp [colsOf, List.getD, hj]
        rw [e2, vr_col]
        have e3 : A.getD i [] = A[i] := by simp [List.getD, h2]
        rw [e3]
      · have e2 : (colsOf A n).getD j [] = [] := by
          have : (colsOf A n)[j]? = none := List.getElem?_eq_none (by simp [colsOf]; omega)
          simp [List.getD, this]
        rw [e2, vr_ge (by simp), vr_ge (by rw [hA _ (List.getElem_mem h2)]; omega)]
theorem rank_eq {n : Nat} {A : List (List Rat)} (hl : A.length = n) (hA : ∀ r ∈ A, r.length = n) : (stepsOf (colsOf A n)).length = (stepsOf A).length := by
  refine Nat.le_antisymm (rank_le hl hA) ?_
  have := rank_le (A := colsOf A n) (n := n) (by simp [colsOf]) fun r hr => by
    obtain ⟨p, _, rfl⟩ := List.mem_map.mp hr
    rw [List.length_map]; exact hl
  rw [cols_cols hl hA] at this
  exact this
/-- what all of the kernel leads to nought: the rows again -/
theorem double {w : Nat} {X : List (List Rat)} (hX : ∀ r ∈ X, r.length = w) (v : Vc) : Wd w v ∧ Pp w ((kernelOf X w).map vr) v ↔ Spn (X.map vr) v := by
  obtain ⟨h1, h2⟩ := steps_RR hX
  obtain ⟨_, k2⟩ := kernel_RR hX
  constructor
  · rintro ⟨hw, hp⟩
    rw [← h2]
    -- at the free places all is told by the heads
    have key : ∃ u, Spn ((stepsOf X).map vr) u ∧ ∀ s ∈ stepsOf X, u (headR s) = v (headR s) := by
      have gen : ∀ {R : List (List Rat)}, RR w R → ∃ u, Spn (R.map vr) u ∧ ∀ s ∈ R, u (headR s) = v (headR s) := by
        intro R
        induction R with
        | nil => intro _; exact ⟨fun _ => 0, fun _ => rfl, fun s hs => absurd hs List.not_mem_nil⟩
        | cons r R ih =>
          intro hR
          obtain ⟨u, u1, u2⟩ := ih hR.tail
          refine ⟨fun i => u i + v (headR r) * vr r i, ⟨v (headR r), spn_ext (fun i => by grind) u1⟩, fun s hs => ?_⟩
          rcases List.mem_cons.mp hs with e | hs
          · subst e
            show u (headR s) + v (headR s) * vr s (headR s) = _
            rw [hR.low u1 (Nat.le_refl _), hR.one s List.mem_cons_self]; grind
          · show u (headR s) + v (headR r) * vr r (headR s) = _
            rw [u2 s hs, (List.pairwise_cons.mp hR.out).1 s hs]; grind
      exact gen h1
    obtain ⟨u, u1, u2⟩ := key
    refine spn_ext (fun i => ?_) u1
    by_cases hi : i < w
    · by_cases g : ∃ s ∈ stepsOf X, headR s = i
      · obtain ⟨s, hs, e⟩ := g
        rw [← e]; exact u2 s hs
      · have hf : i ∈ frees (stepsOf X) w := mem_frees.mpr ⟨hi, fun t ht e => g ⟨t, ht, e⟩⟩
        -- the row of the free place
        have sk : Spn ((kernelOf X w).map vr) (vr (kerRow (stepsOf X) w i)) := by
          obtain ⟨_, h4⟩ := steps_RR (kerRows_len (S := stepsOf X) (w := w))
          exact (h4 _).mpr (spn_row (List.mem_map_of_mem hf))
        have e1 := pp_spn hp sk
        have e2 : sm w (fun j => vr (kerRow (stepsOf X) w i) j * u j) = 0 := by
          have := pp_spn ((k2 _).mp sk).2 ((h2 u).mp u1)
          rw [← this]
          exact sm_congr fun j _ => by grind
        have e3 : sm w (fun j => vr (kerRow (stepsOf X) w i) j * (u j - v j)) = 0 := by
          have : (fun j => vr (kerRow (stepsOf X) w i) j * (u j - v j)) = fun j => vr (kerRow (stepsOf X) w i) j * u j + (-1) * (vr (kerRow (stepsOf X) w i) j * v j) := funext fun j => by grind
          rw [this, sm_add, sm_mul, e1, e2]; grind
        rw [sm_one hi fun j hj hne => ?_] at e3
        · rw [kerRow_out (mem_frees.mp hf).2, if_pos ⟨rfl, hi⟩] at e3; grind
        · by_cases g2 : ∃ t ∈ stepsOf X, headR t = j
          · obtain ⟨t, ht, e⟩ := g2
            have := u2 t ht
            rw [e] at this
            rw [this]; grind
          · rw [kerRow_out fun t ht e => g2 ⟨t, ht, e⟩, if_neg fun z => hne z.1]; grind
    · rw [wd_rows h1.len u1 i (by omega), hw i (by omega)]
  · intro s
    refine ⟨wd_rows hX s, fun a ha => ?_⟩
    have := pp_spn ((k2 _).mp (spn_mem ha)).2 s
    rw [← this]
    exact sm_congr fun j _ => by grind
end TW
set_option Elab.async false
set_option linter.all false
set_option maxRecDepth 100000
set_option exponentiation.threshold 100000
/-! M4: the law's own steps; sizes of steps. -/
namespace TW
open PySem L2
/-! ### the law's own steps are in steps -/
theorem lStg_succ' (X : List (List Int)) (p : Nat) : lStg X (p + 1) = lStep (lStg X p) p := by
  unfold lStg
  rw [List.range_succ, List.foldl_append]
  rfl
theorem bare_lin {r : List Int} {g : Int} (h : ∀ i, g * (bareRow r).getD i 0 = r.getD i 0) (i : Nat) : vi r i = (g : Rat) * vi (bareRow r) i := by
  have := congrArg (fun z : Int => (z : Rat)) (h i)
  simp only [Rat.intCast_mul] at this
  exact this.symm
theorem bare_spn (X : List (List Int)) (v : Vc) : Spn ((X.map bareRow).map vi) v ↔ Spn (X.map vi) v := by
  constructor
  · refine spn_le fun a ha => ?_
    obtain ⟨r, hr, rfl⟩ := mem_vi ha
    obtain ⟨x, hx, rfl⟩ := List.mem_map.mp hr
    obtain ⟨g, g1, _, g3⟩ := bare_spec x
    refine spn_ext (fun i => ?_) (spn_smul (g : Rat)⁻¹ (spi hx))
    have := bare_lin g3 i
    have n : (g : Rat) ≠ 0 := fun z => by have := Rat.intCast_eq_zero_iff.mp z; omega
    rw [this]; grind
  · refine spn_le fun a ha => ?_
    obtain ⟨x, hx, rfl⟩ := mem_vi ha
    obtain ⟨g, g1, _, g3⟩ := bare_spec x
    exact spn_ext (fun i => (bare_lin g3 i).symm) (spn_smul (g : Rat) (spi (List.mem_map_of_mem hx)))
theorem lHead_spec {row : List Int} {p : Nat} (hp : row.getD p 0 ≠ 0) : ∃ g : Int, g ≠ 0 ∧ (lHead row p).length = row.length ∧ 0 < (lHead row p).getD p 0 ∧ ∀ i, (lHead row p).getD i 0 = g * row.getD i 0 := by
  unfold lHead
  split
  · exact ⟨1, by decide, rfl, ‹_›, fun i => (Int.one_mul _).symm⟩
  · refine ⟨-1, by decide, by simp, ?_, fun i => ?_⟩
    · rw [getD_map0 (by simp)]; omega
    · rw [getD_map0 (by simp)]; omega
theorem lStg_inv {w : Nat} {X : List (List Int)} (hX : ∀ r ∈ X, r.length = w) : ∀ p, Inv w p X (lStg X p)
  | 0 => ⟨fun r hr => by
      obtain ⟨x, hx, rfl⟩ := List.mem_map.mp hr
      obtain ⟨g, _, g2, _⟩ := bare_spec x
      rw [g2]; exact hX x hx, fun r hr => absurd hr (by show ¬ r ∈ ([] : List (List Int)); exact List.not_mem_nil), fun r _ i hi => absurd hi (Nat.not_lt_zero _), fun r hr => absurd hr (by show ¬ r ∈ ([] : List (List Int)); exact List.not_mem_nil), List.Pairwise.nil, List.Pairwise.nil, fun v => by show Spn ((X.map bareRow ++ []).map vi) v ↔ _; rw [List.append_nil]; exact bare_spn X v⟩
  | p + 1 => by
    have I := lStg_inv hX p
    rw [lStg_succ']
    unfold lStep
    cases hf : (lStg X p).1.filter fun r => r.getD p 0 != 0 with
    | nil =>
      dsimp only
      refine I.skip fun r hr => ?_
      have := List.filter_eq_nil_iff.mp hf r hr
      simpa using this
    | cons x ys =>
      dsimp only
      have hx : x ∈ (lStg X p).1.filter fun r => r.getD p 0 != 0 := by rw [hf]; exact List.mem_cons_self
      obtain ⟨hm, hne⟩ := List.mem_filter.mp hx
      have hne : x.getD p 0 ≠ 0 := by simpa using hne
      obtain ⟨g, g1, g2, g3, g4⟩ := lHead_spec hne
      refine I.step (h := lHead x p) (by rw [g2]; exact I.l _ hm) (fun j hj => by rw [g4, I.z _ hm j hj, Int.mul_zero]) g3 (spn_ext (fun j => ?_) (spn_smul (g : Rat) (spi hm))) (fun r hr => ?_) rfl (fun y hy => .inl (List.mem_map_of_mem hy))
      · simp only [vi]; rw [g4, Rat.intCast_mul]
      · obtain ⟨y, hy, rfl⟩ := List.mem_map.mp hr
        exact ⟨y, hy, rfl⟩
theorem lawSteps_inv {w : Nat} {X : List (List Int)} (hX : ∀ r ∈ X, r.length = w) (hn : X ≠ []) : Inv w w X (lStg X w) := lStg_inv hX w
theorem lawSteps_RR {w : Nat} {X : List (List Int)} (hX : ∀ r ∈ X, r.length = w) : RR w ((lawSteps X).map toldRow) ∧ ∀ v, Spn (((lawSteps X).map toldRow).map vr) v ↔ Spn (X.map vi) v := by
  by_cases hn : X = []
  · subst hn
    exact ⟨RR.nil w, fun v => Iff.rfl⟩
  · have := (lStg_inv hX w).fin
    unfold lawSteps
    rw [wide_eq hX hn]
    exact this
/-! ### sizes -/
theorem clr_bd' {row head : List Int} {p b b' : Nat} (h1 : Bd b row) (h2 : Bd b' head) : Bd (b + b' + 1) (clr head p row) := by
  unfold clr
  split
  · exact h1.mono (by omega)
  · exact bareRow_bd (clr_bd h1 h2)
structure SzI (K : Nat) (st : LF) : Prop where
  l : ∀ r ∈ st.1, Bd (2 ^ st.2.length * K - 1) r
  f : ∀ r ∈ st.2, Bd ((2 ^ st.2.length - 1) * K - 1) r
theorem SzI.go {K : Nat} {st st' : LF} (hK : 1 ≤ K) (I : SzI K st) {h : List Int} {p : Nat} (hh : Bd (2 ^ st.2.length * K - 1) h) (e1 : ∀ r ∈ st'.1, ∃ x ∈ st.1, r = clr h p x) (e2 : st'.2 = st.2.map (clr h p) ++ [h]) : SzI K st' := by
  have el : st'.2.length = st.2.length + 1 := by rw [e2]; simp
  have hp : 1 ≤ 2 ^ st.2.length := Nat.one_le_two_pow
  generalize ea : 2 ^ st.2.length = a at *
  have e : 2 ^ st'.2.length = 2 * a := by rw [el, Nat.pow_succ, ea]; omega
  have k1 : 1 ≤ a * K := Nat.mul_pos hp hK
  have k2 : 2 * a * K = a * K + a * K := by rw [Nat.mul_assoc]; omega
  have k3 : (2 * a - 1) * K = (a - 1) * K + a * K := by rw [← Nat.add_mul]; congr 1; omega
  refine ⟨fun r hr => ?_, fun r hr => ?_⟩
  · obtain ⟨x, hx, rfl⟩ := e1 r hr
    rw [e, k2]
    exact (clr_bd' (I.l x hx) hh).mono (by rw [ea]; omega)
  · rw [e, k3]
    rw [e2] at hr
    rcases List.mem_append.mp hr with hr | hr
    · obtain ⟨x, hx, rfl⟩ := List.mem_map.mp hr
      have hpos : 1 ≤ (a - 1) * K := by
        have : st.2.length ≠ 0 := fun z => by rw [List.length_eq_zero_iff.mp z] at hx; exact absurd hx List.not_mem_nil
        have : 2 ^ 1 ≤ 2 ^ st.2.length := Nat.pow_le_pow_right (by decide) (by omega)
        exact Nat.mul_pos (by omega) hK
      exact (clr_bd' (I.f x hx) hh).mono (by rw [ea]; omega)
    · rw [List.mem_singleton] at hr
      rw [hr]
      exact hh.mono (by omega)
theorem stg_sz {X : List (List Int)} {K : Nat} (hK : 1 ≤ K) (h : ∀ r ∈ X, Bd (K - 1) r) : ∀ p, SzI K (stg X p)
  | 0 => ⟨fun r hr => by show Bd (2 ^ 0 * K - 1) r; rw [Nat.pow_zero, Nat.one_mul]; exact h r hr, fun r hr => absurd hr (by show ¬ r ∈ ([] : List (List Int)); exact List.not_mem_nil)⟩
  | p + 1 => by
    have I := stg_sz hK h p
    rw [stg_succ]
    unfold stepAt
    cases hi : firstAt (stg X p).1 p with
    | none => exact I
    | some i =>
      dsimp only
      have hm := getD_mem (firstAt_lt hi)
      refine I.go hK (h := headed ((stg X p).1.getD i []) p) (p := p) (headed_bd (I.l _ hm)) (fun r hr => ?_) rfl
      obtain ⟨x, hx, rfl⟩ := List.mem_map.mp hr
      exact ⟨x, mem_cut hx, rfl⟩
theorem lStg_sz {X : List (List Int)} {K : Nat} (hK : 1 ≤ K) (h : ∀ r ∈ X, Bd (K - 1) r) : ∀ p, SzI K (lStg X p)
  | 0 => ⟨fun r hr => by
      show Bd (2 ^ 0 * K - 1) r; rw [Nat.pow_zero, Nat.one_mul]
      obtain ⟨x, hx, rfl⟩ := List.mem_map.mp hr
      exact bareRow_bd (h x hx), fun r hr => absurd hr (by show ¬ r ∈ ([] : List (List Int)); exact List.not_mem_nil)⟩
  | p + 1 => by
    have I := lStg_sz hK h p
    rw [lStg_succ']
    unfold lStep
    cases hf : (lStg X p).1.filter fun r => r.getD p 0 != 0 with
    | nil => exact I
    | cons x ys =>
      dsimp only
      have hx : x ∈ (lStg X p).1.filter fun r => r.getD p 0 != 0 := by rw [hf]; exact List.mem_cons_self
      refine I.go hK (h := lHead x p) (p := p) (lHead_bd (I.l _ (List.mem_filter.mp hx).1)) (fun r hr => ?_) rfl
      obtain ⟨y, hy, rfl⟩ := List.mem_map.mp hr
      exact ⟨y, hy, rfl⟩
/-! ### how many are found -/
theorem stepAt_up (st : LF) (p : Nat) : st.2.length ≤ (stepAt st p).2.length := by
  unfold stepAt
  split
  · exact Nat.le_refl _
  · simp
theorem stg_up (X : List (List Int)) {p q : Nat} (h : p ≤ q) : (stg X p).2.length ≤ (stg X q).2.length := by
  induction q with
  | zero => rw [Nat.le_zero.mp h]; exact Nat.le_refl _
  | succ q ih =>
    rcases Nat.le_succ_iff.mp h with g | g
    · rw [stg_succ]; exact Nat.le_trans (ih g) (stepAt_up _ _)
    · rw [g]; exact Nat.le_refl _
theorem stg_hit (X : List (List Int)) {p : Nat} (h : firstAt (stg X p).1 p ≠ none) : (stg X (p + 1)).2.length = (stg X p).2.length + 1 := by
  rw [stg_succ]
  unfold stepAt
  split
  · exact absurd ‹_› h
  · simp
theorem lStep_up (st : LF) (p : Nat) : (lStep st p).2.length ≤ st.2.length + 1 := by
  unfold lStep
  split <;> simp
theorem lStg_le (X : List (List Int)) : ∀ p, (lStg X p).2.length ≤ p
  | 0 => Nat.le_refl _
  | p + 1 => by rw [lStg_succ']; exact Nat.le_trans (lStep_up _ _) (Nat.succ_le_succ (lStg_le X p))
/-- rows fit to be brought in steps: `2 ^ r * K` for all but the last -/
theorem fit_of {X : List (List Int)} {w K : Nat} (hX : ∀ r ∈ X, r.length = w) (hn : X.length ≤ 500) (hw : w ≤ 500) (hK : 1 ≤ K) (h : ∀ r ∈ X, Bd (K - 1) r) (hk : ∀ r, r < (intSteps X).length → 2 ^ r * K ≤ 4491) : Fit X := by
  by_cases e : X = []
  · subst e
    exact ⟨hn, fun r hr => absurd hr List.not_mem_nil, by decide, fun p hp => absurd hp (Nat.not_lt_zero _)⟩
  have ew := wide_eq hX e
  refine ⟨hn, fun r hr => by rw [ew]; exact hX r hr, by rw [ew]; exact hw, fun p hp hne => ?_⟩
  have I := stg_sz hK h p
  have h1 := stg_hit X hne
  have h2 := stg_up X (p := p + 1) (q := wideOf X) (by omega)
  have h3 := hk (stg X p).2.length (by show _ < (stg X (wideOf X)).2.length; omega)
  refine ⟨fun r hr => (I.l r hr).mono (by omega), fun r hr => (I.f r hr).mono ?_⟩
  have : (2 ^ (stg X p).2.length - 1) * K ≤ 2 ^ (stg X p).2.length * K := Nat.mul_le_mul_right _ (Nat.sub_le _ _)
  omega
theorem intSteps_bd {X : List (List Int)} {K : Nat} (hK : 1 ≤ K) (h : ∀ r ∈ X, Bd (K - 1) r) : ∀ r ∈ intSteps X, Bd ((2 ^ (intSteps X).length - 1) * K - 1) r := (stg_sz hK h _).f
theorem intSteps_hd {w : Nat} {X : List (List Int)} (hX : ∀ r ∈ X, r.length = w) : ∀ r ∈ intSteps X, r.length = w ∧ headOf r < w ∧ 0 < r.getD (headOf r) 0 := by
  intro r hr
  by_cases e : X = []
  · subst e; exact absurd hr (by rw [intSteps_nil]; exact List.not_mem_nil)
  · unfold intSteps at hr
    rw [wide_eq hX e] at hr
    have I := stg_inv hX w
    exact ⟨I.f r hr, (I.hd r hr).1, (I.hd r hr).2⟩
theorem toldOk_of {F : List (List Int)} {w b : Nat} (hn : F.length ≤ 1000) (hw : w ≤ 500) (hd : ∀ r ∈ F, r.length = w ∧ headOf r < w ∧ 0 < r.getD (headOf r) 0) (hb : ∀ r ∈ F, Bd b r) (hb' : b ≤ 9000) : ToldOk F :=
  ⟨hn, fun r hr => by rw [(hd r hr).1]; omega, fun r hr => by rw [(hd r hr).1]; exact (hd r hr).2.1, fun r hr => (hd r hr).2.2, fun r hr => getD_bd ((hb r hr).mono hb')⟩
theorem lfit_of {X : List (List Int)} {w K : Nat} (hX : ∀ r ∈ X, r.length = w) (hn : X.length ≤ 500) (hw : w ≤ 4) (hK : 1 ≤ K) (h : ∀ r ∈ X, Bd (K - 1) r) (hk : 8 * K ≤ 4491) : LFit X := by
  by_cases e : X = []
  · subst e
    exact ⟨hn, fun r hr => absurd hr List.not_mem_nil, by decide, fun r hr => absurd hr List.not_mem_nil, fun p hp => absurd hp (Nat.not_lt_zero _)⟩
  have ew := wide_eq hX e
  refine ⟨hn, fun r hr => by rw [ew]; exact hX r hr, by rw [ew]; omega, fun r hr => (h r hr).mono (by omega), fun p hp => ?_⟩
  have I := lStg_sz hK h p
  have h1 := lStg_le X p
  have h2 : 2 ^ (lStg X p).2.length ≤ 2 ^ 3 := Nat.pow_le_pow_right (by decide) (by omega)
  have h3 : 2 ^ (lStg X p).2.length * K ≤ 8 * K := Nat.mul_le_mul_right _ h2
  refine ⟨fun r hr => (I.l r hr).mono (by omega), fun r hr => (I.f r hr).mono ?_⟩
  have : (2 ^ (lStg X p).2.length - 1) * K ≤ 2 ^ (lStg X p).2.length * K := Nat.mul_le_mul_right _ (Nat.sub_le _ _)
  omega
theorem lawSteps_hd {w : Nat} {X : List (List Int)} (hX : ∀ r ∈ X, r.length = w) : ∀ r ∈ lawSteps X, r.length = w ∧ headOf r < w ∧ 0 < r.getD (headOf r) 0 := by
  intro r hr
  by_cases e : X = []
  · subst e; exact absurd hr (by show ¬ r ∈ ([] : List (List Int)); exact List.not_mem_nil)
  · unfold lawSteps at hr
    rw [wide_eq hX e] at hr
    have I := lStg_inv hX w
    exact ⟨I.f r hr, (I.hd r hr).1, (I.hd r hr).2⟩
theorem lawSteps_bd {X : List (List Int)} {K : Nat} (hK : 1 ≤ K) (h : ∀ r ∈ X, Bd (K - 1) r) : ∀ r ∈ lawSteps X, Bd ((2 ^ (lawSteps X).length - 1) * K - 1) r := (lStg_sz hK h _).f
end TW
set_option Elab.async false
set_option linter.all false
set_option maxRecDepth 100000
set_option exponentiation.threshold 100000
/-! M5: sizes of rows of Ratios; when steps and kernels are within the limits. -/
namespace TW
open PySem L2
structure WB (b : Nat) (row : List Rat) : Prop where
  w : Bd b (wholesI row)
  l : lcmDen row < 2 ^ b
theorem WB.mono {a b : Nat} {row : List Rat} (h : WB a row) (hab : a ≤ b) : WB b row := ⟨h.w.mono hab, Nat.lt_of_lt_of_le h.l (Nat.pow_le_pow_right (by decide) hab)⟩
theorem RSz.mono {a b : Nat} {q : Rat} (h : RSz a q) (hab : a ≤ b) : RSz b q := ⟨Nat.lt_of_lt_of_le h.1 (Nat.pow_le_pow_right (by decide) hab), Nat.lt_of_lt_of_le h.2 (Nat.pow_le_pow_right (by decide) hab)⟩
theorem WB.rsz {b : Nat} {row : List Rat} (h : WB b row) : ∀ q ∈ row, RSz b q := by
  intro q hq
  have hd := lcm_dvd' hq
  have hL := lcm_pos' row
  refine ⟨?_, Nat.lt_of_le_of_lt (Nat.le_of_dvd hL hd) h.l⟩
  have := h.w (q.num * ((lcmDen row : Int) / (q.den : Int))) (List.mem_map_of_mem hq)
  rw [Int.natAbs_mul] at this
  have h1 : 1 ≤ ((lcmDen row : Int) / (q.den : Int)).natAbs := by
    rw [← Int.natCast_ediv, Int.natAbs_natCast]
    exact Nat.div_pos (Nat.le_of_dvd hL hd) q.den_pos
  exact Nat.lt_of_le_of_lt (Nat.le_mul_of_pos_right _ h1) this
theorem lcmF_dvd {m : Nat} {row : List Rat} : ∀ (b : Nat), b ∣ m → (∀ q ∈ row, q.den ∣ m) → row.foldl (fun b q => Nat.lcm b q.den) b ∣ m := by
  induction row with
  | nil => intro b hb _; exact hb
  | cons y ys ih =>
    intro b hb h
    exact ih _ (Nat.lcm_dvd hb (h y List.mem_cons_self)) fun q hq => h q (List.mem_cons_of_mem _ hq)
theorem lcmDen_dvd {m : Nat} {row : List Rat} (h : ∀ q ∈ row, q.den ∣ m) : lcmDen row ∣ m := lcmF_dvd 1 (Nat.one_dvd _) h
/-- a number of wholesI: |w| * den = |num| * lcm -/
theorem wholes_mul {row : List Rat} {x : Int} (hx : x ∈ wholesI row) : ∃ q ∈ row, x.natAbs * q.den = q.num.natAbs * lcmDen row := by
  obtain ⟨q, hq, rfl⟩ := List.mem_map.mp hx
  refine ⟨q, hq, ?_⟩
  rw [Int.natAbs_mul, ← Int.natCast_ediv, Int.natAbs_natCast, Nat.mul_assoc, Nat.div_mul_cancel (lcm_dvd' hq)]
theorem den_divInt_dvd (n : Int) {h : Int} (hh : 0 < h) : (Rat.divInt n h).den ∣ h.natAbs := by
  rw [Rat.den_divInt, if_neg (by omega)]
  exact Nat.div_dvd_of_dvd (Int.gcd_dvd_natAbs_left _ _)
theorem divInt_cross (n : Int) {h : Int} (hh : 0 < h) : (Rat.divInt n h).num.natAbs * h.natAbs = n.natAbs * (Rat.divInt n h).den := by
  have e : ((Rat.divInt n h).num * h : Int) = n * ((Rat.divInt n h).den : Int) := by
    apply Rat.intCast_inj.mp
    rw [Rat.intCast_mul, Rat.intCast_mul, rat_num, Rat.divInt_eq_div]
    have hn : (h : Rat) ≠ 0 := fun z => by have := Rat.intCast_eq_zero_iff.mp z; omega
    have e3 : (((((n : Rat) / (h : Rat)).den : Nat) : Int) : Rat) = (((n : Rat) / (h : Rat)).den : Rat) := rfl
    rw [e3]
    generalize (((n : Rat) / (h : Rat)).den : Rat) = d
    grind
  have := congrArg Int.natAbs e
  rw [Int.natAbs_mul, Int.natAbs_mul, Int.natAbs_natCast] at this
  exact this
theorem told_wb {r : List Int} {b : Nat} (hb : Bd b r) (hp : 0 < r.getD (headOf r) 0) : WB b (toldRow r) := by
  generalize hh : r.getD (headOf r) 0 = h at hp
  have hlt : h.natAbs < 2 ^ b := by rw [← hh]; exact getD_bd hb
  have hd : lcmDen (toldRow r) ∣ h.natAbs := lcmDen_dvd fun q hq => by
    obtain ⟨n, _, rfl⟩ := List.mem_map.mp hq
    rw [hh]; exact den_divInt_dvd n hp
  have hle := Nat.le_of_dvd (by omega) hd
  refine ⟨fun x hx => ?_, Nat.lt_of_le_of_lt hle hlt⟩
  obtain ⟨q, hq, e⟩ := wholes_mul hx
  obtain ⟨n, hn, rfl⟩ := List.mem_map.mp hq
  rw [hh] at e
  have e2 := divInt_cross n hp
  -- x * den = num * L ; num * h = n * den ; L ≤ h
  have hden := (Rat.divInt n h).den_pos
  have h1 : x.natAbs * (Rat.divInt n h).den ≤ n.natAbs * (Rat.divInt n h).den := by
    rw [e, ← e2]; exact Nat.mul_le_mul_left _ hle
  exact Nat.lt_of_le_of_lt (Nat.le_of_mul_le_mul_right h1 hden) (hb n hn)
theorem wholes_len (X : List (List Rat)) {w : Nat} (hX : ∀ r ∈ X, r.length = w) : ∀ r ∈ X.map wholesI, r.length = w := fun r hr => by
  obtain ⟨x, hx, rfl⟩ := List.mem_map.mp hr
  rw [wholesI, List.length_map]; exact hX x hx
theorem wholes_bd {X : List (List Rat)} {b : Nat} (h : ∀ r ∈ X, WB b r) : ∀ r ∈ X.map wholesI, Bd b r := fun r hr => by
  obtain ⟨x, hx, rfl⟩ := List.mem_map.mp hr
  exact (h x hx).w
theorem steps_rho (X : List (List Rat)) : (intSteps (X.map wholesI)).length = (stepsOf X).length := by rw [stepsOf, List.length_map]
theorem steps_wb {X : List (List Rat)} {w K : Nat} (hX : ∀ r ∈ X, r.length = w) (hK : 1 ≤ K) (h : ∀ r ∈ X, WB (K - 1) r) : ∀ r ∈ stepsOf X, WB ((2 ^ (stepsOf X).length - 1) * K - 1) r := by
  intro r hr
  obtain ⟨x, hx, rfl⟩ := List.mem_map.mp hr
  rw [← steps_rho]
  exact told_wb (intSteps_bd hK (wholes_bd h) x hx) (intSteps_hd (wholes_len X hX) x hx).2.2
theorem stepsOk_of {X : List (List Rat)} {w K : Nat} (hX : ∀ r ∈ X, r.length = w) (hn : X.length ≤ 500) (hw : w ≤ 500) (hK : 1 ≤ K) (h : ∀ r ∈ X, WB (K - 1) r) (hk0 : K ≤ 9001) (hk : ∀ r, r < (stepsOf X).length → 2 ^ r * K ≤ 4491) (hb : (2 ^ (stepsOf X).length - 1) * K ≤ 9001) : StepsOk X := by
  refine ⟨hn, fun r hr => ⟨by rw [hX r hr]; exact hw, fun q hq => ((h r hr).rsz q hq).mono (by omega), Nat.lt_of_lt_of_le (h r hr).l (Nat.pow_le_pow_right (by decide) (by omega))⟩, ?_, ?_⟩
  · exact fit_of (wholes_len X hX) (by rw [List.length_map]; exact hn) hw hK (wholes_bd h) (by rw [steps_rho]; exact hk)
  · refine toldOk_of (w := w) (b := (2 ^ (stepsOf X).length - 1) * K - 1) ?_ hw (intSteps_hd (wholes_len X hX)) (by rw [← steps_rho]; exact intSteps_bd hK (wholes_bd h)) (by omega)
    rw [steps_rho]
    exact Nat.le_trans (steps_len X) (by omega)
/-! ### the rows of a kernel -/
def dens (S : List (List Rat)) (f : Nat) : Nat := S.foldr (fun s p => (vr s f).den * p) 1
theorem dens_pos (S : List (List Rat)) (f : Nat) : 0 < dens S f := by
  induction S with
  | nil => exact Nat.one_pos
  | cons s S ih => exact Nat.mul_pos (vr s f).den_pos ih
theorem vr_rsz {b : Nat} {r : List Rat} (h : ∀ q ∈ r, RSz b q) (hb : 1 ≤ b) (i : Nat) : RSz b (vr r i) := by
  by_cases hi : i < r.length
  · have e : vr r i = r[i] := by simp [vr, List.getD, hi]
    rw [e]; exact h _ (List.getElem_mem hi)
  · rw [vr_ge (Nat.le_of_not_lt hi)]
    exact ⟨Nat.two_pow_pos _, Nat.one_lt_two_pow (by omega)⟩
theorem dens_le {S : List (List Rat)} {b : Nat} (hb : 1 ≤ b) (h : ∀ s ∈ S, ∀ q ∈ s, RSz b q) (f : Nat) : dens S f ≤ (2 ^ b) ^ S.length ∧ ∀ s ∈ S, (vr s f).den ∣ dens S f ∧ (vr s f).num.natAbs * dens S f ≤ (vr s f).den * (2 ^ b) ^ S.length := by
  induction S with
  | nil => exact ⟨Nat.le_refl _, fun s hs => absurd hs List.not_mem_nil⟩
  | cons x S ih =>
    obtain ⟨h1, h2⟩ := ih fun s hs => h s (List.mem_cons_of_mem _ hs)
    have hx := vr_rsz (h x List.mem_cons_self) hb f
    have e : dens (x :: S) f = (vr x f).den * dens S f := rfl
    have ep : (2 ^ b) ^ (x :: S).length = 2 ^ b * (2 ^ b) ^ S.length := by rw [List.length_cons, Nat.pow_succ, Nat.mul_comm]
    rw [e, ep]
    refine ⟨Nat.mul_le_mul (Nat.le_of_lt hx.2) h1, fun s hs => ?_⟩
    rcases List.mem_cons.mp hs with g | hs
    · subst g
      refine ⟨Nat.dvd_mul_right _ _, ?_⟩
      rw [Nat.mul_left_comm]
      exact Nat.mul_le_mul_left _ (Nat.mul_le_mul (Nat.le_of_lt hx.1) h1)
    · obtain ⟨g1, g2⟩ := h2 s hs
      refine ⟨Nat.dvd_mul_left_of_dvd g1 _, ?_⟩
      rw [Nat.mul_left_comm, Nat.mul_left_comm (vr s f).den]
      exact Nat.mul_le_mul (Nat.le_of_lt hx.2) g2
theorem kerRow_mem {S : List (List Rat)} {w f : Nat} {q : Rat} (h : q ∈ kerRow S w f) : q = 0 ∨ q = 1 ∨ ∃ s ∈ S, q = -(vr s f) := by
  have gen : ∀ (S : List (List Rat)) (b : List Rat), q ∈ kerFold S f b → q ∈ b ∨ ∃ s ∈ S, q = -(vr s f) := by
    intro S
    induction S with
    | nil => intro b hq; exact .inl hq
    | cons s S ih =>
      intro b hq
      rcases ih _ hq with g | ⟨t, ht, e⟩
      · rcases List.mem_or_eq_of_mem_set g with g | g
        · exact .inl g
        · exact .inr ⟨s, List.mem_cons_self, g⟩
      · exact .inr ⟨t, List.mem_cons_of_mem _ ht, e⟩
  rcases gen S _ h with g | g
  · obtain ⟨i, _, rfl⟩ := List.mem_map.mp g
    split
    · exact .inr (.inl rfl)
    · exact .inl rfl
  · exact .inr (.inr g)
theorem kerRow_wb {S : List (List Rat)} {w f b : Nat} (hb : 1 ≤ b) (h : ∀ s ∈ S, WB b s) : WB (S.length * b + 1) (kerRow S w f) := by
  obtain ⟨d1, d2⟩ := dens_le hb (fun s hs => (h s hs).rsz) f
  have dp := dens_pos S f
  have ent : ∀ q ∈ kerRow S w f, q.den ∣ dens S f ∧ q.num.natAbs * dens S f ≤ q.den * (2 ^ b) ^ S.length := by
    intro q hq
    rcases kerRow_mem hq with e | e | ⟨s, hs, e⟩
    · subst e; exact ⟨Nat.one_dvd _, by show 0 * _ ≤ _; rw [Nat.zero_mul]; exact Nat.zero_le _⟩
    · subst e; exact ⟨Nat.one_dvd _, by show 1 * _ ≤ 1 * _; rw [Nat.one_mul, Nat.one_mul]; exact d1⟩
    · subst e
      obtain ⟨g1, g2⟩ := d2 s hs
      rw [Rat.neg_den, Rat.neg_num, Int.natAbs_neg]
      exact ⟨g1, g2⟩
  have hL := lcmDen_dvd fun q hq => (ent q hq).1
  have hLe := Nat.le_of_dvd dp hL
  have hpow : (2 ^ b) ^ S.length < 2 ^ (S.length * b + 1) := by
    rw [← Nat.pow_mul, Nat.mul_comm]
    exact Nat.pow_lt_pow_right (by decide) (Nat.lt_succ_self _)
  refine ⟨fun x hx => ?_, Nat.lt_of_le_of_lt (Nat.le_trans hLe d1) hpow⟩
  obtain ⟨q, hq, e⟩ := wholes_mul hx
  obtain ⟨g1, g2⟩ := ent q hq
  refine Nat.lt_of_le_of_lt ?_ hpow
  -- x * den * D = num * L * D ≤ den * M * L ≤ den * M * D
  have k1 : (q.den * dens S f) * x.natAbs ≤ (q.den * dens S f) * (2 ^ b) ^ S.length := by
    calc (q.den * dens S f) * x.natAbs = (x.natAbs * q.den) * dens S f := by rw [Nat.mul_comm, Nat.mul_assoc]
      _ = (q.num.natAbs * dens S f) * lcmDen (kerRow S w f) := by rw [e, Nat.mul_assoc, Nat.mul_assoc, Nat.mul_comm (lcmDen _)]
      _ ≤ (q.den * (2 ^ b) ^ S.length) * dens S f := Nat.mul_le_mul g2 hLe
      _ = (q.den * dens S f) * (2 ^ b) ^ S.length := by rw [Nat.mul_assoc, Nat.mul_assoc, Nat.mul_comm (dens S f)]
  exact Nat.le_of_mul_le_mul_left k1 (Nat.mul_pos q.den_pos dp)
theorem kerOk_of {X : List (List Rat)} {w b : Nat} (hX : ∀ r ∈ X, r.length = w) (ok : StepsOk X) (hw : w ≤ 500) (hb : 1 ≤ b) (hb' : b ≤ 9000) (hS : ∀ r ∈ stepsOf X, WB b r)
    (h0 : (stepsOf X).length * b + 2 ≤ 9001) (hk : ∀ r, r < (kernelOf X w).length → 2 ^ r * ((stepsOf X).length * b + 2) ≤ 4491) (hk2 : (2 ^ (kernelOf X w).length - 1) * ((stepsOf X).length * b + 2) ≤ 9001) : KerOk X w := by
  obtain ⟨h1, _⟩ := steps_RR hX
  refine ⟨ok, hw, Nat.le_trans (steps_len X) ok.n, fun r hr => ⟨h1.len r hr, h1.hd r hr, fun q hq => ((hS r hr).rsz q hq).mono hb'⟩, ?_⟩
  refine stepsOk_of (w := w) (K := (stepsOf X).length * b + 2) kerRows_len ?_ hw (by omega) (fun r hr => ?_) h0 hk hk2
  · rw [kerRows_eq, List.length_map]
    have := frees_len h1
    omega
  · obtain ⟨f, _, rfl⟩ := List.mem_map.mp hr
    exact kerRow_wb hb hS
theorem kernel_wb {X : List (List Rat)} {w b : Nat} (hb : 1 ≤ b) (hS : ∀ r ∈ stepsOf X, WB b r) : ∀ r ∈ kernelOf X w, WB ((2 ^ (kernelOf X w).length - 1) * ((stepsOf X).length * b + 2) - 1) r :=
  steps_wb (K := (stepsOf X).length * b + 2) (X := kerRows (stepsOf X) w) kerRows_len (by omega) fun r hr => by
    obtain ⟨f, _, rfl⟩ := List.mem_map.mp hr
    exact kerRow_wb hb hS
end TW
set_option Elab.async false
set_option linter.all false
set_option maxRecDepth 100000
set_option exponentiation.threshold 100000
/-! M6: the law's own noughts and images are the program's. -/
namespace TW
open PySem L2
def castT (T : List (List Int)) : List (List Rat) := T.map fun r => r.map fun (n : Int) => (n : Rat)
theorem vr_cast (r : List Int) : vr (r.map fun (n : Int) => (n : Rat)) = vi r := by
  funext i
  simp only [vr, vi, List.getD, List.getElem?_map]
  cases r[i]? <;> rfl
theorem castT_vr (T : List (List Int)) : (castT T).map vr = T.map vi := by
  rw [castT, List.map_map]
  exact List.map_congr_left fun r _ => vr_cast r
theorem castT_len {T : List (List Int)} {w : Nat} (h : ∀ r ∈ T, r.length = w) : ∀ r ∈ castT T, r.length = w := fun r hr => by
  obtain ⟨x, hx, rfl⟩ := List.mem_map.mp hr
  rw [List.length_map]; exact h x hx
theorem lcmF_one {row : List Int} : (row.map fun (n : Int) => (n : Rat)).foldl (fun b q => Nat.lcm b q.den) 1 = 1 := by
  induction row with
  | nil => rfl
  | cons y ys ih =>
    rw [List.map_cons, List.foldl_cons]
    have : Nat.lcm 1 ((y : Rat).den) = 1 := by rw [Rat.den_intCast]; rfl
    rw [this]; exact ih
theorem lcmDen_cast (row : List Int) : lcmDen (row.map fun (n : Int) => (n : Rat)) = 1 := lcmF_one
theorem wholes_cast (row : List Int) : wholesI (row.map fun (n : Int) => (n : Rat)) = row := by
  unfold wholesI
  rw [lcmDen_cast, List.map_map]
  conv => rhs; rw [← List.map_id row]
  apply List.map_congr_left
  intro n _
  simp only [Function.comp, Rat.den_intCast, Rat.num_intCast]
  show n * (1 / 1) = n
  rw [Int.ediv_one, Int.mul_one]
theorem cast_wb {b : Nat} (hb : 1 ≤ b) {T : List (List Int)} (h : ∀ r ∈ T, Bd b r) : ∀ r ∈ castT T, WB b r := fun r hr => by
  obtain ⟨x, hx, rfl⟩ := List.mem_map.mp hr
  exact ⟨by rw [wholes_cast]; exact h x hx, by rw [lcmDen_cast]; exact Nat.one_lt_two_pow (by omega)⟩
/-- the images -/
theorem images_eq {T : List (List Int)} {w : Nat} (h : ∀ r ∈ T, r.length = w) : stepsOf (castT T) = (lawSteps T).map toldRow := by
  obtain ⟨a1, a2⟩ := steps_RR (castT_len h)
  obtain ⟨b1, b2⟩ := lawSteps_RR h
  refine RR.uniq a1 b1 fun v => ?_
  rw [a2, b2, castT_vr]
theorem about_cast {T : List (List Int)} {n : Nat} (hl : T.length = n) : aboutT (castT T) = castT (aboutI T n) := by
  unfold aboutT castT aboutI
  rw [List.length_map, hl, List.map_map]
  apply List.map_congr_left
  intro p _
  simp only [Function.comp]
  rw [List.map_map, List.map_map]
  apply List.map_congr_left
  intro r _
  simp only [Function.comp, List.getD, List.getElem?_map]
  cases r[p]? <;> rfl
theorem about_cols {A : List (List Rat)} {n : Nat} (hl : A.length = n) : aboutT A = colsOf A n := by unfold aboutT colsOf; rw [hl]
theorem aboutI_len {T : List (List Int)} {n : Nat} (hl : T.length = n) : (aboutI T n).length = n ∧ ∀ r ∈ aboutI T n, r.length = n := by
  refine ⟨by simp [aboutI], fun r hr => ?_⟩
  obtain ⟨p, _, rfl⟩ := List.mem_map.mp hr
  rw [List.length_map]; exact hl
theorem aboutI_bd {T : List (List Int)} {n b : Nat} (h : ∀ r ∈ T, Bd b r) : ∀ r ∈ aboutI T n, Bd b r := fun r hr => by
  obtain ⟨p, _, rfl⟩ := List.mem_map.mp hr
  intro x hx
  obtain ⟨l, hl, rfl⟩ := List.mem_map.mp hx
  exact getD_bd (h l hl)
/-! ### rows of noughts -/
theorem vi_set {r : List Int} {p : Nat} {q : Int} {i : Nat} : vi (r.set p q) i = if i = p ∧ p < r.length then (q : Rat) else vi r i := by
  simp only [vi, List.getD, List.getElem?_set]
  by_cases h : p = i
  · subst h
    by_cases hl : p < r.length
    · simp [hl]
    · simp [hl]
  · have h' : ¬ i = p := fun z => h z.symm
    simp [h, h']
theorem zeros_fold {much : Int} {free : Nat} : ∀ (own : List (List Int)) (z : List Int) (b : List Rat), (∀ r ∈ own, 0 < r.getD (headOf r) 0 ∧ r.getD (headOf r) 0 ∣ much) → z.length = b.length → (∀ i, vi z i = (much : Rat) * vr b i) →
    ∀ i, vi (own.foldl (zeroStep much free) z) i = (much : Rat) * vr (kerFold (own.map toldRow) free b) i
  | [], z, b, _, _, h => h
  | r :: own, z, b, hr, hl, h => by
    obtain ⟨h1, h2⟩ := hr r List.mem_cons_self
    show ∀ i, vi (own.foldl (zeroStep much free) (zeroStep much free z r)) i = (much : Rat) * vr (kerFold (own.map toldRow) free (b.set (headR (toldRow r)) (-((toldRow r).getD free 0)))) i
    refine zeros_fold own _ _ (fun x hx => hr x (List.mem_cons_of_mem _ hx)) (by unfold zeroStep; rw [List.length_set, List.length_set]; exact hl) fun i => ?_
    unfold zeroStep
    rw [vi_set, vr_set, headR_told h1, hl]
    split
    · have e : -((toldRow r).getD free 0) = -(vi r free / vi r (headOf r)) := by
        have := vr_told r free
        unfold vr at this
        rw [this]
      rw [e]
      obtain ⟨k, rfl⟩ := h2
      have hn : r.getD (headOf r) 0 ≠ 0 := by omega
      rw [Int.mul_ediv_cancel_left _ hn]
      have hn2 := vi_ne hn
      simp only [vi] at hn2 ⊢
      rw [Rat.intCast_sub, Rat.intCast_mul, Rat.intCast_mul]
      generalize ((r.getD (headOf r) 0 : Int) : Rat) = a at hn2 ⊢
      generalize ((r.getD free 0 : Int) : Rat) = c
      generalize ((k : Int) : Rat) = d
      have : ((0 : Int) : Rat) = 0 := rfl
      rw [this]
      grind
    · exact h i
theorem muchF (own : List (List Int)) : ∀ m : Int, own.foldl (fun m row => m * row.getD (headOf row) 0) m = m * muchOf own := by
  induction own with
  | nil => intro m; show m = m * 1; rw [Int.mul_one]
  | cons r own ih =>
    intro m
    have e : muchOf (r :: own) = own.foldl (fun m row => m * row.getD (headOf row) 0) (1 * r.getD (headOf r) 0) := rfl
    rw [List.foldl_cons, ih, e, ih, Int.one_mul, Int.mul_assoc]
theorem much_cons (r : List Int) (own : List (List Int)) : muchOf (r :: own) = r.getD (headOf r) 0 * muchOf own := by
  have e : muchOf (r :: own) = own.foldl (fun m row => m * row.getD (headOf row) 0) (1 * r.getD (headOf r) 0) := rfl
  rw [e, muchF, Int.one_mul]
theorem much_pos {own : List (List Int)} (h : ∀ r ∈ own, 0 < r.getD (headOf r) 0) : 0 < muchOf own ∧ ∀ r ∈ own, r.getD (headOf r) 0 ∣ muchOf own := by
  induction own with
  | nil => exact ⟨by decide, fun r hr => absurd hr List.not_mem_nil⟩
  | cons x own ih =>
    obtain ⟨h1, h2⟩ := ih fun r hr => h r (List.mem_cons_of_mem _ hr)
    rw [much_cons]
    refine ⟨Int.mul_pos (h x List.mem_cons_self) h1, fun r hr => ?_⟩
    rcases List.mem_cons.mp hr with e | hr
    · subst e; exact Int.dvd_mul_right _ _
    · exact Int.dvd_trans (h2 r hr) (Int.dvd_mul_left _ _)
theorem much_bd {own : List (List Int)} {b : Nat} (h : ∀ r ∈ own, Bd b r) : (muchOf own).natAbs ≤ 2 ^ (own.length * b) := by
  induction own with
  | nil => rw [List.length_nil, Nat.zero_mul]; exact Nat.le_refl _
  | cons x own ih =>
    have h1 := ih fun r hr => h r (List.mem_cons_of_mem _ hr)
    have h2 : (x.getD (headOf x) 0).natAbs < 2 ^ b := getD_bd (h x List.mem_cons_self)
    rw [much_cons, Int.natAbs_mul, List.length_cons, Nat.succ_mul, Nat.add_comm, Nat.pow_add]
    exact Nat.mul_le_mul (Nat.le_of_lt h2) h1
theorem vi_zero0 (n free : Nat) (much : Int) (i : Nat) : vi ((List.replicate n 0).set free much) i = (much : Rat) * vr ((List.range n).map fun i => if i = free then (1 : Rat) else 0) i := by
  rw [vi_set, vr_unit, List.length_replicate]
  have z : vi (List.replicate n 0) i = 0 := by
    simp only [vi, List.getD, List.getElem?_replicate]
    split <;> rfl
  by_cases h : i = free
  · subst h
    by_cases hn : i < n
    · rw [if_pos ⟨rfl, hn⟩, if_pos ⟨rfl, hn⟩]; grind
    · rw [if_neg fun z => hn z.2, if_neg fun z => hn z.2, z]; grind
  · rw [if_neg fun z => h z.1, if_neg fun z => h z.1, z]; grind
theorem zeroRow_vi {own : List (List Int)} (hp : ∀ r ∈ own, 0 < r.getD (headOf r) 0) (n free i : Nat) : vi (zeroRow own n free) i = (muchOf own : Rat) * vr (kerRow (own.map toldRow) n free) i :=
  zeros_fold own _ _ (fun r hr => ⟨hp r hr, (much_pos hp).2 r hr⟩) (by simp) (vi_zero0 n free (muchOf own)) i
theorem zeroRow_len (own : List (List Int)) (n free : Nat) : (zeroRow own n free).length = n := by
  have gen : ∀ (own : List (List Int)) (m : Int) (z : List Int), (own.foldl (zeroStep m free) z).length = z.length := by
    intro own m
    induction own with
    | nil => intro z; rfl
    | cons r own ih => intro z; rw [List.foldl_cons, ih]; unfold zeroStep; rw [List.length_set]
  unfold zeroRow
  rw [gen]; simp
theorem zeroRow_bd {own : List (List Int)} {n free b : Nat} (hb : ∀ r ∈ own, Bd b r) : Bd (own.length * b + b + 1) (zeroRow own n free) := by
  have hm := much_bd hb
  unfold zeroRow
  generalize muchOf own = m at hm
  have big : ∀ {k : Nat}, k ≤ 2 ^ (own.length * b) → k < 2 ^ (own.length * b + b + 1) := fun hk => Nat.lt_of_le_of_lt hk (Nat.pow_lt_pow_right (by decide) (by omega))
  have gen : ∀ (os : List (List Int)) (z : List Int), (∀ r ∈ os, Bd b r) → Bd (own.length * b + b + 1) z → Bd (own.length * b + b + 1) (os.foldl (zeroStep m free) z) := by
    intro os
    induction os with
    | nil => intro z _ hz; exact hz
    | cons r os ih =>
      intro z hr hz
      rw [List.foldl_cons]
      refine ih _ (fun x hx => hr x (List.mem_cons_of_mem _ hx)) fun x hx => ?_
      rcases List.mem_or_eq_of_mem_set hx with g | g
      · exact hz x g
      · subst g
        have h1 : (r.getD free 0).natAbs < 2 ^ b := getD_bd (hr r List.mem_cons_self)
        have h2 : (m / r.getD (headOf r) 0).natAbs ≤ m.natAbs := Int.natAbs_ediv_le_natAbs _ _
        rw [Int.zero_sub, Int.natAbs_neg, Int.natAbs_mul]
        have h3 : (m / r.getD (headOf r) 0).natAbs * (r.getD free 0).natAbs ≤ 2 ^ (own.length * b) * 2 ^ b := Nat.mul_le_mul (Nat.le_trans h2 hm) (Nat.le_of_lt h1)
        rw [← Nat.pow_add] at h3
        exact Nat.lt_of_le_of_lt h3 (Nat.pow_lt_pow_right (by decide) (by omega))
  refine gen own _ hb fun x hx => ?_
  rcases List.mem_or_eq_of_mem_set hx with g | g
  · rw [List.eq_of_mem_replicate g]; exact Nat.two_pow_pos _
  · rw [g]; exact big hm
theorem lawZeros_len (own : List (List Int)) (n : Nat) : ∀ r ∈ lawZeros own n, r.length = n := fun r hr => by
  obtain ⟨f, _, rfl⟩ := List.mem_map.mp hr
  exact zeroRow_len _ _ _
theorem heads_told {own : List (List Int)} (hp : ∀ r ∈ own, 0 < r.getD (headOf r) 0) : (own.map toldRow).map headR = own.map headOf := by
  rw [List.map_map]
  exact List.map_congr_left fun r hr => headR_told (hp r hr)
theorem lawZeros_eq {own : List (List Int)} (hp : ∀ r ∈ own, 0 < r.getD (headOf r) 0) (n : Nat) : lawZeros own n = (frees (own.map toldRow) n).map (zeroRow own n) := by
  unfold lawZeros frees
  rw [heads_told hp]
theorem zeros_spn {own : List (List Int)} (hp : ∀ r ∈ own, 0 < r.getD (headOf r) 0) (n : Nat) (v : Vc) : Spn ((lawZeros own n).map vi) v ↔ Spn ((kerRows (own.map toldRow) n).map vr) v := by
  rw [lawZeros_eq hp, kerRows_eq]
  have hm : (muchOf own : Rat) ≠ 0 := fun z => by have := (much_pos hp).1; have := Rat.intCast_eq_zero_iff.mp z; omega
  constructor
  · refine spn_le fun a ha => ?_
    obtain ⟨r, hr, rfl⟩ := mem_vi ha
    obtain ⟨f, hf, rfl⟩ := List.mem_map.mp hr
    exact spn_ext (fun i => (zeroRow_vi hp n f i).symm) (spn_smul _ (spn_row (List.mem_map_of_mem hf)))
  · refine spn_le fun a ha => ?_
    obtain ⟨r, hr, rfl⟩ := mem_vr ha
    obtain ⟨f, hf, rfl⟩ := List.mem_map.mp hr
    refine spn_ext (fun i => ?_) (spn_smul (muchOf own : Rat)⁻¹ (spi (List.mem_map_of_mem hf)))
    rw [zeroRow_vi hp]; grind
/-- the noughts -/
theorem noughts_eq {T : List (List Int)} {n : Nat} (hl : T.length = n) : kernelOf (aboutT (castT T)) n = (lawNoughts T n).map toldRow := by
  obtain ⟨al, aw⟩ := aboutI_len hl
  have hp : ∀ r ∈ lawSteps (aboutI T n), 0 < r.getD (headOf r) 0 := fun r hr => (lawSteps_hd aw r hr).2.2
  rw [about_cast hl]
  obtain ⟨k1, k2⟩ := kernel_RR (castT_len aw)
  obtain ⟨b1, b2⟩ := lawSteps_RR (lawZeros_len (lawSteps (aboutI T n)) n)
  refine RR.uniq k1 b1 fun v => ?_
  show _ ↔ Spn (((lawSteps (lawZeros (lawSteps (aboutI T n)) n)).map toldRow).map vr) v
  rw [b2, zeros_spn hp, ← images_eq aw, kerRows_spn (steps_RR (castT_len aw)).1, k2]
  exact and_congr Iff.rfl (pp_congr (fun v => ((steps_RR (castT_len aw)).2 v).symm) v)
theorem rank_law {T : List (List Int)} {n : Nat} (h : ∀ r ∈ T, r.length = n) : (lawSteps T).length = (stepsOf (castT T)).length := by rw [images_eq h, List.length_map]
theorem rank_n {X : List (List Rat)} {n : Nat} (h : ∀ r ∈ X, r.length = n) : (stepsOf X).length ≤ n := by
  have := frees_len (steps_RR h).1
  omega
theorem frees_nil {X : List (List Rat)} {n : Nat} (h : RR n X) (e : X.length = n) : frees X n = [] := by
  have := frees_len h
  exact List.length_eq_zero_iff.mp (by omega)
/-- the law's own noughts within the limits -/
theorem nok {T : List (List Int)} {n : Nat} (hl : T.length = n) (hw : ∀ r ∈ T, r.length = n) (hn : n ≤ 4) (hb : ∀ r ∈ T, Bd 13 r) : NOk T n ∧ ToldOk (lawNoughts T n) := by
  obtain ⟨al, aw⟩ := aboutI_len hl
  have ab := aboutI_bd (n := n) hb
  have hd := lawSteps_hd aw
  have hp : ∀ r ∈ lawSteps (aboutI T n), 0 < r.getD (headOf r) 0 := fun r hr => (hd r hr).2.2
  have rk : (lawSteps (aboutI T n)).length ≤ n := by rw [rank_law aw]; exact rank_n (castT_len aw)
  have ob := lawSteps_bd (K := 14) (by decide) ab
  have hz : ∀ r ∈ lawZeros (lawSteps (aboutI T n)) n, Bd 389 r := by
    intro r hr
    by_cases e : (lawSteps (aboutI T n)).length = n
    · rw [lawZeros_eq hp, frees_nil (lawSteps_RR aw).1 (by rw [List.length_map]; exact e)] at hr
      exact absurd hr List.not_mem_nil
    · have r3 : (lawSteps (aboutI T n)).length ≤ 3 := by omega
      have o97 : ∀ r ∈ lawSteps (aboutI T n), Bd 97 r := fun r hr => (ob r hr).mono (by
        have : 2 ^ (lawSteps (aboutI T n)).length ≤ 2 ^ 3 := Nat.pow_le_pow_right (by decide) r3
        have : (2 ^ (lawSteps (aboutI T n)).length - 1) * 14 ≤ 7 * 14 := Nat.mul_le_mul_right _ (by omega)
        omega)
      obtain ⟨f, _, rfl⟩ := List.mem_map.mp hr
      exact (zeroRow_bd o97).mono (by have : (lawSteps (aboutI T n)).length * 97 ≤ 3 * 97 := Nat.mul_le_mul_right _ r3; omega)
  have hzl := lawZeros_len (lawSteps (aboutI T n)) n
  have zn : (lawZeros (lawSteps (aboutI T n)) n).length ≤ 500 := by
    rw [lawZeros_eq hp, List.length_map]
    have := frees_len (lawSteps_RR aw).1
    omega
  refine ⟨⟨by omega, by omega, hw, lfit_of aw (by omega) hn (K := 14) (by decide) ab (by decide), by omega, fun r hr => ⟨(hd r hr).1, (hd r hr).2.1, (hd r hr).2.2, (ob r hr).mono ?_⟩, fun k => ?_, lfit_of hzl zn hn (K := 390) (by decide) hz (by decide)⟩, ?_⟩
  · have : 2 ^ (lawSteps (aboutI T n)).length ≤ 2 ^ 4 := Nat.pow_le_pow_right (by decide) (by omega)
    have : (2 ^ (lawSteps (aboutI T n)).length - 1) * 14 ≤ 15 * 14 := Nat.mul_le_mul_right _ (by omega)
    omega
  · have o210 : ∀ r ∈ (lawSteps (aboutI T n)).take k, Bd 210 r := fun r hr => (ob r (List.mem_of_mem_take hr)).mono (by
      have : 2 ^ (lawSteps (aboutI T n)).length ≤ 2 ^ 4 := Nat.pow_le_pow_right (by decide) (by omega)
      have : (2 ^ (lawSteps (aboutI T n)).length - 1) * 14 ≤ 15 * 14 := Nat.mul_le_mul_right _ (by omega)
      omega)
    have h1 := much_bd o210
    have h2 : ((lawSteps (aboutI T n)).take k).length ≤ 4 := by rw [List.length_take]; omega
    have h3 : ((lawSteps (aboutI T n)).take k).length * 210 ≤ 4 * 210 := Nat.mul_le_mul_right _ h2
    exact Nat.lt_of_le_of_lt h1 (Nat.pow_lt_pow_right (by decide) (by omega))
  · have rk2 : (lawNoughts T n).length ≤ n := by
      show (lawSteps (lawZeros (lawSteps (aboutI T n)) n)).length ≤ n
      rw [rank_law hzl]; exact rank_n (castT_len hzl)
    refine toldOk_of (w := n) (b := 9000) (by omega) (by omega) (lawSteps_hd hzl) (fun r hr => (lawSteps_bd (K := 390) (by decide) hz r hr).mono ?_) (Nat.le_refl _)
    have : 2 ^ (lawSteps (lawZeros (lawSteps (aboutI T n)) n)).length ≤ 2 ^ 4 := Nat.pow_le_pow_right (by decide) (by have : (lawSteps (lawZeros (lawSteps (aboutI T n)) n)).length = (lawNoughts T n).length := rfl; omega)
    have : (2 ^ (lawSteps (lawZeros (lawSteps (aboutI T n)) n)).length - 1) * 390 ≤ 15 * 390 := Nat.mul_le_mul_right _ (by omega)
    omega
end TW
set_option Elab.async false
set_option linter.all false
set_option maxRecDepth 100000
set_option exponentiation.threshold 100000
/-! M7: tables that commute. -/
namespace TW
open PySem L2
def et (T : List (List Int)) (i j : Nat) : Rat := vi (T.getD i []) j
theorem sm_front (n : Nat) (f : Nat → Rat) : sm (n + 1) f = f 0 + sm n (fun i => f (i + 1)) := by
  induction n with
  | zero => rw [sm, sm, sm]; grind
  | succ n ih => rw [sm, ih, sm]; grind
theorem dot_sm : ∀ (a b : List Int), a.length = b.length → ((dot a b : Int) : Rat) = sm b.length (fun k => vi a k * vi b k)
  | [], [], _ => rfl
  | [], b :: bs, h => by simp at h
  | a :: as, [], h => by simp at h
  | a :: as, b :: bs, h => by
    have ih := dot_sm as bs (by simpa using h)
    have e : dot (a :: as) (b :: bs) = a * b + dot as bs := by simp [dot]
    rw [e, Rat.intCast_add, Rat.intCast_mul, ih, List.length_cons, sm_front]
    rfl
theorem getD_nil' (T : List (List Int)) {i : Nat} (h : T.length ≤ i) : T.getD i [] = [] := by simp [List.getD, List.getElem?_eq_none h]
theorem col_vi (B : List (List Int)) (j k : Nat) : vi (B.map fun l => l.getD j 0) k = et B k j := by
  simp only [vi, et, List.getD, List.getElem?_map]
  cases B[k]? with
  | none => simp
  | some x => simp
theorem et_times {n : Nat} {A B : List (List Int)} (hA : ∀ r ∈ A, r.length = n) (hl : A.length = n) (hB : B.length = n) {i j : Nat} (hi : i < n) (hj : j < n) : et (times A B) i j = sm n (fun k => et A i k * et B k j) := by
  have e : (times A B).getD i [] = led (A.getD i []) B := by
    simp only [times, List.getD, List.getElem?_map]
    rw [List.getElem?_eq_getElem (by omega)]
    rfl
  have hr : (A.getD i []).length = n := hA _ (by
    have : A.getD i [] = A[i] := by simp [List.getD, hl, hi]
    rw [this]; exact List.getElem_mem _)
  unfold et
  rw [e]
  have e2 : vi (led (A.getD i []) B) j = ((dot (A.getD i []) (B.map fun l => l.getD j 0) : Int) : Rat) := by
    simp only [vi, led, List.getD, List.getElem?_map]
    rw [List.getElem?_range (by omega)]
    rfl
  rw [e2, dot_sm _ _ (by rw [hr, List.length_map, hB]), List.length_map, hB]
  exact sm_congr fun k _ => by rw [col_vi]; rfl
theorem tab_ext {n : Nat} {A B : List (List Int)} (hA : ∀ r ∈ A, r.length = n) (hl : A.length = n) (hB : ∀ r ∈ B, r.length = n) (hm : B.length = n) (h : ∀ i j, i < n → j < n → et A i j = et B i j) : A = B := by
  apply List.ext_getElem (by rw [hl, hm])
  intro i h1 h2
  have a1 := hA _ (List.getElem_mem h1)
  have b1 := hB _ (List.getElem_mem h2)
  refine vi_ext (by rw [a1, b1]) fun j => ?_
  by_cases hj : j < n
  · have := h i j (by omega) hj
    simpa [et, List.getD, h1, h2] using this
  · rw [vi_ge (by omega), vi_ge (by omega)]
def Cmt (n : Nat) (A B : List (List Int)) : Prop := ∀ i j, i < n → j < n → sm n (fun k => et A i k * et B k j) = sm n (fun k => et B i k * et A k j)
theorem times_len {n : Nat} {A B : List (List Int)} (hl : A.length = n) (hB : B.length = n) : (times A B).length = n ∧ ∀ r ∈ times A B, r.length = n := by
  refine ⟨by simp [times, hl], fun r hr => ?_⟩
  obtain ⟨x, _, rfl⟩ := List.mem_map.mp hr
  simp [led, hB]
structure Sqr (n : Nat) (T : List (List Int)) : Prop where
  l : T.length = n
  w : ∀ r ∈ T, r.length = n
theorem Sm.sqr {n k : Nat} {T : List (List Int)} (h : Sm n k T) : Sqr n T := ⟨h.l, h.w⟩
theorem Cmt.eq {n : Nat} {A B : List (List Int)} (hA : Sqr n A) (hB : Sqr n B) (h : Cmt n A B) : times A B = times B A := by
  obtain ⟨a1, a2⟩ := times_len hA.l hB.l
  obtain ⟨b1, b2⟩ := times_len hB.l hA.l
  refine tab_ext a2 a1 b2 b1 fun i j hi hj => ?_
  rw [et_times hA.w hA.l hB.l hi hj, et_times hB.w hB.l hA.l hi hj]
  exact h i j hi hj
theorem cmt_of_eq {n : Nat} {A B : List (List Int)} (hA : Sqr n A) (hB : Sqr n B) (h : times A B = times B A) : Cmt n A B := fun i j hi hj => by
  rw [← et_times hA.w hA.l hB.l hi hj, ← et_times hB.w hB.l hA.l hi hj, h]
theorem sm_mul_r (n : Nat) (k : Rat) (f : Nat → Rat) : sm n (fun i => f i * k) = sm n f * k := by
  have : (fun i => f i * k) = fun i => k * f i := funext fun i => by grind
  rw [this, sm_mul]; grind
theorem Cmt.mul {n : Nat} {A B L : List (List Int)} (hA : Sqr n A) (hB : Sqr n B) (h1 : Cmt n A L) (h2 : Cmt n B L) : Cmt n (times A B) L := by
  intro i j hi hj
  have e1 : sm n (fun k => et (times A B) i k * et L k j) = sm n (fun k => sm n (fun m => et A i m * (et B m k * et L k j))) := sm_congr fun k hk => by
    rw [et_times hA.w hA.l hB.l hi hk, ← sm_mul_r]
    exact sm_congr fun m _ => by grind
  have e2 : sm n (fun k => et L i k * et (times A B) k j) = sm n (fun k => sm n (fun m => et L i k * et A k m * et B m j)) := sm_congr fun k hk => by
    rw [et_times hA.w hA.l hB.l hk hj, ← sm_mul]
    exact sm_congr fun m _ => by grind
  rw [e1, e2, sm_swap, sm_swap n n (fun k m => et L i k * et A k m * et B m j)]
  have e3 : sm n (fun m => sm n (fun k => et A i m * (et B m k * et L k j))) = sm n (fun m => sm n (fun k => et A i m * et L m k * et B k j)) := sm_congr fun m hm => by
    rw [sm_mul, h2 m j hm hj, ← sm_mul]
    exact sm_congr fun k _ => by grind
  rw [e3, sm_swap]
  refine sm_congr fun m hm => ?_
  rw [sm_mul_r, h1 i m hi hm, ← sm_mul_r]
/-! ### L less a number times the idle table -/
theorem et_idle {n i j : Nat} (hi : i < n) (hj : j < n) : et (idle n) i j = if i = j then 1 else 0 := by
  have e : (idle n).getD i [] = (List.range n).map fun b => if i = b then (1 : Int) else 0 := by
    simp only [idle, List.getD, List.getElem?_map]
    rw [List.getElem?_range hi]
    rfl
  unfold et
  rw [e]
  simp only [vi, List.getD, List.getElem?_map]
  rw [List.getElem?_range hj]
  show (((if i = j then (1 : Int) else 0) : Int) : Rat) = _
  split <;> rfl
theorem vi_zip {f : Int → Int → Int} {g : Rat → Rat → Rat} (h0 : f 0 0 = 0) (hf : ∀ a b : Int, ((f a b : Int) : Rat) = g a b) {r s : List Int} (hl : r.length = s.length) (i : Nat) : vi ((r.zip s).map fun z => f z.1 z.2) i = g (vi r i) (vi s i) := by
  unfold vi
  rw [getD_zip0 h0 r s hl, hf]
theorem et_sum {n : Nat} {A B : List (List Int)} {k : Int} (hA : Sqr n A) (hB : Sqr n B) {i : Nat} (hi : i < n) (j : Nat) : et (sumT A B k) i j = et A i j + (k : Rat) * et B i j := by
  have a1 : A.getD i [] = A[i]'(by rw [hA.l]; exact hi) := by simp [List.getD, hA.l, hi]
  have b1 : B.getD i [] = B[i]'(by rw [hB.l]; exact hi) := by simp [List.getD, hB.l, hi]
  have e : (sumT A B k).getD i [] = ((A.getD i []).zip (B.getD i [])).map fun w => w.1 + k * w.2 := by
    rw [a1, b1]
    simp only [sumT, List.getD, List.getElem?_map]
    rw [List.getElem?_eq_getElem (by rw [List.length_zip, hA.l, hB.l]; omega)]
    simp
  unfold et
  rw [e, vi_zip (f := fun a b => a + k * b) (g := fun a b => a + (k : Rat) * b) (by simp) (fun a b => by rw [Rat.intCast_add, Rat.intCast_mul])]
  rw [a1, b1, hA.w _ (List.getElem_mem _), hB.w _ (List.getElem_mem _)]
theorem cmt_shift {n : Nat} {L : List (List Int)} (hL : Sqr n L) (k : Int) : Cmt n (sumT L (idle n) k) L := by
  intro i j hi hj
  have hI : Sqr n (idle n) := (idle_sm n).sqr
  have e1 : sm n (fun m => et (sumT L (idle n) k) i m * et L m j) = sm n (fun m => et L i m * et L m j) + (k : Rat) * et L i j := by
    have : sm n (fun m => (k : Rat) * (et (idle n) i m * et L m j)) = (k : Rat) * et L i j := by
      rw [sm_mul, sm_one hi fun m hm hne => by rw [et_idle hi hm, if_neg fun z => hne z.symm]; grind]
      rw [et_idle hi hi, if_pos rfl]; grind
    rw [← this, ← sm_add]
    exact sm_congr fun m hm => by rw [et_sum hL hI hi]; grind
  have e2 : sm n (fun m => et L i m * et (sumT L (idle n) k) m j) = sm n (fun m => et L i m * et L m j) + (k : Rat) * et L i j := by
    have : sm n (fun m => (k : Rat) * (et L i m * et (idle n) m j)) = (k : Rat) * et L i j := by
      rw [sm_mul, sm_one hj fun m hm hne => by rw [et_idle hm hj, if_neg hne]; grind]
      rw [et_idle hj hj, if_pos rfl]; grind
    rw [← this, ← sm_add]
    exact sm_congr fun m hm => by rw [et_sum hL hI hm]; grind
  rw [e1, e2]
theorem et_scale (T : List (List Int)) (k : Int) (i j : Nat) : et (T.map fun r => r.map fun x => k * x) i j = (k : Rat) * et T i j := by
  have e : (T.map fun r => r.map fun x => k * x).getD i [] = (T.getD i []).map fun x => k * x := by
    simp only [List.getD, List.getElem?_map]
    cases T[i]? <;> simp
  unfold et
  rw [e]
  unfold vi
  rw [getD_map0 (by simp), Rat.intCast_mul]
theorem cmt_scale {n : Nat} {L : List (List Int)} (k : Int) : Cmt n ((idle n).map fun r => r.map fun x => k * x) L := by
  intro i j hi hj
  have e1 : sm n (fun m => et ((idle n).map fun r => r.map fun x => k * x) i m * et L m j) = (k : Rat) * et L i j := by
    rw [sm_one hi fun m hm hne => by rw [et_scale, et_idle hi hm, if_neg fun z => hne z.symm]; grind]
    rw [et_scale, et_idle hi hi, if_pos rfl]; grind
  have e2 : sm n (fun m => et L i m * et ((idle n).map fun r => r.map fun x => k * x) m j) = (k : Rat) * et L i j := by
    rw [sm_one hj fun m hm hne => by rw [et_scale, et_idle hm hj, if_neg hne]; grind]
    rw [et_scale, et_idle hj hj, if_pos rfl]; grind
  rw [e1, e2]
/-! ### side by side -/
theorem cmt_twice1 {t : List (List Int)} (h : Sqr 1 t) (a b p q : Int) : times (twice (idle 1) a b p q) (twice t 1 0 0 1) = times (twice t 1 0 0 1) (twice (idle 1) a b p q) := by
  obtain ⟨l, w⟩ := h
  match t, l with
  | [r], _ =>
    have := w r List.mem_cons_self
    match r, this with
    | [x], _ =>
      simp [times, led, dot, twice, idle, List.range_succ]
      grind
theorem cmt_twice2 {t : List (List Int)} (h : Sqr 2 t) (a b p q : Int) : times (twice (idle 2) a b p q) (twice t 1 0 0 1) = times (twice t 1 0 0 1) (twice (idle 2) a b p q) := by
  obtain ⟨l, w⟩ := h
  match t, l with
  | [r, s], _ =>
    have h1 := w r (by simp)
    have h2 := w s (by simp)
    match r, h1, s, h2 with
    | [x, y], _, [z, u], _ =>
      simp [times, led, dot, twice, idle, List.range_succ]
      grind
/-! ### turned -/
theorem et_set {n : Nat} {T : List (List Int)} (hl : T.length = n) {p : Nat} (hp : p < n) (r : List Int) (i j : Nat) : et (T.set p r) i j = if i = p then vi r j else et T i j := by
  unfold et
  simp only [List.getD, List.getElem?_set]
  by_cases h : p = i
  · subst h; simp [hl, hp]
  · have h' : ¬ i = p := fun z => h z.symm
    simp [h, h']
theorem vi_rowOp {n near far : Nat} {much : Int} {r : List Int} (hl : r.length = n) (hf : far < n) (j : Nat) : vi (rowOp near far much r) j = vi r j - (if j = far then (much : Rat) * vi r near else 0) := by
  unfold rowOp
  rw [vi_set, hl]
  by_cases h : j = far
  · subst h
    rw [if_pos ⟨rfl, hf⟩, if_pos rfl]
    simp only [vi]
    rw [Rat.intCast_sub, Rat.intCast_mul]
  · rw [if_neg fun z => h z.1, if_neg h]; grind
theorem et_map (T : List (List Int)) (f : List Int → List Int) (h0 : f [] = []) (i j : Nat) : et (T.map f) i j = vi (f (T.getD i [])) j := by
  unfold et
  simp only [List.getD, List.getElem?_map]
  cases T[i]? <;> simp [h0]
def rF' (near far : Nat) (much : Rat) (f : Nat → Nat → Rat) (i j : Nat) : Rat := f i j + (if i = near then much * f far j else 0)
def tF (near far : Nat) (much : Rat) (f : Nat → Nat → Rat) (i j : Nat) : Rat := rF' near far much f i j - (if j = far then much * rF' near far much f i near else 0)
theorem et_turn {n near far : Nat} {much : Int} {T : List (List Int)} (h : Sqr n T) (hn : near < n) (hf : far < n) {i : Nat} (hi : i < n) (j : Nat) : et (turnOne near far much T) i j = tF near far much (et T) i j := by
  have gl : ∀ k, k < n → (T.getD k []).length = n := fun k hk => by
    have : T.getD k [] = T[k]'(by rw [h.l]; exact hk) := by simp [List.getD, h.l, hk]
    rw [this]; exact h.w _ (List.getElem_mem _)
  have zl : (zipAdd much (T.getD near []) (T.getD far [])).length = n := by
    unfold zipAdd
    rw [List.length_map, List.length_zip, gl near hn, gl far hf, Nat.min_self]
  have il : ((T.set near (zipAdd much (T.getD near []) (T.getD far []))).getD i []).length = n := by
    simp only [List.getD, List.getElem?_set]
    by_cases e : near = i
    · subst e
      have : near < T.length := by rw [h.l]; exact hn
      simp only [if_pos, this]
      exact zl
    · rw [if_neg e]; exact gl i hi
  have key : ∀ j, vi ((T.set near (zipAdd much (T.getD near []) (T.getD far []))).getD i []) j = rF' near far much (et T) i j := fun j => by
    have e := et_set h.l hn (zipAdd much (T.getD near []) (T.getD far [])) i j
    unfold et at e
    rw [e]
    unfold rF'
    by_cases hin : i = near
    · subst hin
      rw [if_pos rfl, if_pos rfl]
      unfold zipAdd
      rw [vi_zip (f := fun a b => a + much * b) (g := fun a b => a + (much : Rat) * b) (by simp) (fun a b => by rw [Rat.intCast_add, Rat.intCast_mul]) (by rw [gl i hn, gl far hf])]
      rfl
    · rw [if_neg hin, if_neg hin]
      unfold et
      grind
  unfold turnOne
  rw [et_map _ _ (by simp [rowOp]), vi_rowOp il hf, key, key]
  rfl
theorem tF_mul {n near far : Nat} (m : Rat) (hn : near < n) (hf : far < n) (hne : near ≠ far) (f g : Nat → Nat → Rat) (i j : Nat) :
    sm n (fun k => tF near far m f i k * tF near far m g k j) = tF near far m (fun i j => sm n (fun k => f i k * g k j)) i j := by
  -- columns of the first undo the rows of the second
  have one : ∀ (a : Nat → Rat) (j : Nat), sm n (fun k => (a k - (if k = far then m * a near else 0)) * rF' near far m g k j) = sm n (fun k => a k * g k j) := fun a j => by
    have e : sm n (fun k => (a k - (if k = far then m * a near else 0)) * rF' near far m g k j) = sm n (fun k => a k * g k j) + (sm n (fun k => if k = near then a near * (m * g far j) else 0) + sm n (fun k => if k = far then -(m * a near) * g far j else 0)) := by
      rw [← sm_add, ← sm_add]
      refine sm_congr fun k _ => ?_
      unfold rF'
      by_cases h1 : k = near
      · subst h1
        rw [if_neg hne, if_pos rfl, if_pos rfl, if_neg hne]; grind
      · by_cases h2 : k = far
        · subst h2
          rw [if_pos rfl, if_neg h1, if_neg h1, if_pos rfl]; grind
        · rw [if_neg h2, if_neg h1, if_neg h1, if_neg h2]; grind
    rw [e, sm_one hn fun k _ h => if_neg h, sm_one hf fun k _ h => if_neg h, if_pos rfl, if_pos rfl]; grind
  have row : ∀ j, sm n (fun k => rF' near far m f i k * g k j) = rF' near far m (fun i j => sm n (fun k => f i k * g k j)) i j := fun j => by
    unfold rF'
    by_cases h : i = near
    · rw [if_pos h, ← sm_mul, ← sm_add]
      exact sm_congr fun k _ => by rw [if_pos h]; grind
    · rw [if_neg h]
      have : (0 : Rat) = sm n (fun _ => 0) := (sm_zero fun _ _ => rfl).symm
      rw [this, ← sm_add]
      exact sm_congr fun k _ => by rw [if_neg h]; grind
  have split : sm n (fun k => tF near far m f i k * tF near far m g k j) = sm n (fun k => (rF' near far m f i k - (if k = far then m * rF' near far m f i near else 0)) * rF' near far m g k j) - (if j = far then m * sm n (fun k => (rF' near far m f i k - (if k = far then m * rF' near far m f i near else 0)) * rF' near far m g k near) else 0) := by
    by_cases h : j = far
    · rw [if_pos h]
      have : ∀ x y : Rat, x - m * y = x + (-m) * y := fun x y => by grind
      rw [this, ← sm_mul, ← sm_add]
      refine sm_congr fun k _ => ?_
      show tF near far m f i k * (rF' near far m g k j - (if j = far then m * rF' near far m g k near else 0)) = _
      rw [if_pos h]
      show (rF' near far m f i k - (if k = far then m * rF' near far m f i near else 0)) * _ = _
      grind
    · rw [if_neg h]
      have : ∀ x : Rat, x - 0 = x := fun x => by grind
      rw [this]
      refine sm_congr fun k _ => ?_
      show (rF' near far m f i k - (if k = far then m * rF' near far m f i near else 0)) * (rF' near far m g k j - (if j = far then m * rF' near far m g k near else 0)) = _
      rw [if_neg h]; grind
  rw [split, one, one, row, row]
  rfl
theorem turn_sqr {n near far : Nat} {much : Int} {T : List (List Int)} (h : Sqr n T) (hn : near < n) (hf : far < n) : Sqr n (turnOne near far much T) := by
  have gl : ∀ k, k < n → (T.getD k []).length = n := fun k hk => by
    have : T.getD k [] = T[k]'(by rw [h.l]; exact hk) := by simp [List.getD, h.l, hk]
    rw [this]; exact h.w _ (List.getElem_mem _)
  refine ⟨by simp [turnOne, h.l], fun r hr => ?_⟩
  obtain ⟨x, hx, rfl⟩ := List.mem_map.mp hr
  unfold rowOp
  rw [List.length_set]
  rcases List.mem_or_eq_of_mem_set hx with g | g
  · exact h.w x g
  · rw [g]; unfold zipAdd
    rw [List.length_map, List.length_zip, gl near hn, gl far hf, Nat.min_self]
theorem Cmt.turn {n near far : Nat} {much : Int} {A B : List (List Int)} (hA : Sqr n A) (hB : Sqr n B) (hn : near < n) (hf : far < n) (hne : near ≠ far) (h : Cmt n A B) : Cmt n (turnOne near far much A) (turnOne near far much B) := by
  intro i j hi hj
  have e : ∀ {A B : List (List Int)}, Sqr n A → Sqr n B → sm n (fun k => et (turnOne near far much A) i k * et (turnOne near far much B) k j) = tF near far much (fun i j => sm n (fun k => et A i k * et B k j)) i j := fun {A B} hA hB => by
    rw [← tF_mul (much : Rat) hn hf hne]
    exact sm_congr fun k hk => by rw [et_turn hA hn hf hi, et_turn hB hn hf hk]
  rw [e hA hB, e hB hA]
  unfold tF rF'
  dsimp only
  rw [h i j hi hj, h far j hf hj, h i near hi hn, h far near hf hn]
theorem turn_sm {n k near far : Nat} {much : Int} {T : List (List Int)} (h : Sm n k T) (hm : much.natAbs ≤ 1) (hn : near < n) (hf : far < n) : Sm n (4 * k) (turnOne near far much T) := by
  have s := turn_sqr (much := much) h.sqr hn hf
  have ent : ∀ (T : List (List Int)) (K : Nat), (∀ r ∈ T, ∀ x ∈ r, x.natAbs ≤ K) → ∀ a b, ((T.getD a []).getD b 0).natAbs ≤ K := fun T K h a b => by
    by_cases ha : a < T.length
    · have e : T.getD a [] = T[a] := by simp [List.getD, ha]
      rw [e]
      by_cases hb : b < T[a].length
      · have e2 : T[a].getD b 0 = T[a][b] := by simp [List.getD, hb]
        rw [e2]; exact h _ (List.getElem_mem _) _ (List.getElem_mem _)
      · have e2 : T[a].getD b 0 = 0 := by simp [List.getD, List.getElem?_eq_none (Nat.le_of_not_lt hb)]
        rw [e2]; exact Nat.zero_le _
    · have e : T.getD a [] = [] := getD_nil' T (Nat.le_of_not_lt ha)
      rw [e]; exact Nat.zero_le _
  have z2 : ∀ r ∈ T.set near (zipAdd much (T.getD near []) (T.getD far [])), ∀ x ∈ r, x.natAbs ≤ 2 * k := by
    intro r hr x hx
    rcases List.mem_or_eq_of_mem_set hr with g | g
    · have := h.b r g x hx; omega
    · subst g
      obtain ⟨z, hz, rfl⟩ := List.mem_map.mp hx
      obtain ⟨z1, z2⟩ := List.of_mem_zip hz
      have mem : ∀ p, ∀ y ∈ T.getD p [], y.natAbs ≤ k := fun p y hy => by
        by_cases hp : p < T.length
        · have e : T.getD p [] = T[p] := by simp [List.getD, hp]
          rw [e] at hy; exact h.b _ (List.getElem_mem _) y hy
        · rw [getD_nil' T (Nat.le_of_not_lt hp)] at hy; exact absurd hy List.not_mem_nil
      have a1 := mem near _ z1
      have a2 := mem far _ z2
      have a3 : (much * z.2).natAbs ≤ 1 * k := by rw [Int.natAbs_mul]; exact Nat.mul_le_mul hm a2
      have := Int.natAbs_add_le z.1 (much * z.2)
      omega
  refine ⟨s.l, s.w, fun r hr x hx => ?_⟩
  obtain ⟨y, hy, rfl⟩ := List.mem_map.mp hr
  have gy : ∀ p, (y.getD p 0).natAbs ≤ 2 * k := fun p => by
    by_cases hp : p < y.length
    · have e : y.getD p 0 = y[p] := by simp [List.getD, hp]
      rw [e]; exact z2 y hy _ (List.getElem_mem _)
    · have e : y.getD p 0 = 0 := by simp [List.getD, List.getElem?_eq_none (Nat.le_of_not_lt hp)]
      rw [e]; exact Nat.zero_le _
  rcases List.mem_or_eq_of_mem_set hx with g | g
  · have := z2 y hy x g; omega
  · rw [g]
    have a1 := gy far
    have a2 : (much * y.getD near 0).natAbs ≤ 1 * (2 * k) := by rw [Int.natAbs_mul]; exact Nat.mul_le_mul hm (gy near)
    have := Int.natAbs_sub_le (y.getD far 0) (much * y.getD near 0)
    omega
end TW
set_option Elab.async false
set_option linter.all false
set_option maxRecDepth 100000
set_option exponentiation.threshold 100000
/-! M8: the drawn letters and their table: sizes, and that they commute; turned. -/
namespace TW
open PySem L2
structure CFact (x : Cm) : Prop where
  n1 : 1 ≤ x.n
  n4 : x.n ≤ 4
  l1 : 1 ≤ x.ls.length
  l2 : x.ls.length ≤ 2
  ls : ∀ l ∈ x.ls, Sm x.n 64 l
  tb : Sm x.n 64 x.tb
  cm : ∀ l ∈ x.ls, Cmt x.n x.tb l
theorem cf0 {n : Nat} (h1 : 1 ≤ n) (h4 : n ≤ 4) (c : Pot) : CFact (comm0 n c).1 := by
  unfold comm0
  dsimp only
  generalize drawP (n + 1) c = p1
  generalize drawP 4 p1.2 = p2
  have l2 := letterP_sm n p1.1 p2.1 p2.2
  generalize letterP n p1.1 p2.1 p2.2 = l at l2 ⊢
  have k1 := numP_le l.2
  generalize numP l.2 = n1 at k1 ⊢
  have k2 := numP_le n1.2
  generalize numP n1.2 = n2 at k2 ⊢
  generalize drawP 2 n2.2 = d
  have sA : Sm n 4 (sumT l.1 (idle n) (0 - n1.1)) := (sumT_sm l2 (idle_sm n)).mono (by rw [Int.zero_sub, Int.natAbs_neg]; omega)
  have sB : Sm n 4 (sumT l.1 (idle n) (0 - n2.1)) := (sumT_sm l2 (idle_sm n)).mono (by rw [Int.zero_sub, Int.natAbs_neg]; omega)
  have cA := cmt_shift l2.sqr (0 - n1.1)
  have cB := cmt_shift l2.sqr (0 - n2.1)
  refine ⟨h1, h4, by simp, by simp, fun x hx => ?_, ?_, fun x hx => ?_⟩
  · rw [List.mem_singleton] at hx; rw [hx]; exact l2.mono (by decide)
  · dsimp only
    split
    · exact (times_sm sA sB).mono (by have : n * (4 * 4) ≤ 4 * (4 * 4) := Nat.mul_le_mul_right _ h4; omega)
    · exact sA.mono (by decide)
  · rw [List.mem_singleton] at hx
    rw [hx]
    dsimp only
    split
    · exact Cmt.mul sA.sqr sB.sqr cA cB
    · exact cA
theorem cf1 {n : Nat} (h1 : 1 ≤ n) (h4 : n ≤ 4) (c : Pot) : CFact (comm1 n c).1 := by
  unfold comm1
  dsimp only
  have s1 := letterP_sm n 0 3 c
  generalize letterP n 0 3 c = l1 at s1 ⊢
  have s2 := letterP_sm n 0 3 l1.2
  generalize letterP n 0 3 l1.2 = l2 at s2 ⊢
  have k1 := numP_le l2.2
  generalize numP l2.2 = k at k1 ⊢
  refine ⟨h1, h4, by simp, by simp, fun x hx => ?_, (scale_sm (idle_sm n) k.1).mono (by omega), fun x hx => cmt_scale k.1⟩
  rcases List.mem_cons.mp hx with e | e
  · rw [e]; exact s1.mono (by decide)
  · rw [List.mem_singleton] at e; rw [e]; exact s2.mono (by decide)
theorem quads_le {q : Quad} (h : q ∈ quads) : q.1.natAbs ≤ 4 ∧ q.2.1.natAbs ≤ 4 ∧ q.2.2.1.natAbs ≤ 4 ∧ q.2.2.2.natAbs ≤ 4 := by
  have : ∀ q ∈ quads, q.1.natAbs ≤ 4 ∧ q.2.1.natAbs ≤ 4 ∧ q.2.2.1.natAbs ≤ 4 ∧ q.2.2.2.natAbs ≤ 4 := by decide
  exact this q h
theorem cmt_twice {h : Nat} (hh : h = 1 ∨ h = 2) {t : List (List Int)} {k : Nat} (s : Sm h k t) (a b p q : Int) : Cmt (2 * h) (twice (idle h) a b p q) (twice t 1 0 0 1) := by
  have hd : ∀ x : Int, x.natAbs ≤ a.natAbs + b.natAbs + p.natAbs + q.natAbs → x.natAbs ≤ a.natAbs + b.natAbs + p.natAbs + q.natAbs := fun _ h => h
  have s1 : Sqr (2 * h) (twice (idle h) a b p q) := (twice_sm (idle_sm h) (d := a.natAbs + b.natAbs + p.natAbs + q.natAbs) (by omega) (by omega) (by omega) (by omega)).sqr
  have s2 : Sqr (2 * h) (twice t 1 0 0 1) := (twice_sm s (d := 1) (by decide) (by decide) (by decide) (by decide)).sqr
  refine cmt_of_eq s1 s2 ?_
  rcases hh with e | e
  · subst e; exact cmt_twice1 s.sqr a b p q
  · subst e; exact cmt_twice2 s.sqr a b p q
theorem cf2 (c : Pot) : CFact (comm2 c).1 := by
  unfold comm2
  dsimp only
  have hm := pickN_mem (xs := [1, 2]) (by decide) c
  generalize pickN [1, 2] c = h at hm ⊢
  have hh : h.1 = 1 ∨ h.1 = 2 := by simpa using hm
  have s1 := letterP_sm h.1 0 3 h.2
  generalize letterP h.1 0 3 h.2 = l1 at s1 ⊢
  have s2 := letterP_sm h.1 0 3 l1.2
  generalize letterP h.1 0 3 l1.2 = l2 at s2 ⊢
  have hq := quads_le (pickQ_mem l2.2)
  generalize pickQ l2.2 = q at hq ⊢
  obtain ⟨q1, q2, q3, q4⟩ := hq
  have t1 := twice_sm s1 (a := 1) (b := 0) (p := 0) (q := 1) (d := 1) (by decide) (by decide) (by decide) (by decide)
  have t2 := twice_sm s2 (a := 1) (b := 0) (p := 0) (q := 1) (d := 1) (by decide) (by decide) (by decide) (by decide)
  refine ⟨by show 1 ≤ 2 * h.1; omega, by show 2 * h.1 ≤ 4; omega, by simp, by simp, fun x hx => ?_, (twice_sm (idle_sm h.1) q1 q2 q3 q4).mono (by decide), fun x hx => ?_⟩
  · rcases List.mem_cons.mp hx with e | e
    · rw [e]; exact t1.mono (by decide)
    · rw [List.map_cons, List.map_nil, List.mem_singleton] at e; rw [e]; exact t2.mono (by decide)
  · rcases List.mem_cons.mp hx with e | e
    · rw [e]; exact cmt_twice hh s1 _ _ _ _
    · rw [List.map_cons, List.map_nil, List.mem_singleton] at e; rw [e]; exact cmt_twice hh s2 _ _ _ _
theorem cfact (c : Pot) : CFact (commP c).1 := by
  unfold commP
  dsimp only
  have hm := pickN_mem (xs := [1, 2, 2, 3, 4]) (by decide) (drawP 3 c).2
  generalize pickN [1, 2, 2, 3, 4] (drawP 3 c).2 = sz at hm ⊢
  have hz : 1 ≤ sz.1 ∧ sz.1 ≤ 4 := by
    have : ∀ x ∈ [1, 2, 2, 3, 4], 1 ≤ x ∧ x ≤ 4 := by decide
    exact this _ hm
  split
  · exact cf0 hz.1 hz.2 _
  · split
    · exact cf1 hz.1 hz.2 _
    · exact cf2 _
/-! ### turned -/
theorem dropLast_mem' {α : Type} {xs : List α} {x : α} (h : x ∈ xs.dropLast) : x ∈ xs := (List.dropLast_sublist xs).subset h
structure TI (n k : Nat) (x : Tri) : Prop where
  s : ∀ t ∈ x.1, Sm n (64 * 4 ^ k) t
  c : ∀ l ∈ x.1.dropLast, Cmt n (x.1.getLastD []) l
  u : ∀ r ∈ x.2.1, r.length = n ∧ ∀ y ∈ r, y.natAbs ≤ 2 ^ k
  ne : x.1 ≠ []
theorem getLastD_mem {α : Type} {xs : List α} (h : xs ≠ []) (d : α) : xs.getLastD d ∈ xs := by
  cases xs with
  | nil => exact absurd rfl h
  | cons x xs => rw [List.getLastD_cons]; rcases List.eq_nil_or_concat xs with e | ⟨l, b, e⟩
                 · subst e; simp
                 · subst e; simp
theorem getLastD_map' {α : Type} (f : α → α) {xs : List α} (h : xs ≠ []) (d : α) : (xs.map f).getLastD d = f (xs.getLastD d) := by
  rw [List.getLastD_eq_getLast?, List.getLastD_eq_getLast?, List.getLast?_map]
  cases e : xs.getLast? with
  | none => exact absurd (List.getLast?_eq_none_iff.mp e) h
  | some y => rfl
theorem TI.turn {n k : Nat} {x : Tri} (hn : 1 < n) (h : TI n k x) : TI n (k + 1) (turn1 n x) := by
  have nr : nearP n x.2.2 < n := drawP_lt (by omega) _
  have d2 : (drawP (n - 1) (drawP n x.2.2).2).1 < n - 1 := drawP_lt (by omega) _
  have fr : farP n x.2.2 < n := Nat.mod_lt _ (by omega)
  have ne : nearP n x.2.2 ≠ farP n x.2.2 := by
    unfold nearP farP
    have nr' : (drawP n x.2.2).1 < n := nr
    generalize (drawP n x.2.2).1 = a at nr' d2 ⊢
    generalize (drawP (n - 1) (drawP n x.2.2).2).1 = b at d2 ⊢
    intro e
    by_cases hs : a + 1 + b < n
    · rw [Nat.mod_eq_of_lt hs] at e; omega
    · rw [Nat.mod_eq_sub_mod (by omega), Nat.mod_eq_of_lt (by omega)] at e; omega
  have mu : (muchP n x.2.2).1.natAbs ≤ 1 := pm1_ok _
  unfold turn1
  generalize nearP n x.2.2 = near at nr ne ⊢
  generalize farP n x.2.2 = far at fr ne ⊢
  generalize (muchP n x.2.2) = mp at mu ⊢
  refine ⟨fun t ht => ?_, fun l hl => ?_, fun r hr => ?_, ?_⟩
  · obtain ⟨y, hy, rfl⟩ := List.mem_map.mp ht
    have := turn_sm (h.s y hy) mu nr fr
    rw [Nat.pow_succ]
    exact this.mono (by omega)
  · dsimp only at hl ⊢
    rw [← List.map_dropLast] at hl
    obtain ⟨y, hy, rfl⟩ := List.mem_map.mp hl
    rw [getLastD_map' _ h.ne]
    exact Cmt.turn (h.s _ (getLastD_mem h.ne _)).sqr (h.s _ (dropLast_mem' hy)).sqr nr fr ne (h.c y hy)
  · obtain ⟨y, hy, rfl⟩ := List.mem_map.mp hr
    obtain ⟨u1, u2⟩ := h.u y hy
    refine ⟨by unfold rowOp; rw [List.length_set]; exact u1, fun z hz => ?_⟩
    have gy : ∀ p, (y.getD p 0).natAbs ≤ 2 ^ k := fun p => by
      by_cases hp : p < y.length
      · have e : y.getD p 0 = y[p] := by simp [List.getD, hp]
        rw [e]; exact u2 _ (List.getElem_mem _)
      · have e : y.getD p 0 = 0 := by simp [List.getD, List.getElem?_eq_none (Nat.le_of_not_lt hp)]
        rw [e]; exact Nat.zero_le _
    have ep : 2 ^ (k + 1) = 2 ^ k + 2 ^ k := by rw [Nat.pow_succ]; omega
    rcases List.mem_or_eq_of_mem_set hz with g | g
    · have := u2 z g; omega
    · rw [g]
      have a1 := gy far
      have a2 : (mp.1 * y.getD near 0).natAbs ≤ 1 * 2 ^ k := by rw [Int.natAbs_mul]; exact Nat.mul_le_mul mu (gy near)
      have := Int.natAbs_sub_le (y.getD far 0) (mp.1 * y.getD near 0)
      omega
  · intro e
    exact h.ne (List.map_eq_nil_iff.mp e)
theorem TI.turns {n : Nat} {x : Tri} (hn : 1 < n) (h : TI n 0 x) : ∀ k, TI n k (turnsP n k x)
  | 0 => h
  | k + 1 => (TI.turns hn h k).turn hn
theorem timesP_le (n : Nat) (c : Pot) : (timesP n c).1 ≤ 3 ∧ (n ≤ 1 → (timesP n c).1 = 0) := by
  unfold timesP
  split
  · have := drawP_lt (s := 4) (by decide) c
    exact ⟨by omega, fun h => by omega⟩
  · exact ⟨Nat.zero_le _, fun _ => rfl⟩
theorem ti0 {x : Cm} (h : CFact x) (c : Pot) : TI x.n 0 (x.ls ++ [x.tb], idle x.n, c) := by
  refine ⟨fun t ht => ?_, fun l hl => ?_, fun r hr => ?_, by simp⟩
  · rw [Nat.pow_zero]
    rcases List.mem_append.mp ht with g | g
    · exact h.ls t g
    · rw [List.mem_singleton] at g; rw [g]; exact h.tb
  · dsimp only at hl ⊢
    rw [List.dropLast_concat] at hl
    have : (x.ls ++ [x.tb]).getLastD [] = x.tb := by simp
    rw [this]
    exact h.cm l hl
  · exact ⟨(idle_sm x.n).w r hr, (idle_sm x.n).b r hr⟩
theorem tiK {x : Cm} (h : CFact x) (c : Pot) (k : Nat) (hk : k ≤ (timesP x.n c).1) : TI x.n k (turnsP x.n k (x.ls ++ [x.tb], idle x.n, (timesP x.n c).2)) := by
  by_cases hn : 1 < x.n
  · exact (ti0 h _).turns hn k
  · have := (timesP_le x.n c).2 (by omega)
    have e : k = 0 := by omega
    subst e
    exact ti0 h _
theorem pow4 {k : Nat} (h : k ≤ 3) : 64 * 4 ^ k ≤ 4096 := by
  have : 4 ^ k ≤ 4 ^ 3 := Nat.pow_le_pow_right (by decide) h
  omega
theorem tuok {x : Cm} (h : CFact x) (c : Pot) : TuOk x.n (x.ls ++ [x.tb]) c := by
  have n1 := h.n1
  have n4 := h.n4
  have l2 := h.l2
  refine ⟨h.n1, by omega, by simp; omega, fun t ht => ?_, fun j hj => ?_⟩
  · have := (ti0 h c).s t ht
    refine ⟨by rw [this.l]; omega, fun r hr => by rw [this.w r hr]; omega⟩
  · have T := tiK h c j (by omega)
    have hp := pow4 (k := j) (by have := (timesP_le x.n c).1; omega)
    refine ⟨fun t ht => ?_, fun r hr => ?_⟩
    · have s := T.s t ht
      refine ⟨s.l, fun r hr => ⟨s.w r hr, fun y hy => ?_⟩⟩
      have := s.b r hr y hy
      exact Nat.lt_of_le_of_lt this (Nat.lt_of_le_of_lt hp (Nat.lt_of_lt_of_le (by decide : 4096 < 2 ^ 13) (Nat.pow_le_pow_right (by decide) (by decide))))
    · obtain ⟨u1, u2⟩ := T.u r hr
      refine ⟨u1, fun y hy => Nat.lt_of_le_of_lt (u2 y hy) (Nat.pow_lt_pow_right (by decide) ?_)⟩
      have := (timesP_le x.n c).1
      omega
theorem turnsP_len' (n : Nat) : ∀ (k : Nat) (x : Tri), (turnsP n k x).1.length = x.1.length
  | 0, _ => rfl
  | k + 1, x => by
    show ((turnsP n k x).1.map _).length = _
    rw [List.length_map, turnsP_len' n k x]
structure TF (n : Nat) (L : List (List (List Int))) (T : List (List Int)) : Prop where
  n1 : 1 ≤ n
  n4 : n ≤ 4
  l1 : 1 ≤ L.length
  l2 : L.length ≤ 2
  ls : ∀ l ∈ L, Sm n 4096 l
  tb : Sm n 4096 T
  cm : ∀ l ∈ L, Cmt n T l
theorem tfact {x : Cm} (h : CFact x) (c : Pot) : TF x.n (turnedP x.n (x.ls ++ [x.tb]) c).1.dropLast ((turnedP x.n (x.ls ++ [x.tb]) c).1.getLastD []) := by
  have T := tiK h c (timesP x.n c).1 (Nat.le_refl _)
  have hl := turnsP_len' x.n (timesP x.n c).1 (x.ls ++ [x.tb], idle x.n, (timesP x.n c).2)
  have hp := pow4 (timesP_le x.n c).1
  unfold turnedP
  generalize turnsP x.n (timesP x.n c).1 (x.ls ++ [x.tb], idle x.n, (timesP x.n c).2) = y at T hl ⊢
  have l1 := h.l1
  have l2 := h.l2
  rw [List.length_append, List.length_singleton] at hl
  refine ⟨h.n1, h.n4, ?_, ?_, fun l hl => (T.s l (dropLast_mem' hl)).mono hp, (T.s _ (getLastD_mem T.ne _)).mono hp, T.c⟩
  · rw [List.length_dropLast]; omega
  · rw [List.length_dropLast]; omega
end TW
set_option Elab.async false
set_option linter.all false
set_option maxRecDepth 100000
set_option exponentiation.threshold 100000
/-! M9: rooms that letters keep. -/
namespace TW
open PySem L2
/-! ### sizes of ratios -/
theorem rsz_of {q : Rat} {N : Int} {D b : Nat} (hD : 0 < D) (e : q * (D : Rat) = (N : Rat)) (hN : N.natAbs < 2 ^ b) (hd : D < 2 ^ b) : RSz b q := by
  have hn : (D : Rat) ≠ 0 := fun z => by have := Rat.natCast_eq_zero_iff.mp z; omega
  have e2 : q = Rat.divInt N (D : Int) := by
    rw [Rat.divInt_eq_div]
    have e3 : (((D : Nat) : Int) : Rat) = (D : Rat) := rfl
    rw [e3]; grind
  have hD' : (0 : Int) < (D : Int) := by omega
  have h1 := den_divInt_dvd N hD'
  have h2 := divInt_cross N hD'
  rw [← e2, Int.natAbs_natCast] at h1 h2
  have h3 := Nat.le_of_dvd hD h1
  refine ⟨?_, Nat.lt_of_le_of_lt h3 hd⟩
  have : q.num.natAbs * D ≤ N.natAbs * D := by rw [h2]; exact Nat.mul_le_mul_left _ h3
  exact Nat.lt_of_le_of_lt (Nat.le_of_mul_le_mul_right this hD) hN
theorem lt_pow_mul {a b x y : Nat} (hx : x < 2 ^ a) (hy : y < 2 ^ b) : x * y < 2 ^ (a + b) := by
  rw [Nat.pow_add]
  exact Nat.mul_lt_mul'' hx hy
theorem rsz_mul {a b : Nat} {p q : Rat} (hp : RSz a p) (hq : RSz b q) : RSz (a + b) (p * q) := by
  refine rsz_of (N := p.num * q.num) (D := p.den * q.den) (Nat.mul_pos p.den_pos q.den_pos) ?_ (by rw [Int.natAbs_mul]; exact lt_pow_mul hp.1 hq.1) (lt_pow_mul hp.2 hq.2)
  rw [Rat.natCast_mul, Rat.intCast_mul, rat_num p, rat_num q]; grind
theorem rsz_sub {a b : Nat} {p q : Rat} (hp : RSz a p) (hq : RSz b q) : RSz (a + b + 1) (p - q) := by
  have h1 := lt_pow_mul hp.1 hq.2
  have h2 := lt_pow_mul hq.1 hp.2
  rw [Nat.add_comm b a] at h2
  have h3 := lt_pow_mul hp.2 hq.2
  refine rsz_of (N := p.num * q.den - q.num * p.den) (D := p.den * q.den) (Nat.mul_pos p.den_pos q.den_pos) ?_ ?_ ?_
  · rw [Rat.natCast_mul, Rat.intCast_sub, Rat.intCast_mul, Rat.intCast_mul, rat_num p, rat_num q]
    have e1 : (((p.den : Nat) : Int) : Rat) = (p.den : Rat) := rfl
    have e2 : (((q.den : Nat) : Int) : Rat) = (q.den : Rat) := rfl
    rw [e1, e2]; grind
  · have := Int.natAbs_sub_le (p.num * q.den) (q.num * p.den)
    rw [Int.natAbs_mul, Int.natAbs_mul, Int.natAbs_natCast, Int.natAbs_natCast] at this
    rw [Nat.pow_succ]; omega
  · rw [Nat.pow_succ]; omega
/-! ### products with whole tables -/
theorem lcmOf_cast (T : List (List Int)) : lcmOf (castT T) = 1 := by
  have e : (castT T).flatten = (T.flatten).map fun (n : Int) => (n : Rat) := by
    unfold castT
    rw [List.map_flatten]
  unfold lcmOf
  rw [e, lcmDen_cast]
theorem bareT_cast (T : List (List Int)) : bareT (castT T) = T := by
  unfold bareT
  rw [lcmOf_cast]
  unfold castT
  rw [List.map_map]
  conv => rhs; rw [← List.map_id T]
  apply List.map_congr_left
  intro r _
  simp only [Function.comp, id]
  rw [List.map_map]
  conv => rhs; rw [← List.map_id r]
  apply List.map_congr_left
  intro n _
  simp only [Function.comp, Rat.den_intCast, Rat.num_intCast]
  show n * (1 / 1) = n
  rw [Int.ediv_one, Int.mul_one]
theorem dotI_eq (row : List Int) (B : List (List Int)) (j : Nat) : dotI row B j = dot row (B.map fun l => l.getD j 0) := by
  unfold dotI dot
  rw [List.zip_map_right, List.map_map]
  rfl
theorem mulI_eq {n : Nat} (A : List (List Int)) {B : List (List Int)} (hB : Sqr n B) (hn : 1 ≤ n) : mulI A B = times A B := by
  unfold mulI times led
  have hne : B ≠ [] := fun z => by have := hB.l; rw [z] at this; simp at this; omega
  rw [wide_eq hB.w hne, hB.l]
  apply List.map_congr_left
  intro r _
  apply List.map_congr_left
  intro j _
  exact dotI_eq r B j
theorem divInt_one (n : Int) : Rat.divInt n 1 = (n : Rat) := by rw [Rat.divInt_eq_div]; have : ((1 : Int) : Rat) = 1 := rfl; rw [this]; grind
theorem prodT_cast {n : Nat} (A : List (List Int)) {B : List (List Int)} (hB : Sqr n B) (hn : 1 ≤ n) : prodT (castT A) (castT B) = castT (times A B) := by
  unfold prodT
  rw [lcmOf_cast, lcmOf_cast, bareT_cast, bareT_cast, mulI_eq A hB hn]
  unfold castT
  apply List.map_congr_left
  intro r _
  apply List.map_congr_left
  intro x _
  exact divInt_one x
theorem tab_cast {n : Nat} {T : List (List Int)} {k : Nat} (h : Sm n k T) (hn : 1 ≤ n) (hn4 : n ≤ 4) (hk : k < 2 ^ 100) : Tab (castT T) n := by
  refine ⟨by rw [castT, List.length_map, h.l]; omega, by rw [castT, List.length_map, h.l]; omega, castT_len h.w, by omega, ?_, fun r hr q hq => ?_, ?_⟩
  · rw [castT, List.length_map, h.l]
    have : n * n ≤ 4 * 4 := Nat.mul_le_mul hn4 hn4
    omega
  · obtain ⟨x, hx, rfl⟩ := List.mem_map.mp hr
    obtain ⟨y, hy, rfl⟩ := List.mem_map.mp hq
    refine ⟨?_, ?_⟩
    · rw [Rat.num_intCast]
      exact Nat.lt_of_le_of_lt (h.b x hx y hy) (Nat.lt_of_lt_of_le hk (Nat.pow_le_pow_right (by decide) (by decide)))
    · rw [Rat.den_intCast]; exact Nat.one_lt_two_pow (by decide)
  · rw [lcmOf_cast]; exact Nat.one_lt_two_pow (by decide)
theorem commOk_cast {n : Nat} {L : List (List (List Int))} {T : List (List Int)} {k : Nat} (hn : 1 ≤ n) (hn4 : n ≤ 4) (hL : L.length ≤ 2) (hl : ∀ l ∈ L, Sm n 4096 l) (hT : Sm n k T) (hk : k < 2 ^ 100) (hc : ∀ l ∈ L, Cmt n T l) : CommOk (L.map castT) (castT T) := by
  refine ⟨by rw [List.length_map]; omega, fun x hx => ?_⟩
  obtain ⟨l, hm, rfl⟩ := List.mem_map.mp hx
  have sl := hl l hm
  refine ⟨n, n, tab_cast hT hn hn4 hk, tab_cast sl hn hn4 (by decide), by rw [lcmOf_cast, lcmOf_cast]; exact Nat.one_lt_two_pow (by decide), ?_⟩
  rw [prodT_cast T sl.sqr hn, prodT_cast l hT.sqr hn, (hc l hm).eq hT.sqr sl.sqr]
/-! ### a row led by a letter -/
theorem lcmOf_one (r : List Rat) : lcmOf [r] = lcmDen r := by unfold lcmOf; rw [List.flatten_cons, List.flatten_nil, List.append_nil]
theorem bareT_one (r : List Rat) : bareT [r] = [wholesI r] := by
  unfold bareT
  rw [lcmOf_one]
  rfl
theorem ledT_eq {n : Nat} (r : List Rat) {l : List (List Int)} (hl : Sqr n l) (hn : 1 ≤ n) : ledT r (castT l) = (led (wholesI r) l).map fun x => Rat.divInt x (lcmDen r : Nat) := by
  unfold ledT prodT
  rw [lcmOf_one, lcmOf_cast, bareT_one, bareT_cast, mulI_eq _ hl hn, Nat.mul_one]
  rfl
theorem led_len (r : List Int) {l : List (List Int)} {n : Nat} (hl : l.length = n) : (led r l).length = n := by simp [led, hl]
theorem vi_led {n : Nat} {r : List Int} {l : List (List Int)} (hr : r.length = n) (hl : l.length = n) {j : Nat} (hj : j < n) : vi (led r l) j = sm n (fun k => vi r k * et l k j) := by
  have e2 : vi (led r l) j = ((dot r (l.map fun x => x.getD j 0) : Int) : Rat) := by
    simp only [vi, led, List.getD, List.getElem?_map]
    rw [List.getElem?_range (by omega)]
    rfl
  rw [e2, dot_sm _ _ (by rw [hr, List.length_map, hl]), List.length_map, hl]
  exact sm_congr fun k _ => by rw [col_vi]
theorem vr_divInt (xs : List Int) (L : Nat) (j : Nat) : vr (xs.map fun x => Rat.divInt x (L : Nat)) j = vi xs j / (L : Rat) := by
  simp only [vr, vi, List.getD, List.getElem?_map]
  cases xs[j]? with
  | none => simp; grind
  | some x => simp [Rat.divInt_eq_div]; rfl
theorem vr_led {n : Nat} {r : List Rat} {l : List (List Int)} (hr : r.length = n) (hl : Sqr n l) (hn : 1 ≤ n) {j : Nat} (hj : j < n) : vr (ledT r (castT l)) j = sm n (fun k => vr r k * et l k j) := by
  rw [ledT_eq r hl hn, vr_divInt, vi_led (by rw [wholesI, List.length_map, hr]) hl.l hj]
  have hL : (lcmDen r : Rat) ≠ 0 := fun z => by
    have h1 := lcm_pos' r
    have h2 := Rat.natCast_eq_zero_iff.mp z
    omega
  have : sm n (fun k => vi (wholesI r) k * et l k j) = (lcmDen r : Rat) * sm n (fun k => vr r k * et l k j) := by
    rw [← sm_mul]
    exact sm_congr fun k _ => by rw [vi_wholes]; grind
  rw [this]; grind
theorem ledT_len {n : Nat} (r : List Rat) {l : List (List Int)} (hl : Sqr n l) (hn : 1 ≤ n) : (ledT r (castT l)).length = n := by
  rw [ledT_eq r hl hn, List.length_map, led_len _ hl.l]
theorem led_bd {n b : Nat} {r : List Int} {l : List (List Int)} (hr : Bd b r) (hl : Sm n 4096 l) (hn4 : n ≤ 4) : Bd (b + 15) (led r l) := by
  intro x hx
  obtain ⟨j, hj, rfl⟩ := List.mem_map.mp hx
  have := sum_le (k := 2 ^ b * 4096) (l := ((r.zip (l.map fun x => x.getD j 0)).map fun z => z.1 * z.2)) fun y hy => by
    obtain ⟨w, hw, rfl⟩ := List.mem_map.mp hy
    obtain ⟨w1, w2⟩ := List.of_mem_zip hw
    obtain ⟨t, ht, e⟩ := List.mem_map.mp w2
    rw [Int.natAbs_mul]
    refine Nat.mul_le_mul (Nat.le_of_lt (hr _ w1)) ?_
    rw [← e]
    by_cases hjt : j < t.length
    · have e : t.getD j 0 = t[j] := by simp [List.getD, hjt]
      rw [e]; exact hl.b t ht _ (List.getElem_mem _)
    · have e : t.getD j 0 = 0 := by simp [List.getD, List.getElem?_eq_none (Nat.le_of_not_lt hjt)]
      rw [e]; exact Nat.zero_le _
  have hlen : ((r.zip (l.map fun x => x.getD j 0)).map fun z => z.1 * z.2).length ≤ 4 := by
    rw [List.length_map, List.length_zip, List.length_map, hl.l]; omega
  refine Nat.lt_of_le_of_lt this ?_
  have h2 : ((r.zip (l.map fun x => x.getD j 0)).map fun z => z.1 * z.2).length * (2 ^ b * 4096) ≤ 4 * (2 ^ b * 4096) := Nat.mul_le_mul_right _ hlen
  have h3 : 2 ^ (b + 15) = 2 ^ b * 32768 := by rw [Nat.pow_add]
  have h4 : 0 < 2 ^ b := Nat.two_pow_pos b
  omega
theorem led_rsz {n b : Nat} {r : List Rat} {l : List (List Int)} (hr : WB b r) (hl : Sm n 4096 l) (hn : 1 ≤ n) (hn4 : n ≤ 4) : ∀ q ∈ ledT r (castT l), RSz (b + 15) q := by
  intro q hq
  rw [ledT_eq r hl.sqr hn] at hq
  obtain ⟨x, hx, rfl⟩ := List.mem_map.mp hq
  have hL := lcm_pos' r
  refine rsz_of (N := x) (D := lcmDen r) hL ?_ (led_bd hr.w hl hn4 x hx) (Nat.lt_of_lt_of_le hr.l (Nat.pow_le_pow_right (by decide) (by omega)))
  rw [Rat.divInt_eq_div]
  have e3 : (((lcmDen r : Nat) : Int) : Rat) = (lcmDen r : Rat) := rfl
  rw [e3]
  have hn : (lcmDen r : Rat) ≠ 0 := fun z => by have := Rat.natCast_eq_zero_iff.mp z; omega
  grind
/-! ### a row less the steps of a room -/
theorem vr_zip_sub {c : Rat} {f s : List Rat} (hl : f.length = s.length) (i : Nat) : vr ((f.zip s).map fun z => z.1 - c * z.2) i = vr f i - c * vr s i := by
  induction f generalizing s i with
  | nil => cases s with
    | nil => simp [vr]; grind
    | cons s ss => simp at hl
  | cons f fs ih => cases s with
    | nil => simp at hl
    | cons s ss =>
      cases i with
      | zero => rfl
      | succ i =>
        have := ih (s := ss) (by simpa using hl) i
        exact this
theorem lessStep_vr {row f s : List Rat} (hl : f.length = s.length) (i : Nat) : vr (lessStep row f s) i = vr f i - vr row (headR s) * vr s i := by
  unfold lessStep
  split
  · rename_i h
    have : vr row (headR s) = 0 := h
    rw [this]; grind
  · exact vr_zip_sub hl i
theorem lessStep_len {row f s : List Rat} (hl : f.length = s.length) : (lessStep row f s).length = f.length := by
  unfold lessStep
  split
  · rfl
  · simp [hl]
theorem less_zero {w : Nat} {row : List Rat} : ∀ {A : List (List Rat)} (h : RR w A) (f : List Rat), f.length = w → Spn (A.map vr) (vr f) → (∀ s ∈ A, vr f (headR s) = vr row (headR s)) → ∀ i, vr (A.foldl (lessStep row) f) i = 0
  | [], _, f, _, s, _ => s
  | s :: A, h, f, hl, sp, hh => by
    have ls : f.length = s.length := by rw [hl, h.len s List.mem_cons_self]
    have key : ∀ i, vr (lessStep row f s) i = vr f i - vr row (headR s) * vr s i := lessStep_vr ls
    rw [List.foldl_cons]
    refine less_zero h.tail _ (by rw [lessStep_len ls]; exact hl) ?_ fun t ht => ?_
    · refine h.tailOf (spn_ext (fun i => (key i).symm) (spn_sub sp (spn_smul _ (spn_row List.mem_cons_self)))) ?_
      rw [key, h.one s List.mem_cons_self, hh s List.mem_cons_self]; grind
    · rw [key, (List.pairwise_cons.mp h.out).1 t ht, hh t (List.mem_cons_of_mem _ ht)]; grind
theorem held_zero {w : Nat} {A : List (List Rat)} (h : RR w A) {row : List Rat} (hl : row.length = w) (sp : Spn (A.map vr) (vr row)) : ∀ q ∈ lessR A row, q = 0 := by
  intro q hq
  have z := less_zero h row hl sp fun _ _ => rfl
  obtain ⟨i, hi, rfl⟩ := List.mem_iff_getElem.mp hq
  have := z i
  have e : vr (A.foldl (lessStep row) row) i = (lessR A row)[i] := by
    show (lessR A row).getD i 0 = _
    rw [List.getD, List.getElem?_eq_getElem hi]
    rfl
  rw [← e]; exact this
theorem less_rsz {row : List Rat} {a b : Nat} (hrow : ∀ i, RSz a (vr row i)) : ∀ (A : List (List Rat)), (∀ s ∈ A, ∀ q ∈ s, RSz b q) → ∀ (c : Nat) (f : List Rat), (∀ q ∈ f, RSz c q) → ∀ q ∈ A.foldl (lessStep row) f, RSz (c + A.length * (a + b + 1)) q
  | [], _, c, f, hf, q, hq => (hf q hq).mono (by omega)
  | s :: A, hA, c, f, hf, q, hq => by
    rw [List.foldl_cons] at hq
    have hs : ∀ q ∈ lessStep row f s, RSz (c + (a + b + 1)) q := fun q hq => by
      unfold lessStep at hq
      split at hq
      · exact (hf q hq).mono (by omega)
      · obtain ⟨z, hz, rfl⟩ := List.mem_map.mp hq
        obtain ⟨z1, z2⟩ := List.of_mem_zip hz
        exact (rsz_sub (hf _ z1) (rsz_mul (hrow (headR s)) (hA s List.mem_cons_self _ z2))).mono (by omega)
    have := less_rsz hrow A (fun t ht => hA t (List.mem_cons_of_mem _ ht)) (c + (a + b + 1)) _ hs q hq
    refine this.mono ?_
    rw [List.length_cons, Nat.succ_mul]; omega
theorem lessOk_of {w a b : Nat} {A : List (List Rat)} (h : RR w A) (hA : A.length ≤ 4) (hw : w ≤ 4) {row : List Rat} (hl : row.length = w) (hr : ∀ q ∈ row, RSz a q) (ha : 1 ≤ a) (hs : ∀ s ∈ A, ∀ q ∈ s, RSz b q) (hab : a + 4 * (a + b + 1) + (a + b) ≤ 9000) : LessOk A row := by
  refine ⟨by omega, by omega, fun r hr' => by rw [h.len r hr', hl]; exact ⟨rfl, h.hd r hr'⟩, fun i step hi z hz => ?_⟩
  have hstep : step ∈ A := List.mem_of_getElem? hi
  obtain ⟨z1, z2⟩ := List.of_mem_zip hz
  have h1 : RSz a (row.getD (headR step) 0) := vr_rsz hr ha _
  have h2 : RSz b z.2 := hs step hstep _ z2
  have h3 := rsz_mul h1 h2
  have h4 := less_rsz (row := row) (a := a) (b := b) (vr_rsz hr ha) (A.take i) (fun s hs' => hs s (List.mem_of_mem_take hs')) a row hr z.1 z1
  have hti : (A.take i).length ≤ 4 := by rw [List.length_take]; omega
  have hm : (A.take i).length * (a + b + 1) ≤ 4 * (a + b + 1) := Nat.mul_le_mul_right _ hti
  have pw : ∀ {x y k : Nat}, x < 2 ^ y → y ≤ k → x < 2 ^ k := fun h1 h2 => Nat.lt_of_lt_of_le h1 (Nat.pow_le_pow_right (by decide) h2)
  exact ⟨pw (lt_pow_mul h1.2 h2.2) (by omega), h1.mono (by omega), h2.mono (by omega), pw (lt_pow_mul h4.2 h3.2) (by omega), h4.mono (by omega), h3.mono (by omega)⟩
/-! ### kept rooms -/
theorem roomOk_of {n b : Nat} {L : List (List (List Int))} {A : List (List Rat)} (hn : 1 ≤ n) (hn4 : n ≤ 4) (hL : L.length ≤ 2) (hl : ∀ l ∈ L, Sm n 4096 l) (h : RR n A) (hb : ∀ r ∈ A, WB b r) (hb2 : b ≤ 800) (s : StepsOk A)
    (hc : ∀ r ∈ A, ∀ l ∈ L, Spn (A.map vr) (fun j => if j < n then sm n (fun k => vr r k * et l k j) else 0)) : RoomOk (L.map castT) n A := by
  have ha : A.length ≤ n := by have := frees_len h; omega
  refine ⟨by omega, by omega, h.len, s, h.steps, ⟨by omega, by rw [List.length_map]; omega, fun r hr x hx => ?_⟩⟩
  obtain ⟨l, hm, rfl⟩ := List.mem_map.mp hx
  have sl := hl l hm
  have rl := h.len r hr
  have ll := ledT_len r sl.sqr hn
  refine ⟨⟨by simp, by simp, fun x hx => by rw [List.mem_singleton] at hx; rw [hx], by omega, by rw [rl]; simp; omega, fun x hx q hq => ?_, ?_⟩, ⟨n, tab_cast sl hn hn4 (by decide)⟩, ?_, lessOk_of (a := b + 15) (b := b) h (by omega) hn4 ll (led_rsz (hb r hr) sl hn hn4) (by omega) (fun s hs => (hb s hs).rsz) (by omega), held_zero h ll ?_⟩
  · rw [List.mem_singleton] at hx; rw [hx] at hq
    exact ((hb r hr).rsz q hq).mono (by omega)
  · rw [lcmOf_one]; exact Nat.lt_of_lt_of_le (hb r hr).l (Nat.pow_le_pow_right (by decide) (by omega))
  · rw [lcmOf_one, lcmOf_cast, Nat.mul_one]; exact Nat.lt_of_lt_of_le (hb r hr).l (Nat.pow_le_pow_right (by decide) (by omega))
  · refine spn_ext (fun j => ?_) (hc r hr l hm)
    by_cases hj : j < n
    · rw [if_pos hj, vr_led rl sl.sqr hn hj]
    · rw [if_neg hj, vr_ge (by omega)]
end TW
set_option Elab.async false
set_option linter.all false
set_option maxRecDepth 100000
set_option exponentiation.threshold 100000
/-! M10: noughts and images of the drawn table and of its square. -/
namespace TW
open PySem L2
/-! ### numbers -/
def bS (K r : Nat) : Nat := if r = 0 then 1 else (2 ^ r - 1) * K - 1
def gS (K r : Nat) : Nat := r * bS K r + 2
def fS (K n r : Nat) : Nat := max 1 ((2 ^ (n - r) - 1) * gS K r - 1)
structure OkN (K n r : Nat) : Prop where
  k0 : 1 ≤ K ∧ K ≤ 9001
  a1 : ∀ x, x < r → 2 ^ x * K ≤ 4491
  a2 : (2 ^ r - 1) * K ≤ 9001
  a3 : gS K r ≤ 9001
  a4 : ∀ x, x < n - r → 2 ^ x * gS K r ≤ 4491
  a5 : (2 ^ (n - r) - 1) * gS K r ≤ 9001
  b1 : 1 ≤ bS K r
  b2 : bS K r ≤ 800
  f1 : 1 ≤ fS K n r
  f2 : fS K n r ≤ 800
  r1 : ∀ x, x < r → 2 ^ x * (bS K r + 1) ≤ 4491
  r2 : (2 ^ r - 1) * (bS K r + 1) ≤ 9001
  r3 : ∀ x, x < n - r → 2 ^ x * (fS K n r + 1) ≤ 4491
  r4 : (2 ^ (n - r) - 1) * (fS K n r + 1) ≤ 9001
set_option synthInstance.maxSize 100000 in
set_option synthInstance.maxHeartbeats 0 in
theorem okN_of {K n r : Nat} (hK : K = 14 ∨ K = 28) (hn : n ≤ 4) (hr : r ≤ n) : OkN K n r := by
  have h : ∀ n < 5, ∀ r < n + 1, ∀ K ∈ [14, 28], (1 ≤ K ∧ K ≤ 9001) ∧ (∀ x < r, 2 ^ x * K ≤ 4491) ∧ (2 ^ r - 1) * K ≤ 9001 ∧ gS K r ≤ 9001 ∧ (∀ x < n - r, 2 ^ x * gS K r ≤ 4491) ∧ (2 ^ (n - r) - 1) * gS K r ≤ 9001 ∧ 1 ≤ bS K r ∧ bS K r ≤ 800 ∧ 1 ≤ fS K n r ∧ fS K n r ≤ 800 ∧ (∀ x < r, 2 ^ x * (bS K r + 1) ≤ 4491) ∧ (2 ^ r - 1) * (bS K r + 1) ≤ 9001 ∧ (∀ x < n - r, 2 ^ x * (fS K n r + 1) ≤ 4491) ∧ (2 ^ (n - r) - 1) * (fS K n r + 1) ≤ 9001 := by decide +kernel
  obtain ⟨h1, h2, h3, h4, h5, h6, h7, h8, h9, h10, h11, h12, h13, h14⟩ := h n (by omega) r (by omega) K (by rcases hK with e | e <;> subst e <;> simp)
  exact ⟨h1, h2, h3, h4, h5, h6, h7, h8, h9, h10, h11, h12, h13, h14⟩
def k3 (n r1 r2 : Nat) : Nat := max (fS 14 n r1) (fS 28 n r2) + 1
def g3 (n r2 : Nat) : Nat := (n - r2) * fS 28 n r2 + 2
structure OkS (n r1 r2 : Nat) : Prop where
  a0 : k3 n r1 r2 ≤ 9001
  a1 : ∀ x, x < n - r2 → 2 ^ x * k3 n r1 r2 ≤ 4491
  a2 : (2 ^ (n - r2) - 1) * k3 n r1 r2 ≤ 9001
  b0 : g3 n r2 ≤ 9001
  b1 : ∀ x, x < r2 → 2 ^ x * g3 n r2 ≤ 4491
  b2 : (2 ^ r2 - 1) * g3 n r2 ≤ 9001
set_option synthInstance.maxSize 100000 in
set_option synthInstance.maxHeartbeats 0 in
theorem okS_of {n r1 r2 : Nat} (hn : n ≤ 4) (h1 : r1 ≤ n) (h2 : r2 ≤ n) : OkS n r1 r2 := by
  have h : ∀ n < 5, ∀ r1 < n + 1, ∀ r2 < n + 1, k3 n r1 r2 ≤ 9001 ∧ (∀ x < n - r2, 2 ^ x * k3 n r1 r2 ≤ 4491) ∧ (2 ^ (n - r2) - 1) * k3 n r1 r2 ≤ 9001 ∧ g3 n r2 ≤ 9001 ∧ (∀ x < r2, 2 ^ x * g3 n r2 ≤ 4491) ∧ (2 ^ r2 - 1) * g3 n r2 ≤ 9001 := by decide +kernel
  obtain ⟨a, b, c, d, e, f⟩ := h n (by omega) r1 (by omega) r2 (by omega)
  exact ⟨a, b, c, d, e, f⟩
/-! ### one table -/
structure MS (K n : Nat) (M : List (List Rat)) : Prop where
  l : M.length = n
  w : ∀ r ∈ M, r.length = n
  b : ∀ r ∈ M, WB (K - 1) r
  c : ∀ r ∈ aboutT M, WB (K - 1) r
structure MFa (K n : Nat) (M : List (List Rat)) : Prop where
  aw : ∀ r ∈ aboutT M, r.length = n
  rk : (stepsOf (aboutT M)).length = (stepsOf M).length
  rn : (stepsOf M).length ≤ n
  sM : StepsOk M
  wS : ∀ r ∈ stepsOf M, WB (bS K (stepsOf M).length) r
  kA : KerOk (aboutT M) n
  kl : (kernelOf (aboutT M) n).length = n - (stepsOf M).length
  wK : ∀ r ∈ kernelOf (aboutT M) n, WB (fS K n (stepsOf M).length) r
  sI : StepsOk (stepsOf M)
  kI : KerOk (stepsOf M) n
  il : (kernelOf (stepsOf M) n).length = n - (stepsOf M).length
  wI : ∀ r ∈ kernelOf (stepsOf M) n, WB (fS K n (stepsOf M).length) r
  sK : StepsOk (kernelOf (aboutT M) n)
theorem mfa {K n : Nat} {M : List (List Rat)} (hK : K = 14 ∨ K = 28) (hn : n ≤ 4) (h : MS K n M) : MFa K n M := by
  have ew := about_cols h.l
  have aw : ∀ r ∈ aboutT M, r.length = n := fun r hr => by
    rw [ew] at hr
    obtain ⟨p, _, rfl⟩ := List.mem_map.mp hr
    rw [List.length_map]; exact h.l
  have al : (aboutT M).length = n := by rw [ew]; simp [colsOf]
  have rk : (stepsOf (aboutT M)).length = (stepsOf M).length := by rw [ew]; exact rank_eq h.l h.w
  have rn := rank_n h.w
  have kl0 := kernel_len aw
  have Rm := (steps_RR h.w).1
  have ii : stepsOf (stepsOf M) = stepsOf M := Rm.steps
  have il0 := kernel_len (X := stepsOf M) (w := n) Rm.len
  rw [ii] at il0
  rw [rk] at kl0
  have kl : (kernelOf (aboutT M) n).length = n - (stepsOf M).length := by omega
  have il : (kernelOf (stepsOf M) n).length = n - (stepsOf M).length := by omega
  have ok := okN_of (K := K) (n := n) (r := (stepsOf M).length) hK hn rn
  have Rk := (kernel_RR aw).1
  have wS : ∀ r ∈ stepsOf M, WB (bS K (stepsOf M).length) r := fun r hr => by
    have hne : (stepsOf M).length ≠ 0 := fun z => by rw [List.length_eq_zero_iff.mp z] at hr; exact absurd hr List.not_mem_nil
    unfold bS
    rw [if_neg hne]
    exact steps_wb h.w ok.k0.1 h.b r hr
  have wA : ∀ r ∈ stepsOf (aboutT M), WB (bS K (stepsOf M).length) r := fun r hr => by
    have hne : (stepsOf M).length ≠ 0 := fun z => by rw [← rk] at z; rw [List.length_eq_zero_iff.mp z] at hr; exact absurd hr List.not_mem_nil
    unfold bS
    rw [if_neg hne, ← rk]
    exact steps_wb aw ok.k0.1 h.c r hr
  have sM : StepsOk M := stepsOk_of h.w (by rw [h.l]; omega) (by omega) ok.k0.1 h.b ok.k0.2 ok.a1 ok.a2
  have sA : StepsOk (aboutT M) := stepsOk_of aw (by rw [al]; omega) (by omega) ok.k0.1 h.c ok.k0.2 (by rw [rk]; exact ok.a1) (by rw [rk]; exact ok.a2)
  have sI : StepsOk (stepsOf M) := stepsOk_of (K := bS K (stepsOf M).length + 1) Rm.len (by omega) (by omega) (by omega) (by rw [Nat.add_sub_cancel]; exact wS) (by have := ok.b2; omega) (by rw [ii]; exact ok.r1) (by rw [ii]; exact ok.r2)
  have wK : ∀ r ∈ kernelOf (aboutT M) n, WB (fS K n (stepsOf M).length) r := fun r hr => by
    have := kernel_wb (w := n) ok.b1 wA r hr
    rw [kl, rk] at this
    exact this.mono (Nat.le_max_right _ _)
  have wI : ∀ r ∈ kernelOf (stepsOf M) n, WB (fS K n (stepsOf M).length) r := fun r hr => by
    have := kernel_wb (X := stepsOf M) (w := n) ok.b1 (by rw [ii]; exact wS) r hr
    rw [il, ii] at this
    exact this.mono (Nat.le_max_right _ _)
  have b2 := ok.b2
  have f2 := ok.f2
  refine ⟨aw, rk, rn, sM, wS, ?_, kl, wK, sI, ?_, il, wI, ?_⟩
  · exact kerOk_of aw sA (by omega) ok.b1 (by omega) wA (by rw [rk]; exact ok.a3) (by rw [rk, kl]; exact ok.a4) (by rw [rk, kl]; exact ok.a5)
  · exact kerOk_of Rm.len sI (by omega) ok.b1 (by omega) (by rw [ii]; exact wS) (by rw [ii]; exact ok.a3) (by rw [ii, il]; exact ok.a4) (by rw [ii, il]; exact ok.a5)
  · exact stepsOk_of (K := fS K n (stepsOf M).length + 1) Rk.len (by omega) (by omega) (by omega) (by rw [Nat.add_sub_cancel]; exact wK) (by omega) (by rw [Rk.steps, kl]; exact ok.r3) (by rw [Rk.steps, kl]; exact ok.r4)
theorem ms_cast {n k K : Nat} {T : List (List Int)} (h : Sm n k T) (hk : k < 2 ^ (K - 1)) (hK : 1 ≤ K - 1) : MS K n (castT T) := by
  have hb : ∀ r ∈ T, Bd (K - 1) r := h.bd hk
  refine ⟨by rw [castT, List.length_map]; exact h.l, castT_len h.w, cast_wb hK hb, ?_⟩
  rw [about_cast h.l]
  exact cast_wb hK (aboutI_bd hb)
/-! ### spans -/
theorem pp_about {n : Nat} {T : List (List Int)} (hl : T.length = n) (v : Vc) : Pp n ((aboutT (castT T)).map vr) v ↔ ∀ j, j < n → sm n (fun a => et T a j * v a) = 0 := by
  rw [about_cast hl, castT_vr]
  constructor
  · intro h j hj
    have := h (vi (T.map fun l => l.getD j 0)) (List.mem_map.mpr ⟨_, List.mem_map.mpr ⟨j, List.mem_range.mpr hj, rfl⟩, rfl⟩)
    rw [← this]
    exact sm_congr fun a _ => by rw [col_vi]
  · intro h a ha
    obtain ⟨r, hr, rfl⟩ := mem_vi ha
    obtain ⟨j, hj, rfl⟩ := List.mem_map.mp hr
    rw [← h j (List.mem_range.mp hj)]
    exact sm_congr fun a _ => by rw [col_vi]
theorem spn_sm {A : List Vc} {f : Nat → Vc} {c : Nat → Rat} : ∀ (m : Nat), (∀ k, k < m → Spn A (f k)) → Spn A (fun j => sm m (fun k => c k * f k j))
  | 0, _ => spn_zero A fun _ => rfl
  | m + 1, h => spn_ext (fun _ => rfl) (spn_add (spn_sm m fun k hk => h k (Nat.lt_succ_of_lt hk)) (spn_smul (c m) (h m (Nat.lt_succ_self _))))
theorem et_row {T : List (List Int)} {k : Nat} (hk : k < T.length) : Spn (T.map vi) (et T k) := by
  have e : T.getD k [] = T[k] := by simp [List.getD, hk]
  show Spn (T.map vi) (vi (T.getD k []))
  rw [e]
  exact spi (List.getElem_mem hk)
theorem et_wide {n : Nat} {T : List (List Int)} (h : Sqr n T) {k j : Nat} (hk : k < n) (hj : n ≤ j) : et T k j = 0 := by
  have e : T.getD k [] = T[k]'(by rw [h.l]; exact hk) := by simp [List.getD, h.l, hk]
  show vi (T.getD k []) j = 0
  rw [e]
  exact vi_ge (by rw [h.w _ (List.getElem_mem _)]; exact hj)
/-- rows led by a table lie in its rows -/
theorem led_in {n : Nat} {T : List (List Int)} (h : Sqr n T) (c : Nat → Rat) : Spn (T.map vi) (fun j => if j < n then sm n (fun k => c k * et T k j) else 0) := by
  refine spn_ext (fun j => ?_) (spn_sm (c := c) n fun k hk => et_row (T := T) (by rw [h.l]; exact hk))
  by_cases hj : j < n
  · rw [if_pos hj]
  · rw [if_neg hj]
    exact sm_zero fun k hk => by rw [et_wide h hk (by omega)]; grind
theorem row_et {n : Nat} {T : List (List Int)} (h : Sqr n T) {r : List Int} (hr : r ∈ T) : ∃ a, a < n ∧ ∀ j, vi r j = et T a j := by
  obtain ⟨a, ha, e⟩ := List.mem_iff_getElem.mp hr
  refine ⟨a, by rw [← h.l]; exact ha, fun j => ?_⟩
  have e2 : T.getD a [] = r := by rw [← e]; simp [List.getD, ha]
  show _ = vi (T.getD a []) j
  rw [e2]
theorem square_in {n : Nat} {T : List (List Int)} (h : Sqr n T) {v : Vc} (s : Spn ((times T T).map vi) v) : Spn (T.map vi) v := by
  obtain ⟨s1, s2⟩ := times_len h.l h.l
  refine spn_le (fun a ha => ?_) s
  obtain ⟨r, hr, rfl⟩ := mem_vi ha
  obtain ⟨a, ha, e⟩ := row_et ⟨s1, s2⟩ hr
  refine spn_ext (fun j => ?_) (led_in h (fun k => et T a k))
  rw [e]
  by_cases hj : j < n
  · rw [if_pos hj, et_times h.w h.l h.l ha hj]
  · rw [if_neg hj, et_wide ⟨s1, s2⟩ ha (by omega)]
theorem square_ker {n : Nat} {T : List (List Int)} (h : Sqr n T) {v : Vc} (hv : ∀ j, j < n → sm n (fun a => et T a j * v a) = 0) : ∀ j, j < n → sm n (fun a => et (times T T) a j * v a) = 0 := by
  intro j hj
  have e : sm n (fun a => et (times T T) a j * v a) = sm n (fun a => sm n (fun k => et T k j * (et T a k * v a))) := sm_congr fun a ha => by
    rw [et_times h.w h.l h.l ha hj, ← sm_mul_r]
    exact sm_congr fun k _ => by grind
  rw [e, sm_swap]
  exact sm_zero fun k hk => by rw [sm_mul, hv k hk]; grind
/-- images are kept -/
theorem images_kept {n : Nat} {T l : List (List Int)} (h : Sqr n T) (hl : Sqr n l) (hc : Cmt n T l) {v : Vc} (s : Spn (T.map vi) v) : Spn (T.map vi) (fun j => if j < n then sm n (fun k => v k * et l k j) else 0) := by
  refine spn_elim (P := fun v => Spn (T.map vi) (fun j => if j < n then sm n (fun k => v k * et l k j) else 0)) (fun v h => spn_zero _ fun j => ?_) (fun u v h1 h2 => spn_ext (fun j => ?_) (spn_add h1 h2)) (fun c v h1 => spn_ext (fun j => ?_) (spn_smul c h1)) (fun a ha => ?_) s
  · split
    · exact sm_zero fun k _ => by rw [h k]; grind
    · rfl
  · split
    · rw [← sm_add]; exact sm_congr fun k _ => by grind
    · grind
  · split
    · rw [← sm_mul]; exact sm_congr fun k _ => by grind
    · grind
  · obtain ⟨r, hr, rfl⟩ := mem_vi ha
    obtain ⟨a, ha, e⟩ := row_et h hr
    refine spn_ext (fun j => ?_) (led_in h (fun k => et l a k))
    by_cases hj : j < n
    · rw [if_pos hj, if_pos hj, ← hc a j ha hj]
      exact sm_congr fun k _ => by rw [e]
    · rw [if_neg hj, if_neg hj]
/-- noughts are kept -/
theorem noughts_kept {n : Nat} {T l : List (List Int)} (hc : Cmt n T l) {v : Vc} (hv : ∀ j, j < n → sm n (fun a => et T a j * v a) = 0) : ∀ j, j < n → sm n (fun a => et T a j * (if a < n then sm n (fun k => v k * et l k a) else 0)) = 0 := by
  intro j hj
  have e : sm n (fun a => et T a j * (if a < n then sm n (fun k => v k * et l k a) else 0)) = sm n (fun a => sm n (fun k => v k * (et l k a * et T a j))) := sm_congr fun a ha => by
    rw [if_pos ha, ← sm_mul]
    exact sm_congr fun k _ => by grind
  rw [e, sm_swap]
  have e2 : sm n (fun k => sm n (fun a => v k * (et l k a * et T a j))) = sm n (fun k => sm n (fun a => et l a j * (et T k a * v k))) := sm_congr fun k hk => by
    rw [sm_mul, ← hc k j hk hj, ← sm_mul]
    exact sm_congr fun a _ => by grind
  rw [e2, sm_swap]
  exact sm_zero fun a ha => by rw [sm_mul, hv a ha]; grind
theorem spn_cast {T : List (List Int)} {w : Nat} (h : ∀ r ∈ T, r.length = w) (v : Vc) : Spn ((stepsOf (castT T)).map vr) v ↔ Spn (T.map vi) v := by
  rw [(steps_RR (castT_len h)).2, castT_vr]
theorem spn_ker {T : List (List Int)} {n : Nat} (hl : T.length = n) (v : Vc) : Spn ((kernelOf (aboutT (castT T)) n).map vr) v ↔ Wd n v ∧ ∀ j, j < n → sm n (fun a => et T a j * v a) = 0 := by
  have aw : ∀ r ∈ aboutT (castT T), r.length = n := by rw [about_cast hl]; exact castT_len (aboutI_len hl).2
  rw [(kernel_RR aw).2, pp_about hl]
/-! ### rooms -/
theorem room_images {n K k : Nat} {L : List (List (List Int))} {T : List (List Int)} (hK : K = 14 ∨ K = 28) (hn : 1 ≤ n) (hn4 : n ≤ 4) (hL : L.length ≤ 2) (hl : ∀ l ∈ L, Sm n 4096 l) (hT : Sm n k T) (f : MFa K n (castT T)) (hc : ∀ l ∈ L, Cmt n T l) : RoomOk (L.map castT) n (stepsOf (castT T)) := by
  have ok := okN_of hK hn4 f.rn
  refine roomOk_of hn hn4 hL hl (steps_RR (castT_len hT.w)).1 f.wS ok.b2 f.sI fun r hr l hm => ?_
  rw [spn_cast hT.w]
  exact images_kept hT.sqr (hl l hm).sqr (hc l hm) ((spn_cast hT.w _).mp (spn_row hr))
theorem room_noughts {n K k : Nat} {L : List (List (List Int))} {T : List (List Int)} (hK : K = 14 ∨ K = 28) (hn : 1 ≤ n) (hn4 : n ≤ 4) (hL : L.length ≤ 2) (hl : ∀ l ∈ L, Sm n 4096 l) (hT : Sm n k T) (f : MFa K n (castT T)) (hc : ∀ l ∈ L, Cmt n T l) : RoomOk (L.map castT) n (kernelOf (aboutT (castT T)) n) := by
  have ok := okN_of hK hn4 f.rn
  refine roomOk_of hn hn4 hL hl (kernel_RR f.aw).1 f.wK ok.f2 f.sK fun r hr l hm => ?_
  rw [spn_ker hT.l]
  exact ⟨fun i hi => if_neg (by omega), noughts_kept (hc l hm) ((spn_ker hT.l _).mp (spn_row hr)).2⟩
structure AllR (n : Nat) (L : List (List (List Int))) (T : List (List Int)) : Prop where
  kr : KerOk (aboutT (castT T)) n
  ir : StepsOk (castT T)
  rk : RoomOk (L.map castT) n (kernelOf (aboutT (castT T)) n)
  ri : RoomOk (L.map castT) n (stepsOf (castT T))
  kn : (kernelOf (aboutT (castT T)) n).length + (stepsOf (castT T)).length = n
  qk : KerOk (aboutT (castT (times T T))) n
  qi : StepsOk (castT (times T T))
  r2 : RoomOk (L.map castT) n (kernelOf (aboutT (castT (times T T))) n)
  j2 : RoomOk (L.map castT) n (stepsOf (castT (times T T)))
  sm : StepsOk (kernelOf (aboutT (castT (times T T))) n ++ kernelOf (aboutT (castT T)) n)
  es : stepsOf (kernelOf (aboutT (castT (times T T))) n ++ kernelOf (aboutT (castT T)) n) = kernelOf (aboutT (castT (times T T))) n
  k1 : KerOk (stepsOf (castT T)) n
  k2 : KerOk (stepsOf (castT (times T T))) n
  k3 : KerOk (kernelOf (stepsOf (castT T)) n ++ kernelOf (stepsOf (castT (times T T))) n) n
  em : kernelOf (kernelOf (stepsOf (castT T)) n ++ kernelOf (stepsOf (castT (times T T))) n) n = stepsOf (castT (times T T))
  wk : ∀ r ∈ kernelOf (aboutT (castT T)) n, WB 800 r
  wi : ∀ r ∈ stepsOf (castT T), WB 800 r
theorem allR {n : Nat} {L : List (List (List Int))} {T : List (List Int)} (h : TF n L T) : AllR n L T := by
  have n1 := h.n1
  have n4 := h.n4
  have sq := h.tb.sqr
  have sT2 : Sm n (2 ^ 26) (times T T) := (times_sm h.tb h.tb).mono (by have : n * (4096 * 4096) ≤ 4 * (4096 * 4096) := Nat.mul_le_mul_right _ n4; omega)
  have f1 := mfa (K := 14) (.inl rfl) n4 (ms_cast h.tb (by decide) (by decide))
  have f2 := mfa (K := 28) (.inr rfl) n4 (ms_cast sT2 (by decide) (by decide))
  have c2 : ∀ l ∈ L, Cmt n (times T T) l := fun l hl => Cmt.mul sq sq (h.cm l hl) (h.cm l hl)
  have o1 := okN_of (K := 14) (.inl rfl) n4 f1.rn
  have o2 := okN_of (K := 28) (.inr rfl) n4 f2.rn
  have os := okS_of n4 f1.rn f2.rn
  have RK2 := (kernel_RR f2.aw).1
  have RK1 := (kernel_RR f1.aw).1
  have RI1 := (steps_RR (castT_len h.tb.w)).1
  have RI2 := (steps_RR (castT_len sT2.w)).1
  have KI1 := kernel_RR (X := stepsOf (castT T)) (w := n) RI1.len
  have KI2 := kernel_RR (X := stepsOf (castT (times T T))) (w := n) RI2.len
  have app : ∀ {A B : List (List Rat)}, (∀ r ∈ A, r.length = n) → (∀ r ∈ B, r.length = n) → ∀ r ∈ A ++ B, r.length = n := fun hA hB r hr => by
    rcases List.mem_append.mp hr with g | g
    · exact hA r g
    · exact hB r g
  have l1 : (kernelOf (aboutT (castT T)) n).length ≤ 4 := by rw [f1.kl]; omega
  have l2 : (kernelOf (aboutT (castT (times T T))) n).length ≤ 4 := by rw [f2.kl]; omega
  have l3 : (kernelOf (stepsOf (castT T)) n).length ≤ 4 := by rw [f1.il]; omega
  have l4 : (kernelOf (stepsOf (castT (times T T))) n).length ≤ 4 := by rw [f2.il]; omega
  have es : stepsOf (kernelOf (aboutT (castT (times T T))) n ++ kernelOf (aboutT (castT T)) n) = kernelOf (aboutT (castT (times T T))) n := by
    obtain ⟨a1, a2⟩ := steps_RR (app RK2.len RK1.len)
    refine RR.uniq a1 RK2 fun v => ?_
    rw [a2]
    refine ⟨fun s => spn_le (fun a ha => ?_) s, fun s => by rw [List.map_append]; exact spn_append_l s⟩
    obtain ⟨r, hr, rfl⟩ := mem_vr ha
    rcases List.mem_append.mp hr with g | g
    · exact spn_row g
    · rw [spn_ker sT2.l]
      obtain ⟨g1, g2⟩ := (spn_ker h.tb.l _).mp (spn_row g)
      exact ⟨g1, square_ker sq g2⟩
  have in2 : ∀ v, Spn ((stepsOf (castT (times T T))).map vr) v → Spn ((stepsOf (castT T)).map vr) v := fun v s => by
    rw [spn_cast h.tb.w]
    rw [spn_cast sT2.w] at s
    exact square_in sq s
  have sub : ∀ v, Spn ((kernelOf (stepsOf (castT T)) n).map vr) v → Spn ((kernelOf (stepsOf (castT (times T T))) n).map vr) v := fun v s => by
    rw [KI2.2]
    obtain ⟨s1, s2⟩ := (KI1.2 v).mp s
    refine ⟨s1, fun a ha => ?_⟩
    obtain ⟨r, hr, rfl⟩ := mem_vr ha
    exact pp_spn s2 (in2 _ (spn_row hr))
  have spA : ∀ v, Spn ((kernelOf (stepsOf (castT T)) n ++ kernelOf (stepsOf (castT (times T T))) n).map vr) v ↔ Spn ((kernelOf (stepsOf (castT (times T T))) n).map vr) v := fun v => by
    refine ⟨fun s => spn_le (fun a ha => ?_) s, fun s => by rw [List.map_append]; exact spn_append_r s⟩
    obtain ⟨r, hr, rfl⟩ := mem_vr ha
    rcases List.mem_append.mp hr with g | g
    · exact sub _ (spn_row g)
    · exact spn_row g
  have aw := app KI1.1.len KI2.1.len
  have eA : stepsOf (kernelOf (stepsOf (castT T)) n ++ kernelOf (stepsOf (castT (times T T))) n) = kernelOf (stepsOf (castT (times T T))) n := by
    obtain ⟨a1, a2⟩ := steps_RR aw
    refine RR.uniq a1 KI2.1 fun v => ?_
    rw [a2, spA]
  have em : kernelOf (kernelOf (stepsOf (castT T)) n ++ kernelOf (stepsOf (castT (times T T))) n) n = stepsOf (castT (times T T)) := by
    obtain ⟨a1, a2⟩ := kernel_RR aw
    refine RR.uniq a1 RI2 fun v => ?_
    rw [a2, pp_congr spA, double RI2.len]
  have k3le : ∀ {b : Nat} {r : List Rat}, WB b r → (b ≤ fS 14 n (stepsOf (castT T)).length ∨ b ≤ fS 28 n (stepsOf (castT (times T T))).length) → WB (k3 n (stepsOf (castT T)).length (stepsOf (castT (times T T))).length - 1) r := fun w hb => w.mono (by
    unfold k3
    rw [Nat.add_sub_cancel]
    rcases hb with g | g
    · exact Nat.le_trans g (Nat.le_max_left _ _)
    · exact Nat.le_trans g (Nat.le_max_right _ _))
  have k31 : 1 ≤ k3 n (stepsOf (castT T)).length (stepsOf (castT (times T T))).length := Nat.le_add_left _ _
  have sA : StepsOk (kernelOf (stepsOf (castT T)) n ++ kernelOf (stepsOf (castT (times T T))) n) := by
    refine stepsOk_of (K := k3 n (stepsOf (castT T)).length (stepsOf (castT (times T T))).length) aw (by rw [List.length_append]; omega) (by omega) k31 (fun r hr => ?_) os.a0 (by rw [eA, f2.il]; exact os.a1) (by rw [eA, f2.il]; exact os.a2)
    rcases List.mem_append.mp hr with g | g
    · exact k3le (f1.wI r g) (.inl (Nat.le_refl _))
    · exact k3le (f2.wI r g) (.inr (Nat.le_refl _))
  refine ⟨f1.kA, f1.sM, room_noughts (.inl rfl) n1 n4 h.l2 h.ls h.tb f1 h.cm, room_images (.inl rfl) n1 n4 h.l2 h.ls h.tb f1 h.cm, by rw [f1.kl]; have := f1.rn; omega, f2.kA, f2.sM, room_noughts (.inr rfl) n1 n4 h.l2 h.ls sT2 f2 c2, room_images (.inr rfl) n1 n4 h.l2 h.ls sT2 f2 c2, ?_, es, f1.kI, f2.kI, ?_, em, fun r hr => (f1.wK r hr).mono o1.f2, fun r hr => (f1.wS r hr).mono o1.b2⟩
  · refine stepsOk_of (K := k3 n (stepsOf (castT T)).length (stepsOf (castT (times T T))).length) (app RK2.len RK1.len) (by rw [List.length_append]; omega) (by omega) k31 (fun r hr => ?_) os.a0 (by rw [es, f2.kl]; exact os.a1) (by rw [es, f2.kl]; exact os.a2)
    rcases List.mem_append.mp hr with g | g
    · exact k3le (f2.wK r g) (.inr (Nat.le_refl _))
    · exact k3le (f1.wK r g) (.inl (Nat.le_refl _))
  · have f22 := o2.f2
    refine kerOk_of (b := fS 28 n (stepsOf (castT (times T T))).length) aw sA (by omega) o2.f1 (by omega) (by rw [eA]; exact f2.wI) (by rw [eA, f2.il]; exact os.b0) (by rw [eA, f2.il, em]; exact os.b1) (by rw [eA, f2.il, em]; exact os.b2)
end TW
set_option Elab.async false
set_option linter.all false
set_option maxRecDepth 100000
set_option exponentiation.threshold 100000
/-! M11: texts, and all of RightOk. -/
namespace TW
open PySem L2
theorem ratTx_len {q : Rat} (h : RSz 100000 q) : (ratTx q).length ≤ 80009 := by
  have h1 := digTx_len h.1
  have h2 : (digTx (q.den : Int)).length ≤ 40000 := digTx_len (by rw [Int.natAbs_natCast]; exact h.2)
  unfold ratTx
  rw [joinAll_len]
  have e1 : (Str.ofString "Ratio(").length = 6 := by decide
  have e2 : (Str.ofString ", ").length = 2 := by decide
  have e3 : (Str.ofString ")").length = 1 := by decide
  simp only [List.map_cons, List.map_nil, List.sum_cons, List.sum_nil, e1, e2, e3]
  omega
theorem txtL_len {B : Nat} : ∀ {xs : List T}, (∀ x ∈ xs, (txt x).length ≤ B) → (txtL xs).length = xs.length ∧ ((txtL xs).map (·.length)).sum ≤ xs.length * B
  | [], _ => by simp [txtL]
  | x :: xs, h => by
    obtain ⟨h1, h2⟩ := txtL_len (xs := xs) fun y hy => h y (List.mem_cons_of_mem _ hy)
    have h3 := h x List.mem_cons_self
    simp only [txtL, List.length_cons, List.map_cons, List.sum_cons, Nat.succ_mul]
    omega
theorem listText_le {B n : Nat} {xs : List T} (h : ∀ x ∈ xs, (txt x).length ≤ B) (hn : xs.length ≤ n) : (listText (txtL xs)).length ≤ n * (B + 2) + 4 := by
  obtain ⟨h1, h2⟩ := txtL_len h
  have h3 := textFrom_len_le (txtL xs) 0 "["
  have e : (listText (txtL xs)).length = (textFrom 0 "[" (txtL xs)).length + 1 := by
    show (textFrom 0 "[" (txtL xs) ++ "]").length = _
    rw [strLen_append]; rfl
  have e2 : ("[" : Str).length = 1 := by decide
  have h4 : xs.length * (B + 2) ≤ n * (B + 2) := Nat.mul_le_mul_right _ hn
  have h5 : xs.length * (B + 2) = xs.length * B + 2 * xs.length := by rw [Nat.mul_add, Nat.mul_comm _ 2]
  rw [e]
  rw [h1, e2] at h3
  omega
theorem join_le (ts : List Str) : (Str.join ", " ts).length ≤ (ts.map (·.length)).sum + 2 * ts.length := by
  cases ts with
  | nil => exact Nat.le_of_eq rfl
  | cons x ts =>
    have h := textFrom_pos ts 1 Str.empty x (by decide)
    have h2 := textFrom_len_le ts 1 (Str.empty ++ x)
    rw [h, strLen_append, strLen_append] at h2
    have e : Str.empty.length = 0 := rfl
    rw [e] at h2
    simp only [List.map_cons, List.sum_cons, List.length_cons]
    omega
theorem tupleText_le {B n : Nat} {xs : List T} (h : ∀ x ∈ xs, (txt x).length ≤ B) (hn : xs.length ≤ n) : (tupleText (txtL xs)).length ≤ n * (B + 2) + 4 := by
  obtain ⟨h1, h2⟩ := txtL_len h
  have h3 := join_le (txtL xs)
  have e : (tupleText (txtL xs)).length ≤ 1 + (Str.join ", " (txtL xs)).length + 2 := by
    unfold tupleText
    rw [strLen_append, strLen_append]
    have e1 : ("(" : Str).length = 1 := by decide
    rw [e1]
    have : ((if (txtL xs).length == 1 then ",)" else ")" : String) : Str).length ≤ 2 := by split <;> decide
    omega
  have h4 : xs.length * (B + 2) ≤ n * (B + 2) := Nat.mul_le_mul_right _ hn
  have h5 : xs.length * (B + 2) = xs.length * B + 2 * xs.length := by rw [Nat.mul_add, Nat.mul_comm _ 2]
  rw [h1] at h3
  omega
theorem seqT_le {B n : Nat} {b : Bool} {xs : List T} (h : ∀ x ∈ xs, (txt x).length ≤ B) (hn : xs.length ≤ n) : (txt (seqT b xs)).length ≤ n * (B + 2) + 4 := by
  cases b
  · exact listText_le h hn
  · exact tupleText_le h hn
theorem supL_map {α : Type} {f : α → T} {hs : Bool} : ∀ {xs : List α}, (∀ x ∈ xs, Sup hs (f x)) → SupL hs (xs.map f)
  | [], _ => by simp only [List.map_nil, SupL]
  | x :: xs, h => by
    simp only [List.map_cons, SupL]
    exact ⟨h x List.mem_cons_self, supL_map fun y hy => h y (List.mem_cons_of_mem _ hy)⟩
/-- rooms and tables of Ratios -/
structure Small (A : List (List Rat)) : Prop where
  n : A.length ≤ 4
  w : ∀ r ∈ A, r.length ≤ 4
  q : ∀ r ∈ A, ∀ q ∈ r, RSz 100000 q
theorem Small.sup {A : List (List Rat)} (h : Small A) (hs : Bool) : Sup hs (tRR A) := by
  unfold tRR
  simp only [Sup]
  refine supL_map fun r hr => ?_
  unfold tR
  simp only [Sup]
  refine supL_map fun q hq => ?_
  simp only [Sup]
  exact h.q r hr q hq
theorem Small.len {A : List (List Rat)} (h : Small A) : (txt (tRR A)).length ≤ 1300000 := by
  refine Nat.le_trans (listText_le (B := 320050) (n := 4) (fun x hx => ?_) (by rw [List.length_map]; exact h.n)) (by decide)
  obtain ⟨r, hr, rfl⟩ := List.mem_map.mp hx
  refine Nat.le_trans (listText_le (B := 80009) (n := 4) (fun y hy => ?_) (by rw [List.length_map]; exact h.w r hr)) (by decide)
  obtain ⟨q, hq, rfl⟩ := List.mem_map.mp hy
  exact ratTx_len (h.q r hr q hq)
theorem small_cast {n : Nat} {T : List (List Int)} (h : Sm n 4096 T) (hn4 : n ≤ 4) : Small (castT T) := by
  refine ⟨by rw [castT, List.length_map, h.l]; exact hn4, fun r hr => by rw [castT_len h.w r hr]; exact hn4, fun r hr q hq => ?_⟩
  obtain ⟨x, hx, rfl⟩ := List.mem_map.mp hr
  obtain ⟨y, hy, rfl⟩ := List.mem_map.mp hq
  refine ⟨?_, ?_⟩
  · rw [Rat.num_intCast]
    exact Nat.lt_of_le_of_lt (h.b x hx y hy) (Nat.lt_of_lt_of_le (by decide : 4096 < 2 ^ 13) (Nat.pow_le_pow_right (by decide) (by decide)))
  · rw [Rat.den_intCast]; exact Nat.one_lt_two_pow (by decide)
/-! ### given tables -/
theorem mapP_map {α β γ : Type} {f : α → Pot → β × Pot} {g : β → γ} {h : α → γ} (e : ∀ x c, g (f x c).1 = h x) : ∀ (xs : List α) (c : Pot), (mapP f xs c).1.map g = xs.map h
  | [], _ => rfl
  | x :: xs, c => by
    show ((f x c).1 :: (mapP f xs (f x c).2).1).map g = _
    rw [List.map_cons, e, mapP_map e xs, List.map_cons]
theorem asNum_q (y : Int) (c : Pot) : (asNum y c).1.q = (y : Rat) := by
  unfold asNum
  dsimp only
  split <;> rfl
theorem given_q (rows : List (List Int)) (c : Pot) : (givenP rows c).1.q = castT rows := by
  show (mapP asP rows c).1.map (fun r => r.xs.map Num.q) = _
  exact mapP_map (f := asP) (g := fun r : GRow => r.xs.map Num.q) (h := fun r : List Int => r.map fun (n : Int) => (n : Rat)) (fun r c => mapP_map asNum_q r c) rows c
theorem mapP_mem' {α β : Type} {f : α → Pot → β × Pot} : ∀ {xs : List α} {c : Pot} {y : β}, y ∈ (mapP f xs c).1 → ∃ x ∈ xs, ∃ c, y = (f x c).1
  | [], c, y, h => absurd h (by show ¬ y ∈ ([] : List β); exact List.not_mem_nil)
  | x :: xs, c, y, h => by
    rcases List.mem_cons.mp (show y ∈ (f x c).1 :: (mapP f xs (f x c).2).1 from h) with h | h
    · exact ⟨x, List.mem_cons_self, c, h⟩
    · obtain ⟨z, hz, c', e⟩ := mapP_mem' h
      exact ⟨z, List.mem_cons_of_mem _ hz, c', e⟩
theorem given_sq {n : Nat} {rows : List (List Int)} (h : Sqr n rows) (c : Pot) : (givenP rows c).1.Sq n := by
  refine ⟨by show (mapP asP rows c).1.length = n; rw [mapP_length]; exact h.l, fun r hr => ?_⟩
  obtain ⟨x, hx, c', rfl⟩ := mapP_mem' hr
  show (mapP asNum x c').1.length = n
  rw [mapP_length]; exact h.w x hx
theorem given_num {n : Nat} {rows : List (List Int)} (h : Sm n 4096 rows) (c : Pot) : ∀ r ∈ (givenP rows c).1.rows, ∀ x ∈ r.xs, ∃ y : Int, y.natAbs ≤ 4096 ∧ (x = .i y ∨ x = .r (y : Rat)) := by
  intro r hr x hx
  obtain ⟨row, hrow, c', rfl⟩ := mapP_mem' hr
  obtain ⟨y, hy, c2, rfl⟩ := mapP_mem' hx
  refine ⟨y, h.b row hrow y hy, ?_⟩
  unfold asNum
  dsimp only
  split
  · exact .inl rfl
  · exact .inr rfl
theorem num_small {y : Int} {x : Num} (h : y.natAbs ≤ 4096) (e : x = .i y ∨ x = .r (y : Rat)) (hs : Bool) : Sup hs x.t ∧ (txt x.t).length ≤ 80009 := by
  have hy : y.natAbs < 2 ^ 100000 := Nat.lt_of_le_of_lt h (Nat.lt_of_lt_of_le (by decide : 4096 < 2 ^ 13) (Nat.pow_le_pow_right (by decide) (by decide)))
  rcases e with e | e
  · subst e
    refine ⟨?_, ?_⟩
    · simp only [Num.t, Sup]
      by_cases z : y.natAbs = 0
      · rw [z]; decide
      · exact (Nat.log2_lt z).mpr (Nat.lt_of_le_of_lt h (Nat.lt_of_lt_of_le (by decide : 4096 < 2 ^ 13) (Nat.pow_le_pow_right (by decide) (by decide))))
    · have : (Str.ofString (toString y)).length ≤ 5 := intTx_len (k := 4) (by decide) (by omega)
      show (Str.ofString (toString y)).length ≤ _
      omega
  · subst e
    have hz : RSz 100000 (y : Rat) := ⟨by rw [Rat.num_intCast]; exact hy, by rw [Rat.den_intCast]; exact Nat.one_lt_two_pow (by decide)⟩
    refine ⟨?_, ratTx_len hz⟩
    simp only [Num.t, Sup]
    exact hz
theorem sup_seq {hs : Bool} {b : Bool} {xs : List T} (h : SupL hs xs) : Sup hs (seqT b xs) := by
  cases b
  · simpa only [seqT, Sup, Bool.false_eq_true, if_false] using h
  · simpa only [seqT, Sup, if_true] using h
theorem given_small {n : Nat} {rows : List (List Int)} (h : Sm n 4096 rows) (hn4 : n ≤ 4) (c : Pot) (hs : Bool) : Sup hs (givenP rows c).1.t ∧ (txt (givenP rows c).1.t).length ≤ 1300000 := by
  have gs := given_sq h.sqr c
  have gn := given_num h c
  generalize (givenP rows c).1 = g at gs gn
  refine ⟨sup_seq (supL_map fun r hr => sup_seq (supL_map fun x hx => ?_)), ?_⟩
  · obtain ⟨y, hy, e⟩ := gn r hr x hx
    exact (num_small hy e hs).1
  · refine Nat.le_trans (seqT_le (B := 320050) (n := 4) (fun t ht => ?_) (by rw [List.length_map, gs.1]; exact hn4)) (by decide)
    obtain ⟨r, hr, rfl⟩ := List.mem_map.mp ht
    refine Nat.le_trans (seqT_le (B := 80009) (n := 4) (fun t ht => ?_) (by rw [List.length_map, gs.2 r hr]; exact hn4)) (by decide)
    obtain ⟨x, hx, rfl⟩ := List.mem_map.mp ht
    obtain ⟨y, hy, e⟩ := gn r hr x hx
    exact (num_small hy e hs).2
/-! ### all -/
theorem size_le {k : Nat} (h : k ≤ 16000000) : k ≤ sizeLine := Nat.le_trans h (by decide)
theorem sqG_q (c : Pot) : (sqG c).q = castT (times (TC c) (TC c)) := by
  show (((times (TC c) (TC c)).map fun r => (⟨false, r.map Num.i⟩ : GRow))).map (fun r => r.xs.map Num.q) = _
  rw [List.map_map]
  apply List.map_congr_left
  intro r _
  show (r.map Num.i).map Num.q = _
  rw [List.map_map]
  rfl
theorem two_sup {A B : T} {hs : Bool} (a : Sup hs A) (b : Sup hs B) : SupL hs [A, B] := by simp only [SupL]; exact ⟨a, b, trivial⟩
theorem two_len {A B : T} {k : Nat} (a : (txt A).length ≤ k) (b : (txt B).length ≤ k) (hk : 2 * (k + 2) + 4 ≤ 16000000) : (txt (.lst [A, B])).length ≤ sizeLine := by
  refine size_le (Nat.le_trans (listText_le (B := k) (n := 2) (fun x hx => ?_) (Nat.le_refl _)) hk)
  rcases List.mem_cons.mp hx with e | e
  · rw [e]; exact a
  · rw [List.mem_singleton] at e; rw [e]; exact b
theorem rightOk (c : Pot) : RightOk c := by
  have cf := cfact c
  have tf : TF (nC c) (LC c) (TC c) := tfact cf (commP c).2
  have tu : TuOk (nC c) ((cmC c).ls ++ [(cmC c).tb]) (commP c).2 := tuok cf (commP c).2
  have n1 := tf.n1
  have n4 := tf.n4
  have sq := tf.tb.sqr
  have R := allR tf
  have els : lsC c = (LC c).map castT := mapP_map (fun x c => given_q x c) _ _
  have eg : (gC c).1.q = castT (TC c) := given_q _ _
  have ek : kernelOf (aboutT (castT (TC c))) (nC c) = KC c := noughts_eq tf.tb.l
  have ei : stepsOf (castT (TC c)) = IC c := images_eq tf.tb.w
  have e2 := sqG_q c
  have eK2 : K2 c = kernelOf (aboutT (castT (times (TC c) (TC c)))) (nC c) := by unfold K2; rw [e2]
  have eI2 : I2 c = stepsOf (castT (times (TC c) (TC c))) := by unfold I2; rw [e2]
  have bd := tf.tb.bd (b := 13) (by decide)
  obtain ⟨nk, tk⟩ := nok tf.tb.l tf.tb.w n4 bd
  have gl : ∀ g ∈ (gsC c).1, ∃ l ∈ LC c, ∃ c', g = (givenP l c').1 := fun g hg => mapP_mem' hg
  have rk := R.rk
  have ri := R.ri
  rw [ek] at rk
  rw [ei] at ri
  have kn := R.kn
  rw [ek, ei] at kn
  have sK : Small (KC c) := ⟨by omega, fun r hr => by rw [rk.w r hr]; exact n4, fun r hr q hq => ((R.wk r (by rw [ek]; exact hr)).rsz q hq).mono (by decide)⟩
  have sI : Small (IC c) := ⟨by omega, fun r hr => by rw [ri.w r hr]; exact n4, fun r hr q hq => ((R.wi r (by rw [ei]; exact hr)).rsz q hq).mono (by decide)⟩
  have sH : ∀ A ∈ lsC c, Small A := fun A hA => by
    rw [els] at hA
    obtain ⟨l, hl, rfl⟩ := List.mem_map.mp hA
    exact small_cast (tf.ls l hl) n4
  have lsl : (lsC c).length ≤ 2 := by rw [els, List.length_map]; exact tf.l2
  have hsup : Sup true (tH (lsC c) (nC c)) := by
    simp only [Sup]
    exact ⟨trivial, supL_map fun A hA => (sH A hA).sup false, _, rfl⟩
  have hlen : (txt (tH (lsC c) (nC c))).length ≤ 2700000 := by
    show (joinAll [Str.ofString "House(", txt (tRRR (lsC c)), Str.ofString ")"]).length ≤ _
    rw [joinAll_len]
    have e1 : (Str.ofString "House(").length = 6 := by decide
    have e3 : (Str.ofString ")").length = 1 := by decide
    have h : (txt (tRRR (lsC c))).length ≤ 2 * (1300000 + 2) + 4 := listText_le (B := 1300000) (n := 2) (fun x hx => by
      obtain ⟨A, hA, rfl⟩ := List.mem_map.mp hx
      exact (sH A hA).len) (by rw [List.length_map]; exact lsl)
    simp only [List.map_cons, List.map_nil, List.sum_cons, List.sum_nil, e1, e3]
    omega
  obtain ⟨gsup, glen⟩ := given_small tf.tb n4 (gsC c).2 true
  have rkl : (lawSteps (TC c)).length ≤ 4 := by
    have := rank_law tf.tb.w
    have := rank_n (castT_len tf.tb.w)
    omega
  have rows_bd : ∀ r ∈ TC c, Bd 100000 r := fun r hr => (bd r hr).mono (by decide)
  obtain ⟨t1, t2⟩ := times_len sq.l sq.l
  have c2 : ∀ l ∈ LC c, Cmt (nC c) (times (TC c) (TC c)) l := fun l hl => Cmt.mul sq sq (tf.cm l hl) (tf.cm l hl)
  have sT2 : Sm (nC c) (2 ^ 26) (times (TC c) (TC c)) := (times_sm tf.tb tf.tb).mono (by have : nC c * (4096 * 4096) ≤ 4 * (4096 * 4096) := Nat.mul_le_mul_right _ n4; omega)
  refine {
    tu := tu
    lo := ⟨?_, ?_, fun g hg => ?_, n1, n4⟩
    lw := fun l hl => ⟨by rw [(tf.ls l hl).l]; omega, fun r hr => by rw [(tf.ls l hl).w r hr]; omega⟩
    no := nk
    nt := tk
    sf := lfit_of tf.tb.w (by rw [tf.tb.l]; omega) n4 (K := 14) (by decide) bd (by decide)
    st := ?_
    gs := given_sq sq _
    n1 := n1
    n4 := n4
    cm := by rw [els, eg]; exact commOk_cast n1 n4 tf.l2 tf.ls tf.tb (by decide) tf.cm
    kr := by rw [eg]; exact R.kr
    ir := by rw [eg]; exact R.ir
    ek := by rw [eg]; exact ek
    ei := by rw [eg]; exact ei
    s1 := two_sup hsup gsup
    z1 := two_len (k := 2700000) hlen (Nat.le_trans glen (by decide)) (by decide)
    s2 := two_sup (sK.sup true) (sI.sup true)
    z2 := two_len (k := 1300000) sK.len sI.len (by decide)
    rk := by rw [els]; exact rk
    ri := by rw [els]; exact ri
    kn := kn
    tw := ⟨tf.tb.l, fun r hr => ⟨tf.tb.w r hr, rows_bd r hr⟩⟩
    qs := ⟨?_, fun r hr => ?_⟩
    qc := by rw [els, e2]; exact commOk_cast n1 n4 tf.l2 tf.ls sT2 (by decide) c2
    qk := by rw [e2]; exact R.qk
    qi := by rw [e2]; exact R.qi
    r2 := by rw [els, eK2]; exact R.r2
    j2 := by rw [els, eI2]; exact R.j2
    sm := by rw [eK2, ← ek]; exact R.sm
    es := by rw [eK2, ← ek]; exact R.es
    k1 := by rw [← ei]; exact R.k1
    k2 := by rw [eI2]; exact R.k2
    k3 := by rw [← ei, eI2]; exact R.k3
    em := by rw [← ei, eI2]; exact R.em }
  · show 1 ≤ (mapP givenP (LC c) (tuC c).2.2).1.length
    rw [mapP_length]; exact tf.l1
  · show (mapP givenP (LC c) (tuC c).2.2).1.length ≤ 3
    rw [mapP_length]; have := tf.l2; omega
  · obtain ⟨l, hl, c', rfl⟩ := gl g hg
    exact given_sq (tf.ls l hl).sqr c'
  · refine toldOk_of (w := nC c) (b := 9000) (by omega) (by omega) (lawSteps_hd tf.tb.w) (fun r hr => (lawSteps_bd (K := 14) (by decide) bd r hr).mono ?_) (Nat.le_refl _)
    have : 2 ^ (lawSteps (TC c)).length ≤ 2 ^ 4 := Nat.pow_le_pow_right (by decide) rkl
    have : (2 ^ (lawSteps (TC c)).length - 1) * 14 ≤ 15 * 14 := Nat.mul_le_mul_right _ (by omega)
    omega
  · show ((times (TC c) (TC c)).map fun r => (⟨false, r.map Num.i⟩ : GRow)).length = _
    rw [List.length_map]; exact t1
  · obtain ⟨x, hx, rfl⟩ := List.mem_map.mp hr
    show (x.map Num.i).length = _
    rw [List.length_map]; exact t2 x hx
end TW
set_option Elab.async false
set_option linter.all false
set_option maxRecDepth 100000
set_option maxHeartbeats 4000000
set_option exponentiation.threshold 100000
/-! Lp1: _law_pot. -/
namespace TW
open PySem L2
abbrev sLPot : Stmt := top 77
theorem scLPot : FnScope ["_law_script", "_law_k", "_law_cell"] ["_law_script", "_law_k"] (defScope sLPot) := ⟨rfl, rfl, rfl, by decide +kernel, rfl, by decide +kernel, by decide +kernel⟩
abbrev sLLaw : Stmt := top 101
theorem scLLaw : FnScope ["_law_script"] ["_law_script"] (defScope sLLaw) := ⟨rfl, rfl, rfl, by decide +kernel, rfl, by decide +kernel, by decide +kernel⟩
section
variable {S : Stat} {N : List Str} {n : Nat} {ι : Type} {XX : ι → Cx} {m : Pm} {env : TEnv} {c c1 c2 c3 : Pot}
theorem e_max2 (F : Fam S N n XX) {p pos : Pos} {a b : Expr} {i j : Int} (hm : S.mg "max" = none) (ha : EJ m XX a env c (.int i) c1) (hb : EJ m XX b env c1 (.int j) c2) (hg : ∀ i, Gl (XX i) "max" := by intro _; rfl)
    (hs : ∀ i, starEach [a, b] (XX i).env = (false, eval a (XX i).env) :: starEach [b] (XX i).env := by intro _; rfl) (hs2 : ∀ i, starEach [b] (XX i).env = [(false, eval b (XX i).env)] := by intro _; rfl)
    (hpl : ∀ i, (backTo pos (starEach [b] (XX i).env)).any (·.1) = false := by intro _; rfl) : EJ m XX (.Call (.Name "max" p) [a, b] [] pos) env c (.int (if j > i then j else i)) c2 :=
  e_callB F (fun i => call_max2 (F.calm i)) hm (by decide +kernel) (a_cons ha (a_cons hb a_nil hs2) hs) (by
    intro c B H vs s hv Q q
    have e : vs = [V.int i, V.int j] := (repL_ints (ns := [i, j])).mp hv
    exact ⟨i, j, e, q _ B H s (Stp.refl m B H) (rep_int.mpr rfl)⟩) hg (he := hs) (hpl := hpl)
end
/-- the other side of a choice that is stored -/
def elseOf : Stmt → Expr
  | .Assign _ (.IfExp _ _ b _) _ => b
  | _ => .Constant (.int 0) 0 ⟨0, 0, 0, 0⟩
def spPot (K : PySem.W.Frag) : Sp := fun vs H Q _ => ∃ (a : Addr) (ns : List Int), vs = [.ref a, .int 0] ∧ SqL K H a (ns.map V.int) ∧ ∀ (p : Addr) (c : Pot) (H' : Hp), H' p = some (.lst [.int c.a, .int c.b]) → Q (.ref p) H'
def cellOf (ns : List Int) : Int := if (0 : Int) < ns.length then (if ns.getD 0 0 < 0 then -(ns.getD 0 0) else ns.getD 0 0) else 653 * 0 + 401
def potB (i : Int) : Int := ((i % 2147483549 * 40771 + 6701 * 0 + 349) % 2147483563) + 1
theorem potB_ok (i : Int) : 0 ≤ potB i ∧ potB i ≤ 2147483563 := by
  unfold potB
  have h1 := Int.emod_nonneg (i % 2147483549 * 40771 + 6701 * 0 + 349) (b := 2147483563) (by decide)
  have h2 := Int.emod_lt_of_pos (i % 2147483549 * 40771 + 6701 * 0 + 349) (b := 2147483563) (by decide)
  omega
def potA (i : Int) : Int := if i - (10 : Int) ^ (18 : Int).toNat > 0 then i - (10 : Int) ^ (18 : Int).toNat else 0
theorem potA_ok (i : Int) : 0 ≤ potA i := by unfold potA; split <;> omega
section
variable {S : Stat}
theorem ok_pot {f : Addr} {fd : FuncData} (Fd : FnS S "_law_pot" sLPot f fd) (g : MG S) : FnOk S.P S.w S.K S.mg S.base CX0 10 f fd ["_law_script", "_law_k"] (spPot S.K) := by
  refine Fd.ok (k := 9) scLPot (fun vs H Q E h => ?_) (fun cdv A outer s H vs Q E hr h => ?_)
  · obtain ⟨a, ns, rfl, _⟩ := h; rfl
  · obtain ⟨a, ns, rfl, hS, q⟩ := h
    let XX := dcx S ["_law_script", "_law_k", "_law_cell"] "_law_pot" sLPot f cdv A outer s H E
    have F : Fam S ["_law_script", "_law_k", "_law_cell"] 9 XX := ⟨fun _ => rfl, fun _ => rfl, fun _ => rfl, fun _ => rfl, fun _ => rfl, fun _ => rfl, scLPot.nd, fun _ => rfl, fun _ => hr⟩
    let m : Pm := ⟨0, 0, none, fun _ => none⟩
    have sit : Sit m P0 (fun _ => none) H := ⟨fun _ _ z => (nomatch z), fun _ z => absurd rfl z, fun _ z => (nomatch z)⟩
    have two : BJ m XX ((defBody sLPot).drop 1) [Sl.raw (.ref a), Sl.val (.int 0), Sl.val (.int (cellOf ns))] P0 (.rt (.lst [.int (potA (cellOf ns)), .int (potB (cellOf ns))]) P0) := by
      refine b_one (s_ret (e_lst (a_cons (e_max2 F g.max_ e_int (e_sub (e_var F 2) (e_pow e_int e_int ⟨by decide, by decide, by decide⟩))) (a_cons (e_add (e_mod (e_intI F g.int_ (e_add (e_add (e_mul (e_mod (e_intI F g.int_ (e_var F 2)) e_int (by decide)) e_int ?_) (e_mul e_int (e_var F 1) ?_)) e_int)) e_int (by decide)) e_int) a_nil))))
      · refine mulW (a := 40) (b := 20) ?_ (by decide)
        have h1 := Int.emod_nonneg (cellOf ns) (b := 2147483549) (by decide)
        have h2 := Int.emod_lt_of_pos (cellOf ns) (b := 2147483549) (by decide)
        omega
      · exact mulW (a := 20) (b := 20) (by decide) (by decide)
    let rL : List V → Hp → VK → Prop := fun xs H Q => ∃ x n, xs = [x] ∧ LenV S.K x H n ∧ Q (.int (n : Int)) H
    let rA : List V → Hp → VK → Prop := fun xs H Q => ∃ i, xs = [.int i] ∧ Q (.int (if i < 0 then -i else i)) H
    refine ⟨tSeq (tAsg (tIf (tTest (tOp (rI0 fun i j => .bl (decide (i < j))) (tVar 1) (tCB rL (tCons (tVar 0) tNil)))) (tCB rA (tCons (tOp (rIxL S.K) (tVar 0) (tVar 1)) tNil)) (rdE XX (elseOf (nthS (defBody sLPot) 0)))) (gName 2)) (rdB XX ((defBody sLPot).drop 1)), PSs.nox ?_, ?_⟩
    · exact pss_cons (ps_set (i := 2) (X := XX ()) scLPot.nd rfl (Or.inl rfl) (pe_ifExp (pt_cmpR op_lt (pv 1) (pe_callB call_len rfl g.len_ (by decide +kernel) (pa_cons (pv 0) pa_nil)) rfl) (pe_callB call_abs rfl g.abs_ (by decide +kernel) (pa_cons (pe_ix ix_list (pv 0) (pv 1) (fun _ _ => rfl)) pa_nil)) (pe_rd (XX := XX) ()))) (pb_rd (XX := XX) ())
    · have rep : ∀ (σ : L2.St) (B H' : Hp), σ = [some (.ref a), some (.int 0), some (.int (cellOf ns))] → RepE m [Sl.raw (.ref a), Sl.val (.int 0), Sl.val (.int (cellOf ns))] σ B H' := fun σ B H' e => by
        subst e
        refine ⟨rfl, fun i t h => ?_, fun i ts h => ?_, fun i v h => ?_, fun i j ts us b _ h => ?_⟩
        · match i, h with
          | 1, h => cases h; exact ⟨_, rfl, rep_int.mpr rfl⟩
          | 2, h => cases h; exact ⟨_, rfl, rep_int.mpr rfl⟩
          | i + 3, h => simp at h
        · have hm := List.mem_of_getElem? h
          simp at hm
        · match i, h with
          | 0, h => cases h; rfl
          | 1, h => cases h
          | 2, h => cases h
          | i + 3, h => simp at h
        · have hm := List.mem_of_getElem? h
          simp at hm
      have fin' : ∀ (B H' : Hp), Sit m P0 B H' → rdB XX ((defBody sLPot).drop 1) { nx := fun _ H' => Q .non H', rt := Q } [some (.ref a), some (.int 0), some (.int (cellOf ns))] H' := fun B H' sit' => by
        refine two B H' _ B H' ⟨sit', rep _ _ _ rfl, Stp.refl _ _ _, fun i ts b h => ?_⟩ _ fun v B' H' s' _ rv => ?_
        · have hm := List.mem_of_getElem? h
          simp at hm
        · obtain ⟨p, vs, rfl, e1, rl⟩ := rep_lst.mp rv
          obtain ⟨v1, r1, rfl, i1, i2⟩ := repL_cons.mp rl
          obtain ⟨v2, r2, rfl, j1, j2⟩ := repL_cons.mp i2
          rw [repL_nil] at j2
          subst j2
          rw [rep_int] at i1 j1
          subst i1 j1
          exact q p ⟨potA (cellOf ns), potB (cellOf ns), potA_ok _, potB_ok _⟩ H' (s'.sub _ _ e1)
      have fin := fin' (fun _ => none) H sit
      refine ⟨.int 0, rfl, .ref a, rfl, .ref a, (ns.map V.int).length, rfl, .inl ⟨_, hS, rfl⟩, 0, ((ns.map V.int).length : Nat), rfl, rfl, decide ((0 : Int) < ((ns.map V.int).length : Nat)), rfl, ?_⟩
      rw [List.length_map]
      by_cases hl : (0 : Int) < (ns.length : Nat)
      · rw [decide_eq_true hl]
        have e0 : atI (ns.map V.int) 0 = some (.int (ns.getD 0 0)) := by
          cases ns with
          | nil => simp at hl
          | cons x xs => exact atI_pos (p := 0) rfl
        have ec : cellOf ns = if ns.getD 0 0 < 0 then -(ns.getD 0 0) else ns.getD 0 0 := if_pos hl
        refine ⟨.ref a, rfl, .int 0, rfl, a, _, 0, _, rfl, rfl, hS, e0, ns.getD 0 0, rfl, ?_⟩
        rw [← ec]
        exact fin
      · rw [decide_eq_false hl]
        have ec : cellOf ns = 653 * 0 + 401 := if_neg hl
        have els : EJ m XX (elseOf (nthS (defBody sLPot) 0)) [Sl.raw (.ref a), Sl.val (.int 0), Sl.un] P0 (.int (653 * 0 + 401)) P0 := e_add (e_mul e_int (e_var F 1) (mulW (a := 20) (b := 20) (by decide) (by decide))) e_int
        refine els _ (fun _ => none) H sit ⟨rfl, fun i t h => ?_, fun i ts h => ?_, fun i v h => ?_, fun i j ts us b _ h => ?_⟩ _ fun v B' H' s' t' rv => ?_
        · match i, h with
          | 1, h => cases h; exact ⟨_, rfl, rep_int.mpr rfl⟩
          | i + 3, h => simp at h
        · have hm := List.mem_of_getElem? h
          simp at hm
        · match i, h with
          | 0, h => cases h; rfl
          | 1, h => cases h
          | 2, h => cases h
          | i + 3, h => simp at h
        · have hm := List.mem_of_getElem? h
          simp at hm
        · rw [rep_int] at rv
          subst rv
          rw [← ec]
          exact fin' B' H' s'
end
end TW
set_option Elab.async false
set_option linter.all false
set_option maxRecDepth 100000
set_option maxHeartbeats 4000000
set_option exponentiation.threshold 100000
/-! Lp2: law; the end of a law whose def knows the running displays. -/
namespace TW
open PySem L2 PySem.Spec PyProof.Rows
section
variable {X : Cx} {k : Nat} {f : Addr} {fd : FuncData} {ps : List Str} {sp : List Code → Sp} {x : Str} {p pos : Pos} {e : Expr} {es : List Expr} {t : TA} {gs : List Code}
theorem pe_callG (F : FnG X.prog X.w X.K X.mg X.base CX0 k f fd ps sp) (sb : Sub X k X.A) (hga : X.A.guards = some gs) (hg : Gl X x) (hm : X.mg x = some (.ref f)) (hk : PySem.W.keepIn X.K (.ref f) = true) (hb : Binds X.K fd ps []) (ha : PA X (e :: es) t)
    (hdb : (x == ("__debug__" : Str)) = false := by decide) (he : starEach (e :: es) X.env = (false, eval e X.env) :: starEach es X.env := by rfl) (hpl : (backTo pos (starEach es X.env)).any (·.1) = false := by rfl) : PE X (.Call (.Name x p) (e :: es) [] pos) (fun σ H Q => t σ H fun vs H1 => sp gs vs H1 Q E0) := by
  constructor
  intro pins s σ H Q I h
  apply wpAny_Call_Name_kw
  refine ld_glob I hg hm ?_ hdb
  exact PySem.W.callWith_K (h₀ := X.base) I.ok.mod.kin hk (thn (ha.run pos pins s σ H _ I h) fun us s1 z => by
    obtain ⟨vs, H1, I1, r, q⟩ := z
    exact ⟨I1.kIn, run_subG sb hga F hb pass0 I1 r q⟩) he hpl
end
def spLaw (K : PySem.W.Frag) : List Code → Sp := fun g vs H Q _ => ∃ (a : Addr) (ns : List Int), g = [] ∧ vs = [.ref a] ∧ SqL K H a (ns.map V.int) ∧ ∀ H', Q (.bl true) H'
section
variable {S : Stat}
theorem ok_law {f fr fp : Addr} {fd fdr fdp : FuncData} (Fd : FnS S "law" sLLaw f fd) (Fr : FnS S "_law_right" sLRight fr fdr) (hmr : S.mg "_law_right" = some (.ref fr)) (Gr : FnG S.P S.w S.K S.mg S.base CX0 34 fr fdr ["_law_pot_here"] spLR)
    (Fp : FnS S "_law_pot" sLPot fp fdp) (hmp : S.mg "_law_pot" = some (.ref fp)) (Gp : FnOk S.P S.w S.K S.mg S.base CX0 10 fp fdp ["_law_script", "_law_k"] (spPot S.K)) : FnG S.P S.w S.K S.mg S.base CX0 36 f fd ["_law_script"] (spLaw S.K) := by
  refine fn_ofG (k := 35) Fd scLLaw (fun g vs H Q E h => ?_) (fun cdv A gg outer s H vs Q E hgA hr h => ?_)
  · obtain ⟨a, ns, _, rfl, _⟩ := h; rfl
  · obtain ⟨a, ns, rfl, rfl, hS, q⟩ := h
    have bR : Binds S.K fdr ["_law_pot_here"] [] := Fr.bindsN fun _ _ _ _ _ _ us hl => match us, hl with | [_], _ => rfl
    have bP : Binds S.K fdp ["_law_script", "_law_k"] [] := Fp.bindsN fun _ _ _ _ _ _ us hl => match us, hl with | [_, _], _ => rfl
    let X : Cx := cxOf CX0 S.P S.w S.K S.mg S.base ["_law_script"] "law" (defScope sLLaw) f cdv A outer s H E
    refine ⟨tRet (fun σ H Q => (tCons (tCall (spPot S.K) [] E0 (tCons (tVar 0) (tCons (tC (.int 0)) tNil))) tNil) σ H fun vs H1 => spLR [] vs H1 Q E0), PSs.nox (X := X) ?_, ?_⟩
    · refine pss_one (ps_ret (pe_callG (X := X.nox) (gs := []) Gr ?_ hgA rfl hmr Fr.kp bR (pa_cons (pe_call Gp (hr.mono (by decide)) rfl hmp Fp.kp bP .nil pass0 (pa_cons (pv 0) (pa_cons pe_int pa_nil))) pa_nil)))
      exact ⟨hr.mono (by decide), rfl⟩
    · refine ⟨.ref a, rfl, ?_⟩
      refine ⟨a, ns, rfl, hS, fun p c H' hp => ?_⟩
      exact ⟨p, c, rfl, rfl, hp, rightOk c, fun H'' => q H''⟩
end
end TW
set_option Elab.async false
set_option linter.all false
set_option maxRecDepth 100000
set_option maxHeartbeats 4000000
/-! Lp3: the end. -/
namespace TW
open PySem L2 PySem.Spec PyProof.Rows
theorem end_one {P : Program} {w : World} {K : PySem.W.Frag} {mg mb : Str → Option Value} {k : Nat} {fa a : Addr} {fd : FuncData} {x : Str} {sp : List Code → Sp} {s : Shared} {vs : List Value} {xs : List V} {H : Hp} {O : Obj}
    (kin : K.In s.heap) (ns1 : s.heap.Ns mainGlobals mg) (ns2 : s.heap.Ns builtinsNs mb) (nb : ∀ x : Str, x ≠ "__name__" → mb x = bootBuiltins x) (nl : s.heap.NoLimit) (ge : s.gens = #[])
    (oa : s.heap.get? a = some O) (od : O.data = .seq vs.toArray) (hH : ∀ b u, H b = some u → b = a ∧ u = .frz O (.lst xs) ∧ K.lookup a = none) (hok : HOk P w H s.heap) (hr : Room k callerA)
    (G : ∀ base : Heap, K.In base → base.Ns mainGlobals mg → FnG P w K mg base CX0 k fa fd [x] sp) (bd : ∀ (s : Shared) (u : Value), BindsTo s fd ⟨[u], []⟩ [(x, u)])
    (pr : sp [] [.ref a] H (fun v _ => v = .bl true) fun _ _ _ => False) :
    codeAny (model P w) callerA (.call (.ref fa) ⟨[.ref a], []⟩) (fun r s' => r = .ok (.ret (.bool true)) ∧ OldK s.heap s'.heap ∧ s'.os = s.os ∧ AllBare s'.gens) s := by
  have away : ∀ {b : Addr} {o : Obj} {es : Array DictEntry} {ep : Nat}, s.heap.get? b = some o → o.data = .dict es ep → H b = none := by
    intro b o es ep e1 e2
    cases z : H b with
    | none => rfl
    | some u =>
      obtain ⟨rfl, _, _⟩ := hH b u z
      rw [oa] at e1
      cases e1
      rw [od] at e2
      cases e2
  have names : ∀ {b : Addr} {f : Str → Option Value}, s.heap.Ns b f → (hidT s.heap H).Ns b f := by
    intro b f h
    obtain ⟨o, es, ep, e, d, r⟩ := h
    exact ⟨o, es, ep, hidT_get e (away e d), d, r⟩
  have kb : K.In (hidT s.heap H) := by
    intro b o e
    refine hidT_get (kin b o e) ?_
    cases z : H b with
    | none => rfl
    | some u =>
      obtain ⟨rfl, _, no⟩ := hH b u z
      rw [no] at e
      cases e
  obtain ⟨ml, l1, l2⟩ := nl
  have md : Mod K mg (hidT s.heap H) := ⟨kb, names ns1, ⟨mb, names ns2, nb⟩, ⟨ml, names l1, l2⟩⟩
  have en : Env0 P w K mg (hidT s.heap H) callerA [] s H :=
    { frames := rfl, mod := md, bs := fun b o e => of_hidT e, bsz := Nat.le_of_eq (hidT_size _ _), funs := trivial, frf := fun b hb => (List.not_mem_nil hb).elim, hok := hok, bare := .of_eq ge }
  have run := (G _ kb (names ns1)).run callerA [] [] s H ⟨[.ref a], []⟩ [.ref a] [.ref a] _ _ hr rfl en (bd s (.ref a)) (.cons rfl .nil) pr
  refine codeAny_mono run ?_
  intro r s' h
  match r, h with
  | .error e, h => exact h.elim
  | .ok .next, h => exact h.elim
  | .ok .brk, h => exact h.elim
  | .ok .cont, h => exact h.elim
  | .ok (.ret u), h =>
    obtain ⟨v, H', os, bare, un, hok', rv, e⟩ := h
    have e : v = .bl true := e
    subst e
    obtain rfl : u = Value.bool true := rv
    refine ⟨rfl, OldK.of_keep ?_, os, bare⟩
    intro b o eb
    cases z : H b with
    | none => exact un.keep b o eb z (fun z => (List.not_mem_nil z).elim) (fun z => (List.not_mem_nil z).elim)
    | some u =>
      obtain ⟨_, eu, _⟩ := hH b u z
      rw [eu] at z
      obtain ⟨k1, _⟩ := hok b _ z
      obtain ⟨k2, _⟩ := hok' b _ (un.frzs b _ _ z)
      rw [eb] at k1
      cases k1
      exact k2
theorem walk_ofG {l : PySem.W.OpenLaw} {n k : Nat} {q : Program} {loose : List Str} {XP : (Str → Option Value) → Heap → Prop} {YP : World → Heap → Prop} {d : DefRec} {x : Str} (m1 : l.most = some n) (m2 : n ≤ sizeLine) (m3 : d.params.defaults = []) (hr : Room k callerA)
    (F : ∀ (w : World) (mg : Str → Option Value) (fa : Addr) (h : Heap), YP w h → h.Ns mainGlobals mg → mg d.name = some (.ref fa) →
      ∃ (K : PySem.W.Frag) (fd : FuncData) (sp : List Code → Sp), K.In h ∧ (∀ (s : Shared) (u : Value), BindsTo s fd ⟨[u], []⟩ [(x, u)]) ∧ (∀ (H : Hp) (a : Addr) (ns : List Int), SqL K H a (ns.map V.int) → sp [] [.ref a] H (fun v _ => v = .bl true) fun _ _ _ => False) ∧
        ∀ base : Heap, K.In base → base.Ns mainGlobals mg → FnG l.prog w K mg base CX0 k fa fd [x] sp) :
    PySem.W.WalkO q loose XP YP l.row.toRowW d [] (fun f vs => PySem.call f vs) := by
  refine Att.attach_call m1 m3 ?_
  intro w s₀ s mg mb fa o pm cd doc a vs ns gr Y _ _ _ hmg oa iv len ge
  obtain ⟨K, fd, sp, kin, bd, pr, G⟩ := F w mg fa _ Y gr.T.g hmg
  have rv := vals_ints iv
  have lv := iv.length
  cases ek : K.lookup a with
  | some ob =>
    have e := kin a ob ek
    rw [oa] at e
    cases e
    refine end_one (H := fun _ => none) (xs := []) kin gr.T.g gr.T.b gr.T.builtins gr.T.nolimit ge oa rfl (fun b u z => nomatch z) (fun b u z => nomatch z) hr G bd (pr _ a ns (.inr ⟨_, vs.toArray, _, ek, rfl, rfl, rfl, ?_, ?_⟩))
    · rw [List.size_toArray, lv]; exact Nat.le_trans len m2
    · simpa using rv
  | none =>
    let O : Obj := { cls := .type "list", data := .seq vs.toArray }
    have at_ : (fun b => if b = a then some (HO.frz O (.lst (ns.map V.int))) else none : Hp) a = some (.frz O (.lst (ns.map V.int))) := if_pos rfl
    have only : ∀ b u, (fun b => if b = a then some (HO.frz O (.lst (ns.map V.int))) else none : Hp) b = some u → b = a ∧ u = .frz O (.lst (ns.map V.int)) ∧ K.lookup a = none := by
      intro b u z
      by_cases e : b = a
      · have z2 := (if_pos e).symm.trans z
        cases z2
        exact ⟨e, rfl, ek⟩
      · have z2 := (if_neg e).symm.trans z
        cases z2
    refine end_one (H := fun b => if b = a then some (HO.frz O (.lst (ns.map V.int))) else none) (xs := ns.map V.int) kin gr.T.g gr.T.b gr.T.builtins gr.T.nolimit ge oa rfl only ?_ hr G bd (pr _ a ns (.inl (.inr ⟨O, at_⟩)))
    intro b u z
    obtain ⟨rfl, rfl, _⟩ := only b u z
    exact ⟨oa, by rw [List.length_map]; exact Nat.le_trans len m2, vs, _, rv, oa⟩
end TW
set_option Elab.async false
set_option linter.all false
set_option maxRecDepth 100000
set_option maxHeartbeats 4000000
/-! Hd3: how Ratio is made. -/
namespace TW
open PySem L2
theorem rinit_binds {K : PySem.W.Frag} {f : Addr} {fd : FuncData} (Fd : FunD K "__init__" "Ratio.__init__" (defArgs sRInit) (defBody sRInit) (defScope sRInit) [.int 1] [] f fd) : Binds K fd ["self", "top", "bottom"] [] ∧ ∃ ds, Vals [.int 1] ds ∧ Binds K fd ["self", "top", "bottom"] ds := by
  refine ⟨?_, ?_⟩
  · obtain ⟨ds, h1, h2⟩ := Fd.binds1 (ps := ["self", "top", "bottom"]) 3 1 (by simp) rfl (fun T kV doc pm an cdv ct us its hl hi => match us, hl, its, hi with | [a, b, c], _, [d], _ => ⟨_, rfl, rfl⟩)
    cases ds with
    | nil => exact h2
    | cons d ds => cases h1
  · exact Fd.binds1 (ps := ["self", "top", "bottom"]) 2 0 (by simp) rfl (fun T kV doc pm an cdv ct us its hl hi => match us, hl, its, hi with | [a, b], _, [d], _ => ⟨_, rfl, rfl⟩)
end TW
set_option Elab.async false
set_option linter.all false
set_option maxRecDepth 100000
set_option maxHeartbeats 4000000
/-! Hd4: every def keeps its promise, by the head's facts. -/
namespace TW
open PySem L2
theorem facts {P : Program} {w : World} {K : PySem.W.Frag} {h : Heap} {mg : Str → Option Value} {base : Heap} (X : K.In h) (G : h.Ns mainGlobals mg) (c : obsT K = valT) :
    ∃ fd : FuncData, FunD K "law" "law" (defArgs sLLaw) (defBody sLLaw) (defScope sLLaw) [] [] (He.ga K "law") fd ∧ FnG P w K mg base CX0 36 (He.ga K "law") fd ["_law_script"] (spLaw K) := by
  let S : Stat := ⟨P, w, K, mg, base⟩
  have cD : He.SaysD fa fn K := congrArg (fun z : AlT => z.1) c
  have cX : xtra K = [true, true, true, true, true, true, true, true, true, true, true, true, true, true, true] := congrArg (fun z : AlT => z.2.1) c
  have cP : [seenF K (gAd K "top"), seenF K (gAd K "sign")] = [propV "top" "Ratio.top" sTop, propV "sign" "Ratio.sign" sSign] := congrArg (fun z : AlT => z.2.2) c
  unfold xtra at cX
  simp only [List.cons.injEq, and_true] at cX cP
  obtain ⟨x0, x1, x2, x3, x4, x5, x6, x7, x8, x9, x10, x11, x12, x13, x14⟩ := cX
  obtain ⟨p0, p1⟩ := cP
  have m_is_integer : S.mg "is_integer" = some (.ref (He.ga K "is_integer")) := He.glo_ok X G (cD.fact 0 (f := .glo "is_integer") rfl)
  have m_is_list : S.mg "is_list" = some (.ref (He.ga K "is_list")) := He.glo_ok X G (cD.fact 1 (f := .glo "is_list") rfl)
  have m_divisor_of : S.mg "divisor_of" = some (.ref (He.ga K "divisor_of")) := He.glo_ok X G (cD.fact 2 (f := .glo "divisor_of") rfl)
  have m_told_pair : S.mg "told_pair" = some (.ref (He.ga K "told_pair")) := He.glo_ok X G (cD.fact 3 (f := .glo "told_pair") rfl)
  have m_is_number : S.mg "is_number" = some (.ref (He.ga K "is_number")) := He.glo_ok X G (cD.fact 4 (f := .glo "is_number") rfl)
  have m_ratio_of : S.mg "ratio_of" = some (.ref (He.ga K "ratio_of")) := He.glo_ok X G (cD.fact 5 (f := .glo "ratio_of") rfl)
  have m_wholes : S.mg "wholes" = some (.ref (He.ga K "wholes")) := He.glo_ok X G (cD.fact 6 (f := .glo "wholes") rfl)
  have m_ints_of : S.mg "ints_of" = some (.ref (He.ga K "ints_of")) := He.glo_ok X G (cD.fact 7 (f := .glo "ints_of") rfl)
  have m_bare_row : S.mg "bare_row" = some (.ref (He.ga K "bare_row")) := He.glo_ok X G (cD.fact 8 (f := .glo "bare_row") rfl)
  have m_cleared : S.mg "cleared" = some (.ref (He.ga K "cleared")) := He.glo_ok X G (cD.fact 9 (f := .glo "cleared") rfl)
  have m_first_at : S.mg "first_at" = some (.ref (He.ga K "first_at")) := He.glo_ok X G (cD.fact 10 (f := .glo "first_at") rfl)
  have m_headed_row : S.mg "headed_row" = some (.ref (He.ga K "headed_row")) := He.glo_ok X G (cD.fact 11 (f := .glo "headed_row") rfl)
  have m_int_steps : S.mg "int_steps" = some (.ref (He.ga K "int_steps")) := He.glo_ok X G (cD.fact 12 (f := .glo "int_steps") rfl)
  have m_head_of : S.mg "head_of" = some (.ref (He.ga K "head_of")) := He.glo_ok X G (cD.fact 13 (f := .glo "head_of") rfl)
  have m_told_rows : S.mg "told_rows" = some (.ref (He.ga K "told_rows")) := He.glo_ok X G (cD.fact 14 (f := .glo "told_rows") rfl)
  have m_steps_of : S.mg "steps_of" = some (.ref (He.ga K "steps_of")) := He.glo_ok X G (cD.fact 15 (f := .glo "steps_of") rfl)
  have m_kernel_of : S.mg "kernel_of" = some (.ref (He.ga K "kernel_of")) := He.glo_ok X G (cD.fact 16 (f := .glo "kernel_of") rfl)
  have m_are_numbers : S.mg "are_numbers" = some (.ref (He.ga K "are_numbers")) := He.glo_ok X G (cD.fact 17 (f := .glo "are_numbers") rfl)
  have m_table_in : S.mg "table_in" = some (.ref (He.ga K "table_in")) := He.glo_ok X G (cD.fact 18 (f := .glo "table_in") rfl)
  have m_want_sized : S.mg "want_sized" = some (.ref (He.ga K "want_sized")) := He.glo_ok X G (cD.fact 19 (f := .glo "want_sized") rfl)
  have m_bare_table : S.mg "bare_table" = some (.ref (He.ga K "bare_table")) := He.glo_ok X G (cD.fact 20 (f := .glo "bare_table") rfl)
  have m_int_product : S.mg "int_product" = some (.ref (He.ga K "int_product")) := He.glo_ok X G (cD.fact 21 (f := .glo "int_product") rfl)
  have m_over_bottom : S.mg "over_bottom" = some (.ref (He.ga K "over_bottom")) := He.glo_ok X G (cD.fact 22 (f := .glo "over_bottom") rfl)
  have m_product_of : S.mg "product_of" = some (.ref (He.ga K "product_of")) := He.glo_ok X G (cD.fact 23 (f := .glo "product_of") rfl)
  have m_about_of : S.mg "about_of" = some (.ref (He.ga K "about_of")) := He.glo_ok X G (cD.fact 24 (f := .glo "about_of") rfl)
  have m_led_by : S.mg "led_by" = some (.ref (He.ga K "led_by")) := He.glo_ok X G (cD.fact 25 (f := .glo "led_by") rfl)
  have m_letters_in : S.mg "letters_in" = some (.ref (He.ga K "letters_in")) := He.glo_ok X G (cD.fact 26 (f := .glo "letters_in") rfl)
  have m_want_house : S.mg "want_house" = some (.ref (He.ga K "want_house")) := He.glo_ok X G (cD.fact 27 (f := .glo "want_house") rfl)
  have m_heads_of : S.mg "heads_of" = some (.ref (He.ga K "heads_of")) := He.glo_ok X G (cD.fact 28 (f := .glo "heads_of") rfl)
  have m_numbers_in : S.mg "numbers_in" = some (.ref (He.ga K "numbers_in")) := He.glo_ok X G (cD.fact 29 (f := .glo "numbers_in") rfl)
  have m_less_room : S.mg "less_room" = some (.ref (He.ga K "less_room")) := He.glo_ok X G (cD.fact 30 (f := .glo "less_room") rfl)
  have m_held : S.mg "held" = some (.ref (He.ga K "held")) := He.glo_ok X G (cD.fact 31 (f := .glo "held") rfl)
  have m_first_out : S.mg "first_out" = some (.ref (He.ga K "first_out")) := He.glo_ok X G (cD.fact 32 (f := .glo "first_out") rfl)
  have m_is_kept : S.mg "is_kept" = some (.ref (He.ga K "is_kept")) := He.glo_ok X G (cD.fact 33 (f := .glo "is_kept") rfl)
  have m_commutes : S.mg "commutes" = some (.ref (He.ga K "commutes")) := He.glo_ok X G (cD.fact 34 (f := .glo "commutes") rfl)
  have m_rows_in : S.mg "rows_in" = some (.ref (He.ga K "rows_in")) := He.glo_ok X G (cD.fact 35 (f := .glo "rows_in") rfl)
  have m_room_in : S.mg "room_in" = some (.ref (He.ga K "room_in")) := He.glo_ok X G (cD.fact 36 (f := .glo "room_in") rfl)
  have m_want_kept : S.mg "want_kept" = some (.ref (He.ga K "want_kept")) := He.glo_ok X G (cD.fact 37 (f := .glo "want_kept") rfl)
  have m_want_commuting : S.mg "want_commuting" = some (.ref (He.ga K "want_commuting")) := He.glo_ok X G (cD.fact 38 (f := .glo "want_commuting") rfl)
  have m_is_room : S.mg "is_room" = some (.ref (He.ga K "is_room")) := He.glo_ok X G (cD.fact 39 (f := .glo "is_room") rfl)
  have m_sum_room : S.mg "sum_room" = some (.ref (He.ga K "sum_room")) := He.glo_ok X G (cD.fact 40 (f := .glo "sum_room") rfl)
  have m_meet_room : S.mg "meet_room" = some (.ref (He.ga K "meet_room")) := He.glo_ok X G (cD.fact 41 (f := .glo "meet_room") rfl)
  have m_noughts : S.mg "noughts" = some (.ref (He.ga K "noughts")) := He.glo_ok X G (cD.fact 42 (f := .glo "noughts") rfl)
  have m_images : S.mg "images" = some (.ref (He.ga K "images")) := He.glo_ok X G (cD.fact 43 (f := .glo "images") rfl)
  have m__law_draw : S.mg "_law_draw" = some (.ref (He.ga K "_law_draw")) := He.glo_ok X G (cD.fact 44 (f := .glo "_law_draw") rfl)
  have m__law_pick : S.mg "_law_pick" = some (.ref (He.ga K "_law_pick")) := He.glo_ok X G (cD.fact 45 (f := .glo "_law_pick") rfl)
  have m__law_number : S.mg "_law_number" = some (.ref (He.ga K "_law_number")) := He.glo_ok X G (cD.fact 46 (f := .glo "_law_number") rfl)
  have m__law_gcd : S.mg "_law_gcd" = some (.ref (He.ga K "_law_gcd")) := He.glo_ok X G (cD.fact 47 (f := .glo "_law_gcd") rfl)
  have m__law_bare : S.mg "_law_bare" = some (.ref (He.ga K "_law_bare")) := He.glo_ok X G (cD.fact 48 (f := .glo "_law_bare") rfl)
  have m__law_cleared : S.mg "_law_cleared" = some (.ref (He.ga K "_law_cleared")) := He.glo_ok X G (cD.fact 49 (f := .glo "_law_cleared") rfl)
  have m__law_head : S.mg "_law_head" = some (.ref (He.ga K "_law_head")) := He.glo_ok X G (cD.fact 50 (f := .glo "_law_head") rfl)
  have m__law_told : S.mg "_law_told" = some (.ref (He.ga K "_law_told")) := He.glo_ok X G (cD.fact 51 (f := .glo "_law_told") rfl)
  have m__law_steps : S.mg "_law_steps" = some (.ref (He.ga K "_law_steps")) := He.glo_ok X G (cD.fact 52 (f := .glo "_law_steps") rfl)
  have m__law_dot : S.mg "_law_dot" = some (.ref (He.ga K "_law_dot")) := He.glo_ok X G (cD.fact 53 (f := .glo "_law_dot") rfl)
  have m__law_led : S.mg "_law_led" = some (.ref (He.ga K "_law_led")) := He.glo_ok X G (cD.fact 54 (f := .glo "_law_led") rfl)
  have m__law_times : S.mg "_law_times" = some (.ref (He.ga K "_law_times")) := He.glo_ok X G (cD.fact 55 (f := .glo "_law_times") rfl)
  have m__law_units : S.mg "_law_units" = some (.ref (He.ga K "_law_units")) := He.glo_ok X G (cD.fact 56 (f := .glo "_law_units") rfl)
  have m__law_letter : S.mg "_law_letter" = some (.ref (He.ga K "_law_letter")) := He.glo_ok X G (cD.fact 57 (f := .glo "_law_letter") rfl)
  have m__law_as : S.mg "_law_as" = some (.ref (He.ga K "_law_as")) := He.glo_ok X G (cD.fact 58 (f := .glo "_law_as") rfl)
  have m__law_given : S.mg "_law_given" = some (.ref (He.ga K "_law_given")) := He.glo_ok X G (cD.fact 59 (f := .glo "_law_given") rfl)
  have m__law_house : S.mg "_law_house" = some (.ref (He.ga K "_law_house")) := He.glo_ok X G (cD.fact 60 (f := .glo "_law_house") rfl)
  have m__law_noughts : S.mg "_law_noughts" = some (.ref (He.ga K "_law_noughts")) := He.glo_ok X G (cD.fact 61 (f := .glo "_law_noughts") rfl)
  have m__law_twice : S.mg "_law_twice" = some (.ref (He.ga K "_law_twice")) := He.glo_ok X G (cD.fact 62 (f := .glo "_law_twice") rfl)
  have m__law_sum : S.mg "_law_sum" = some (.ref (He.ga K "_law_sum")) := He.glo_ok X G (cD.fact 63 (f := .glo "_law_sum") rfl)
  have m__law_commuting : S.mg "_law_commuting" = some (.ref (He.ga K "_law_commuting")) := He.glo_ok X G (cD.fact 64 (f := .glo "_law_commuting") rfl)
  have m__law_turned : S.mg "_law_turned" = some (.ref (He.ga K "_law_turned")) := He.glo_ok X G (cD.fact 65 (f := .glo "_law_turned") rfl)
  have m_digits_of : S.mg "digits_of" = some (.ref (He.ga K "digits_of")) := He.glo_ok X G (cD.fact 66 (f := .glo "digits_of") rfl)
  have m__law_right : S.mg "_law_right" = some (.ref (He.ga K "_law_right")) := He.glo_ok X G (cD.fact 67 (f := .glo "_law_right") rfl)
  have m__law_pot : S.mg "_law_pot" = some (.ref (He.ga K "_law_pot")) := He.glo_ok X G (cD.fact 68 (f := .glo "_law_pot") rfl)
  have m_law : S.mg "law" = some (.ref (He.ga K "law")) := He.glo_ok X G (cD.fact 69 (f := .glo "law") rfl)
  have m_Ratio : S.mg "Ratio" = some (.ref (He.ga K "Ratio")) := He.glo_ok X G (cD.fact 70 (f := .glo "Ratio") rfl)
  have m_House : S.mg "House" = some (.ref (He.ga K "House")) := He.glo_ok X G (cD.fact 71 (f := .glo "House") rfl)
  have g : MG S := ⟨(He.free_ok X G (cD.fact 72 (f := .free "isinstance") rfl)), (He.free_ok X G (cD.fact 73 (f := .free "int") rfl)), (He.free_ok X G (cD.fact 74 (f := .free "bool") rfl)), (He.free_ok X G (cD.fact 75 (f := .free "list") rfl)), (He.free_ok X G (cD.fact 76 (f := .free "tuple") rfl)), (He.free_ok X G (cD.fact 77 (f := .free "str") rfl)), (He.free_ok X G (cD.fact 78 (f := .free "len") rfl)), (He.free_ok X G (cD.fact 79 (f := .free "sum") rfl)), (He.free_ok X G (cD.fact 80 (f := .free "all") rfl)), (He.free_ok X G (cD.fact 81 (f := .free "any") rfl)), (He.free_ok X G (cD.fact 82 (f := .free "abs") rfl)), (He.free_ok X G (cD.fact 83 (f := .free "max") rfl)), (He.free_ok X G (cD.fact 84 (f := .free "zip") rfl)), (He.free_ok X G (cD.fact 85 (f := .free "enumerate") rfl)), (He.free_ok X G (cD.fact 86 (f := .free "range") rfl)), (He.free_ok X G (cD.fact 87 (f := .free "divmod") rfl)), (He.free_ok X G (cD.fact 88 (f := .free "repr") rfl)), PySem.W.mg_of X G (He.eqO_ok x11), PySem.W.mg_of X G (He.eqO_ok x12)⟩
  have i_PART : ∃ t, S.mg "PART" = some (.int (PT : Int) t) := He.int_ok X G (cD.fact 89 (f := .int "PART" (10 ^ 60)) rfl)
  have i_MOST_SIZE : ∃ t, S.mg "MOST_SIZE" = some (.int 4 t) := He.int_ok X G (cD.fact 90 (f := .int "MOST_SIZE" 4) rfl)
  have i_MOST_LETTERS : ∃ t, S.mg "MOST_LETTERS" = some (.int 3 t) := He.int_ok X G (cD.fact 91 (f := .int "MOST_LETTERS" 3) rfl)
  have i_MOST_ROWS : ∃ t, S.mg "MOST_ROWS" = some (.int 40 t) := He.int_ok X G (cD.fact 92 (f := .int "MOST_ROWS" 40) rfl)
  have kf : KF S (He.ga K "Ratio") (He.ga K "House") := ⟨He.cls_ok (cD.fact 93 (f := .cls "Ratio") rfl), He.cls_ok (cD.fact 94 (f := .cls "House") rfl), He.noat_ok (cD.fact 95 (f := .noat "Ratio" "own_top") rfl), He.noat_ok (cD.fact 96 (f := .noat "Ratio" "own_bottom") rfl), He.noat_ok (cD.fact 97 (f := .noat "House" "own_letters") rfl), He.noat_ok (cD.fact 98 (f := .noat "House" "own_width") rfl), He.eqO_ok x0, He.eqO_ok x1, He.eqO_ok x2, of_decide_eq_true x3, of_decide_eq_true x4, of_decide_eq_true x5, of_decide_eq_true x6, of_decide_eq_true x7, of_decide_eq_true x8, of_decide_eq_true x9, m_Ratio, m_House, He.keep_ok (cD.fact 107 (f := .keep "Ratio") rfl), He.keep_ok (cD.fact 108 (f := .keep "House") rfl)⟩
  obtain ⟨d_Ratio__init__, F_Ratio__init__⟩ := cD.def_ 70 (d := ⟨("Ratio", some "__init__"), "__init__", "Ratio.__init__", defArgs (inClass (top 21) 0), defBody (inClass (top 21) 0), defScope (inClass (top 21) 0), [.int 1], []⟩) rfl
  have F_Ratio__init__ : FunD S.K "__init__" "Ratio.__init__" (defArgs sRInit) (defBody sRInit) (defScope sRInit) [.int 1] [] (He.ma K (He.ga K "Ratio") "__init__") d_Ratio__init__ := F_Ratio__init__
  obtain ⟨d_Ratio__sub__, F_Ratio__sub__⟩ := cD.def_ 71 (d := ⟨("Ratio", some "__sub__"), "__sub__", "Ratio.__sub__", defArgs (inClass (top 21) 8), defBody (inClass (top 21) 8), defScope (inClass (top 21) 8), [], []⟩) rfl
  have F_Ratio__sub__ : FunD S.K "__sub__" "Ratio.__sub__" (defArgs sSub) (defBody sSub) (defScope sSub) [] [] (He.ma K (He.ga K "Ratio") "__sub__") d_Ratio__sub__ := F_Ratio__sub__
  have h_Ratio__sub__ := He.meth_ok (cD.fact 99 (f := .meth "Ratio" "__sub__") rfl)
  obtain ⟨d_Ratio__mul__, F_Ratio__mul__⟩ := cD.def_ 72 (d := ⟨("Ratio", some "__mul__"), "__mul__", "Ratio.__mul__", defArgs (inClass (top 21) 10), defBody (inClass (top 21) 10), defScope (inClass (top 21) 10), [], []⟩) rfl
  have F_Ratio__mul__ : FunD S.K "__mul__" "Ratio.__mul__" (defArgs sMul) (defBody sMul) (defScope sMul) [] [] (He.ma K (He.ga K "Ratio") "__mul__") d_Ratio__mul__ := F_Ratio__mul__
  have h_Ratio__mul__ := He.meth_ok (cD.fact 100 (f := .meth "Ratio" "__mul__") rfl)
  obtain ⟨d_Ratio__neg__, F_Ratio__neg__⟩ := cD.def_ 73 (d := ⟨("Ratio", some "__neg__"), "__neg__", "Ratio.__neg__", defArgs (inClass (top 21) 12), defBody (inClass (top 21) 12), defScope (inClass (top 21) 12), [], []⟩) rfl
  have F_Ratio__neg__ : FunD S.K "__neg__" "Ratio.__neg__" (defArgs sNeg) (defBody sNeg) (defScope sNeg) [] [] (He.ma K (He.ga K "Ratio") "__neg__") d_Ratio__neg__ := F_Ratio__neg__
  have h_Ratio__neg__ := He.meth_ok (cD.fact 101 (f := .meth "Ratio" "__neg__") rfl)
  obtain ⟨d_Ratio__eq__, F_Ratio__eq__⟩ := cD.def_ 74 (d := ⟨("Ratio", some "__eq__"), "__eq__", "Ratio.__eq__", defArgs (inClass (top 21) 17), defBody (inClass (top 21) 17), defScope (inClass (top 21) 17), [], []⟩) rfl
  have F_Ratio__eq__ : FunD S.K "__eq__" "Ratio.__eq__" (defArgs sEq) (defBody sEq) (defScope sEq) [] [] (He.ma K (He.ga K "Ratio") "__eq__") d_Ratio__eq__ := F_Ratio__eq__
  have h_Ratio__eq__ := He.meth_ok (cD.fact 102 (f := .meth "Ratio" "__eq__") rfl)
  obtain ⟨d_Ratio__repr__, F_Ratio__repr__⟩ := cD.def_ 75 (d := ⟨("Ratio", some "__repr__"), "__repr__", "Ratio.__repr__", defArgs (inClass (top 21) 19), defBody (inClass (top 21) 19), defScope (inClass (top 21) 19), [], []⟩) rfl
  have F_Ratio__repr__ : FunD S.K "__repr__" "Ratio.__repr__" (defArgs sRRepr) (defBody sRRepr) (defScope sRRepr) [] [] (He.ma K (He.ga K "Ratio") "__repr__") d_Ratio__repr__ := F_Ratio__repr__
  have h_Ratio__repr__ := He.meth_ok (cD.fact 103 (f := .meth "Ratio" "__repr__") rfl)
  obtain ⟨d_House__init__, F_House__init__⟩ := cD.def_ 76 (d := ⟨("House", some "__init__"), "__init__", "House.__init__", defArgs (inClass (top 53) 0), defBody (inClass (top 53) 0), defScope (inClass (top 53) 0), [], []⟩) rfl
  have F_House__init__ : FunD S.K "__init__" "House.__init__" (defArgs sHInit) (defBody sHInit) (defScope sHInit) [] [] (He.ma K (He.ga K "House") "__init__") d_House__init__ := F_House__init__
  obtain ⟨d_House__repr__, F_House__repr__⟩ := cD.def_ 77 (d := ⟨("House", some "__repr__"), "__repr__", "House.__repr__", defArgs (inClass (top 53) 7), defBody (inClass (top 53) 7), defScope (inClass (top 53) 7), [], []⟩) rfl
  have F_House__repr__ : FunD S.K "__repr__" "House.__repr__" (defArgs sHRepr) (defBody sHRepr) (defScope sHRepr) [] [] (He.ma K (He.ga K "House") "__repr__") d_House__repr__ := F_House__repr__
  have h_House__repr__ := He.meth_ok (cD.fact 104 (f := .meth "House" "__repr__") rfl)
  have k_Ratio := He.mkr_ok (cD.fact 105 (f := .mkr "Ratio") rfl)
  have k_House := He.mkr_ok (cD.fact 106 (f := .mkr "House") rfl)
  obtain ⟨d_top, F_top, h_top⟩ := propOf (x := "top") (q := "Ratio.top") (st := sTop) p0 x13
  obtain ⟨d_sign, F_sign, h_sign⟩ := propOf (x := "sign") (q := "Ratio.sign") (st := sSign) p1 x14
  obtain ⟨d_is_integer, F_is_integer⟩ := cD.def_ 0 (d := ⟨("is_integer", none), "is_integer", "is_integer", defArgs (top 14), defBody (top 14), defScope (top 14), [], []⟩) rfl
  have F_is_integer : FnS S "is_integer" sIsInt (He.ga K "is_integer") d_is_integer := F_is_integer
  have D_is_integer := ok_isInt F_is_integer m_is_integer g kf
  obtain ⟨d_is_list, F_is_list⟩ := cD.def_ 1 (d := ⟨("is_list", none), "is_list", "is_list", defArgs (top 16), defBody (top 16), defScope (top 16), [], []⟩) rfl
  have F_is_list : FnS S "is_list" sIsList (He.ga K "is_list") d_is_list := F_is_list
  have D_is_list := ok_isList F_is_list m_is_list g kf
  obtain ⟨d_divisor_of, F_divisor_of⟩ := cD.def_ 2 (d := ⟨("divisor_of", none), "divisor_of", "divisor_of", defArgs (top 20), defBody (top 20), defScope (top 20), [], []⟩) rfl
  have F_divisor_of : FnS S "divisor_of" sDiv (He.ga K "divisor_of") d_divisor_of := F_divisor_of
  have D_divisor_of := ok_div (CR := He.ga K "Ratio") (CH := He.ga K "House") F_divisor_of m_divisor_of g
  have o_rinit := ok_rinit F_Ratio__init__ kf D_is_integer D_divisor_of
  obtain ⟨b3, b2⟩ := rinit_binds F_Ratio__init__
  have rm : Rm S (He.ga K "Ratio") := ⟨_, _, k_Ratio.init, k_Ratio, o_rinit, b3, b2⟩
  obtain ⟨d_told_pair, F_told_pair⟩ := cD.def_ 3 (d := ⟨("told_pair", none), "told_pair", "told_pair", defArgs (top 22), defBody (top 22), defScope (top 22), [], []⟩) rfl
  have F_told_pair : FnS S "told_pair" sTold (He.ga K "told_pair") d_told_pair := F_told_pair
  have D_told_pair := ok_told F_told_pair m_told_pair g kf
  obtain ⟨d_is_number, F_is_number⟩ := cD.def_ 4 (d := ⟨("is_number", none), "is_number", "is_number", defArgs (top 23), defBody (top 23), defScope (top 23), [], []⟩) rfl
  have F_is_number : FnS S "is_number" sIsNum (He.ga K "is_number") d_is_number := F_is_number
  have D_is_number := ok_isNum F_is_number m_is_number g kf D_is_integer
  obtain ⟨d_ratio_of, F_ratio_of⟩ := cD.def_ 5 (d := ⟨("ratio_of", none), "ratio_of", "ratio_of", defArgs (top 24), defBody (top 24), defScope (top 24), [], []⟩) rfl
  have F_ratio_of : FnS S "ratio_of" sRatioOf (He.ga K "ratio_of") d_ratio_of := F_ratio_of
  have D_ratio_of := ok_ratioOf F_ratio_of m_ratio_of g kf rm
  have E___sub__ := ok_sub F_Ratio__sub__ h_Ratio__sub__.at_ h_Ratio__sub__.fn g kf rm D_told_pair
  have E___mul__ := ok_mul F_Ratio__mul__ h_Ratio__mul__.at_ h_Ratio__mul__.fn g kf rm D_told_pair
  have E___neg__ := ok_neg F_Ratio__neg__ h_Ratio__neg__.at_ h_Ratio__neg__.fn g kf rm
  have E___eq__ := ok_eqq F_Ratio__eq__ h_Ratio__eq__.at_ h_Ratio__eq__.fn g kf
  have R_top := ok_top F_top h_top kf
  have R_sign := ok_sign F_sign h_sign g kf
  obtain ⟨d_digits_of, F_digits_of⟩ := cD.def_ 66 (d := ⟨("digits_of", none), "digits_of", "digits_of", defArgs (top 19), defBody (top 19), defScope (top 19), [], []⟩) rfl
  have F_digits_of : FnS S "digits_of" sDigits (He.ga K "digits_of") d_digits_of := F_digits_of
  have D_digits_of := ok_digits (CR := He.ga K "Ratio") (CH := He.ga K "House") F_digits_of m_digits_of g i_PART
  have E___repr__ := ok_rrepr F_Ratio__repr__ h_Ratio__repr__.at_ h_Ratio__repr__.fn kf D_digits_of
  have hr := ok_hrepr F_House__repr__ h_House__repr__.at_ h_House__repr__.fn kf g.repr_ E___repr__
  obtain ⟨d_wholes, F_wholes⟩ := cD.def_ 6 (d := ⟨("wholes", none), "wholes", "wholes", defArgs (top 25), defBody (top 25), defScope (top 25), [], []⟩) rfl
  have F_wholes : FnS S "wholes" sWholes (He.ga K "wholes") d_wholes := F_wholes
  have D_wholes := ok_wholes F_wholes m_wholes g kf
  obtain ⟨d_ints_of, F_ints_of⟩ := cD.def_ 7 (d := ⟨("ints_of", none), "ints_of", "ints_of", defArgs (top 27), defBody (top 27), defScope (top 27), [], []⟩) rfl
  have F_ints_of : FnS S "ints_of" sIntsOf (He.ga K "ints_of") d_ints_of := F_ints_of
  have D_ints_of := ok_intsOf F_ints_of m_ints_of D_wholes
  obtain ⟨d_bare_row, F_bare_row⟩ := cD.def_ 8 (d := ⟨("bare_row", none), "bare_row", "bare_row", defArgs (top 28), defBody (top 28), defScope (top 28), [], []⟩) rfl
  have F_bare_row : FnS S "bare_row" sBare (He.ga K "bare_row") d_bare_row := F_bare_row
  have D_bare_row := ok_bare F_bare_row m_bare_row D_divisor_of
  obtain ⟨d_cleared, F_cleared⟩ := cD.def_ 9 (d := ⟨("cleared", none), "cleared", "cleared", defArgs (top 29), defBody (top 29), defScope (top 29), [], []⟩) rfl
  have F_cleared : FnS S "cleared" sCleared (He.ga K "cleared") d_cleared := F_cleared
  have D_cleared := ok_cleared F_cleared m_cleared g D_bare_row
  obtain ⟨d_first_at, F_first_at⟩ := cD.def_ 10 (d := ⟨("first_at", none), "first_at", "first_at", defArgs (top 30), defBody (top 30), defScope (top 30), [], []⟩) rfl
  have F_first_at : FnS S "first_at" sFirst (He.ga K "first_at") d_first_at := F_first_at
  have D_first_at := ok_first (CR := He.ga K "Ratio") (CH := He.ga K "House") F_first_at m_first_at g
  obtain ⟨d_headed_row, F_headed_row⟩ := cD.def_ 11 (d := ⟨("headed_row", none), "headed_row", "headed_row", defArgs (top 31), defBody (top 31), defScope (top 31), [], []⟩) rfl
  have F_headed_row : FnS S "headed_row" sHeaded (He.ga K "headed_row") d_headed_row := F_headed_row
  have D_headed_row := ok_headed F_headed_row m_headed_row D_bare_row
  obtain ⟨d_int_steps, F_int_steps⟩ := cD.def_ 12 (d := ⟨("int_steps", none), "int_steps", "int_steps", defArgs (top 32), defBody (top 32), defScope (top 32), [], []⟩) rfl
  have F_int_steps : FnS S "int_steps" sSteps (He.ga K "int_steps") d_int_steps := F_int_steps
  have D_int_steps := ok_steps F_int_steps m_int_steps g D_first_at D_headed_row D_cleared
  obtain ⟨d_head_of, F_head_of⟩ := cD.def_ 13 (d := ⟨("head_of", none), "head_of", "head_of", defArgs (top 33), defBody (top 33), defScope (top 33), [], []⟩) rfl
  have F_head_of : FnS S "head_of" sHeadOf (He.ga K "head_of") d_head_of := F_head_of
  have D_head_of := ok_headOf (CR := He.ga K "Ratio") (CH := He.ga K "House") F_head_of m_head_of
  obtain ⟨d_told_rows, F_told_rows⟩ := cD.def_ 14 (d := ⟨("told_rows", none), "told_rows", "told_rows", defArgs (top 34), defBody (top 34), defScope (top 34), [], []⟩) rfl
  have F_told_rows : FnS S "told_rows" sTR (He.ga K "told_rows") d_told_rows := F_told_rows
  have D_told_rows := ok_toldRows F_told_rows m_told_rows kf rm D_head_of
  obtain ⟨d_steps_of, F_steps_of⟩ := cD.def_ 15 (d := ⟨("steps_of", none), "steps_of", "steps_of", defArgs (top 35), defBody (top 35), defScope (top 35), [], []⟩) rfl
  have F_steps_of : FnS S "steps_of" sStepsOf (He.ga K "steps_of") d_steps_of := F_steps_of
  have D_steps_of := ok_stepsOf F_steps_of m_steps_of D_told_rows D_int_steps D_ints_of
  obtain ⟨d_kernel_of, F_kernel_of⟩ := cD.def_ 16 (d := ⟨("kernel_of", none), "kernel_of", "kernel_of", defArgs (top 36), defBody (top 36), defScope (top 36), [], []⟩) rfl
  have F_kernel_of : FnS S "kernel_of" sKernel (He.ga K "kernel_of") d_kernel_of := F_kernel_of
  have D_kernel_of := ok_kernel F_kernel_of m_kernel_of g kf rm D_steps_of D_head_of R_top E___neg__
  obtain ⟨d_are_numbers, F_are_numbers⟩ := cD.def_ 17 (d := ⟨("are_numbers", none), "are_numbers", "are_numbers", defArgs (top 37), defBody (top 37), defScope (top 37), [], []⟩) rfl
  have F_are_numbers : FnS S "are_numbers" sAreNums (He.ga K "are_numbers") d_are_numbers := F_are_numbers
  have D_are_numbers := ok_areNums F_are_numbers m_are_numbers g D_is_list D_is_number
  obtain ⟨d_table_in, F_table_in⟩ := cD.def_ 18 (d := ⟨("table_in", none), "table_in", "table_in", defArgs (top 40), defBody (top 40), defScope (top 40), [], []⟩) rfl
  have F_table_in : FnS S "table_in" sTableIn (He.ga K "table_in") d_table_in := F_table_in
  have D_table_in := ok_tableIn F_table_in m_table_in g i_MOST_SIZE D_is_list D_are_numbers D_ratio_of
  obtain ⟨d_want_sized, F_want_sized⟩ := cD.def_ 19 (d := ⟨("want_sized", none), "want_sized", "want_sized", defArgs (top 41), defBody (top 41), defScope (top 41), [], []⟩) rfl
  have F_want_sized : FnS S "want_sized" sWantSized (He.ga K "want_sized") d_want_sized := F_want_sized
  have D_want_sized := ok_wantSized F_want_sized m_want_sized g D_table_in
  obtain ⟨d_bare_table, F_bare_table⟩ := cD.def_ 20 (d := ⟨("bare_table", none), "bare_table", "bare_table", defArgs (top 42), defBody (top 42), defScope (top 42), [], []⟩) rfl
  have F_bare_table : FnS S "bare_table" sBareTable (He.ga K "bare_table") d_bare_table := F_bare_table
  have D_bare_table := ok_bareTable F_bare_table m_bare_table g D_wholes
  obtain ⟨d_int_product, F_int_product⟩ := cD.def_ 21 (d := ⟨("int_product", none), "int_product", "int_product", defArgs (top 43), defBody (top 43), defScope (top 43), [], []⟩) rfl
  have F_int_product : FnS S "int_product" sIntProd (He.ga K "int_product") d_int_product := F_int_product
  have D_int_product := ok_intProd (CR := He.ga K "Ratio") (CH := He.ga K "House") F_int_product m_int_product g
  obtain ⟨d_over_bottom, F_over_bottom⟩ := cD.def_ 22 (d := ⟨("over_bottom", none), "over_bottom", "over_bottom", defArgs (top 44), defBody (top 44), defScope (top 44), [], []⟩) rfl
  have F_over_bottom : FnS S "over_bottom" sOverB (He.ga K "over_bottom") d_over_bottom := F_over_bottom
  have D_over_bottom := ok_overB F_over_bottom m_over_bottom g kf rm
  obtain ⟨d_product_of, F_product_of⟩ := cD.def_ 23 (d := ⟨("product_of", none), "product_of", "product_of", defArgs (top 46), defBody (top 46), defScope (top 46), [], []⟩) rfl
  have F_product_of : FnS S "product_of" sProd (He.ga K "product_of") d_product_of := F_product_of
  have D_product_of := ok_prod F_product_of m_product_of D_bare_table D_over_bottom D_int_product
  obtain ⟨d_about_of, F_about_of⟩ := cD.def_ 24 (d := ⟨("about_of", none), "about_of", "about_of", defArgs (top 47), defBody (top 47), defScope (top 47), [], []⟩) rfl
  have F_about_of : FnS S "about_of" sAbout (He.ga K "about_of") d_about_of := F_about_of
  have D_about_of := ok_about (CR := He.ga K "Ratio") (CH := He.ga K "House") F_about_of m_about_of g
  obtain ⟨d_led_by, F_led_by⟩ := cD.def_ 25 (d := ⟨("led_by", none), "led_by", "led_by", defArgs (top 48), defBody (top 48), defScope (top 48), [], []⟩) rfl
  have F_led_by : FnS S "led_by" sLedBy (He.ga K "led_by") d_led_by := F_led_by
  have D_led_by := ok_ledBy F_led_by m_led_by D_product_of
  obtain ⟨d_letters_in, F_letters_in⟩ := cD.def_ 26 (d := ⟨("letters_in", none), "letters_in", "letters_in", defArgs (top 52), defBody (top 52), defScope (top 52), [], []⟩) rfl
  have F_letters_in : FnS S "letters_in" sLettersIn (He.ga K "letters_in") d_letters_in := F_letters_in
  have D_letters_in := ok_lettersIn F_letters_in m_letters_in g i_MOST_LETTERS D_is_list D_table_in
  obtain ⟨d_want_house, F_want_house⟩ := cD.def_ 27 (d := ⟨("want_house", none), "want_house", "want_house", defArgs (top 54), defBody (top 54), defScope (top 54), [], []⟩) rfl
  have F_want_house : FnS S "want_house" sWantHouse (He.ga K "want_house") d_want_house := F_want_house
  have D_want_house := ok_wantHouse F_want_house m_want_house g kf
  have o_hinit := ok_hinit F_House__init__ g kf D_letters_in
  have hm : Hm S (He.ga K "Ratio") (He.ga K "House") := ⟨_, _, k_House.init, k_House, o_hinit, FunD.bindsN F_House__init__ fun _ _ _ _ _ _ us hl => match us, hl with | [_, _], _ => rfl⟩
  obtain ⟨d_heads_of, F_heads_of⟩ := cD.def_ 28 (d := ⟨("heads_of", none), "heads_of", "heads_of", defArgs (top 60), defBody (top 60), defScope (top 60), [], []⟩) rfl
  have F_heads_of : FnS S "heads_of" sHeadsOf (He.ga K "heads_of") d_heads_of := F_heads_of
  have D_heads_of := ok_headsOf F_heads_of m_heads_of g kf R_sign
  obtain ⟨d_numbers_in, F_numbers_in⟩ := cD.def_ 29 (d := ⟨("numbers_in", none), "numbers_in", "numbers_in", defArgs (top 61), defBody (top 61), defScope (top 61), [], []⟩) rfl
  have F_numbers_in : FnS S "numbers_in" sNumbersIn (He.ga K "numbers_in") d_numbers_in := F_numbers_in
  have D_numbers_in := ok_numbersIn F_numbers_in m_numbers_in g D_heads_of
  obtain ⟨d_less_room, F_less_room⟩ := cD.def_ 30 (d := ⟨("less_room", none), "less_room", "less_room", defArgs (top 62), defBody (top 62), defScope (top 62), [], []⟩) rfl
  have F_less_room : FnS S "less_room" sLessRoom (He.ga K "less_room") d_less_room := F_less_room
  have D_less_room := ok_lessRoom F_less_room m_less_room g kf x10 R_sign E___sub__ E___mul__ D_numbers_in
  obtain ⟨d_held, F_held⟩ := cD.def_ 31 (d := ⟨("held", none), "held", "held", defArgs (top 63), defBody (top 63), defScope (top 63), [], []⟩) rfl
  have F_held : FnS S "held" sHeld (He.ga K "held") d_held := F_held
  have D_held := ok_held F_held m_held g kf R_sign D_less_room
  obtain ⟨d_first_out, F_first_out⟩ := cD.def_ 32 (d := ⟨("first_out", none), "first_out", "first_out", defArgs (top 64), defBody (top 64), defScope (top 64), [], []⟩) rfl
  have F_first_out : FnS S "first_out" sFirstOut (He.ga K "first_out") d_first_out := F_first_out
  have D_first_out := ok_firstOut F_first_out m_first_out g kf D_held D_led_by
  obtain ⟨d_is_kept, F_is_kept⟩ := cD.def_ 33 (d := ⟨("is_kept", none), "is_kept", "is_kept", defArgs (top 65), defBody (top 65), defScope (top 65), [], []⟩) rfl
  have F_is_kept : FnS S "is_kept" sIsKept (He.ga K "is_kept") d_is_kept := F_is_kept
  have D_is_kept := ok_isKept F_is_kept m_is_kept D_first_out
  obtain ⟨d_commutes, F_commutes⟩ := cD.def_ 34 (d := ⟨("commutes", none), "commutes", "commutes", defArgs (top 66), defBody (top 66), defScope (top 66), [], []⟩) rfl
  have F_commutes : FnS S "commutes" sCommutes (He.ga K "commutes") d_commutes := F_commutes
  have D_commutes := ok_commutes F_commutes m_commutes g kf E___eq__ D_product_of
  obtain ⟨d_rows_in, F_rows_in⟩ := cD.def_ 35 (d := ⟨("rows_in", none), "rows_in", "rows_in", defArgs (top 67), defBody (top 67), defScope (top 67), [], []⟩) rfl
  have F_rows_in : FnS S "rows_in" sRowsIn (He.ga K "rows_in") d_rows_in := F_rows_in
  have D_rows_in := ok_rowsIn F_rows_in m_rows_in g kf i_MOST_ROWS D_is_list D_are_numbers D_ratio_of
  obtain ⟨d_room_in, F_room_in⟩ := cD.def_ 36 (d := ⟨("room_in", none), "room_in", "room_in", defArgs (top 68), defBody (top 68), defScope (top 68), [], []⟩) rfl
  have F_room_in : FnS S "room_in" sRoomIn (He.ga K "room_in") d_room_in := F_room_in
  have D_room_in := ok_roomIn F_room_in m_room_in E___eq__ D_rows_in D_steps_of D_is_kept
  obtain ⟨d_want_kept, F_want_kept⟩ := cD.def_ 37 (d := ⟨("want_kept", none), "want_kept", "want_kept", defArgs (top 69), defBody (top 69), defScope (top 69), [], []⟩) rfl
  have F_want_kept : FnS S "want_kept" sWantKept (He.ga K "want_kept") d_want_kept := F_want_kept
  have D_want_kept := ok_wantKept F_want_kept m_want_kept D_room_in
  obtain ⟨d_want_commuting, F_want_commuting⟩ := cD.def_ 38 (d := ⟨("want_commuting", none), "want_commuting", "want_commuting", defArgs (top 70), defBody (top 70), defScope (top 70), [], []⟩) rfl
  have F_want_commuting : FnS S "want_commuting" sWantComm (He.ga K "want_commuting") d_want_commuting := F_want_commuting
  have D_want_commuting := ok_wantComm F_want_commuting m_want_commuting kf D_want_sized D_commutes
  obtain ⟨d_is_room, F_is_room⟩ := cD.def_ 39 (d := ⟨("is_room", none), "is_room", "is_room", defArgs (top 71), defBody (top 71), defScope (top 71), [], []⟩) rfl
  have F_is_room : FnS S "is_room" sIsRoom (He.ga K "is_room") d_is_room := F_is_room
  have D_is_room := ok_isRoom F_is_room m_is_room D_want_house D_room_in
  obtain ⟨d_sum_room, F_sum_room⟩ := cD.def_ 40 (d := ⟨("sum_room", none), "sum_room", "sum_room", defArgs (top 72), defBody (top 72), defScope (top 72), [], []⟩) rfl
  have F_sum_room : FnS S "sum_room" sSumRoom (He.ga K "sum_room") d_sum_room := F_sum_room
  have D_sum_room := ok_sumRoom F_sum_room m_sum_room D_want_house D_want_kept D_steps_of
  obtain ⟨d_meet_room, F_meet_room⟩ := cD.def_ 41 (d := ⟨("meet_room", none), "meet_room", "meet_room", defArgs (top 73), defBody (top 73), defScope (top 73), [], []⟩) rfl
  have F_meet_room : FnS S "meet_room" sMeetRoom (He.ga K "meet_room") d_meet_room := F_meet_room
  have D_meet_room := ok_meetRoom F_meet_room m_meet_room kf D_want_house D_want_kept D_kernel_of
  obtain ⟨d_noughts, F_noughts⟩ := cD.def_ 42 (d := ⟨("noughts", none), "noughts", "noughts", defArgs (top 74), defBody (top 74), defScope (top 74), [], []⟩) rfl
  have F_noughts : FnS S "noughts" sNoughts (He.ga K "noughts") d_noughts := F_noughts
  have D_noughts := ok_noughts F_noughts m_noughts kf D_want_house D_want_commuting D_kernel_of D_about_of
  obtain ⟨d_images, F_images⟩ := cD.def_ 43 (d := ⟨("images", none), "images", "images", defArgs (top 75), defBody (top 75), defScope (top 75), [], []⟩) rfl
  have F_images : FnS S "images" sImages (He.ga K "images") d_images := F_images
  have D_images := ok_images F_images m_images D_want_house D_want_commuting D_steps_of
  obtain ⟨d__law_draw, F__law_draw⟩ := cD.def_ 44 (d := ⟨("_law_draw", none), "_law_draw", "_law_draw", defArgs (top 78), defBody (top 78), defScope (top 78), [], []⟩) rfl
  have F__law_draw : FnS S "_law_draw" sLDraw (He.ga K "_law_draw") d__law_draw := F__law_draw
  have D__law_draw := ok_draw (CR := He.ga K "Ratio") (CH := He.ga K "House") F__law_draw m__law_draw g
  obtain ⟨d__law_pick, F__law_pick⟩ := cD.def_ 45 (d := ⟨("_law_pick", none), "_law_pick", "_law_pick", defArgs (top 79), defBody (top 79), defScope (top 79), [], []⟩) rfl
  have F__law_pick : FnS S "_law_pick" sLPick (He.ga K "_law_pick") d__law_pick := F__law_pick
  have D__law_pick := ok_pick F__law_pick m__law_pick g D__law_draw
  obtain ⟨d__law_number, F__law_number⟩ := cD.def_ 46 (d := ⟨("_law_number", none), "_law_number", "_law_number", defArgs (top 90), defBody (top 90), defScope (top 90), [], []⟩) rfl
  have F__law_number : FnS S "_law_number" sLNumber (He.ga K "_law_number") d__law_number := F__law_number
  have D__law_number := ok_number F__law_number m__law_number D__law_pick
  obtain ⟨d__law_gcd, F__law_gcd⟩ := cD.def_ 47 (d := ⟨("_law_gcd", none), "_law_gcd", "_law_gcd", defArgs (top 80), defBody (top 80), defScope (top 80), [], []⟩) rfl
  have F__law_gcd : FnS S "_law_gcd" sLGcd (He.ga K "_law_gcd") d__law_gcd := F__law_gcd
  have D__law_gcd := ok_lgcd (CR := He.ga K "Ratio") (CH := He.ga K "House") F__law_gcd m__law_gcd g
  obtain ⟨d__law_bare, F__law_bare⟩ := cD.def_ 48 (d := ⟨("_law_bare", none), "_law_bare", "_law_bare", defArgs (top 81), defBody (top 81), defScope (top 81), [], []⟩) rfl
  have F__law_bare : FnS S "_law_bare" sLBare (He.ga K "_law_bare") d__law_bare := F__law_bare
  have D__law_bare := ok_lbare F__law_bare m__law_bare g D__law_gcd
  obtain ⟨d__law_cleared, F__law_cleared⟩ := cD.def_ 49 (d := ⟨("_law_cleared", none), "_law_cleared", "_law_cleared", defArgs (top 82), defBody (top 82), defScope (top 82), [], []⟩) rfl
  have F__law_cleared : FnS S "_law_cleared" sLCleared (He.ga K "_law_cleared") d__law_cleared := F__law_cleared
  have D__law_cleared := ok_lcleared F__law_cleared m__law_cleared g D__law_bare
  obtain ⟨d__law_head, F__law_head⟩ := cD.def_ 50 (d := ⟨("_law_head", none), "_law_head", "_law_head", defArgs (top 84), defBody (top 84), defScope (top 84), [], []⟩) rfl
  have F__law_head : FnS S "_law_head" sLHead (He.ga K "_law_head") d__law_head := F__law_head
  have D__law_head := ok_lhead (CR := He.ga K "Ratio") (CH := He.ga K "House") F__law_head m__law_head g
  obtain ⟨d__law_told, F__law_told⟩ := cD.def_ 51 (d := ⟨("_law_told", none), "_law_told", "_law_told", defArgs (top 85), defBody (top 85), defScope (top 85), [], []⟩) rfl
  have F__law_told : FnS S "_law_told" sLTold (He.ga K "_law_told") d__law_told := F__law_told
  have D__law_told := ok_ltold F__law_told m__law_told kf rm D__law_head
  obtain ⟨d__law_steps, F__law_steps⟩ := cD.def_ 52 (d := ⟨("_law_steps", none), "_law_steps", "_law_steps", defArgs (top 83), defBody (top 83), defScope (top 83), [], []⟩) rfl
  have F__law_steps : FnS S "_law_steps" sLSteps (He.ga K "_law_steps") d__law_steps := F__law_steps
  have D__law_steps := ok_lsteps F__law_steps m__law_steps g D__law_bare D__law_cleared
  obtain ⟨d__law_dot, F__law_dot⟩ := cD.def_ 53 (d := ⟨("_law_dot", none), "_law_dot", "_law_dot", defArgs (top 86), defBody (top 86), defScope (top 86), [], []⟩) rfl
  have F__law_dot : FnS S "_law_dot" sLDot (He.ga K "_law_dot") d__law_dot := F__law_dot
  have D__law_dot := ok_ldot (CR := He.ga K "Ratio") (CH := He.ga K "House") F__law_dot m__law_dot g
  obtain ⟨d__law_led, F__law_led⟩ := cD.def_ 54 (d := ⟨("_law_led", none), "_law_led", "_law_led", defArgs (top 87), defBody (top 87), defScope (top 87), [], []⟩) rfl
  have F__law_led : FnS S "_law_led" sLLed (He.ga K "_law_led") d__law_led := F__law_led
  have D__law_led := ok_lled F__law_led m__law_led g D__law_dot
  obtain ⟨d__law_times, F__law_times⟩ := cD.def_ 55 (d := ⟨("_law_times", none), "_law_times", "_law_times", defArgs (top 88), defBody (top 88), defScope (top 88), [], []⟩) rfl
  have F__law_times : FnS S "_law_times" sLTimes (He.ga K "_law_times") d__law_times := F__law_times
  have D__law_times := ok_ltimes F__law_times m__law_times g D__law_led
  obtain ⟨d__law_units, F__law_units⟩ := cD.def_ 56 (d := ⟨("_law_units", none), "_law_units", "_law_units", defArgs (top 89), defBody (top 89), defScope (top 89), [], []⟩) rfl
  have F__law_units : FnS S "_law_units" sLUnits (He.ga K "_law_units") d__law_units := F__law_units
  have D__law_units := ok_lunits (CR := He.ga K "Ratio") (CH := He.ga K "House") F__law_units m__law_units g
  obtain ⟨d__law_letter, F__law_letter⟩ := cD.def_ 57 (d := ⟨("_law_letter", none), "_law_letter", "_law_letter", defArgs (top 92), defBody (top 92), defScope (top 92), [], []⟩) rfl
  have F__law_letter : FnS S "_law_letter" sLLetter (He.ga K "_law_letter") d__law_letter := F__law_letter
  have D__law_letter := ok_letter F__law_letter m__law_letter g D__law_number
  obtain ⟨d__law_as, F__law_as⟩ := cD.def_ 58 (d := ⟨("_law_as", none), "_law_as", "_law_as", defArgs (top 93), defBody (top 93), defScope (top 93), [], []⟩) rfl
  have F__law_as : FnS S "_law_as" sLAs (He.ga K "_law_as") d__law_as := F__law_as
  have D__law_as := ok_as F__law_as m__law_as g kf rm D__law_draw
  obtain ⟨d__law_given, F__law_given⟩ := cD.def_ 59 (d := ⟨("_law_given", none), "_law_given", "_law_given", defArgs (top 94), defBody (top 94), defScope (top 94), [], []⟩) rfl
  have F__law_given : FnS S "_law_given" sLGiven (He.ga K "_law_given") d__law_given := F__law_given
  have D__law_given := ok_given F__law_given m__law_given g D__law_draw D__law_as
  obtain ⟨d__law_house, F__law_house⟩ := cD.def_ 60 (d := ⟨("_law_house", none), "_law_house", "_law_house", defArgs (top 95), defBody (top 95), defScope (top 95), [], []⟩) rfl
  have F__law_house : FnS S "_law_house" sLHouse (He.ga K "_law_house") d__law_house := F__law_house
  have D__law_house := ok_lhouse F__law_house m__law_house kf hm D__law_given
  obtain ⟨d__law_noughts, F__law_noughts⟩ := cD.def_ 61 (d := ⟨("_law_noughts", none), "_law_noughts", "_law_noughts", defArgs (top 96), defBody (top 96), defScope (top 96), [], []⟩) rfl
  have F__law_noughts : FnS S "_law_noughts" sLNoughts (He.ga K "_law_noughts") d__law_noughts := F__law_noughts
  have D__law_noughts := ok_lnoughts F__law_noughts m__law_noughts g D__law_steps D__law_head
  obtain ⟨d__law_twice, F__law_twice⟩ := cD.def_ 62 (d := ⟨("_law_twice", none), "_law_twice", "_law_twice", defArgs (top 97), defBody (top 97), defScope (top 97), [], []⟩) rfl
  have F__law_twice : FnS S "_law_twice" sLTwice (He.ga K "_law_twice") d__law_twice := F__law_twice
  have D__law_twice := ok_twice (CR := He.ga K "Ratio") (CH := He.ga K "House") F__law_twice m__law_twice g
  obtain ⟨d__law_sum, F__law_sum⟩ := cD.def_ 63 (d := ⟨("_law_sum", none), "_law_sum", "_law_sum", defArgs (top 98), defBody (top 98), defScope (top 98), [], []⟩) rfl
  have F__law_sum : FnS S "_law_sum" sLSum (He.ga K "_law_sum") d__law_sum := F__law_sum
  have D__law_sum := ok_sum2 (CR := He.ga K "Ratio") (CH := He.ga K "House") F__law_sum m__law_sum g
  obtain ⟨d__law_commuting, F__law_commuting⟩ := cD.def_ 64 (d := ⟨("_law_commuting", none), "_law_commuting", "_law_commuting", defArgs (top 99), defBody (top 99), defScope (top 99), [], []⟩) rfl
  have F__law_commuting : FnS S "_law_commuting" sLComm (He.ga K "_law_commuting") d__law_commuting := F__law_commuting
  have D__law_commuting := ok_comm F__law_commuting m__law_commuting g D__law_draw D__law_pick D__law_number D__law_letter D__law_units D__law_sum D__law_times D__law_twice
  have X__law_units := ok_lunitsX (CR := He.ga K "Ratio") (CH := He.ga K "House") F__law_units m__law_units g
  obtain ⟨d__law_turned, F__law_turned⟩ := cD.def_ 65 (d := ⟨("_law_turned", none), "_law_turned", "_law_turned", defArgs (top 91), defBody (top 91), defScope (top 91), [], []⟩) rfl
  have F__law_turned : FnS S "_law_turned" sLTurned (He.ga K "_law_turned") d__law_turned := F__law_turned
  have D__law_turned := ok_turned F__law_turned m__law_turned g D__law_draw D__law_pick X__law_units
  have K_noughts := ok_noughtsK F_noughts m_noughts kf D_want_house D_want_commuting D_kernel_of D_about_of
  have K_images := ok_imagesK F_images m_images D_want_house D_want_commuting D_steps_of
  obtain ⟨d__law_right, F__law_right⟩ := cD.def_ 67 (d := ⟨("_law_right", none), "_law_right", "_law_right", defArgs (top 100), defBody (top 100), defScope (top 100), [], []⟩) rfl
  have F__law_right : FnS S "_law_right" sLRight (He.ga K "_law_right") d__law_right := F__law_right
  have cs : Cs S (He.ga K "Ratio") (He.ga K "House") := { comm := D__law_commuting, turned := D__law_turned, house := D__law_house, given := D__law_given, told := D__law_told, lnou := D__law_noughts, lsteps := D__law_steps, nou := D_noughts, ima := D_images, nouK := K_noughts, imaK := K_images, isroom := D_is_room, times := D__law_times, sum := D_sum_room, meet := D_meet_room, rrepr := E___repr__, hrepr := hr, eqq := E___eq__ }
  have o_right := ok_right F__law_right g kf cs
  obtain ⟨d__law_pot, F__law_pot⟩ := cD.def_ 68 (d := ⟨("_law_pot", none), "_law_pot", "_law_pot", defArgs (top 77), defBody (top 77), defScope (top 77), [], []⟩) rfl
  have F__law_pot : FnS S "_law_pot" sLPot (He.ga K "_law_pot") d__law_pot := F__law_pot
  have o_pot := ok_pot F__law_pot g
  obtain ⟨d_law, F_law⟩ := cD.def_ 69 (d := ⟨("law", none), "law", "law", defArgs (top 101), defBody (top 101), defScope (top 101), [], []⟩) rfl
  have F_law : FnS S "law" sLLaw (He.ga K "law") d_law := F_law
  exact ⟨d_law, F_law, ok_law F_law F__law_right m__law_right o_right F__law_pot m__law_pot o_pot⟩
theorem glo_law {K : PySem.W.Frag} (c : obsT K = valT) : (He.Fa.glo "law").ok K = true := by
  have cD : He.SaysD fa fn K := congrArg (fun z : AlT => z.1) c
  exact cD.fact 69 (f := .glo "law") rfl
theorem bind_law {K : PySem.W.Frag} {f : Addr} {fd : FuncData} (F : FunD K "law" "law" (defArgs sLLaw) (defBody sLLaw) (defScope sLLaw) [] [] f fd) (s : Shared) (v : Value) : BindsTo s fd ⟨[v], []⟩ [("_law_script", v)] :=
  FunD.bindsA (ps := ["_law_script"]) F (fun _ _ _ _ _ _ us hl => match us, hl with | [_], _ => rfl) s [v] rfl
theorem fd_one {K : PySem.W.Frag} {f : Addr} {fd fd' : FuncData} {x q : Str} {st : Stmt} (F : FunD K x q (defArgs st) (defBody st) (defScope st) [] [] f fd) (F' : FunD K x q (defArgs st) (defBody st) (defScope st) [] [] f fd') : fd = fd' := by
  obtain ⟨oc, od, dV, kV, doc, pm, an, cdv, ct, osl, _, lk, _⟩ := F.ex
  obtain ⟨oc', od', dV', kV', doc', pm', an', cdv', ct', osl', _, lk', _⟩ := F'.ex
  rw [lk] at lk'
  cases lk'
  rfl
end TW
set_option Elab.async false
set_option linter.all false
set_option maxRecDepth 100000
set_option maxHeartbeats 0
open PySem PySem.W PySem.Calls PyProof.Rows
theorem PySem.Challenge.cw_tracewords_k34_whole_noughts_and_images_holds : PySem.Challenge.rw_tracewords_k34_whole_noughts_and_images.Holds := by
  w_on; o_law
  refine HandSHeadRun.head_imp (r := OpenLaw.row PySem.Challenge.rw_tracewords_k34_whole_noughts_and_images) (q := TW.qv) (H := TW.hookT) (ob := TW.obT) (M := 8000) (loose := TW.names) (d := HandSHeadRun.topDef (OpenLaw.row PySem.Challenge.rw_tracewords_k34_whole_noughts_and_images).prog 101) (kwd := []) TW.obT_eq TW.run0
    (by kernel_rfl) (by kernel_rfl) (by kernel_rfl) (by rfl) (by first | assumption | decide +kernel) (by decide +kernel) ⟨rfl, rfl, rfl, rfl, rfl, by decide +kernel⟩ ?hw ?hc
  case hw => w_witness2
  case hc =>
    refine TW.walk_ofG (l := PySem.Challenge.rw_tracewords_k34_whole_noughts_and_images) (n := 63) (k := 36) (x := "_law_script") rfl (by decide) (by kernel_rfl) ⟨rfl, by decide, by decide⟩ ?F
    intro w mg fa h Y G hmg0
    obtain ⟨K, KX, c⟩ := Y
    have hmg : mg ("law" : PySem.Str) = some (.ref fa) := by
      have e : (HandSHeadRun.topDef (OpenLaw.row PySem.Challenge.rw_tracewords_k34_whole_noughts_and_images).prog 101).name = ("law" : PySem.Str) := by kernel_rfl
      rw [← e]
      exact hmg0
    have e := hmg.symm.trans (He.glo_ok KX G (TW.glo_law c))
    cases e
    obtain ⟨fd, F, _⟩ := TW.facts (P := (PySem.Challenge.rw_tracewords_k34_whole_noughts_and_images).prog) (w := w) (base := h) KX G c
    refine ⟨K, fd, TW.spLaw K, KX, fun s v => TW.bind_law F s v, fun H a ns hS => ⟨a, ns, rfl, rfl, hS, fun _ => rfl⟩, fun base kb gb => ?_⟩
    obtain ⟨fd', F', R'⟩ := TW.facts (P := (PySem.Challenge.rw_tracewords_k34_whole_noughts_and_images).prog) (w := w) (base := base) KX G c
    cases TW.fd_one F F'
    exact R'
