import PyProof.Rows.All
import Wide.All
import OpenK.AllK
import Wide.FinOn
import HandS.ForMost
import HandS.Codes
import HandS.IsInst
import HandS.Property
import HandS.Defaults
import KE.KStateDown
import HandS.Head0
import HandS.Head1
import HandS.Head2
import HandS.HeadHook2
import HandS.HeadNt
import HandS.HeadEnd
import HandS.Wide
import HandS.WideBits
import HandS.OwnEq
import HandS.Zip
import HandS.Walk
import HandS.Conv
import HandS.TupSets
import HandS.TupLen
import HandS.DictTup
import HandS.StrMore
import HandS.TupAny
import PyProof.InstEq
import HandS.DictEq
import KE.GoesEnum
import KE.GoesMore
import HandS.Evl
import HandS.Keys
import HandS.ListItems
import KE.KDictCopyH
import KE.KDictPairs
import HandS.MakeKwOnly
import KE.KDictZip
import HandS.MapObj
import HandS.Replace
import PySem.Challenge.RW_onecrest_k53_whole_along_numbers_and_cut
section
set_option Elab.async false
set_option linter.all false
set_option maxRecDepth 100000
set_option maxHeartbeats 0
namespace Km
open PySem PySem.W PySem.Calls PyProof.Rows
open He (ga ma eqO eqO_ok Fa frG frG_in refV)
open He5 (DefA fnA obsA valA)
/-! ### the text by places -/
def top (i : Nat) : Stmt := PySem.Challenge.pw_onecrest_k53_whole_along_numbers_and_cut.main.body.getD i (.Pass ⟨0, 0, 0, 0⟩)
def sub (i j : Nat) : Stmt := (C8.clsBody (top i)).getD j (.Pass ⟨0, 0, 0, 0⟩)
def refsK (o : Obj) : List Addr := match o with
  | ⟨_, _, .func fd, _⟩ => refV fd.code ++ refV fd.defaults
  | ⟨_, _, .cls cd, _⟩ => [cd.ns]
  | ⟨_, _, .dict es _, _⟩ => es.toList.flatMap fun e => refV e.val
  | ⟨_, _, .seq its _, _⟩ => its.toList.flatMap refV
  | ⟨.type "property", _, .fields vs, _⟩ => vs.toList.flatMap refV
  | _ => []
def nextK (g : Addr → Option Obj) (as : List Addr) : List Addr := as.flatMap fun a => match g a with
  | some o => refsK o
  | none => []
def layK (g : Addr → Option Obj) : Nat → List Addr → List Addr
  | 0, as => as
  | n + 1, as => as ++ layK g n (nextK g as)
def asK (g : Addr → Option Obj) : List Addr := layK g 5 [mainGlobals]
def frK (g : Addr → Option Obj) : Frag := frG g (asK g)
def clB (K : Frag) (C : Addr) : Bool :=
  eqO (findIn K (.ref C) "__class__") (some (some (.builtin "object.__class__"))) && (eqO (specialIn K (.builtin "object.__class__") "__get__") (some (some (.builtin "getset_descriptor.__get__"))) &&
  (decide (takesIn K (.builtin "object.__class__") = some true) && (decide (mroIn K C (.type "object") = some true) &&
  (decide (kitOne K (.ref C) (.type "int") = some false) && (decide (kitOne K (.ref C) (.type "list") = some false) && (decide (kitOne K (.ref C) (.type "tuple") = some false) && (decide (kitOne K (.ref C) (.ref C) = some true) &&
  (decide (kitOne K (.type "int") (.ref C) = some false) && (decide (kitOne K (.type "tuple") (.ref C) = some false) && (decide (kitOne K (.type "list") (.ref C) = some false) && decide (kitOne K (.ref C) (.type "str") = some false)))))))))))
def opB (K : Frag) (C : Addr) (m : PySem.Str) : Bool := selfFirst K C && (eqO (findIn K (.ref C) m) (some (some (.ref (ma K C m)))) && isFn K (.ref (ma K C m)))
def opRB (K : Frag) (C : Addr) (r : PySem.Str) : Bool := eqO (findIn K (.ref C) r) (some (some (.ref (ma K C r)))) && ((findIn K (.type "int") r).isSome && decide (subIn K (.type "int") (.ref C) = some false))
def eqB (K : Frag) (C : Addr) : Bool := eqO (findIn K (.ref C) "__eq__") (some (some (.ref (ma K C "__eq__")))) && (isFn K (.ref (ma K C "__eq__")) && (eqO (findIn K (.ref C) "__ne__") (some (some (.builtin "object.__ne__"))) && decide (subIn K (.ref C) (.type "object") = some true)))
/-- a property's getter -/
def gt (K : Frag) (C m : PySem.Str) : Addr := match recIn K (ma K (ga K C) m) "property" with
  | some (.ref g :: _) => g
  | _ => 0
def prB (K : Frag) (C m : PySem.Str) : Bool := eqO (findIn K (.ref (ga K C)) m) (some (some (.ref (ma K (ga K C) m)))) && (eqO (specialIn K (.ref (ma K (ga K C) m)) "__get__") (some (some (.builtin "property.__get__"))) &&
  (decide (takesIn K (.ref (ma K (ga K C) m)) = some true) && (match recIn K (ma K (ga K C) m) "property" with
  | some (.ref _ :: _) => true
  | _ => false)))
/-- the empty tuple among the defaults -/
def e0K (K : Frag) : Addr := He.dflAt ("Blend", some "__init__") 0 K
def etB (K : Frag) : Bool := match K.lookup (e0K K) with
  | some ⟨.type c, _, .seq its _, _⟩ => decide (c = "tuple") && its.toList.isEmpty
  | _ => false
abbrev AlK : Type := He.AlD × Bool
def obsK (fa : List Fa) (fn : List DefA) (ex : List (Frag → Bool)) (K : Frag) : AlK := (obsA fa fn K, ex.all fun f => f K)
def valK (fn : List DefA) : AlK := (valA fn, true)
structure SaysK (fa : List Fa) (fn : List DefA) (ex : List (Frag → Bool)) (K : Frag) : Prop where
  a : He5.SaysA fa fn K
  x : (ex.all fun f => f K) = true
theorem saysK_of {fa : List Fa} {fn : List DefA} {ex : List (Frag → Bool)} {K : Frag} (e : obsK fa fn ex K = valK fn) : SaysK fa fn ex K :=
  ⟨congrArg (fun z : AlK => z.1) e, congrArg (fun z : AlK => z.2) e⟩
theorem SaysK.get {fa : List Fa} {fn : List DefA} {ex : List (Frag → Bool)} {K : Frag} (c : SaysK fa fn ex K) (i : Nat) {f : Frag → Bool} (h : ex[i]? = some f := by rfl) : f K = true :=
  List.all_eq_true.mp c.x f (List.mem_of_getElem? h)
def hookK (fa : List Fa) (fn : List DefA) (ex : List (Frag → Bool)) : Hook where
  α := AlK
  obs := fun s => obsK fa fn ex (frK s.heap.get?)
  val := fun _ => valK fn
  says := fun _ h => ∃ K : Frag, K.In h ∧ SaysK fa fn ex K
  of := fun _ _ e => ⟨_, frG_in, saysK_of e⟩
  keeps := fun _ _ _ ⟨K, hK, c⟩ k => ⟨K, Frag.In.keeps hK k, c⟩
theorem obsK_eq {fa : List Fa} {fn : List DefA} {ex : List (Frag → Bool)} {g : Addr → Option Obj} {s : Shared} (h : ∀ a, g a = s.heap.get? a) : obsK fa fn ex (frK g) = (hookK fa fn ex).obs s := by
  have e : g = s.heap.get? := funext h
  rw [e] <;> rfl
abbrev Rw : OpenRow := OpenLaw.row PySem.Challenge.rw_onecrest_k53_whole_along_numbers_and_cut
abbrev qv : Program := view Rw.prog [110]
def names : List PySem.Str :=
  (["_wall", "CrestError", "StateError", "LimitError", "InvalidBlend", "InvalidCounts", "InvalidDirection", "InvalidLetter", "InvalidMany", "InvalidNumber", "InvalidWay", "InvalidWeights", "InvalidEntries", "InvalidLetters", "InvalidNumbers", "UnlikeBlends", "TooMany", "is_integer", "is_count", "is_list", "want_many", "want_at_most", "common_bottom", "PART", "digits_of", "common_part", "Ratio", "told_pair", "is_number", "ratio_of"] : List PySem.Str) ++
  (["want_number", "pair_sum", "pair_product", "top_of", "is_from_nought", "is_above", "wholes", "total_of", "SMALL", "MOST_LETTERS", "MOST_DEGREE", "MOST_ENTRIES_blends", "is_small", "is_letters", "want_letters", "are_counts", "is_entry", "Amounts", "amounts_sorted", "told_amounts", "degree_of", "Blend", "blend_of", "blends_added", "blends_multiplied", "stands", "standing", "want_blend", "want_alike", "want_letter"] : List PySem.Str) ++
  (["want_counts", "told_list", "want_weights", "want_direction", "MOST_WAY", "is_way_of", "want_way", "counts_of", "holds", "falling", "left_by", "out_once", "taken", "MOST_ENTRIES_changes", "gathered", "is_lead", "times_number", "along_numbers", "cut", "power_of", "with_factor", "whole_along", "worth_at", "along_at", "worth", "line_of", "slope", "bend", "_law_pot", "_law_draw"] : List PySem.Str) ++
  (["_law_pick", "_law_amount", "_law_counts", "_law_parts", "_law_blend", "_law_told", "_law_add", "_law_numbers", "_law_along", "_law_along_right", "_law_cut_right", "_law_right"] : List PySem.Str)
def d_is_integer : DefA := ⟨fun K => ga K "is_integer", "is_integer", "is_integer", C8.fnArgs (top 19), C8.fnBody (top 19), C8.fnScope (top 19), [], []⟩
def d_is_count : DefA := ⟨fun K => ga K "is_count", "is_count", "is_count", C8.fnArgs (top 20), C8.fnBody (top 20), C8.fnScope (top 20), [], []⟩
def d_is_list : DefA := ⟨fun K => ga K "is_list", "is_list", "is_list", C8.fnArgs (top 21), C8.fnBody (top 21), C8.fnScope (top 21), [], []⟩
def d_want_many : DefA := ⟨fun K => ga K "want_many", "want_many", "want_many", C8.fnArgs (top 22), C8.fnBody (top 22), C8.fnScope (top 22), [.non], []⟩
def d_want_at_most : DefA := ⟨fun K => ga K "want_at_most", "want_at_most", "want_at_most", C8.fnArgs (top 23), C8.fnBody (top 23), C8.fnScope (top 23), [], []⟩
def d_common_part : DefA := ⟨fun K => ga K "common_part", "common_part", "common_part", C8.fnArgs (top 28), C8.fnBody (top 28), C8.fnScope (top 28), [], []⟩
def d_common_bottom : DefA := ⟨fun K => ga K "common_bottom", "common_bottom", "common_bottom", C8.fnArgs (top 24), C8.fnBody (top 24), C8.fnScope (top 24), [], []⟩
def d_Ratio : DefA := ⟨fun K => ma K (ga K "Ratio") "__init__", "__init__", "Ratio.__init__", C8.fnArgs (sub 29 0), C8.fnBody (sub 29 0), C8.fnScope (sub 29 0), [.int 1], []⟩
def d_told_pair : DefA := ⟨fun K => ga K "told_pair", "told_pair", "told_pair", C8.fnArgs (top 30), C8.fnBody (top 30), C8.fnScope (top 30), [], []⟩
def d_radd : DefA := ⟨fun K => ma K (ga K "Ratio") "__add__", "__add__", "Ratio.__add__", C8.fnArgs (sub 29 6), C8.fnBody (sub 29 6), C8.fnScope (sub 29 6), [], []⟩
def d_rmul : DefA := ⟨fun K => ma K (ga K "Ratio") "__mul__", "__mul__", "Ratio.__mul__", C8.fnArgs (sub 29 10), C8.fnBody (sub 29 10), C8.fnScope (sub 29 10), [], []⟩
def d_req : DefA := ⟨fun K => ma K (ga K "Ratio") "__eq__", "__eq__", "Ratio.__eq__", C8.fnArgs (sub 29 17), C8.fnBody (sub 29 17), C8.fnScope (sub 29 17), [], []⟩
def d_rsign : DefA := ⟨fun K => gt K "Ratio" "sign", "sign", "Ratio.sign", C8.fnArgs (sub 29 3), C8.fnBody (sub 29 3), C8.fnScope (sub 29 3), [], []⟩
def d_is_number : DefA := ⟨fun K => ga K "is_number", "is_number", "is_number", C8.fnArgs (top 31), C8.fnBody (top 31), C8.fnScope (top 31), [], []⟩
def d_ratio_of : DefA := ⟨fun K => ga K "ratio_of", "ratio_of", "ratio_of", C8.fnArgs (top 32), C8.fnBody (top 32), C8.fnScope (top 32), [], []⟩
def d_pair_sum : DefA := ⟨fun K => ga K "pair_sum", "pair_sum", "pair_sum", C8.fnArgs (top 34), C8.fnBody (top 34), C8.fnScope (top 34), [], []⟩
def d_top_of : DefA := ⟨fun K => ga K "top_of", "top_of", "top_of", C8.fnArgs (top 36), C8.fnBody (top 36), C8.fnScope (top 36), [], []⟩
def d_is_from_nought : DefA := ⟨fun K => ga K "is_from_nought", "is_from_nought", "is_from_nought", C8.fnArgs (top 37), C8.fnBody (top 37), C8.fnScope (top 37), [], []⟩
def d_is_above : DefA := ⟨fun K => ga K "is_above", "is_above", "is_above", C8.fnArgs (top 38), C8.fnBody (top 38), C8.fnScope (top 38), [], []⟩
def d_wholes : DefA := ⟨fun K => ga K "wholes", "wholes", "wholes", C8.fnArgs (top 39), C8.fnBody (top 39), C8.fnScope (top 39), [], []⟩
def d_is_small : DefA := ⟨fun K => ga K "is_small", "is_small", "is_small", C8.fnArgs (top 46), C8.fnBody (top 46), C8.fnScope (top 46), [], []⟩
def d_is_letters : DefA := ⟨fun K => ga K "is_letters", "is_letters", "is_letters", C8.fnArgs (top 47), C8.fnBody (top 47), C8.fnScope (top 47), [], []⟩
def d_want_letters : DefA := ⟨fun K => ga K "want_letters", "want_letters", "want_letters", C8.fnArgs (top 48), C8.fnBody (top 48), C8.fnScope (top 48), [], []⟩
def d_are_counts : DefA := ⟨fun K => ga K "are_counts", "are_counts", "are_counts", C8.fnArgs (top 49), C8.fnBody (top 49), C8.fnScope (top 49), [], []⟩
def d_is_entry : DefA := ⟨fun K => ga K "is_entry", "is_entry", "is_entry", C8.fnArgs (top 50), C8.fnBody (top 50), C8.fnScope (top 50), [], []⟩
def d_Amounts : DefA := ⟨fun K => ma K (ga K "Amounts") "__init__", "__init__", "Amounts.__init__", C8.fnArgs (sub 51 0), C8.fnBody (sub 51 0), C8.fnScope (sub 51 0), [], []⟩
def d_degree_of : DefA := ⟨fun K => ga K "degree_of", "degree_of", "degree_of", C8.fnArgs (top 54), C8.fnBody (top 54), C8.fnScope (top 54), [], []⟩
def d_letters : DefA := ⟨fun K => gt K "Blend" "letters", "letters", "Blend.letters", C8.fnArgs (sub 55 1), C8.fnBody (sub 55 1), C8.fnScope (sub 55 1), [], []⟩
def d_degree : DefA := ⟨fun K => gt K "Blend" "degree", "degree", "Blend.degree", C8.fnArgs (sub 55 2), C8.fnBody (sub 55 2), C8.fnScope (sub 55 2), [], []⟩
def d_is_nought : DefA := ⟨fun K => gt K "Blend" "is_nought", "is_nought", "Blend.is_nought", C8.fnArgs (sub 55 3), C8.fnBody (sub 55 3), C8.fnScope (sub 55 3), [], []⟩
def d_entries : DefA := ⟨fun K => ma K (ga K "Blend") "entries", "entries", "Blend.entries", C8.fnArgs (sub 55 5), C8.fnBody (sub 55 5), C8.fnScope (sub 55 5), [], []⟩
def d_beq : DefA := ⟨fun K => ma K (ga K "Blend") "__eq__", "__eq__", "Blend.__eq__", C8.fnArgs (sub 55 10), C8.fnBody (sub 55 10), C8.fnScope (sub 55 10), [], []⟩
def d_want_blend : DefA := ⟨fun K => ga K "want_blend", "want_blend", "want_blend", C8.fnArgs (top 61), C8.fnBody (top 61), C8.fnScope (top 61), [], []⟩
def d_want_alike : DefA := ⟨fun K => ga K "want_alike", "want_alike", "want_alike", C8.fnArgs (top 62), C8.fnBody (top 62), C8.fnScope (top 62), [], []⟩
def d_stands : DefA := ⟨fun K => ga K "stands", "stands", "stands", C8.fnArgs (top 59), C8.fnBody (top 59), C8.fnScope (top 59), [], []⟩
def d_standing : DefA := ⟨fun K => ga K "standing", "standing", "standing", C8.fnArgs (top 60), C8.fnBody (top 60), C8.fnScope (top 60), [], []⟩
def d_bears : DefA := ⟨fun K => ma K (ga K "Blend") "bears", "bears", "Blend.bears", C8.fnArgs (sub 55 12), C8.fnBody (sub 55 12), C8.fnScope (sub 55 12), [], []⟩
def d_want_letter : DefA := ⟨fun K => ga K "want_letter", "want_letter", "want_letter", C8.fnArgs (top 63), C8.fnBody (top 63), C8.fnScope (top 63), [], []⟩
def d_told_list : DefA := ⟨fun K => ga K "told_list", "told_list", "told_list", C8.fnArgs (top 65), C8.fnBody (top 65), C8.fnScope (top 65), [], []⟩
def d_want_weights : DefA := ⟨fun K => ga K "want_weights", "want_weights", "want_weights", C8.fnArgs (top 66), C8.fnBody (top 66), C8.fnScope (top 66), [], []⟩
def d_want_direction : DefA := ⟨fun K => ga K "want_direction", "want_direction", "want_direction", C8.fnArgs (top 67), C8.fnBody (top 67), C8.fnScope (top 67), [], []⟩
def d_amounts_sorted : DefA := ⟨fun K => ga K "amounts_sorted", "amounts_sorted", "amounts_sorted", C8.fnArgs (top 52), C8.fnBody (top 52), C8.fnScope (top 52), [], []⟩
def d_told_amounts : DefA := ⟨fun K => ga K "told_amounts", "told_amounts", "told_amounts", C8.fnArgs (top 53), C8.fnBody (top 53), C8.fnScope (top 53), [], []⟩
def d_Blend : DefA := ⟨fun K => ma K (ga K "Blend") "__init__", "__init__", "Blend.__init__", C8.fnArgs (sub 55 0), C8.fnBody (sub 55 0), C8.fnScope (sub 55 0), [.adr e0K], []⟩
def d_blend_of : DefA := ⟨fun K => ga K "blend_of", "blend_of", "blend_of", C8.fnArgs (top 56), C8.fnBody (top 56), C8.fnScope (top 56), [], []⟩
def d_blends_added : DefA := ⟨fun K => ga K "blends_added", "blends_added", "blends_added", C8.fnArgs (top 57), C8.fnBody (top 57), C8.fnScope (top 57), [], []⟩
def d_badd : DefA := ⟨fun K => ma K (ga K "Blend") "__add__", "__add__", "Blend.__add__", C8.fnArgs (sub 55 7), C8.fnBody (sub 55 7), C8.fnScope (sub 55 7), [], []⟩
def d_is_way_of : DefA := ⟨fun K => ga K "is_way_of", "is_way_of", "is_way_of", C8.fnArgs (top 70), C8.fnBody (top 70), C8.fnScope (top 70), [], []⟩
def d_want_way : DefA := ⟨fun K => ga K "want_way", "want_way", "want_way", C8.fnArgs (top 71), C8.fnBody (top 71), C8.fnScope (top 71), [], []⟩
def d_counts_of : DefA := ⟨fun K => ga K "counts_of", "counts_of", "counts_of", C8.fnArgs (top 72), C8.fnBody (top 72), C8.fnScope (top 72), [], []⟩
def d_holds : DefA := ⟨fun K => ga K "holds", "holds", "holds", C8.fnArgs (top 73), C8.fnBody (top 73), C8.fnScope (top 73), [], []⟩
def d_falling : DefA := ⟨fun K => ga K "falling", "falling", "falling", C8.fnArgs (top 74), C8.fnBody (top 74), C8.fnScope (top 74), [], []⟩
def d_left_by : DefA := ⟨fun K => ga K "left_by", "left_by", "left_by", C8.fnArgs (top 75), C8.fnBody (top 75), C8.fnScope (top 75), [], []⟩
def d_out_once : DefA := ⟨fun K => ga K "out_once", "out_once", "out_once", C8.fnArgs (top 76), C8.fnBody (top 76), C8.fnScope (top 76), [], []⟩
def d_taken : DefA := ⟨fun K => ga K "taken", "taken", "taken", C8.fnArgs (top 77), C8.fnBody (top 77), C8.fnScope (top 77), [], []⟩
def d_gathered : DefA := ⟨fun K => ga K "gathered", "gathered", "gathered", C8.fnArgs (top 80), C8.fnBody (top 80), C8.fnScope (top 80), [], []⟩
def d_is_lead : DefA := ⟨fun K => ga K "is_lead", "is_lead", "is_lead", C8.fnArgs (top 81), C8.fnBody (top 81), C8.fnScope (top 81), [], []⟩
def d_times_number : DefA := ⟨fun K => ga K "times_number", "times_number", "times_number", C8.fnArgs (top 82), C8.fnBody (top 82), C8.fnScope (top 82), [], []⟩
def d_along_numbers : DefA := ⟨fun K => ga K "along_numbers", "along_numbers", "along_numbers", C8.fnArgs (top 83), C8.fnBody (top 83), C8.fnScope (top 83), [], []⟩
def d_cut : DefA := ⟨fun K => ga K "cut", "cut", "cut", C8.fnArgs (top 84), C8.fnBody (top 84), C8.fnScope (top 84), [], []⟩
def d_power_of : DefA := ⟨fun K => ga K "power_of", "power_of", "power_of", C8.fnArgs (top 86), C8.fnBody (top 86), C8.fnScope (top 86), [], []⟩
def d_with_factor : DefA := ⟨fun K => ga K "with_factor", "with_factor", "with_factor", C8.fnArgs (top 87), C8.fnBody (top 87), C8.fnScope (top 87), [], []⟩
def d_whole_along : DefA := ⟨fun K => ga K "whole_along", "whole_along", "whole_along", C8.fnArgs (top 88), C8.fnBody (top 88), C8.fnScope (top 88), [], []⟩
def d_along_at : DefA := ⟨fun K => ga K "along_at", "along_at", "along_at", C8.fnArgs (top 90), C8.fnBody (top 90), C8.fnScope (top 90), [], []⟩
def d_worth_at : DefA := ⟨fun K => ga K "worth_at", "worth_at", "worth_at", C8.fnArgs (top 89), C8.fnBody (top 89), C8.fnScope (top 89), [], []⟩
def d_worth : DefA := ⟨fun K => ga K "worth", "worth", "worth", C8.fnArgs (top 91), C8.fnBody (top 91), C8.fnScope (top 91), [], []⟩
def d_line_of : DefA := ⟨fun K => ga K "line_of", "line_of", "line_of", C8.fnArgs (top 92), C8.fnBody (top 92), C8.fnScope (top 92), [], []⟩
def d_slope : DefA := ⟨fun K => ga K "slope", "slope", "slope", C8.fnArgs (top 93), C8.fnBody (top 93), C8.fnScope (top 93), [], []⟩
def d_bend : DefA := ⟨fun K => ga K "bend", "bend", "bend", C8.fnArgs (top 94), C8.fnBody (top 94), C8.fnScope (top 94), [], []⟩
def d__law_pot : DefA := ⟨fun K => ga K "_law_pot", "_law_pot", "_law_pot", C8.fnArgs (top 96), C8.fnBody (top 96), C8.fnScope (top 96), [], []⟩
def d__law_draw : DefA := ⟨fun K => ga K "_law_draw", "_law_draw", "_law_draw", C8.fnArgs (top 97), C8.fnBody (top 97), C8.fnScope (top 97), [], []⟩
def d__law_amount : DefA := ⟨fun K => ga K "_law_amount", "_law_amount", "_law_amount", C8.fnArgs (top 99), C8.fnBody (top 99), C8.fnScope (top 99), [], []⟩
def d__law_counts : DefA := ⟨fun K => ga K "_law_counts", "_law_counts", "_law_counts", C8.fnArgs (top 100), C8.fnBody (top 100), C8.fnScope (top 100), [], []⟩
def d__law_parts : DefA := ⟨fun K => ga K "_law_parts", "_law_parts", "_law_parts", C8.fnArgs (top 101), C8.fnBody (top 101), C8.fnScope (top 101), [], []⟩
def d__law_numbers : DefA := ⟨fun K => ga K "_law_numbers", "_law_numbers", "_law_numbers", C8.fnArgs (top 105), C8.fnBody (top 105), C8.fnScope (top 105), [], []⟩
def d__law_blend : DefA := ⟨fun K => ga K "_law_blend", "_law_blend", "_law_blend", C8.fnArgs (top 102), C8.fnBody (top 102), C8.fnScope (top 102), [], []⟩
def d__law_told : DefA := ⟨fun K => ga K "_law_told", "_law_told", "_law_told", C8.fnArgs (top 103), C8.fnBody (top 103), C8.fnScope (top 103), [], []⟩
def d__law_add : DefA := ⟨fun K => ga K "_law_add", "_law_add", "_law_add", C8.fnArgs (top 104), C8.fnBody (top 104), C8.fnScope (top 104), [], []⟩
def d__law_along : DefA := ⟨fun K => ga K "_law_along", "_law_along", "_law_along", C8.fnArgs (top 106), C8.fnBody (top 106), C8.fnScope (top 106), [], []⟩
def d__law_pick : DefA := ⟨fun K => ga K "_law_pick", "_law_pick", "_law_pick", C8.fnArgs (top 98), C8.fnBody (top 98), C8.fnScope (top 98), [], []⟩
def d__law_along_right : DefA := ⟨fun K => ga K "_law_along_right", "_law_along_right", "_law_along_right", C8.fnArgs (top 107), C8.fnBody (top 107), C8.fnScope (top 107), [], []⟩
def d__law_cut_right : DefA := ⟨fun K => ga K "_law_cut_right", "_law_cut_right", "_law_cut_right", C8.fnArgs (top 108), C8.fnBody (top 108), C8.fnScope (top 108), [], []⟩
def d__law_right : DefA := ⟨fun K => ga K "_law_right", "_law_right", "_law_right", C8.fnArgs (top 109), C8.fnBody (top 109), C8.fnScope (top 109), [], []⟩
def d_law : DefA := ⟨fun K => ga K "law", "law", "law", C8.fnArgs (top 110), C8.fnBody (top 110), C8.fnScope (top 110), [], []⟩
def fn : List DefA := ([d_is_integer, d_is_count, d_is_list, d_want_many, d_want_at_most, d_common_part, d_common_bottom, d_Ratio, d_told_pair, d_radd, d_rmul, d_req, d_rsign, d_is_number, d_ratio_of, d_pair_sum, d_top_of, d_is_from_nought, d_is_above, d_wholes, d_is_small, d_is_letters, d_want_letters, d_are_counts, d_is_entry, d_Amounts, d_degree_of, d_letters, d_degree, d_is_nought] : List DefA) ++ ([d_entries, d_beq, d_want_blend, d_want_alike, d_stands, d_standing, d_bears, d_want_letter, d_told_list, d_want_weights, d_want_direction, d_amounts_sorted, d_told_amounts, d_Blend, d_blend_of, d_blends_added, d_badd, d_is_way_of, d_want_way, d_counts_of, d_holds, d_falling, d_left_by, d_out_once, d_taken, d_gathered, d_is_lead, d_times_number, d_along_numbers, d_cut] : List DefA) ++ ([d_power_of, d_with_factor, d_whole_along, d_along_at, d_worth_at, d_worth, d_line_of, d_slope, d_bend, d__law_pot, d__law_draw, d__law_amount, d__law_counts, d__law_parts, d__law_numbers, d__law_blend, d__law_told, d__law_add, d__law_along, d__law_pick, d__law_along_right, d__law_cut_right, d__law_right, d_law] : List DefA)
def fa : List Fa := ([.glo "is_integer", .glo "is_count", .glo "is_list", .glo "want_many", .glo "want_at_most", .glo "common_part", .glo "common_bottom", .glo "told_pair", .glo "is_number", .glo "ratio_of", .glo "pair_sum", .glo "top_of", .glo "is_from_nought", .glo "is_above", .glo "wholes", .glo "is_small", .glo "is_letters", .glo "want_letters", .glo "are_counts", .glo "is_entry", .glo "degree_of", .glo "want_blend", .glo "want_alike", .glo "stands", .glo "standing", .glo "want_letter", .glo "told_list", .glo "want_weights", .glo "want_direction", .glo "amounts_sorted"] : List Fa) ++ ([.glo "told_amounts", .glo "blend_of", .glo "blends_added", .glo "is_way_of", .glo "want_way", .glo "counts_of", .glo "holds", .glo "falling", .glo "left_by", .glo "out_once", .glo "taken", .glo "gathered", .glo "is_lead", .glo "times_number", .glo "along_numbers", .glo "cut", .glo "power_of", .glo "with_factor", .glo "whole_along", .glo "along_at", .glo "worth_at", .glo "worth", .glo "line_of", .glo "slope", .glo "bend", .glo "_law_pot", .glo "_law_draw", .glo "_law_amount", .glo "_law_counts", .glo "_law_parts"] : List Fa) ++ ([.glo "_law_numbers", .glo "_law_blend", .glo "_law_told", .glo "_law_add", .glo "_law_along", .glo "_law_pick", .glo "_law_along_right", .glo "_law_cut_right", .glo "_law_right", .glo "law", .glo "Ratio", .glo "Blend", .glo "Amounts", .free "isinstance", .free "int", .free "bool", .free "str", .free "list", .free "tuple", .free "dict", .free "len", .free "abs", .free "sum", .free "all", .free "any", .free "max", .free "divmod", .free "sorted", .free "range", .free "zip"] : List Fa) ++ ([.free "enumerate", .int "MOST_LETTERS" 8, .int "MOST_DEGREE" 8, .int "MOST_ENTRIES_blends" 300, .int "MOST_ENTRIES_changes" 300, .int "MOST_WAY" 8, .str "SMALL" "abcdefghijklmnopqrstuvwxyz", .cls "Ratio", .cls "Blend", .cls "Amounts", .mkr "Ratio", .mkr "Blend", .mkr "Amounts", .meth "Blend" "entries", .meth "Blend" "bears", .noat "Ratio" "own_top", .noat "Ratio" "own_bottom", .noat "Blend" "own_letters", .noat "Blend" "own_amounts", .noat "Blend" "own_degree", .noat "Blend" "own_bottom", .noat "Blend" "own_tops", .noat "Amounts" "own_dict"] : List Fa)
def ex : List (Frag → Bool) := [fun K => clB K (ga K "Ratio"), fun K => clB K (ga K "Blend"), fun K => clB K (ga K "Amounts"), fun K => opB K (ga K "Ratio") "__mul__", fun K => opRB K (ga K "Ratio") "__rmul__", fun K => opB K (ga K "Ratio") "__add__", fun K => opRB K (ga K "Ratio") "__radd__", fun K => opB K (ga K "Blend") "__add__", fun K => eqB K (ga K "Ratio"), fun K => eqB K (ga K "Blend"), fun K => prB K "Ratio" "sign", fun K => prB K "Blend" "letters", fun K => prB K "Blend" "degree", fun K => prB K "Blend" "is_nought", fun K => etB K]
abbrev hk : Hook := hookK fa fn ex
def ob (s : SharedT) : AlK := obsK fa fn ex (frK (HandSHeadRun.getT s))
theorem ob_eq (s : SharedT) : ob s = hk.obs s.abs := obsK_eq (HandSHeadRun.getT_eq s)
theorem run (w : World) : HandSHeadRun.RunEq Rw qv hk ob 60000 names w := by
  intro os
  kernel_rfl
end Km
end

section
set_option linter.all false
set_option Elab.async false
/-! The plain law: sums of products as lists, changes along numbers, worths, cuts. Core Lean alone. -/
namespace Km
abbrev Ky := List Nat
abbrev Poly := List (Ky × Rat)

/-! ### sums over the products -/
def ev (P : Poly) (f : Ky → Rat) : Rat := match P with
  | [] => 0
  | t :: r => t.2 * f t.1 + ev r f
theorem ev_nil (f : Ky → Rat) : ev [] f = 0 := rfl
theorem ev_cons (t : Ky × Rat) (r : Poly) (f : Ky → Rat) : ev (t :: r) f = t.2 * f t.1 + ev r f := rfl
theorem ev_app (f : Ky → Rat) : ∀ P Q : Poly, ev (P ++ Q) f = ev P f + ev Q f
  | [], Q => by rw [List.nil_append, ev_nil]; grind
  | t :: P, Q => by rw [List.cons_append, ev_cons, ev_cons, ev_app f P Q]; grind
theorem ev_congr {f g : Ky → Rat} : ∀ {P : Poly}, (∀ t ∈ P, f t.1 = g t.1) → ev P f = ev P g
  | [], _ => rfl
  | t :: P, h => by
    rw [ev_cons, ev_cons, h t (List.mem_cons_self ..), ev_congr (P := P) fun u hu => h u (List.mem_cons_of_mem _ hu)]
theorem ev_add (f g : Ky → Rat) : ∀ P : Poly, ev P (fun k => f k + g k) = ev P f + ev P g
  | [] => by simp only [ev_nil]; grind
  | t :: P => by rw [ev_cons, ev_cons, ev_cons, ev_add f g P]; grind
theorem ev_smul (c : Rat) (f : Ky → Rat) : ∀ P : Poly, ev P (fun k => c * f k) = c * ev P f
  | [] => by simp only [ev_nil]; grind
  | t :: P => by rw [ev_cons, ev_cons, ev_smul c f P]; grind
theorem ev_zero (P : Poly) {f : Ky → Rat} (h : ∀ t ∈ P, f t.1 = 0) : ev P f = 0 := by
  induction P with
  | nil => rfl
  | cons t P ih =>
    rw [ev_cons, h t (List.mem_cons_self ..), ih fun u hu => h u (List.mem_cons_of_mem _ hu)]
    grind
/-- each product turned into another one, times a number -/
theorem ev_map (g : Ky → Ky) (c : Ky → Rat) (f : Ky → Rat) : ∀ P : Poly, ev (P.map fun t => (g t.1, t.2 * c t.1)) f = ev P fun k => c k * f (g k)
  | [] => rfl
  | t :: P => by rw [List.map_cons, ev_cons, ev_cons, ev_map g c f P]; grind
theorem ev_scale (c : Rat) (f : Ky → Rat) (P : Poly) : ev (P.map fun t => (t.1, t.2 * c)) f = c * ev P f := by
  have h := ev_map (fun k => k) (fun _ => c) f P
  rw [ev_smul] at h
  exact h
theorem ev_filter (p : Ky → Bool) (f : Ky → Rat) : ∀ P : Poly, ev (P.filter fun t => p t.1) f = ev P fun k => if p k = true then f k else 0
  | [] => rfl
  | t :: P => by
    rw [List.filter_cons, ev_cons]
    by_cases h : p t.1 = true
    · rw [if_pos h, ev_cons, ev_filter p f P, if_pos h]
    · rw [if_neg h, ev_filter p f P, if_neg h]
      grind
/-- the products and their amounts: one product alone -/
def ind (k j : Ky) : Rat := if j = k then 1 else 0

/-! ### the sequence of keys -/
def lexlt : Ky → Ky → Bool
  | [], [] => false
  | [], _ :: _ => true
  | _ :: _, [] => false
  | a :: r, b :: s => decide (a < b) || (decide (a = b) && lexlt r s)
theorem lex_irr : ∀ k : Ky, lexlt k k = false
  | [] => rfl
  | a :: r => by
    show (decide (a < a) || (decide (a = a) && lexlt r r)) = false
    rw [lex_irr r]
    simp
theorem lex_trans : ∀ {a b c : Ky}, lexlt a b = true → lexlt b c = true → lexlt a c = true
  | [], [], _, h, _ => by cases h
  | [], _ :: _, [], _, h => by cases h
  | [], _ :: _, _ :: _, _, _ => rfl
  | _ :: _, [], _, h, _ => by cases h
  | _ :: _, _ :: _, [], _, h => by cases h
  | x :: r, y :: s, z :: t, h, g => by
    have h1 : (decide (x < y) || (decide (x = y) && lexlt r s)) = true := h
    have g1 : (decide (y < z) || (decide (y = z) && lexlt s t)) = true := g
    show (decide (x < z) || (decide (x = z) && lexlt r t)) = true
    simp only [Bool.or_eq_true, Bool.and_eq_true, decide_eq_true_eq] at h1 g1 ⊢
    rcases h1 with h1 | ⟨h1, h2⟩
    · rcases g1 with g1 | ⟨g1, g2⟩
      · exact .inl (by omega)
      · exact .inl (by omega)
    · rcases g1 with g1 | ⟨g1, g2⟩
      · exact .inl (by omega)
      · exact .inr ⟨by omega, lex_trans h2 g2⟩
theorem lex_tri : ∀ {a b : Ky}, lexlt a b = false → lexlt b a = false → a = b
  | [], [], _, _ => rfl
  | [], _ :: _, h, _ => by cases h
  | _ :: _, [], _, h => by cases h
  | x :: r, y :: s, h, g => by
    have h1 : (decide (x < y) || (decide (x = y) && lexlt r s)) = false := h
    have g1 : (decide (y < x) || (decide (y = x) && lexlt s r)) = false := g
    simp only [Bool.or_eq_false_iff, Bool.and_eq_false_iff, decide_eq_false_iff_not] at h1 g1
    obtain ⟨a1, a2⟩ := h1
    obtain ⟨b1, b2⟩ := g1
    have e : x = y := by omega
    subst e
    have a3 : lexlt r s = false := a2.resolve_left fun z => z rfl
    have b3 : lexlt s r = false := b2.resolve_left fun z => z rfl
    rw [lex_tri a3 b3]
theorem lex_ne {a b : Ky} (h : lexlt a b = true) : a ≠ b := fun e => by
  subst e
  rw [lex_irr] at h
  cases h

/-- the keys rise -/
def Rise (P : Poly) : Prop := P.Pairwise fun s t => lexlt s.1 t.1 = true
theorem Rise.nodup {P : Poly} (h : Rise P) : (P.map (·.1)).Nodup := by
  unfold List.Nodup
  rw [List.pairwise_map]
  exact List.Pairwise.imp (fun e => lex_ne e) h
theorem ev_ind_out {k : Ky} {P : Poly} (h : k ∉ P.map (·.1)) : ev P (ind k) = 0 := ev_zero P fun t ht => by
  unfold ind
  rw [if_neg]
  intro e
  exact h (List.mem_map.mpr ⟨t, ht, e⟩)
theorem ev_ind_in {k : Ky} {a : Rat} : ∀ {P : Poly}, (P.map (·.1)).Nodup → (k, a) ∈ P → ev P (ind k) = a
  | [], _, h => by cases h
  | t :: P, hn, h => by
    have hn : (t.1 :: P.map (·.1)).Nodup := hn
    obtain ⟨h1, h2⟩ := List.nodup_cons.mp hn
    rw [ev_cons]
    rcases List.mem_cons.mp h with e | e
    · have e1 : t.1 = k := by rw [← e]
      have e2 : t.2 = a := by rw [← e]
      rw [ev_ind_out (e1 ▸ h1), e2, e1]
      show a * (if k = k then 1 else 0) + 0 = a
      rw [if_pos rfl]
      grind
    · have ne : ¬ t.1 = k := fun q => h1 (List.mem_map.mpr ⟨(k, a), e, q.symm⟩)
      rw [ev_ind_in h2 e]
      show t.2 * (if t.1 = k then 1 else 0) + a = a
      rw [if_neg ne]
      grind
/-- two rising lists without noughts that say the same are one -/
theorem rise_one : ∀ {P Q : Poly}, Rise P → Rise Q → (∀ t ∈ P, t.2 ≠ 0) → (∀ t ∈ Q, t.2 ≠ 0) → (∀ k, ev P (ind k) = ev Q (ind k)) → P = Q := by
  intro P Q hP hQ nP nQ h
  have sub : ∀ {P Q : Poly}, Rise P → Rise Q → (∀ t ∈ P, t.2 ≠ 0) → (∀ k, ev P (ind k) = ev Q (ind k)) → ∀ t ∈ P, t ∈ Q := by
    intro P Q hP hQ nP h t ht
    have e1 := ev_ind_in (k := t.1) (a := t.2) hP.nodup ht
    by_cases hm : t.1 ∈ Q.map (·.1)
    · obtain ⟨u, hu, eu⟩ := List.mem_map.mp hm
      have e2 := ev_ind_in (k := u.1) (a := u.2) hQ.nodup hu
      rw [eu, ← h, e1] at e2
      have : u = t := Prod.ext eu e2.symm
      exact this ▸ hu
    · have e2 := ev_ind_out hm
      rw [← h, e1] at e2
      exact absurd e2 (nP t ht)
  have a := sub hP hQ nP h
  have b := sub hQ hP nQ fun k => (h k).symm
  clear nP nQ h sub
  induction P generalizing Q with
  | nil =>
    cases Q with
    | nil => rfl
    | cons t Q => exact absurd (b t (List.mem_cons_self ..)) (by simp)
  | cons p P ih =>
    cases Q with
    | nil => exact absurd (a p (List.mem_cons_self ..)) (by simp)
    | cons q Q =>
      obtain ⟨p1, p2⟩ := List.pairwise_cons.mp hP
      obtain ⟨q1, q2⟩ := List.pairwise_cons.mp hQ
      have e : p = q := by
        rcases List.mem_cons.mp (a p (List.mem_cons_self ..)) with e | e
        · exact e
        · rcases List.mem_cons.mp (b q (List.mem_cons_self ..)) with e' | e'
          · exact e'.symm
          · have z := lex_trans (q1 p e) (p1 q e')
            rw [lex_irr] at z
            cases z
      subst e
      refine congrArg (p :: ·) (ih p2 q2 (fun t ht => ?_) fun t ht => ?_)
      · rcases List.mem_cons.mp (a t (List.mem_cons_of_mem _ ht)) with e | e
        · exact absurd e.symm fun e => by
            have z := p1 t ht
            rw [e, lex_irr] at z
            cases z
        · exact e
      · rcases List.mem_cons.mp (b t (List.mem_cons_of_mem _ ht)) with e | e
        · exact absurd e.symm fun e => by
            have z := q1 t ht
            rw [e, lex_irr] at z
            cases z
        · exact e

/-- what is gathered out of pairs: rising, above 0, of the same sums -/
structure Gath (L P : Poly) : Prop where
  rise : Rise P
  pos : ∀ t ∈ P, 0 < t.2
  sum : ∀ f, ev P f = ev L f
  key : ∀ t ∈ P, ∃ s ∈ L, s.1 = t.1
theorem pos_ne {P : Poly} (h : ∀ t ∈ P, 0 < t.2) : ∀ t ∈ P, t.2 ≠ 0 := fun t ht e => by
  have := h t ht
  rw [e] at this
  exact absurd this (by decide)
theorem Gath.one {L M P Q : Poly} (a : Gath L P) (b : Gath M Q) (h : ∀ f, ev L f = ev M f) : P = Q :=
  rise_one a.rise b.rise (pos_ne a.pos) (pos_ne b.pos) fun k => by rw [a.sum, b.sum, h]
theorem Gath.self {P : Poly} (h : Rise P) (hp : ∀ t ∈ P, 0 < t.2) : Gath P P := ⟨h, hp, fun _ => rfl, fun t ht => ⟨t, ht, rfl⟩⟩
theorem Gath.nil {L P : Poly} (a : Gath L P) (h : ∀ f, ev L f = 0) : P = [] :=
  a.one (Gath.self (P := []) List.Pairwise.nil fun _ h => by cases h) fun f => (h f).trans (ev_nil f).symm
theorem Rise.filter {P : Poly} (p : Ky × Rat → Bool) (h : Rise P) : Rise (P.filter p) := List.Pairwise.filter p h

/-! ### changes along numbers -/
def dz : List Rat → (Ky → Rat) → Ky → Rat
  | x :: n, f, c :: k => x * (c : Rat) * f ((c - 1) :: k) + dz n (fun j => f (c :: j)) k
  | _, _, _ => 0
theorem dz_add : ∀ (n : List Rat) (f g : Ky → Rat) (k : Ky), dz n (fun j => f j + g j) k = dz n f k + dz n g k
  | [], f, g, k => by simp only [dz]; grind
  | x :: n, f, g, [] => by simp only [dz]; grind
  | x :: n, f, g, c :: k => by
    simp only [dz]
    rw [dz_add n (fun j => f (c :: j)) (fun j => g (c :: j)) k]
    grind
theorem dz_smul (r : Rat) : ∀ (n : List Rat) (f : Ky → Rat) (k : Ky), dz n (fun j => r * f j) k = r * dz n f k
  | [], f, k => by simp only [dz]; grind
  | x :: n, f, [] => by simp only [dz]; grind
  | x :: n, f, c :: k => by
    simp only [dz]
    rw [dz_smul r n (fun j => f (c :: j)) k]
    grind
theorem dz_comm : ∀ (n m : List Rat) (f : Ky → Rat) (k : Ky), n.length = m.length → dz n (dz m f) k = dz m (dz n f) k
  | [], [], f, k, _ => rfl
  | [], _ :: _, _, _, h => by cases h
  | _ :: _, [], _, _, h => by cases h
  | x :: n, y :: m, f, [], _ => rfl
  | x :: n, y :: m, f, c :: k, h => by
    have ih := dz_comm n m (fun j => f (c :: j)) k (Nat.succ.inj h)
    simp only [dz]
    rw [dz_add n (fun j => y * (c : Rat) * f ((c - 1) :: j)) (fun j => dz m (fun i => f (c :: i)) j) k, dz_add m (fun j => x * (c : Rat) * f ((c - 1) :: j)) (fun j => dz n (fun i => f (c :: i)) j) k, ih]
    rw [dz_smul (y * (c : Rat)) n (fun j => f ((c - 1) :: j)) k, dz_smul (x * (c : Rat)) m (fun j => f ((c - 1) :: j)) k]
    grind
def mono : List Rat → Ky → Rat
  | x :: w, c :: k => x ^ c * mono w k
  | _, _ => 1
def deg : Ky → Nat
  | [] => 0
  | c :: k => c + deg k
theorem pow_pred (x : Rat) (c : Nat) : (c : Rat) * (x * x ^ (c - 1)) = (c : Rat) * x ^ c := by
  cases c with
  | zero => simp
  | succ c => rw [Nat.add_sub_cancel, Rat.pow_succ]; grind
/-- along the weights themselves -/
theorem dz_euler : ∀ (w : List Rat) (k : Ky), w.length = k.length → dz w (mono w) k = (deg k : Rat) * mono w k
  | [], [], _ => by simp [dz, deg, mono]
  | [], _ :: _, h => by cases h
  | _ :: _, [], h => by cases h
  | x :: w, c :: k, h => by
    have ih := dz_euler w k (Nat.succ.inj h)
    have e := pow_pred x c
    have e2 : ((c + deg k : Nat) : Rat) = (c : Rat) + (deg k : Rat) := by push_cast; rfl
    simp only [dz, deg, mono]
    rw [dz_smul (x ^ c) w (mono w) k, ih, e2]
    grind

/-! ### the worth along a line, up to the second change -/
abbrev Tri := Rat × Rat × Rat
def step3 (x y : Rat) (r : Tri) : Tri := (r.1 * x, r.2.1 * x + r.1 * y, r.2.2 * x + r.2.1 * y)
def stepN (x y : Rat) : Nat → Tri → Tri
  | 0, r => r
  | c + 1, r => stepN x y c (step3 x y r)
def line3 : List Rat → List Rat → Ky → Tri → Tri
  | x :: w, y :: v, c :: k, r => line3 w v k (stepN x y c r)
  | _, _, _, r => r
def half2 (c : Nat) : Rat := (c : Rat) * ((c : Rat) - 1) / 2
theorem stepN_eq (x y : Rat) : ∀ (c : Nat) (r : Tri), stepN x y c r =
    (r.1 * x ^ c, r.2.1 * x ^ c + r.1 * ((c : Rat) * x ^ (c - 1) * y), r.2.2 * x ^ c + r.2.1 * ((c : Rat) * x ^ (c - 1) * y) + r.1 * (half2 c * x ^ (c - 2) * (y * y)))
  | 0, (a, b, c) => by
    simp only [stepN, half2]
    refine Prod.ext ?_ (Prod.ext ?_ ?_) <;> simp <;> grind
  | 1, (a, b, c) => by
    simp only [stepN, step3, half2]
    refine Prod.ext ?_ (Prod.ext ?_ ?_) <;> simp <;> grind
  | c + 2, (a, b, d) => by
    rw [stepN, stepN_eq x y (c + 1)]
    have e1 : c + 1 - 1 = c := rfl
    have e2 : c + 2 - 1 = c + 1 := rfl
    have e3 : c + 2 - 2 = c := rfl
    have e4 : c + 1 - 2 = c - 1 := rfl
    have p1 : x ^ (c + 1) = x ^ c * x := Rat.pow_succ x c
    have p2 : x ^ (c + 2) = x ^ c * x * x := by rw [Rat.pow_succ x (c + 1), p1]
    have p3 := pow_pred x c
    have c1 : ((c + 1 : Nat) : Rat) = (c : Rat) + 1 := by push_cast; rfl
    have c2 : ((c + 2 : Nat) : Rat) = (c : Rat) + 2 := by push_cast; rfl
    simp only [step3, half2, e1, e2, e3, e4, p1, p2, c1, c2]
    refine Prod.ext ?_ (Prod.ext ?_ ?_)
    · show a * x * (x ^ c * x) = _; grind
    · show (b * x + a * y) * (x ^ c * x) + a * x * (((c : Rat) + 1) * x ^ c * y) = b * (x ^ c * x * x) + a * (((c : Rat) + 2) * (x ^ c * x) * y); grind
    · show (d * x + b * y) * (x ^ c * x) + (b * x + a * y) * (((c : Rat) + 1) * x ^ c * y) + a * x * (((c : Rat) + 1) * ((c : Rat) + 1 - 1) / 2 * x ^ (c - 1) * (y * y)) = d * (x ^ c * x * x) + b * (((c : Rat) + 2) * (x ^ c * x) * y) + a * (((c : Rat) + 2) * ((c : Rat) + 2 - 1) / 2 * x ^ c * (y * y))
      have p4 : (c : Rat) * x * x ^ (c - 1) = (c : Rat) * x ^ c := by rw [← p3]; grind
      have p5 : a * x * (((c : Rat) + 1) * ((c : Rat) + 1 - 1) / 2 * x ^ (c - 1) * (y * y)) = a * (y * y) * ((c : Rat) + 1) / 2 * ((c : Rat) * x * x ^ (c - 1)) := by grind
      rw [p5, p4]
      grind
theorem pow_pred2 (x : Rat) (c : Nat) : (c : Rat) * ((c : Rat) - 1) * x ^ (c - 1 - 1) = (c : Rat) * ((c - 1 : Nat) : Rat) * x ^ (c - 2) := by
  cases c with
  | zero => simp
  | succ c =>
    have e : ((c + 1 : Nat) : Rat) = (c : Rat) + 1 := by push_cast; rfl
    have e1 : c + 1 - 1 - 1 = c + 1 - 2 := rfl
    rw [Nat.add_sub_cancel, e]
    have e2 : c - 1 = c + 1 - 2 := rfl
    rw [← e2]
    grind
/-- the three, by changes along the direction -/
theorem line3_eq : ∀ (w v : List Rat) (k : Ky) (r : Tri), w.length = k.length → v.length = k.length →
    line3 w v k r = (r.1 * mono w k, r.2.1 * mono w k + r.1 * dz v (mono w) k, r.2.2 * mono w k + r.2.1 * dz v (mono w) k + r.1 * (dz v (dz v (mono w)) k / 2))
  | [], [], [], (a, b, c), _, _ => by
    simp only [line3, mono, dz]
    refine Prod.ext ?_ (Prod.ext ?_ ?_) <;> simp <;> grind
  | [], _, _ :: _, _, h, _ => by cases h
  | _ :: _, _, [], _, h, _ => by cases h
  | _, [], _ :: _, _, _, h => by cases h
  | _, _ :: _, [], _, _, h => by cases h
  | x :: w, y :: v, c :: k, (a, b, d), h1, h2 => by
    have ih := line3_eq w v k (stepN x y c (a, b, d)) (Nat.succ.inj h1) (Nat.succ.inj h2)
    have s1 : ∀ j, dz v (fun j => x ^ j.head! * mono w j.tail) j = dz v (fun j => x ^ j.head! * mono w j.tail) j := fun _ => rfl
    have f0 : dz (y :: v) (mono (x :: w)) (c :: k) = y * (c : Rat) * (x ^ (c - 1) * mono w k) + x ^ c * dz v (mono w) k := by
      simp only [dz, mono]
      rw [dz_smul (x ^ c) v (mono w) k]
    have f1 : dz (y :: v) (dz (y :: v) (mono (x :: w))) (c :: k) = y * (c : Rat) * (y * ((c - 1 : Nat) : Rat) * (x ^ (c - 2) * mono w k) + x ^ (c - 1) * dz v (mono w) k) + (y * (c : Rat) * x ^ (c - 1) * dz v (mono w) k + x ^ c * dz v (dz v (mono w)) k) := by
      have e : c - 1 - 1 = c - 2 := rfl
      show y * (c : Rat) * dz (y :: v) (mono (x :: w)) ((c - 1) :: k) + dz v (fun j => dz (y :: v) (mono (x :: w)) (c :: j)) k = _
      have g1 : dz (y :: v) (mono (x :: w)) ((c - 1) :: k) = y * ((c - 1 : Nat) : Rat) * (x ^ (c - 2) * mono w k) + x ^ (c - 1) * dz v (mono w) k := by
        simp only [dz, mono, e]
        rw [dz_smul (x ^ (c - 1)) v (mono w) k]
      have g2 : (fun j => dz (y :: v) (mono (x :: w)) (c :: j)) = fun j => (y * (c : Rat) * x ^ (c - 1)) * mono w j + x ^ c * dz v (mono w) j := by
        funext j
        simp only [dz, mono]
        rw [dz_smul (x ^ c) v (mono w) j]
        grind
      rw [g1, g2, dz_add v (fun j => (y * (c : Rat) * x ^ (c - 1)) * mono w j) (fun j => x ^ c * dz v (mono w) j) k, dz_smul (y * (c : Rat) * x ^ (c - 1)) v (mono w) k, dz_smul (x ^ c) v (dz v (mono w)) k]
    rw [line3, ih, f0, f1, stepN_eq]
    have q := pow_pred2 x c
    have e5 : c - 1 - 1 = c - 2 := rfl
    rw [e5] at q
    simp only [mono, half2]
    refine Prod.ext ?_ (Prod.ext ?_ ?_)
    · show a * x ^ c * mono w k = _; grind
    · show (b * x ^ c + a * ((c : Rat) * x ^ (c - 1) * y)) * mono w k + a * x ^ c * dz v (mono w) k = b * (x ^ c * mono w k) + a * (y * (c : Rat) * (x ^ (c - 1) * mono w k) + x ^ c * dz v (mono w) k); grind
    · show (d * x ^ c + b * ((c : Rat) * x ^ (c - 1) * y) + a * ((c : Rat) * ((c : Rat) - 1) / 2 * x ^ (c - 2) * (y * y))) * mono w k + (b * x ^ c + a * ((c : Rat) * x ^ (c - 1) * y)) * dz v (mono w) k + a * x ^ c * (dz v (dz v (mono w)) k / 2) = _
      have q2 : (c : Rat) * ((c : Rat) - 1) / 2 * x ^ (c - 2) * (y * y) = (c : Rat) * ((c - 1 : Nat) : Rat) * x ^ (c - 2) * (y * y) / 2 := by rw [← q]; grind
      rw [q2]
      grind
end Km
end

section
set_option Elab.async false
set_option linter.all false
set_option maxRecDepth 100000
namespace Km
open PySem PySem.Spec PyProof.Rows L2
open C8 (fn0 fnScope_by Cal Mak Met pe_c pe_mk pe_mt pe_mt0 pe_gc)


/-! ### heaps: what stays -/
def NotFrz (u : HO) : Prop := ∀ o v, u ≠ .frz o v
/-- all that could be read may be read as before -/
structure Sm (H H' : Hp) : Prop where
  rd : ∀ b u, NotFrz u → Rd H b u → Rd H' b u
  obj : ∀ b u, NotFrz u → (∀ k, u ≠ .dT k) → H b = some u → H' b = some u
  dom : ∀ b, H' b = none → H b = none
theorem nf_lst {x} : NotFrz (.lst x) := fun _ _ e => by cases e
theorem nf_tup {x} : NotFrz (.tup x) := fun _ _ e => by cases e
theorem nf_dT {x} : NotFrz (.dT x) := fun _ _ e => by cases e
theorem nf_ins {C d f} : NotFrz (.ins C d f) := fun _ _ e => by cases e
theorem Sm.refl (H : Hp) : Sm H H := ⟨fun _ _ _ h => h, fun _ _ _ _ h => h, fun _ h => h⟩
theorem Sm.trans {A B D : Hp} (a : Sm A B) (b : Sm B D) : Sm A D :=
  ⟨fun x u n h => b.rd x u n (a.rd x u n h), fun x u n m h => b.obj x u n m (a.obj x u n m h), fun x h => a.dom x (b.dom x h)⟩
/-- an object that H does not know is laid or changed -/
theorem Sm.put {H H' : Hp} {p : Addr} {o : HO} (e : Sm H H') (h : H p = none) : Sm H (upd H' p o) := by
  have ne : ∀ b u, H b = some u → b ≠ p := fun b u q => ne_of_none q h
  refine ⟨fun b u n r => ?_, fun b u n m r => ?_, fun b r => ?_⟩
  · have hb : b ≠ p := by
      rcases r with r | ⟨o', r⟩
      · exact ne _ _ r
      · exact ne _ _ r
    have z := e.rd b u n r
    unfold Rd at z ⊢
    rw [upd_ne hb]
    exact z
  · rw [upd_ne (ne b u r)]
    exact e.obj b u n m r
  · by_cases hb : b = p
    · rw [hb, upd_same] at r
      cases r
    · rw [upd_ne hb] at r
      exact e.dom b r
theorem Sm.new {H : Hp} {p : Addr} {o : HO} (h : H p = none) : Sm H (upd H p o) := (Sm.refl H).put h
theorem Sm.of_same {H H' : Hp} (h : ∀ b o, H b = some o → H' b = some o) : Sm H H' := by
  refine ⟨fun b u _ r => r.elim (fun r => .inl (h _ _ r)) fun ⟨o, r⟩ => .inr ⟨o, h _ _ r⟩, fun b u _ _ r => h b u r, fun b r => ?_⟩
  cases q : H b with
  | none => rfl
  | some u =>
    rw [h b u q] at r
    cases r
/-- a dict is locked -/
theorem Sm.lock {H : Hp} {d : Addr} {k : List (List Key × V)} (o : Obj) (h : H d = some (.dT k)) : Sm H (upd H d (.frz o (.dT k))) := by
  refine ⟨fun b u n r => ?_, fun b u n m r => ?_, fun b r => ?_⟩
  · by_cases hb : b = d
    · subst hb
      rcases r with r | ⟨o', r⟩
      · rw [h] at r
        cases r
        exact .inr ⟨o, upd_same⟩
      · rw [h] at r
        cases r
    · unfold Rd at r ⊢
      rw [upd_ne hb]
      exact r
  · have hb : b ≠ d := fun e => by
      subst e
      rw [h] at r
      exact m k (Option.some.inj r).symm
    rw [upd_ne hb]
    exact r
  · by_cases hb : b = d
    · rw [hb, upd_same] at r
      cases r
    · rw [upd_ne hb] at r
      exact r
/-- .. and free again -/
theorem Sm.unlock {H H' : Hp} {d : Addr} {o : Obj} {k : List (List Key × V)} (h : H d = some (.dT k)) (e : Sm (upd H d (.frz o (.dT k))) H') : Sm H (upd H' d (.dT k)) := by
  have l := (Sm.lock o h).trans e
  refine ⟨fun b u n r => ?_, fun b u n m r => ?_, fun b r => ?_⟩
  · by_cases hb : b = d
    · subst hb
      rcases r with r | ⟨o', r⟩
      · rw [h] at r
        cases r
        exact .inl upd_same
      · rw [h] at r
        cases r
    · have z := l.rd b u n r
      unfold Rd at z ⊢
      rw [upd_ne hb]
      exact z
  · have hb : b ≠ d := fun e => by
      subst e
      rw [h] at r
      exact m k (Option.some.inj r).symm
    rw [upd_ne hb]
    exact l.obj b u n m r
  · by_cases hb : b = d
    · rw [hb, upd_same] at r
      cases r
    · rw [upd_ne hb] at r
      exact l.dom b r
theorem Sm.sq {K : PySem.W.Frag} {H H' : Hp} {a : Addr} {xs : List V} (e : Sm H H') (h : SqL K H a xs) : SqL K H' a xs := h.elim (fun h => .inl (e.rd _ _ nf_lst h)) .inr
theorem Sm.st {K : PySem.W.Frag} {H H' : Hp} {a : Addr} {xs : List V} (e : Sm H H') (h : SqT K H a xs) : SqT K H' a xs := h.elim (fun h => .inl (e.rd _ _ nf_tup h)) .inr
theorem sq_of {K : PySem.W.Frag} {H : Hp} {a : Addr} {xs : List V} (h : H a = some (.lst xs)) : SqL K H a xs := .inl (.inl h)
theorem st_of {K : PySem.W.Frag} {H : Hp} {a : Addr} {xs : List V} (h : H a = some (.tup xs)) : SqT K H a xs := .inl (.inl h)

/-! ### Ratios -/
def ratF (q : Rat) : List (Str × V) := [("own_top", .int q.num), ("own_bottom", .int (q.den : Int))]
def RatAt (C : Addr) (H : Hp) (p : Addr) (q : Rat) : Prop := ∃ dx, H p = some (.ins C dx (ratF q))
theorem RatAt.mono {C : Addr} {H H' : Hp} {p : Addr} {q : Rat} (e : Sm H H') (h : RatAt C H p q) : RatAt C H' p q :=
  let ⟨dx, z⟩ := h
  ⟨dx, e.obj p _ nf_ins (fun _ z => by cases z) z⟩
/-- a Ratio, a NUMBER -/
def RatV (C : Addr) (H : Hp) (v : V) (q : Rat) : Prop := ∃ p, v = .ref p ∧ RatAt C H p q
def NumV (C : Addr) (H : Hp) (v : V) (q : Rat) : Prop := (∃ n : Int, v = .int n ∧ q = n) ∨ RatV C H v q
theorem RatV.mono {C : Addr} {H H' : Hp} {v : V} {q : Rat} (e : Sm H H') (h : RatV C H v q) : RatV C H' v q :=
  let ⟨p, z, r⟩ := h
  ⟨p, z, r.mono e⟩
theorem NumV.mono {C : Addr} {H H' : Hp} {v : V} {q : Rat} (e : Sm H H') (h : NumV C H v q) : NumV C H' v q := h.imp id fun r => r.mono e
theorem lk_top (q : Rat) : (ratF q).lookup ("own_top" : Str) = some (.int q.num) := by rfl
theorem lk_bot (q : Rat) : (ratF q).lookup ("own_bottom" : Str) = some (.int (q.den : Int)) := by rfl
theorem lk_not {q : Rat} {m : Str} (h1 : (m == ("own_top" : Str)) = false) (h2 : (m == ("own_bottom" : Str)) = false) : (ratF q).lookup m = none := by
  unfold ratF
  rw [List.lookup_cons, h1, List.lookup_cons, h2]
  rfl

/-! ### what is asked of the text's classes -/
structure ClT (K : PySem.W.Frag) (C : Addr) : Prop where
  cl : Cls K C
  ha : PySem.W.findIn K (.ref C) "__class__" = some (some (.builtin "object.__class__"))
  hn : PySem.W.specialIn K (.builtin "object.__class__") "__get__" = some (some (.builtin "getset_descriptor.__get__"))
  ht : PySem.W.takesIn K (.builtin "object.__class__") = some true
  hm : PySem.W.mroIn K C (.type "object") = some true
  noI : PySem.W.kitOne K (.ref C) (.type "int") = some false
  noL : PySem.W.kitOne K (.ref C) (.type "list") = some false
  noT : PySem.W.kitOne K (.ref C) (.type "tuple") = some false
  is : PySem.W.kitOne K (.ref C) (.ref C) = some true
  iI : PySem.W.kitOne K (.type "int") (.ref C) = some false
  iT : PySem.W.kitOne K (.type "tuple") (.ref C) = some false
  iL : PySem.W.kitOne K (.type "list") (.ref C) = some false
  noS : PySem.W.kitOne K (.ref C) (.type "str") = some false
theorem ClT.ty {K : PySem.W.Frag} {C : Addr} (c : ClT K C) {H : Hp} {a dx : Addr} {fs : List (Str × V)} (e : H a = some (.ins C dx fs)) : TyX K H (.ref a) (.ref C) := .base (.ins e c.cl c.ha c.hn c.ht c.hm)
/-- the module's names -/
structure Nm (mg : Str → Option Value) : Prop where
  n_isinstance : mg "isinstance" = none
  n_int : mg "int" = none
  n_bool : mg "bool" = none
  n_str : mg "str" = none
  n_list : mg "list" = none
  n_tuple : mg "tuple" = none
  n_dict : mg "dict" = none
  n_len : mg "len" = none
  n_abs : mg "abs" = none
  n_sum : mg "sum" = none
  n_all : mg "all" = none
  n_any : mg "any" = none
  n_max : mg "max" = none
  n_divmod : mg "divmod" = none
  n_sorted : mg "sorted" = none
  n_range : mg "range" = none
  n_zip : mg "zip" = none
  n_enumerate : mg "enumerate" = none
structure Txt (K : PySem.W.Frag) (mg : Str → Option Value) (CR CB CA : Addr) : Prop extends Nm mg where
  R : ClT K CR
  B : ClT K CB
  A : ClT K CA
  k_Ratio : ∃ u, mg "Ratio" = some u ∧ RelV (.ref CR) u
  k_Blend : ∃ u, mg "Blend" = some u ∧ RelV (.ref CB) u
  k_Amounts : ∃ u, mg "Amounts" = some u ∧ RelV (.ref CA) u
  rTop : NoAttr K CR "own_top"
  bL : NoAttr K CB "own_letters"
  bA : NoAttr K CB "own_amounts"
  bD : NoAttr K CB "own_degree"
  bB : NoAttr K CB "own_bottom"
  bT : NoAttr K CB "own_tops"
  aD : NoAttr K CA "own_dict"
  c_SMALL : ∃ u, mg "SMALL" = some u ∧ RelV (.str "abcdefghijklmnopqrstuvwxyz") u
  c_MOST_LETTERS : ∃ u, mg "MOST_LETTERS" = some u ∧ RelV (.int 8) u
  c_MOST_DEGREE : ∃ u, mg "MOST_DEGREE" = some u ∧ RelV (.int 8) u
  c_MOST_ENTRIES_blends : ∃ u, mg "MOST_ENTRIES_blends" = some u ∧ RelV (.int 300) u
  c_MOST_ENTRIES_changes : ∃ u, mg "MOST_ENTRIES_changes" = some u ∧ RelV (.int 300) u
  c_MOST_WAY : ∃ u, mg "MOST_WAY" = some u ∧ RelV (.int 8) u
  rBot : NoAttr K CR "own_bottom"
theorem boot_bool : bootBuiltins "bool" = some (.type "bool") := by decide +kernel
end Km
end

section
set_option Elab.async false
set_option linter.all false
set_option maxRecDepth 100000
namespace Km
open PySem PySem.W PySem.Calls PyProof.Rows Builtin
section
variable {M : Model} {K : Frag} {C f g : Addr}
theorem inPy_K {h : Heap} {nm : String} (X : K.In h) (hs : findIn K (.ref C) (PySem.dunder nm) = some (some (.ref f))) (hr : findIn K (.ref C) (dunderR nm) = some (some (.ref g))) : Looks M h (numberSlotInPython (.ref C) nm) true := by
  intro A Q E s k q
  unfold numberSlotInPython
  dsimp only
  refine wpAny_bind (looks_findIn X hs A _ E s k ?_)
  refine wpAny_bind (wpAny_pure ?_)
  refine wpAny_bind (looks_findIn X hr A _ E s k ?_)
  refine wpAny_bind (wpAny_pure ?_)
  simp only [Bool.or_self, if_true]
  exact wpAny_pure q
end
section
variable {prog : Program} {w : World} {A : Around} {E : Value → Shared → Prop} {s : Shared} {K : Frag} {x C L f g : Addr} {h0 : Heap} {m : Str → Option Value} {ox : Obj} {od : Option Obj}
/-- an own operator's left side, an int at its right -/
theorem binop1I_K {nm : String} {n : Int} {t : Tok} {ri : Option Value} {Q : Option Value → Shared → Prop} (X : K.In s.heap) (I : InstAt s.heap x ox C od) (hc : selfFirst K C = true)
    (hs : findIn K (.ref C) (PySem.dunder nm) = some (some (.ref f))) (hr : findIn K (.ref C) (dunderR nm) = some (some (.ref g))) (hi : fillsNumberSlot (.type "int") nm = pure true)
    (hri : findIn K (.type "int") (dunderR nm) = some ri) (hsub : subIn K (.type "int") (.ref C) = some false) (hf : isFn K (.ref f) = true)
    (h : wpAny (model prog w) A (call (.ref f) [.ref x, .int n t]) (W.CmpBack (fun v s' => Q (some v) s')) E s) : wpAny (model prog w) A (binaryOp1 nm (.ref x) (.int n t)) Q E s := by
  obtain ⟨cd, hcd, hm⟩ := any_some hc
  obtain ⟨rest, hm⟩ : ∃ rest, cd.mro = .ref C :: rest := by
    cases q : cd.mro with
    | nil =>
      rw [q] at hm
      cases hm
    | cons a r =>
      rw [q, List.head?_cons] at hm
      exact ⟨r, by cases (beq_iff_eq.mp hm); rfl⟩
  unfold binaryOp1
  refine wpAny_bind (I.type.here (wpAny_bind (wpAny_pure (wpAny_bind ((fills_K X hcd hm hs).here ?_)))))
  have e1 : (Value.ref C == Value.type "int") = false := rfl
  simp only [e1, hi, Bool.false_eq_true, if_false]
  refine wpAny_bind (wpAny_pure ?_)
  simp only [Bool.and_self, if_true]
  refine wpAny_bind ((looks_subIn X hsub).here ?_)
  simp only [Bool.false_eq_true, if_false, Bool.not_false, Bool.and_self, if_true]
  refine wpAny_bind ((inPy_K X hs hr).here ?_)
  simp only [if_true]
  refine wpAny_bind (m := numberSlotInPython (.type "int") nm) (wpAny_pure ?_)
  simp only [Bool.not_false, if_true]
  refine wpAny_bind ((looks_findIn X hri).here ?_)
  refine wpAny_bind (m := tryMethod (.ref x) _ (.int n t)) ?_
  unfold tryMethod
  refine wpAny_bind (special_fn X I hs (beq_iff_eq.mp hf) (wpAny_mono h (fun v s' hv => ?_) fun _ _ e => e))
  cases v <;> first | exact hv.elim | exact wpAny_pure (wpAny_pure hv)
theorem binopI_K {op : Operator} {n : Int} {t : Tok} {ri : Option Value} {Q : Value → Shared → Prop} (X : K.In s.heap) (I : InstAt s.heap x ox C od) (hc : selfFirst K C = true)
    (hs : findIn K (.ref C) (PySem.dunder op.info.2) = some (some (.ref f))) (hr : findIn K (.ref C) (dunderR op.info.2) = some (some (.ref g))) (hi : fillsNumberSlot (.type "int") op.info.2 = pure true)
    (hri : findIn K (.type "int") (dunderR op.info.2) = some ri) (hsub : subIn K (.type "int") (.ref C) = some false) (hf : isFn K (.ref f) = true)
    (h : wpAny (model prog w) A (call (.ref f) [.ref x, .int n t]) (W.CmpBack Q) E s) : wpAny (model prog w) A (binaryOp op (.ref x) (.int n t)) Q E s := by
  unfold binaryOp
  refine wpAny_holding (wpAny_bind ?_)
  exact binop1I_K X I hc hs hr hi hri hsub hf (wpAny_mono h (fun v s' hv => by cases v <;> first | exact hv.elim | exact wpAny_pure hv) fun _ _ e => e)
end
end Km
end

section
set_option Elab.async false
set_option linter.all false
set_option maxRecDepth 100000
namespace Km
open PySem PySem.W PySem.Calls PyProof.Rows Builtin
theorem ne_slot : Slot "object" "__ne__" "object.__ne__" :=
  .of (owner := "object") (n := "__ne__") (by rw [typeLookup_type, builtinLookup_eq_fast]; kernel_rfl) (by decide +kernel) (by decide +kernel) (by decide +kernel) (.inl (by decide +kernel)) (by rw [isSubtype_type]; kernel_rfl)
section
variable {prog : Program} {w : World} {A : Around} {E : Value → Shared → Prop} {s : Shared} {K : Frag} {x C L f : Addr} {ox : Obj} {od : Option Obj} {b : Value}
/-- x != b by the own == of x's class -/
theorem ne_own_K {Q : Value → Shared → Prop} (hu : A.units + 1 < cLine) (X : K.In s.heap) (I : InstAt s.heap x ox C od) (hb : Looks (model prog w) s.heap (typeOf b) (.ref C))
    (hn : findIn K (.ref C) "__ne__" = some (some (.builtin "object.__ne__"))) (ho : subIn K (.ref C) (.type "object") = some true)
    (hs : findIn K (.ref C) "__eq__" = some (some (.ref f))) (hf : isFn K (.ref f) = true)
    (h : wpAny (model prog w) A.in1 (call (.ref f) [.ref x, b]) (fun v s' => ∃ r, v = .bool r ∧ Q (.bool (!r)) s') E s) : wpAny (model prog w) A (richCompare .NotEq (.ref x) b) Q E s := by
  have one : wpAny (model prog w) A (tryCompare (.ref x) "__ne__" b) (fun r s' => ∃ v, r = some v ∧ Q v s') E s := by
    unfold tryCompare callSpecialIfBound? bindSpecialIfBound?
    refine wpAny_bind (wpAny_holding (wpAny_bind (wpAny_bind (wpAny_bind (I.type.here ((looks_findIn X hn).here ?_))))))
    simp only [ne_slot.bind]
    have fin : wpAny (model prog w) A (call (.builtin "object.__ne__") ([.ref x] ++ [b]) >>= fun v => pure (some v)) (fun r s' => wpAny (model prog w) A (match r with | some Value.notImplemented => pure none | none => pure none | some v => pure (some v)) (fun r s' => ∃ v, r = some v ∧ Q v s') E s') E s := by
      refine wpAny_bind (wpAny_call (codeAny_call_builtin ne_slot.plain PySem.F.cmpEntry_ne (check_slot PySem.F.cmpKind_ne PySem.F.cmpSplit_ne (I.type.andThen (looks_subIn X ho)) (PySem.F.cmpArgs_ne _ _) ?_)))
      unfold Builtin.«object.__ne__»
      have hu1 : A.in1.units < cLine := hu
      show wpAny (model prog w) A.in1 (slotArgs "__ne__" 1 { pos := [Value.ref x, b] } >>= _) _ _ s
      have e1 : slotArgs "__ne__" 1 { pos := [Value.ref x, b] } = pure (Value.ref x, [b]) := rfl
      rw [e1]
      refine wpAny_bind (wpAny_pure ?_)
      dsimp only
      refine wpAny_bind (wpAny_cRoomFor hu1 ?_)
      refine wpAny_bind (ifBound_K X I hs hf (wpAny_mono h (fun v s' hv => ?_) fun _ _ e => e))
      obtain ⟨r, rfl, q⟩ := hv
      dsimp only
      refine wpAny_bind (wpAny_truthy_bool ?_)
      exact wpAny_pure (wpAny_pure (wpAny_pure ⟨_, rfl, q⟩))
    refine wpAny_bind (wpAny_askSetting (wpAny_ite ?_))
    split
    · exact wpAny_bind (wpAny_pure (wpAny_pure fin))
    · exact wpAny_tryCatch (wpAny_bind (wpAny_pure (wpAny_pure fin)))
  unfold richCompare
  simp only [oneThing_ref]
  refine wpAny_holding (wpAny_bind (wpAny_cRoomFor (by omega) ?_))
  refine wpAny_bind (I.type.here (wpAny_bind (hb.here ?_)))
  rw [if_neg (show ¬ (Value.ref C != Value.ref C) = true by simp)]
  refine wpAny_bind (wpAny_pure ?_)
  simp only [Bool.false_eq_true, if_false]
  refine wpAny_bind (wpAny_mono one (fun r s' z => ?_) fun _ _ e => e)
  obtain ⟨v, rfl, hq⟩ := z
  exact wpAny_pure hq
end
end Km
end

section
set_option Elab.async false
set_option linter.all false
set_option maxRecDepth 100000
namespace Km
open PySem PySem.SeqAt
open AutoSeq1 (wpAny_loadPart')
open MeetsSeq MeetsSeq2 MeetsSeq3 SeqRoads2
section
variable {prog : Program} {w : World} {A : Around} {R : Result → Shared → Prop}
/-- the loop of != over two lists whose items are equal, one by one -/
theorem ne_loopK (l b : Addr) (N : Nat) (I : Nat → Shared → Prop) (hl : GQ.ListI prog w A (fun e s' => R (.error e) s') l b N I) (fin : ∀ s, I N s → R (.ok (.ret (.bool false))) s) :
    ∀ k i : Nat, N - i = k → i ≤ N → ∀ s, I i s →
      wpAny (model prog w) A.in1 (Builtin.«list.__eq__.loop» ⟨[.ref l, .ref b, rawInt i, rawInt 3], []⟩) (GQ.FinOf prog w A R) (fun e s' => R (.error e) s') s := by
  intro k
  induction k with
  | zero =>
    intro i hk hi s h
    obtain ⟨xs, ys, n, n2, e1, e2, z1, z2, _⟩ := hl i s h
    have hR : R (.ok (.ret (.bool false))) s := fin s ((show i = N by omega) ▸ h)
    have o1 : xs[((i : Nat) : Int).toNat]? = none := by simp; omega
    have o2 : ys[((i : Nat) : Int).toNat]? = none := by simp; omega
    obtain ⟨hp, g, d, tk, os⟩ := s
    wp_walk using wpAny_loadPart' e1, wpAny_loadPart' e2
    rw [o1, o2]
    wp_walk using wpAny_loadPart' e1, wpAny_loadPart' e2
    show R (.ok (.ret (.bool (xs.size != ys.size)))) _
    rw [z1, z2]
    simpa using hR
  | succ k ih =>
    intro i hk hi s h
    obtain ⟨xs, ys, n, n2, e1, e2, z1, z2, turn⟩ := hl i s h
    have l1 : i < xs.size := by omega
    have l2 : i < ys.size := by omega
    have ht := turn l1 l2
    have o1 : xs[((i : Nat) : Int).toNat]? = some xs[i] := by simp [l1]
    have o2 : ys[((i : Nat) : Int).toNat]? = some ys[i] := by simp [l2]
    obtain ⟨hp, g, d, tk, os⟩ := s
    wp_walk using wpAny_loadPart' e1, wpAny_loadPart' e2
    rw [o1, o2]
    refine wpAny_bind (wpAny_mono ht (fun r s2 hr => ?_) fun _ _ z => z)
    obtain ⟨er, h2⟩ := hr
    subst er
    have next := ih (i + 1) (by omega) (by omega) s2 h2
    obtain ⟨hp2, g2, d2, tk2, os2⟩ := s2
    wp_walk
    rw [show ((i : Int) + 1) = ((i + 1 : Nat) : Int) by omega]
    refine ⟨plainId_quiet plain_eq_loop _, codeAny_builtin entry_eq_loop ?_⟩
    rw [Around.under_plainId plain_eq_loop _]
    exact next
theorem list_neK (l b : Addr) (N : Nat) (I : Nat → Shared → Prop) (hl : GQ.ListI prog w A (fun e s' => R (.error e) s') l b N I) (fin : ∀ s, I N s → R (.ok (.ret (.bool false))) s) {s : Shared} (h : I 0 s) :
    wpAny (model prog w) A.in1 (Builtin.«list.__ne__» ⟨[.ref l, .ref b], []⟩) (GQ.FinOf prog w A R) (fun e s' => R (.error e) s') s := by
  obtain ⟨xs, ys, n, n2, e1, e2, z1, z2, _⟩ := hl 0 s h
  have loop := ne_loopK (A := A) (R := R) l b N I hl fin _ 0 rfl (Nat.zero_le _) s h
  have isl := AutoSeq1.sub_list_list
  have same : ¬ (xs.size != ys.size) = true := by simp [z1, z2]
  obtain ⟨hp, g, d, tk, os⟩ := s
  wp_walk using wpAny_loadPart' e1, wpAny_loadPart' e2
  refine ⟨plainId_quiet plain_eq_loop _, codeAny_builtin entry_eq_loop ?_⟩
  rw [Around.under_plainId plain_eq_loop _]
  exact loop
end
section
variable {prog : Program} {w : World} {A : Around} {E : Value → Shared → Prop} {s : Shared}
theorem rcne_listK {l b : Addr} {N : Nat} {Q : Value → Shared → Prop} (hu : A.units < cLine) (I : Nat → Shared → Prop) (hl : GQ.ListI prog w A E l b N I) (fin : ∀ s, I N s → Q (.bool false) s) (h : I 0 s) :
    wpAny (model prog w) A (richCompare .NotEq (.ref l) (.ref b)) Q E s := by
  obtain ⟨xs, ys, n, n2, e1, e2, _⟩ := hl 0 s h
  refine wpAny_richCompare_same_room (op := .NotEq) ⟨_, e1, rfl⟩ ⟨_, e2, rfl⟩ F.slot_list_ne (GQ.call_here F.slot_list_ne ⟨_, e1, rfl⟩ F.entry_list_ne (F.args_list_ne_2 _ _) ?_) hu
  exact list_neK (R := wants (fun v s' => v ≠ .notImplemented ∧ Q v s') E) l b N I hl (fun s' q => ⟨(fun z => nomatch z), fin s' q⟩) h
end
end Km
end

section
set_option Elab.async false
set_option linter.all false
set_option maxRecDepth 100000
namespace Km
open PySem PySem.Spec PyProof.Rows L2
section
variable {X : Cx} {n m : Nat} {D : Eqv}
/-- xs != ys, lists of equal items -/
theorem op_neL (hD : Mon D) (h : EqG X n D) (hr : Room (n + 1) X.A) : OpR X (compareOp .NotEq) (fun x y H Q => DList D x y H ∧ ∀ H', Ext H H' → Q (.bl false) H') := by
  intro pins s σ H x y v u Q I rx ry hq
  obtain ⟨⟨a, b, xs, ys, rfl, rfl, ha, hb, p⟩, q⟩ := hq
  cases rx
  cases ry
  show wpAny (model X.prog X.w) X.A (richCompare .NotEq (.ref a) (.ref b)) (EP X pins σ Q) X.xe s
  refine rcne_listK (N := xs.length) hr.units0 (fun _ s' => LoopI X pins σ H s') (fun i s' z => ?_) (fun s' z => ?_) ⟨H, I, Ext.rfl'⟩
  · obtain ⟨H1, I1, e1⟩ := id z
    obtain ⟨_, us, k1, r1, g1⟩ := I1.hok a _ (e1 _ _ ha)
    obtain ⟨_, ws, k2, r2, g2⟩ := I1.hok b _ (e1 _ _ hb)
    refine ⟨us.toArray, ws.toArray, k1, k2, g1, g2, ?_, ?_, fun h1 h2 => ?_⟩
    · rw [List.size_toArray, ← r1.length]
    · rw [List.size_toArray, ← r2.length, ← p.1]
    · exact turnG hD h (A := X.A) ⟨hr, rfl⟩ p r1 r2 i h1 h2 s' z
  · obtain ⟨H1, I1, e1⟩ := z
    exact ⟨.bl false, H1, I1, rfl, q H1 e1⟩
/-- x == y, x != y by the own == of the class at C: sp its promise; both stand in H -/
def rOwnEq (C : Addr) (sp : Sp) (neg : Bool) : R2 := fun x y H Q => ∃ a b dx dy fs gs, x = .ref a ∧ y = .ref b ∧ H a = some (.ins C dx fs) ∧ H b = some (.ins C dy gs) ∧
  sp [.ref a, .ref b] H (fun v H' => ∃ r, v = .bl r ∧ Q (.bl (if neg then !r else r)) H') E0
theorem ins_K {pins : List (Addr × Obj)} {σ : L2.St} {H : Hp} {s : Shared} {a C dx : Addr} {fs : List (Str × V)} (I : Inv X pins σ H s) (e : H a = some (.ins C dx fs)) :
    ∃ ox od, PySem.W.InstAt s.heap a ox C (some od) := by
  obtain ⟨mA, J, _⟩ := ins_get I.hok e
  obtain ⟨od, J, _⟩ := J.look
  exact ⟨_, od, J⟩
variable {C f : Addr} {fd : FuncData} {ps : List Str} {sp : Sp}
theorem op_eqOwn (F : FnOk X.prog X.w X.K X.mg X.base CX0 n f fd ps sp) (hr : Room n X.A) (hs : PySem.W.findIn X.K (.ref C) "__eq__" = some (some (.ref f))) (hf : PySem.W.isFn X.K (.ref f) = true) (hb : Binds X.K fd ps []) :
    OpR X (compareOp .Eq) (rOwnEq C sp false) := by
  intro pins s σ H x y v u Q I rx ry hq
  obtain ⟨a, b, dx, dy, fs, gs, rfl, rfl, ha, hb', q⟩ := hq
  cases rx
  cases ry
  obtain ⟨ox, od, J⟩ := ins_K I ha
  obtain ⟨oy, od', J'⟩ := ins_K I hb'
  obtain ⟨m, hF⟩ := I.fr
  refine PySem.W.cmp_K (op := .Eq) (tb := .ref C) hr.units0 hF I.ok.mod.kin J J'.type (by simp [PySem.W.notFirst]) hs hf ?_
  have r2 : Vals [V.ref a, V.ref b] [Value.ref a, Value.ref b] := .cons rfl (.cons rfl .nil)
  refine thn (run_fn (us := [.ref a, .ref b]) F hr hb .nil (pass0 (X := X)) I r2 q) fun u s1 z => ?_
  obtain ⟨v, H1, I1, rv, r, rfl, q1⟩ := z
  cases rv
  exact ⟨.bl r, H1, I1, rfl, q1⟩
theorem op_neOwn (F : FnOk X.prog X.w X.K X.mg X.base CX0 n f fd ps sp) (hr : Room (n + 1) X.A) (hs : PySem.W.findIn X.K (.ref C) "__eq__" = some (some (.ref f))) (hf : PySem.W.isFn X.K (.ref f) = true) (hb : Binds X.K fd ps [])
    (hn : PySem.W.findIn X.K (.ref C) "__ne__" = some (some (.builtin "object.__ne__"))) (ho : PySem.W.subIn X.K (.ref C) (.type "object") = some true) : OpR X (compareOp .NotEq) (rOwnEq C sp true) := by
  intro pins s σ H x y v u Q I rx ry hq
  obtain ⟨a, b, dx, dy, fs, gs, rfl, rfl, ha, hb', q⟩ := hq
  cases rx
  cases ry
  obtain ⟨ox, od, J⟩ := ins_K I ha
  obtain ⟨oy, od', J'⟩ := ins_K I hb'
  refine ne_own_K (by have := hr.un; omega) I.kIn J J'.type hn ho hs hf ?_
  have r2 : Vals [V.ref a, V.ref b] [Value.ref a, Value.ref b] := .cons rfl (.cons rfl .nil)
  have hl := F.len _ _ _ _ q
  refine wpAny_call (codeAny_mono (F.run X.A.in1 X.stack s H ⟨[.ref a, .ref b], []⟩ [.ref a, .ref b] [.ref a, .ref b] _ E0 hr.in1 I.env0.in1 (by
    have z := hb s [.ref a, .ref b] I.kIn hl
    exact z) r2 q) fun r s' z => ?_)
  cases r with
  | error e => exact z.elim
  | ok fl =>
    cases fl with
    | ret w =>
      obtain ⟨v, H', I', rv, r, ev, q1⟩ := I.after z
      subst ev
      cases rv
      exact ⟨r, rfl, .bl (!r), H', I', rfl, q1⟩
    | next => exact False.elim z
    | brk => exact False.elim z
    | cont => exact False.elim z
end
end Km
end

section
set_option Elab.async false
set_option linter.all false
set_option maxRecDepth 100000
namespace Km
open PySem PySem.Spec PyProof.Rows L2
section
variable {X : Cx}
/-- == of two values that leaves the abstract heap as it is -/
def EqN (X : Cx) (A : Around) (pins : List (Addr × Obj)) (σ : L2.St) (H : Hp) (x y : V) : Prop :=
  ∀ (s : Shared) (u v : Value), Inv X pins σ H s → RelV x u → RelV y v → wpAny (model X.prog X.w) A (eqBool u v) (fun r s' => r = true ∧ Inv X pins σ H s') X.xe s
theorem samePairsK {A : Around} {pins : List (Addr × Obj)} {σ : L2.St} {H : Hp} {s : Shared} {nm : String} {a b : Addr} {oa ob : Obj} {ka kb : List (List Key × V)} {Q : Bool → Shared → Prop}
    (hu : (tupleKind (mixKind X.prog X.w)).room A) (I : Inv X pins σ H s) (ha : H a = some (.frz oa (.dT ka))) (hb : H b = some (.frz ob (.dT kb))) (hl : ka.length = kb.length)
    (hits : ∀ p ∈ ka, ∃ u, valV kb p.1 = some u ∧ EqN X A pins σ H p.2 u) (h : ∀ s', Inv X pins σ H s' → Q true s') : wpAny (model X.prog X.w) A (Builtin.Dict.samePairs nm a b) Q X.xe s := by
  have geta : ∀ s', Inv X pins σ H s' → s'.heap.get? a = some oa := fun s' I' => (I'.hok a _ ha).1
  have getb : ∀ s', Inv X pins σ H s' → s'.heap.get? b = some ob := fun s' I' => (I'.hok b _ hb).1
  obtain ⟨_, sa, xa, ta, oa', ea, pa, ga, _, da, la, _⟩ := (I.hok a _ ha).2
  obtain ⟨_, sb, xb, tb, ob', eb, pb, gb, _, db, lb, nb⟩ := (I.hok b _ hb).2
  have ea0 : oa' = oa := Option.some.inj (ga.symm.trans (geta s I))
  have eb0 : ob' = ob := Option.some.inj (gb.symm.trans (getb s I))
  subst ea0 eb0
  have na : ea.size = ka.length := by rw [size_of_entries la, ← Paired.length ta]
  have nb2 : eb.size = kb.length := by rw [size_of_entries lb, ← Paired.length tb]
  have isb : ∀ s', Inv X pins σ H s' → ∀ x ∈ xb, (tupleKind (mixKind X.prog X.w)).is s'.heap x.1 x.2.1 := fun s' I' => by
    have all : ∀ {l : List (List Key × V)} {m : List (List Key × Addr × Value)}, KT H l m → ∀ x ∈ m, (tupleKind (mixKind X.prog X.w)).is s'.heap x.1 x.2.1 := fun {l m} r => by
      induction r with
      | nil => intro x hx; cases hx
      | cons p _ ih =>
        intro x hx
        rcases List.mem_cons.mp hx with e | e
        · rw [e]
          exact key_of I'.hok (p.1 ▸ p.2.1)
        · exact ih x e
    exact all tb
  unfold Builtin.Dict.samePairs Builtin.Dict.showsAll
  rw [if_neg (show ¬ (a == sysModules) = true by rw [sa]; exact Bool.false_ne_true), if_neg (show ¬ (b == sysModules) = true by rw [sb]; exact Bool.false_ne_true)]
  refine wpAny_bind (wpAny_pure (wpAny_bind (wpAny_pure ?_)))
  refine wpAny_bind (wpAny_dictEntries (geta s I) da ?_)
  dsimp only
  refine wpAny_bind (wpAny_dictEntries (getb s I) db ?_)
  rw [if_neg (by rw [na, nb2, hl]; simp)]
  refine wpAny_bind (wpAny_dictEpoch (geta s I) da ?_)
  refine wpAny_bind ?_
  rw [Std.Legacy.Range.forIn_eq_forIn_range']
  simp only [Std.Legacy.Range.size, Nat.sub_zero, Nat.add_sub_cancel, Nat.div_one]
  refine wpAny_forIn_list _ (fun rest q s' => q = (none, ()) ∧ Inv X pins σ H s' ∧ ∃ i, rest = List.range' i (ea.size - i) ∧ i ≤ ea.size) _ ?_ ?_ _ _ ⟨rfl, I, 0, by simp, Nat.zero_le _⟩
  · rintro x rest q s' ⟨rfl, I', i, hr, hi⟩
    have hlt : i < ea.size := by
      rcases Nat.lt_or_ge i ea.size with z | z
      · exact z
      · rw [Nat.sub_eq_zero_of_le z] at hr
        simp at hr
    obtain ⟨ex, hrest⟩ : x = i ∧ rest = List.range' (i + 1) (ea.size - (i + 1)) := by
      rw [show ea.size - i = (ea.size - (i + 1)) + 1 by omega, List.range'_succ] at hr
      injection hr with h1 h2
      exact ⟨h1, h2⟩
    subst ex
    have hka : x < ka.length := by omega
    obtain ⟨⟨k, q0, v0⟩, hx, k1, k2, k3⟩ := L2.paired_get (G := fun (p : List Key × V) (q : List Key × Addr × Value) => p.1 = q.1 ∧ H q.2.1 = some (.tup (p.1.map kV)) ∧ RelV p.2 q.2.2) ta (List.getElem?_eq_getElem hka)
    obtain ⟨u, hv, eqn⟩ := hits ka[x] (List.getElem_mem hka)
    have k1' : ka[x].1 = k := k1
    refine wpAny_bind (wpAny_dictEntries (geta s' I') da ?_)
    rw [entry_at la x, hx]
    dsimp only [Option.map_some, entryOfKey]
    refine wpAny_bind (wpAny_holding (wpAny_bind ?_))
    rw [← k1']
    refine wpAny_dictFind_heap (knd := tupleKind (mixKind X.prog X.w)) (xs := xb) hu (key_of I'.hok k2) (getb s' I') db lb (isb s' I') nb (fun hno => ?_) (fun j p hj => ?_)
    · have tv := KT.val (H := H) tb ka[x].1
      rw [hv, atKey_none_of_get hno] at tv
      exact tv.elim
    · have tv := KT.val (H := H) tb ka[x].1
      rw [hv, atKey_of_get nb hj] at tv
      dsimp only
      refine wpAny_bind (wpAny_dictEntries (getb s' I') db ?_)
      rw [entry_at lb j, hj]
      dsimp only [Option.map_some, entryOfKey]
      refine wpAny_holding (wpAny_mono (eqn s' v0 p.2 I' k3 tv) (fun r s2 z => ?_) fun _ _ e => e)
      obtain ⟨rfl, I2⟩ := z
      simp only [Bool.not_true, Bool.false_eq_true, if_false]
      refine wpAny_bind (wpAny_dictEpoch (geta s2 I2) da ?_)
      rw [if_neg (by simp)]
      exact wpAny_pure ⟨rfl, I2, x + 1, hrest, hlt⟩
  · rintro q s' ⟨rfl, I', i, hr, hi⟩
    exact wpAny_pure (h s' I')
/-- two unlocked dicts of tuple keys with equal values: == -/
def rEqDT (X : Cx) : R2 := fun x y H Q => ∃ a b ka kb, x = .ref a ∧ y = .ref b ∧ H a = some (.dT ka) ∧ H b = some (.dT kb) ∧ ka.length = kb.length ∧
  (∀ HL : Hp, (∀ c C dx fs, H c = some (.ins C dx fs) → HL c = some (.ins C dx fs)) → ∀ pins σ, ∀ p ∈ ka, ∃ u, valV kb p.1 = some u ∧ EqN X X.A.in1 pins σ HL p.2 u) ∧ Q (.bl true) H
theorem dictEqK {pins : List (Addr × Obj)} {σ : L2.St} {H : Hp} {s : Shared} {a b : Addr} {oa ob : Obj} {ka kb : List (List Key × V)} {Q : Value → Shared → Prop}
    (hu : X.A.units + 2 < cLine) (I : Inv X pins σ H s) (ha : H a = some (.frz oa (.dT ka))) (hb : H b = some (.frz ob (.dT kb))) (hl : ka.length = kb.length) (ta : s.TypeIs (.ref a) "dict") (tb : s.TypeIs (.ref b) "dict")
    (hits : ∀ p ∈ ka, ∃ u, valV kb p.1 = some u ∧ EqN X X.A.in1 pins σ H p.2 u) (h : ∀ s', Inv X pins σ H s' → Q (.bool true) s') : wpAny (model X.prog X.w) X.A (richCompare .Eq (.ref a) (.ref b)) Q X.xe s := by
  refine wpAny_richCompare_same_room (op := .Eq) ta tb PySem.F.slot_dict_eq (wpAny_call_entry PySem.F.slot_dict_eq ta PySem.F.entry_dict_eq ?_ (PySem.F.args_dict_eq_2 _ _)) (by omega)
  show wpAny _ _ (Builtin.Dict.dictSlotArgs "__eq__" ⟨[.ref a, .ref b], []⟩ >>= _) _ _ s
  unfold Builtin.Dict.dictSlotArgs
  refine wpAny_bind (wpAny_bind (wpAny_notOrdered_dict ta (wpAny_pure (wpAny_bind (wpAny_isInstance (T := "dict") tb PySem.F.sub_dict_dict ?_)))))
  simp only [Bool.not_true, Bool.false_eq_true, if_false]
  refine wpAny_bind (wpAny_pure (wpAny_bind (wpAny_pure ?_)))
  refine wpAny_bind (samePairsK (A := X.A.in1) (tupleKind_room_in1 (by omega)) I ha hb hl hits fun s' I3 => ?_)
  exact wpAny_pure ⟨_, rfl, (fun z => nomatch z), h s' I3⟩
theorem op_eqDT (hu : X.A.units + 2 < cLine) : OpR X (compareOp .Eq) (rEqDT X) := by
  intro pins s σ H x y v u Q I rx ry hq
  obtain ⟨a, b, ka, kb, rfl, rfl, ha, hb, hl, hits, q⟩ := hq
  cases rx
  cases ry
  have mu : ∀ k : List (List Key × V), Mut (some (.dT k)) := fun _ => True.intro
  have ta : s.TypeIs (.ref a) "dict" := (isD_at I (.inr ⟨ka, .inl ha⟩)).1
  have tb : s.TypeIs (.ref b) "dict" := (isD_at I (.inr ⟨kb, .inl hb⟩)).1
  have na := I.nofrz ha (mu ka)
  have nb := I.nofrz hb (mu kb)
  obtain ⟨oa, I1⟩ := I.lock ha (mu ka)
  show wpAny (model X.prog X.w) X.A (richCompare .Eq (.ref a) (.ref b)) (EP X pins σ Q) X.xe s
  have keep1 : ∀ c C dx fs, H c = some (.ins C dx fs) → (upd H a (.frz oa (.dT ka))) c = some (.ins C dx fs) := fun c C dx fs e => by
    rw [upd_ne (ne_of e ha (fun z => by cases z))]
    exact e
  by_cases ne : a = b
  · subst ne
    have ek : ka = kb := by
      rw [ha] at hb
      injection hb with hb
      injection hb
    subst ek
    refine dictEqK hu I1 upd_same upd_same hl ta tb (hits _ keep1 pins σ) fun s' I3 => ?_
    have I4 := I3.unlock upd_same na
    have e : upd (upd H a (.frz oa (.dT ka))) a (.dT ka) = H := by
      rw [upd_upd]
      funext c
      by_cases hc : c = a
      · rw [hc, upd_same, ha]
      · rw [upd_ne hc]
    rw [e] at I4
    exact ⟨.bl true, H, I4, rfl, q⟩
  · have hb1 : (upd H a (.frz oa (.dT ka))) b = some (.dT kb) := by
      rw [upd_ne (Ne.symm ne)]
      exact hb
    obtain ⟨ob, I2⟩ := I1.lock hb1 (mu kb)
    have hal : (upd (upd H a (.frz oa (.dT ka))) b (.frz ob (.dT kb))) a = some (.frz oa (.dT ka)) := by rw [upd_ne ne, upd_same]
    have keep2 : ∀ c C dx fs, H c = some (.ins C dx fs) → (upd (upd H a (.frz oa (.dT ka))) b (.frz ob (.dT kb))) c = some (.ins C dx fs) := fun c C dx fs e => by
      rw [upd_ne (ne_of e hb (fun z => by cases z))]
      exact keep1 c C dx fs e
    refine dictEqK hu I2 hal upd_same hl ta tb (hits _ keep2 pins σ) fun s' I3 => ?_
    have I4 : Inv X pins σ (upd (upd (upd H a (.frz oa (.dT ka))) b (.frz ob (.dT kb))) b (.dT kb)) s' := I3.unlock upd_same nb
    rw [upd_upd] at I4
    have e4 : (upd (upd H a (.frz oa (.dT ka))) b (.dT kb)) a = some (.frz oa (.dT ka)) := by rw [upd_ne ne, upd_same]
    have I5 := I4.unlock e4 na
    have e5 : upd (upd (upd H a (.frz oa (.dT ka))) b (.dT kb)) a (.dT ka) = H := by
      funext c
      by_cases hc : c = a
      · rw [hc, upd_same, ha]
      · rw [upd_ne hc]
        by_cases hd : c = b
        · rw [hd, upd_same, hb]
        · rw [upd_ne hd, upd_ne hc]
    rw [e5] at I5
    exact ⟨.bl true, H, I5, rfl, q⟩
/-- == inside a list, a tuple, a dict, of two instances by their own == that leaves the heap as it is -/
theorem eqN_own {n : Nat} {A : Around} {C f : Addr} {fd : FuncData} {ps : List Str} {sp : Sp} {pins : List (Addr × Obj)} {σ : L2.St} {H : Hp} {p q dx dy : Addr} {fs gs : List (Str × V)} (F : FnOk X.prog X.w X.K X.mg X.base CX0 n f fd ps sp) (hr : Room n A) (hfr : A.frames = X.A.frames)
    (hs : PySem.W.findIn X.K (.ref C) "__eq__" = some (some (.ref f))) (hf : PySem.W.isFn X.K (.ref f) = true) (hb : Binds X.K fd ps []) (hp : H p = some (.ins C dx fs)) (hq : H q = some (.ins C dy gs))
    (h : sp [.ref p, .ref q] H (fun v H' => v = .bl true ∧ H' = H) E0) : EqN X A pins σ H (.ref p) (.ref q) := by
  intro s u v I ru rv
  cases ru
  cases rv
  by_cases e : p = q
  · subst e
    exact SeqAt.EqAt.same (A := A) (s := s) (.ref p) X.prog X.w X.xe _ ⟨rfl, I⟩
  · refine GQ.eqBool_refG e ?_
    obtain ⟨ox, od, J⟩ := ins_K I hp
    obtain ⟨oy, od', J'⟩ := ins_K I hq
    obtain ⟨m, hF⟩ := I.fr
    refine PySem.W.cmp_K (op := .Eq) (tb := .ref C) hr.units0 hF I.ok.mod.kin J J'.type (by simp [PySem.W.notFirst]) hs hf ?_
    have e0 : Env0 X.prog X.w X.K X.mg X.base A X.stack s H := by
      have z := I.env0
      exact ⟨hfr.trans z.frames, z.mod, z.bs, z.bsz, z.funs, z.frf, z.hok, z.bare⟩
    have r2 : Vals [V.ref p, V.ref q] [Value.ref p, Value.ref q] := .cons rfl (.cons rfl .nil)
    refine wpAny_call (codeAny_mono (F.run A X.stack s H ⟨[.ref p, .ref q], []⟩ [.ref p, .ref q] [.ref p, .ref q] _ E0 hr e0 (hb s [.ref p, .ref q] I.kIn (F.len _ _ _ _ h)) r2 h) fun r s' z => ?_)
    cases r with
    | error e => exact z.elim
    | ok fl =>
      cases fl with
      | ret w =>
        obtain ⟨v, H', I', rv, ev, eh⟩ := I.after z
        subst ev
        subst eh
        cases rv
        exact ⟨true, rfl, rfl, I'⟩
      | next => exact False.elim z
      | brk => exact False.elim z
      | cont => exact False.elim z
end
end Km
end

section
set_option Elab.async false
set_option linter.all false
set_option maxRecDepth 100000
namespace Km
open PySem PySem.Spec PyProof.Rows L2
/-- what an own operator wants of its class: nm is "add", "mul"; g the reflected one -/
structure OpK (K : PySem.W.Frag) (C f : Addr) (nm : String) : Prop where
  sf : PySem.W.selfFirst K C = true
  at_ : PySem.W.findIn K (.ref C) (PySem.dunder nm) = some (some (.ref f))
  fn : PySem.W.isFn K (.ref f) = true
structure OpKI (K : PySem.W.Frag) (C f : Addr) (nm : String) : Prop extends OpK K C f nm where
  rf : ∃ g, PySem.W.findIn K (.ref C) (dunderR nm) = some (some (.ref g))
  ri : ∃ r, PySem.W.findIn K (.type "int") (dunderR nm) = some r
  fi : fillsNumberSlot (.type "int") nm = pure true
  sub : PySem.W.subIn K (.type "int") (.ref C) = some false
section
variable {X : Cx} {n : Nat} {C f : Addr} {fd : FuncData} {ps : List Str} {sp : Sp}
theorem back_of {M : Model} {A : Around} {t : Sem Value} {pins : List (Addr × Obj)} {σ : L2.St} {Q : VK} {E : Value → Shared → Prop} {s : Shared} (h : wpAny M A t (EP X pins σ Q) E s) : wpAny M A t (PySem.W.CmpBack (EP X pins σ Q)) E s :=
  thn h fun u s' z => by
    obtain ⟨v, H', I', r, q⟩ := z
    cases u <;> first | exact ⟨v, H', I', r, q⟩ | (cases v <;> first | exact (nomatch r) | (obtain ⟨_, z⟩ := r; exact nomatch z))
/-- x op y, both of the class at C -/
def rOwnOp (C : Addr) (sp : Sp) : R2 := fun x y H Q => ∃ a b dx dy fs gs, x = .ref a ∧ y = .ref b ∧ H a = some (.ins C dx fs) ∧ H b = some (.ins C dy gs) ∧ sp [.ref a, .ref b] H Q E0
theorem op_own {op : Operator} (F : FnOk X.prog X.w X.K X.mg X.base CX0 n f fd ps sp) (hr : Room n X.A) (hb : Binds X.K fd ps []) (k : OpK X.K C f op.info.2) : OpR X (binaryOp op) (rOwnOp C sp) := by
  intro pins s σ H x y v u Q I rx ry hq
  obtain ⟨a, b, dx, dy, fs, gs, rfl, rfl, ha, hb', q⟩ := hq
  cases rx
  cases ry
  obtain ⟨ox, od, J⟩ := ins_K I ha
  obtain ⟨oy, od', J'⟩ := ins_K I hb'
  obtain ⟨m, hF⟩ := I.fr
  have r2 : Vals [V.ref a, V.ref b] [Value.ref a, Value.ref b] := .cons rfl (.cons rfl .nil)
  exact PySem.W.binop_K hF I.ok.mod.kin J J'.type k.sf k.at_ k.fn (back_of (run_fn (us := [.ref a, .ref b]) F hr hb .nil (pass0 (X := X)) I r2 q))
/-- x op y, y of the class at C or an int -/
def rOwnOpI (C : Addr) (sp : Sp) : R2 := fun x y H Q => ∃ a dx fs, x = .ref a ∧ H a = some (.ins C dx fs) ∧ ((∃ b dy gs, y = .ref b ∧ H b = some (.ins C dy gs)) ∨ ∃ i, y = .int i) ∧ sp [.ref a, y] H Q E0
theorem op_ownI {op : Operator} (F : FnOk X.prog X.w X.K X.mg X.base CX0 n f fd ps sp) (hr : Room n X.A) (hb : Binds X.K fd ps []) (k : OpKI X.K C f op.info.2) : OpR X (binaryOp op) (rOwnOpI C sp) := by
  intro pins s σ H x y v u Q I rx ry hq
  obtain ⟨a, dx, fs, rfl, ha, hy, q⟩ := hq
  rcases hy with ⟨b, dy, gs, rfl, hb'⟩ | ⟨i, rfl⟩
  · exact op_own F hr hb k.toOpK pins s σ H _ _ v u Q I rx ry ⟨a, b, dx, dy, fs, gs, rfl, rfl, ha, hb', q⟩
  · cases rx
    obtain ⟨t, rfl⟩ := ry
    obtain ⟨ox, od, J⟩ := ins_K I ha
    obtain ⟨g, rf⟩ := k.rf
    obtain ⟨r, ri⟩ := k.ri
    have r2 : Vals [V.ref a, V.int i] [Value.ref a, Value.int i t] := .cons rfl (.cons ⟨t, rfl⟩ .nil)
    exact binopI_K I.kIn J k.sf k.at_ rf k.fi ri k.sub k.fn (back_of (run_fn (us := [.ref a, .int i t]) F hr hb .nil (pass0 (X := X)) I r2 q))
/-- a property's bundle: its getter's promise -/
structure Prp (P : Program) (w : World) (K : PySem.W.Frag) (mg : Str → Option Value) (base : Heap) (k : Nat) (C : Addr) (f : Str) (sp : Sp) : Prop where
  ex : ∃ (p g : Addr) (fd : FuncData) (ps : List Str), Cls K C ∧ PropOf K C f p g ∧ FnOk P w K mg base CX0 k g fd ps sp ∧ Binds K fd ps []
theorem pe_pr {k j : Nat} {e : Expr} {x : Str} {pos : Pos} {ta : TE} (c : Prp X.prog X.w X.K X.mg X.base k C x sp) (hr : Room j X.A) (hk : k + 1 ≤ j) (he : PE X e ta) (hab : attributeBase e x X.env (eval e X.env) = eval e X.env) :
    PE X (.Attribute e x pos) (tProp C sp [] E0 ta) := by
  obtain ⟨p, g, fd, ps, c1, c2, F, b⟩ := c.ex
  exact pe_prop he c1 c2 F (hr.mono hk) b .nil pass0 hab
end
end Km
end

section
set_option Elab.async false
set_option linter.all false
set_option maxRecDepth 100000
namespace Km
open PySem PySem.Spec PyProof.Rows L2
/-! ### enumerate and zip of lists, tuples, texts -/
inductive Src where
  | lst (a : Addr)
  | tup (a : Addr)
  | txt (z : Str)
def Src.v : Src → V
  | .lst a => .ref a
  | .tup a => .ref a
  | .txt z => .str z
def signs (z : Str) : List V := z.cps.toList.map fun c => V.str ⟨#[c]⟩
def Src.C (K : PySem.W.Frag) (H : Hp) (xs : List V) : Src → Prop
  | .lst a => SqL K H a xs
  | .tup a => SqT K H a xs
  | .txt z => xs = signs z
def Src.at_ (h : Heap) (it : Addr) (i : Nat) : Src → Prop
  | .lst a => h.IsListIter it a i
  | .tup a => h.IsTupleIter it a i
  | .txt z => ∃ t, h.IsStrIter it (strIterType z) z t i
def Src.rst : Src → List Addr
  | .lst a => [a]
  | .tup a => [a]
  | .txt _ => []
abbrev Src.fp (it : Addr) (S : Src) : List Addr := it :: S.rst
def Src.off (it : Addr) : Src → Prop
  | .lst a => a ≠ it
  | .tup a => a ≠ it
  | .txt _ => True
theorem Src.mem (S : Src) (it : Addr) : it ∈ S.fp it := List.mem_cons_self ..
section
variable {X : Cx} {pins : List (Addr × Obj)} {σ : L2.St} {H : Hp} {s : Shared}
theorem Src.inj (I : Inv X pins σ H s) {S : Src} {xs ys : List V} (a : S.C X.K H xs) (b : S.C X.K H ys) : xs = ys := by
  cases S with
  | lst p => exact I.list_inj a b
  | tup p => exact I.tuple_inj a b
  | txt z => exact Eq.trans a (Eq.symm b)
theorem Src.draws (I : Inv X pins σ H s) (A : Around) (hh : A.handled = none) {S : Src} {xs : List V} {it : Addr} {i : Nat} (c : S.C X.K H xs) (st : S.at_ s.heap it i) (off : S.off it) :
    ∃ (P : Nat → Value → Prop) (St : Nat → Heap → Prop), Draws X.prog X.w A it (S.fp it) xs.length P St ∧ St i s.heap ∧ (∀ j h, St j h → S.at_ h it j) ∧ ∀ j u, P j u → ∃ x, xs[j]? = some x ∧ RelV x u := by
  cases S with
  | lst a =>
    obtain ⟨us, r, p, _⟩ := I.list c
    have hl : xs.length = us.toArray.size := by rw [List.size_toArray]; exact r.length
    refine ⟨_, _, hl ▸ Draws.list hh it a off us.toArray, ⟨st, p.isList⟩, fun j h z => z.1, fun j u z => ?_⟩
    have z : us[j]? = some u := by simpa using z
    have hj : j < xs.length := by
      rw [r.length]
      exact (List.getElem?_eq_some_iff.mp z).1
    obtain ⟨u', e1, e2⟩ := r.get (List.getElem?_eq_getElem hj)
    rw [z] at e1
    cases e1
    exact ⟨_, List.getElem?_eq_getElem hj, e2⟩
  | tup a =>
    obtain ⟨us, r, p, _⟩ := I.tuple c
    have hl : xs.length = us.toArray.size := by rw [List.size_toArray]; exact r.length
    refine ⟨_, _, hl ▸ Draws.tuple hh it a off us.toArray, ⟨st, p⟩, fun j h z => z.1, fun j u z => ?_⟩
    have z : us[j]? = some u := by simpa using z
    have hj : j < xs.length := by
      rw [r.length]
      exact (List.getElem?_eq_some_iff.mp z).1
    obtain ⟨u', e1, e2⟩ := r.get (List.getElem?_eq_getElem hj)
    rw [z] at e1
    cases e1
    exact ⟨_, List.getElem?_eq_getElem hj, e2⟩
  | txt z =>
    obtain ⟨t, st⟩ := st
    have hl : xs.length = z.cps.size := by rw [show xs = signs z from c]; simp [signs]
    refine ⟨_, _, hl ▸ Draws.text hh it z t, st, fun j h q => ⟨t, q⟩, fun j u q => ?_⟩
    obtain ⟨c', tk, e, rfl⟩ := q
    refine ⟨.str ⟨#[c']⟩, ?_, tk, rfl⟩
    rw [show xs = signs z from c]
    unfold signs
    rw [List.getElem?_map, Array.getElem?_toList, e]
    rfl
theorem Src.obj {S : Src} {h : Heap} {it : Addr} {i : Nat} (st : S.at_ h it i) : ∃ o, h.get? it = some o ∧ ∀ v, o.data ≠ .cell v := by
  cases S with
  | lst a =>
    obtain ⟨o, e, _, d⟩ := st
    exact ⟨o, e, fun v z => by rw [d] at z; cases z⟩
  | tup a =>
    obtain ⟨o, e, _, d⟩ := st
    exact ⟨o, e, fun v z => by rw [d] at z; cases z⟩
  | txt z =>
    obtain ⟨t, o, e, _, d⟩ := st
    exact ⟨o, e, fun v z => by rw [d] at z; cases z⟩
theorem Src.stay {S : Src} {h h' : Heap} {it : Addr} {i : Nat} (st : S.at_ h it i) (k : ∀ o, h.get? it = some o → h'.get? it = some o) : S.at_ h' it i := by
  cases S with
  | lst a => exact Heap.IsListIter.at st k
  | tup a => exact Heap.IsTupleIter.at st k
  | txt z =>
    obtain ⟨t, o, e, c, d⟩ := st
    exact ⟨t, o, k o e, c, d⟩
end
/-- each item in a new pair, with its number -/
def IteS (K : PySem.W.Frag) (S : Src) : It :=
  ⟨fun i H => ∃ (xs : List V) (x : V), S.C K H xs ∧ xs[i]? = some x, fun i H v H' => ∃ T x, v = .ref T ∧ H T = none ∧ H' = upd H T (.tup [.int (i : Nat), x]) ∧ ∀ xs, S.C K H xs → xs[i]? = some x, fun i H => ∃ xs : List V, S.C K H xs ∧ xs.length = i⟩
theorem turn_enumS {P : Program} {w : World} {K : PySem.W.Frag} {elts : List Expr} {kk : Nat} {tpos : Pos} {S : Src} {e it : Addr} (hne : e ≠ it) (hef : e ∉ S.fp it) (off : S.off it) :
    Turn P w K (.Tuple elts kk tpos) (IteS K S) [e, it] e (fun i h => (∃ old, IsEnum h e it ((i : Nat) : Int) old) ∧ S.at_ h it i) where
  mem := List.mem_cons_self ..
  obj := fun i h st b hb => by
    obtain ⟨⟨old, he⟩, hi⟩ := st
    rcases List.mem_cons.mp hb with z | z
    · rw [z]
      exact ⟨_, he, fun v q => nomatch q⟩
    · rw [List.mem_singleton.mp z]
      exact Src.obj hi
  keep := fun i h h' st k => by
    obtain ⟨⟨old, he⟩, hi⟩ := st
    exact ⟨⟨old, k e (by simp) _ he⟩, Src.stay hi fun o q => k it (by simp) o q⟩
  item := by
    intro X hP hw hK hc i pins s σ H E I hf st hg
    subst hP hw hK
    obtain ⟨⟨old, he⟩, hit⟩ := st
    obtain ⟨xs, x, hq, hx⟩ := hg
    obtain ⟨Pp, St, D, d0, dn, dv⟩ := Src.draws I X.A.in1 (I.ok.hd hc) hq hit off
    have hlt : i < xs.length := (List.getElem?_eq_some_iff.mp hx).1
    have hel : e < s.heap.objs.size := Heap.lt_size he
    have hil : it < s.heap.objs.size := by
      obtain ⟨_, q, _⟩ := Src.obj hit
      exact Heap.lt_size q
    refine wpAny_pyNext_enum_itemC D he d0 hlt hne hef fun u h' tk hP ho hs' hT hsz hk => ?_
    refine ⟨_, rfl, wpAny_letOwnedTupleGo_enum (s := { s with heap := h', toks := tk + 1 }) ho fun h'' he' sb => ?_⟩
    obtain ⟨x', ex, ru⟩ := dv i u hP
    rw [hx] at ex
    cases ex
    have hT2 : h''.get? s.heap.objs.size = some { cls := .type "tuple", data := .seq #[.int i tk, u] } := (sb.2 _ (Nat.ne_of_gt hel)).trans hT
    have new : ObjOk X.prog X.w (upd H s.heap.objs.size (.tup [.int (i : Nat), x])) h'' s.heap.objs.size (.tup [.int (i : Nat), x]) :=
      ⟨by show 2 ≤ sizeLine; decide, [.int i tk, u], .cons ⟨tk, rfl⟩ (.cons ru .nil), _, hT2, rfl, _, rfl⟩
    have I1 : Inv X pins σ (upd H s.heap.objs.size (.tup [.int (i : Nat), x])) { s with heap := h'', toks := tk + 1 } :=
      I.turnedNew (t' := tk + 1) (ch := [e, it]) (fun b ob hb q => (sb.2 b (fun z => hb (by simp [z]))).trans (hk b ob (fun z => hb (by simp [z])) (fun z => hb (by simp [z])) q)) hf (Nat.le_refl _) new
    refine ⟨.ref s.heap.objs.size, _, I1, rfl, ⟨_, x, rfl, I.hok.fresh (Nat.le_refl _), rfl, fun ys hy => ?_⟩, ⟨⟨u, ?_⟩, Src.stay (dn _ _ hs') fun o q => (sb.2 it (Ne.symm hne)).trans q⟩, fun b hb => ?_⟩
    · rw [Src.inj I hy hq]
      exact hx
    · rw [show ((i + 1 : Nat) : Int) = (i : Int) + 1 by omega]
      exact he'
    · have hb' : b < s.heap.objs.size := by
        rcases List.mem_cons.mp hb with z | z
        · rw [z]
          exact hel
        · rw [List.mem_singleton.mp z]
          exact hil
      rw [upd_ne (Nat.ne_of_lt hb')]
      exact (hf b hb).1
  done := by
    intro X hP hw hK hc i pins s σ H E I hf st hg
    subst hP hw hK
    obtain ⟨⟨old, he⟩, hit⟩ := st
    obtain ⟨xs, hq, hx⟩ := hg
    obtain ⟨Pp, St, D, d0, dn, dv⟩ := Src.draws I X.A.in1 (I.ok.hd hc) hq hit off
    obtain ⟨f0, f1, f2, f3, f4, f5⟩ := hf it (by simp)
    subst hx
    exact wpAny_pyNext_enum_endD D he d0 fun h' eb => ⟨rfl, I.turned (t' := s.toks) (fun b o hb q => eb b o hb q) f0 f1 f3 f4 f5⟩
  self := fun A i s Q E st h => by
    obtain ⟨⟨_, he⟩, _⟩ := st
    exact wpAny_pyIter_enum he h
set_option maxHeartbeats 1000000 in
theorem meets_enum1 {v : Value} {o : Obj} {C : Heap → Prop} (B : Begins v o C) :
    Meets (Builtin.«enumerate.__new__» ⟨[.type "enumerate", v], []⟩) (fun _ R s => C s.heap ∧
      R (.ok (.ret (.ref (s.heap.push o).objs.size))) { s with heap := (s.heap.push o).push { cls := .type "enumerate", data := .fields #[.none, .bool false, .ref s.heap.objs.size, rawInt 0, .none, .none] } }) :=
  .of_wp fun prog w A R s h => by
    obtain ⟨hp, g, d, tk, os⟩ := s
    obtain ⟨h1, h⟩ := h
    have hsub := sub_enumerate
    have q1 : ∀ {A' : Around} {E : Value → Shared → Prop} {Q : Value → Shared → Prop}, Q (.ref hp.objs.size) ⟨hp.push o, g, d, tk, os⟩ → wpAny (model prog w) A' (pyIter v) Q E ⟨hp, g, d, tk, os⟩ :=
      fun q => B.iter prog w _ _ _ _ h1 q
    wp_walk using q1
    refine wpAny_stack_any fun st => wpAny_pure ?_
    split
    · rename_i c _ _ _ _ _
      cases (c == Value.type "enumerate") <;> (wp_walk using q1; exact ⟨_, rfl, h⟩)
    · wp_walk using q1
      exact ⟨_, rfl, h⟩
theorem enum1_begins {prog : Program} {w : World} {A : Around} {E : Value → Shared → Prop} {s : Shared} {v : Value} {o : Obj} {C : Heap → Prop} {Q : Value → Shared → Prop} (B : Begins v o C) (h1 : C s.heap)
    (h : ∀ h', IsEnum h' (s.heap.objs.size + 1) s.heap.objs.size 0 .none → h'.get? s.heap.objs.size = some o → (∀ b o, s.heap.get? b = some o → h'.get? b = some o) → Q (.ref (s.heap.objs.size + 1)) { s with heap := h' }) :
    wpAny (model prog w) A (call (.type "enumerate") [v]) Q E s := by
  refine callType_new F.called_enumerate (by decide) (F.typeCall_enumerate_1 _) (F.newCall_enumerate_1 _) (fun obj => F.args_object_init_2 obj _) F.entry_enumerate_new (meets_enum1 B) ⟨h1, ?_⟩
  have hz : (s.heap.push o).objs.size = s.heap.objs.size + 1 := Heap.size_push ..
  show _ ∧ _
  rw [hz]
  have he : IsEnum ((s.heap.push o).push { cls := .type "enumerate", data := .fields #[.none, .bool false, .ref s.heap.objs.size, rawInt 0, .none, .none] }) (s.heap.objs.size + 1) s.heap.objs.size 0 .none := by
    have z := Heap.get?_push_size (s.heap.push o) (o := { cls := .type "enumerate", data := .fields #[.none, .bool false, .ref s.heap.objs.size, rawInt 0, .none, .none] }) rfl
    rw [hz] at z
    exact z
  exact ⟨⟨_, he, rfl⟩, h _ he (Heap.get?_push_of_some _ (Heap.get?_push_size _ B.free)) fun b o x => Heap.get?_push_of_some _ (Heap.get?_push_of_some _ x)⟩
/-- what a Src is at its beginning -/
theorem Src.begins {X : Cx} {pins : List (Addr × Obj)} {σ : L2.St} {H : Hp} {s : Shared} (I : Inv X pins σ H s) {S : Src} {xs : List V} (c : S.C X.K H xs) {u : Value} (r : RelV S.v u) :
    ∃ (o : Obj) (C : Heap → Prop), Begins u o C ∧ C s.heap ∧ (∀ (h : Heap) (it : Addr), h.get? it = some o → S.at_ h it 0) ∧ (∀ it, s.heap.objs.size ≤ it → S.off it) ∧ ∀ b, b ∈ S.rst → b < s.heap.objs.size := by
  cases S with
  | lst a =>
    cases (show u = Value.ref a from r)
    obtain ⟨us, _, p, _⟩ := I.list c
    refine ⟨_, _, begins_list a us.toArray, p.isList, fun h it e => ⟨_, e, rfl, rfl⟩, fun it hi => Nat.ne_of_lt (Nat.lt_of_lt_of_le p.lt hi), fun b hb => ?_⟩
    rw [List.mem_singleton.mp hb]
    exact p.lt
  | tup a =>
    cases (show u = Value.ref a from r)
    obtain ⟨us, _, p, _⟩ := I.tuple c
    have lt : a < s.heap.objs.size := by
      obtain ⟨o, e, _⟩ := id p
      exact Heap.lt_size e
    refine ⟨_, _, begins_tuple a us.toArray, p, fun h it e => ⟨_, e, rfl, rfl⟩, fun it hi => Nat.ne_of_lt (Nat.lt_of_lt_of_le lt hi), fun b hb => ?_⟩
    rw [List.mem_singleton.mp hb]
    exact lt
  | txt z =>
    obtain ⟨t, rfl⟩ := (show ∃ t, u = Value.str z t from r)
    exact ⟨_, _, begins_text z t, trivial, fun h it e => ⟨t, _, e, rfl, rfl⟩, fun _ _ => trivial, fun b hb => by cases hb⟩
def iEnumS (K : PySem.W.Frag) (ta : TA) : TI := fun σ H R => ta σ H fun vs H1 => ∃ (S : Src) (xs : List V), vs = [S.v] ∧ S.C K H1 xs ∧ R (IteS K S) H1
theorem pi_enumA {X : Cx} {e : Expr} {ta : TA} {p pos tpos : Pos} {elts : List Expr} {kk : Nat} (hg : Gl X "enumerate") (hm : X.mg "enumerate" = none) (ha : PA X [e] ta) (hs : starEach [e] X.env = [(false, eval e X.env)] := by rfl) :
    PI X (.Tuple elts kk tpos) (.Call (.Name "enumerate" p) [e] [] pos) (iEnumS X.K ta) := by
  refine ⟨fun pins s σ H R I h => ?_⟩
  refine Call_ (ld_blt I hg hm boot_enumerate (PyProof.Rows.callWith_type1 (thn (ha.run pos pins s σ H _ I h) fun us s1 ⟨vs, H1, I1, r1, q1⟩ => ?_) hs rfl))
  obtain ⟨S, xs, ex, hq, q⟩ := q1
  subst ex
  obtain ⟨u, eu, ru⟩ := vals1 r1
  subst eu
  obtain ⟨o, C, B, hC, beg, off, fps⟩ := Src.begins I1 hq ru
  refine enum1_begins B hC fun h' he ho hk => wpAny_pyIter_enum he ?_
  have I2 : Inv X pins σ H1 { s1 with heap := h' } := I1.kept (t' := s1.toks) hk
  have ne : s1.heap.objs.size + 1 ≠ s1.heap.objs.size := Nat.succ_ne_self _
  have ef : s1.heap.objs.size + 1 ∉ S.fp s1.heap.objs.size := fun z => by
    rcases List.mem_cons.mp z with z | z
    · exact ne z
    · exact absurd (fps _ z) (Nat.not_lt_of_le (Nat.le_succ _))
  refine ⟨s1.heap.objs.size + 1, [s1.heap.objs.size + 1, s1.heap.objs.size], _, _, H1, rfl, I2, turn_enumS ne ef (off _ (Nat.le_refl _)), ⟨⟨.none, he⟩, beg _ _ ho⟩, fun b hb => ?_, q⟩
  have hle : s1.heap.objs.size ≤ b := by
    rcases List.mem_cons.mp hb with z | z
    · rw [z]
      exact Nat.le_add_right _ _
    · rw [List.mem_singleton.mp z]
      exact Nat.le_refl _
  exact I1.fpOk hle (I1.hok.fresh hle)
theorem walk_enumS {K : PySem.W.Frag} {S : Src} {xs : List V} : Walk (IteS K S) xs.length (fun H => S.C K H xs) (YPair (fun i => some (.int (i : Nat))) fun i => xs[i]?) :=
  ⟨fun i H hi h => ⟨xs, xs[i], h, List.getElem?_eq_getElem hi⟩, fun H h => ⟨xs, h, rfl⟩, fun i H v H' _ h y => by
    obtain ⟨T, x, e, n, eh, f⟩ := y
    exact ⟨T, .int (i : Nat), x, e, n, eh, rfl, f xs h⟩⟩
end Km
end

section
set_option Elab.async false
set_option linter.all false
set_option maxRecDepth 100000
namespace Km
open PySem PySem.Spec PyProof.Rows L2
/-- the items of two in new pairs -/
def ItzS (K : PySem.W.Frag) (S1 S2 : Src) : It :=
  ⟨fun i H => ∃ (xs ys : List V) (x y : V), S1.C K H xs ∧ S2.C K H ys ∧ xs[i]? = some x ∧ ys[i]? = some y,
    fun i H v H' => ∃ T x y, v = .ref T ∧ H T = none ∧ H' = upd H T (.tup [x, y]) ∧ (∀ xs, S1.C K H xs → xs[i]? = some x) ∧ ∀ ys, S2.C K H ys → ys[i]? = some y,
    fun i H => ∃ xs ys : List V, S1.C K H xs ∧ S2.C K H ys ∧ xs.length = i ∧ ys.length = i⟩
theorem turn_zipS {P : Program} {w : World} {K : PySem.W.Frag} {elts : List Expr} {kk : Nat} {tpos : Pos} {S1 S2 : Src} {z TI TO i1 i2 : Addr} (D : ZipSep2 z TI TO i1 i2 (S1.fp i1) (S2.fp i2)) (off1 : S1.off i1) (off2 : S2.off i2) :
    Turn P w K (.Tuple elts kk tpos) (ItzS K S1 S2) [z, TI, TO, i1, i2] z (fun i h => IsZip h z TI TO .none ∧ IsTupOf2 h TI (.ref i1) (.ref i2) ∧ (∃ x y, IsTupOf2 h TO x y) ∧ S1.at_ h i1 i ∧ S2.at_ h i2 i) where
  mem := List.mem_cons_self ..
  obj := fun i h st c hc => by
    obtain ⟨hz, hTI, ⟨x, y, hTO⟩, h1, h2⟩ := st
    rcases (show c = z ∨ c = TI ∨ c = TO ∨ c = i1 ∨ c = i2 by simpa using hc) with q | q | q | q | q <;> rw [q]
    · exact ⟨_, hz, fun v q => nomatch q⟩
    · exact ⟨_, hTI, fun v q => nomatch q⟩
    · exact ⟨_, hTO, fun v q => nomatch q⟩
    · exact Src.obj h1
    · exact Src.obj h2
  keep := fun i h h' st k => by
    obtain ⟨hz, hTI, ⟨x, y, hTO⟩, h1, h2⟩ := st
    exact ⟨k z (by simp) _ hz, k TI (by simp) _ hTI, ⟨x, y, k TO (by simp) _ hTO⟩, Src.stay h1 fun o q => k i1 (by simp) o q, Src.stay h2 fun o q => k i2 (by simp) o q⟩
  item := by
    intro X hP hw hK hc i pins s σ H E I hf st hg
    subst hP hw hK
    obtain ⟨hz, hTI, ⟨x0, y0, hTO⟩, h1, h2⟩ := st
    obtain ⟨xs, ys, x, y, hqx, hqy, hx, hy⟩ := hg
    obtain ⟨P1, St1, D1, d1, n1, v1⟩ := Src.draws I X.A.in1 (I.ok.hd hc) hqx h1 off1
    obtain ⟨P2, St2, D2, d2, n2, v2⟩ := Src.draws I X.A.in1 (I.ok.hd hc) hqy h2 off2
    have lx : i < xs.length := (List.getElem?_eq_some_iff.mp hx).1
    have ly : i < ys.length := (List.getElem?_eq_some_iff.mp hy).1
    have hzl : z < s.heap.objs.size := Heap.lt_size hz
    refine wpAny_pyNext_zipD2_item D D1 D2 hz hTI hTO d1 d2 lx ly fun u1 u2 h' tk p1 p2 z' TO' s1 s2 hT hsz hk => ?_
    refine ⟨_, rfl, wpAny_letOwnedTupleGo_zip (s := { s with heap := h', toks := tk }) z' fun h'' z'' sb => ?_⟩
    obtain ⟨x', ex, r1⟩ := v1 i u1 p1
    obtain ⟨y', ey, r2⟩ := v2 i u2 p2
    rw [hx] at ex
    rw [hy] at ey
    cases ex
    cases ey
    have hT2 : h''.get? s.heap.objs.size = some { cls := .type "tuple", data := .seq #[u1, u2] } := (sb.2 _ (Nat.ne_of_gt hzl)).trans hT
    have new : ObjOk X.prog X.w (upd H s.heap.objs.size (.tup [x, y])) h'' s.heap.objs.size (.tup [x, y]) := ⟨by show 2 ≤ sizeLine; decide, [u1, u2], .cons r1 (.cons r2 .nil), _, hT2, rfl, _, rfl⟩
    have I1 : Inv X pins σ (upd H s.heap.objs.size (.tup [x, y])) { s with heap := h'', toks := tk } :=
      I.turnedNew (t' := tk) (ch := [z, TI, TO, i1, i2]) (fun c o hb q => (sb.2 c (fun e => hb (by simp [e]))).trans (hk c o (fun e => hb (by simp [e])) (fun e => hb (by simp [e])) (fun e => hb (by simp [e])) (fun e => hb (by simp [e])) q)) hf (Nat.le_refl _) new
    refine ⟨.ref s.heap.objs.size, _, I1, rfl, ⟨_, x, y, rfl, I.hok.fresh (Nat.le_refl _), rfl, fun l hl => ?_, fun l hl => ?_⟩, ⟨z'', ?_, ⟨u1, u2, ?_⟩, ?_, ?_⟩, fun c hcm => ?_⟩
    · rw [Src.inj I hl hqx]
      exact hx
    · rw [Src.inj I hl hqy]
      exact hy
    · exact (sb.2 _ D.TIz).trans (hk _ _ D.TIz D.TITO D.TIi1 D.TIi2 hTI)
    · exact (sb.2 _ D.TOz).trans TO'
    · exact Src.stay (n1 _ _ s1) fun o q => (sb.2 _ (Ne.symm D.zi1)).trans q
    · exact Src.stay (n2 _ _ s2) fun o q => (sb.2 _ (Ne.symm D.zi2)).trans q
    · have hlt : c < s.heap.objs.size := by
        rcases (show c = z ∨ c = TI ∨ c = TO ∨ c = i1 ∨ c = i2 by simpa using hcm) with q | q | q | q | q <;> rw [q]
        · exact hzl
        · exact Heap.lt_size hTI
        · exact Heap.lt_size hTO
        · obtain ⟨_, e, _⟩ := Src.obj h1
          exact Heap.lt_size e
        · obtain ⟨_, e, _⟩ := Src.obj h2
          exact Heap.lt_size e
      rw [upd_ne (Nat.ne_of_lt hlt)]
      exact (hf c hcm).1
  done := by
    intro X hP hw hK hc i pins s σ H E I hf st hg
    subst hP hw hK
    obtain ⟨hz, hTI, ⟨x0, y0, hTO⟩, h1, h2⟩ := st
    obtain ⟨xs, ys, hqx, hqy, l1, l2⟩ := hg
    obtain ⟨P1, St1, D1, d1, n1, v1⟩ := Src.draws I X.A.in1 (I.ok.hd hc) hqx h1 off1
    obtain ⟨P2, St2, D2, d2, n2, v2⟩ := Src.draws I X.A.in1 (I.ok.hd hc) hqy h2 off2
    refine wpAny_pyNext_zipD2_end D D1 D2 hz hTI hTO d1 d2 (by omega) (by omega) (.inl l1.symm) fun h' tk hk => ⟨rfl, ?_⟩
    exact I.turnedL (t' := tk) (ch := [z, TI, TO, i1, i2]) (fun c o hb q => hk c o (fun e => hb (by simp [e])) (fun e => hb (by simp [e])) (fun e => hb (by simp [e])) (fun e => hb (by simp [e])) q) hf
  self := fun A i s Q E st h => wpAny_pyIter_zip st.1 h
def iZipS (K : PySem.W.Frag) (ta : TA) : TI := fun σ H R => ta σ H fun vs H1 => ∃ (S1 S2 : Src) (xs ys : List V), vs = [S1.v, S2.v] ∧ S1.C K H1 xs ∧ S2.C K H1 ys ∧ R (ItzS K S1 S2) H1
theorem pi_zipM {X : Cx} {e e2 : Expr} {ta : TA} {p pos tpos : Pos} {elts : List Expr} {kk : Nat} (hg : Gl X "zip") (hm : X.mg "zip" = none) (ha : PA X [e, e2] ta)
    (hs : starEach [e, e2] X.env = (false, eval e X.env) :: starEach [e2] X.env := by rfl) (hpl : (backTo pos (starEach [e2] X.env)).any (·.1) = false := by rfl) : PI X (.Tuple elts kk tpos) (.Call (.Name "zip" p) [e, e2] [] pos) (iZipS X.K ta) := by
  refine ⟨fun pins s σ H R I h => ?_⟩
  refine Call_ (ld_blt I hg hm PyProof.Rows.boot_zip (PyProof.Rows.callWith_type1 (thn (ha.run pos pins s σ H _ I h) fun us s1 ⟨vs, H1, I1, r1, q1⟩ => ?_) hs hpl))
  obtain ⟨S1, S2, xs, ys, ex, hqx, hqy, q⟩ := q1
  subst ex
  obtain ⟨u1, u2, eu, ru1, ru2⟩ := vals2 r1
  subst eu
  obtain ⟨o1, C1, B1, c1, beg1, off1, fps1⟩ := Src.begins I1 hqx ru1
  obtain ⟨o2, C2, B2, c2, beg2, off2, fps2⟩ := Src.begins I1 hqy ru2
  refine zip_begins2 B1 B2 c1 c2 fun h' hz hTI hTO g1 g2 hsz hk => wpAny_pyIter_zip hz ?_
  have I2 : Inv X pins σ H1 { s1 with heap := h' } := I1.kept (t' := s1.toks) hk
  refine ⟨s1.heap.objs.size + 4, [s1.heap.objs.size + 4, s1.heap.objs.size + 2, s1.heap.objs.size + 3, s1.heap.objs.size, s1.heap.objs.size + 1], _, _, H1, rfl, I2, turn_zipS (zip_sep2 fps1 fps2) (off1 _ (Nat.le_refl _)) (off2 _ (Nat.le_succ _)), ⟨hz, hTI, ⟨_, _, hTO⟩, beg1 _ _ g1, beg2 _ _ g2⟩, fun c hcm => ?_, q⟩
  have hle : s1.heap.objs.size ≤ c := by
    rcases (show c = s1.heap.objs.size + 4 ∨ c = s1.heap.objs.size + 2 ∨ c = s1.heap.objs.size + 3 ∨ c = s1.heap.objs.size ∨ c = s1.heap.objs.size + 1 by simpa using hcm) with z | z | z | z | z <;> rw [z]
    all_goals first | exact Nat.le_add_right _ _ | exact Nat.le_refl _
  exact I1.fpOk hle (I1.hok.fresh hle)
theorem walk_zipS {K : PySem.W.Frag} {S1 S2 : Src} {xs ys : List V} (hl : xs.length = ys.length) : Walk (ItzS K S1 S2) xs.length (fun H => S1.C K H xs ∧ S2.C K H ys) (YPair (fun i => xs[i]?) fun i => ys[i]?) :=
  ⟨fun i H hi h => ⟨xs, ys, xs[i], ys[i]'(hl ▸ hi), h.1, h.2, List.getElem?_eq_getElem hi, List.getElem?_eq_getElem (hl ▸ hi)⟩, fun H h => ⟨xs, ys, h.1, h.2, rfl, hl.symm⟩, fun i H v H' _ h y => by
    obtain ⟨T, x, z, e, n, eh, f, g⟩ := y
    exact ⟨T, x, z, e, n, eh, f xs h.1, g ys h.2⟩⟩
end Km
end

section
set_option Elab.async false
set_option linter.all false
set_option maxRecDepth 100000
namespace Km
open PySem PySem.Spec PyProof.Rows L2
open C8 (fn0 fnScope_by Cal Mak Met pe_c pe_mk pe_mt pe_mt0 pe_gc fnScope fnBody fnArgs clsBody)
/-! ### the surroundings in one -/
structure Yc where
  P : Program
  w : World
  K : PySem.W.Frag
  mg : Str → Option Value
  base : Heap
  CR : Addr
  CB : Addr
  CA : Addr
abbrev TxtY (Y : Yc) : Prop := Txt Y.K Y.mg Y.CR Y.CB Y.CA
abbrev CalY (Y : Yc) (k : Nat) (x : Str) (sp : Sp) (dvs : List V) : Prop := Cal Y.P Y.w Y.K Y.mg Y.base k x sp dvs
abbrev MakY (Y : Yc) (k : Nat) (x : Str) (C : Addr) (sp : Sp) (dvs : List V) : Prop := Mak Y.P Y.w Y.K Y.mg Y.base k x C sp dvs
abbrev MetY (Y : Yc) (k : Nat) (C : Addr) (m : Str) (sp : Sp) : Prop := Met Y.P Y.w Y.K Y.mg Y.base k C m sp []
abbrev PrpY (Y : Yc) (k : Nat) (C : Addr) (f : Str) (sp : Sp) : Prop := Prp Y.P Y.w Y.K Y.mg Y.base k C f sp
/-- an operator of a class -/
structure Opn (P : Program) (w : World) (K : PySem.W.Frag) (mg : Str → Option Value) (base : Heap) (k : Nat) (C : Addr) (nm : String) (sp : Sp) : Prop where
  ex : ∃ (f : Addr) (fd : FuncData) (ps : List Str), OpKI K C f nm ∧ FnOk P w K mg base C8.CX0 k f fd ps sp ∧ Binds K fd ps []
structure Opo (P : Program) (w : World) (K : PySem.W.Frag) (mg : Str → Option Value) (base : Heap) (k : Nat) (C : Addr) (nm : String) (sp : Sp) : Prop where
  ex : ∃ (f : Addr) (fd : FuncData) (ps : List Str), OpK K C f nm ∧ FnOk P w K mg base C8.CX0 k f fd ps sp ∧ Binds K fd ps []
/-- == and != of a class -/
structure Eqn (P : Program) (w : World) (K : PySem.W.Frag) (mg : Str → Option Value) (base : Heap) (k : Nat) (C : Addr) (sp : Sp) : Prop where
  ex : ∃ (f : Addr) (fd : FuncData) (ps : List Str), PySem.W.findIn K (.ref C) "__eq__" = some (some (.ref f)) ∧ PySem.W.isFn K (.ref f) = true ∧ PySem.W.findIn K (.ref C) "__ne__" = some (some (.builtin "object.__ne__")) ∧
    PySem.W.subIn K (.ref C) (.type "object") = some true ∧ FnOk P w K mg base C8.CX0 k f fd ps sp ∧ Binds K fd ps []
abbrev OpnY (Y : Yc) (k : Nat) (C : Addr) (nm : String) (sp : Sp) : Prop := Opn Y.P Y.w Y.K Y.mg Y.base k C nm sp
abbrev OpoY (Y : Yc) (k : Nat) (C : Addr) (nm : String) (sp : Sp) : Prop := Opo Y.P Y.w Y.K Y.mg Y.base k C nm sp
abbrev EqnY (Y : Yc) (k : Nat) (C : Addr) (sp : Sp) : Prop := Eqn Y.P Y.w Y.K Y.mg Y.base k C sp
section
variable {X : Cx} {j k : Nat} {C : Addr} {sp : Sp}
theorem Opn.r {op : Operator} (c : Opn X.prog X.w X.K X.mg X.base k C op.info.2 sp) (hr : Room j X.A) (h : k ≤ j) : OpR X (binaryOp op) (rOwnOpI C sp) :=
  let ⟨_, _, _, o, F, b⟩ := c.ex
  op_ownI F (hr.mono h) b o
theorem Opo.r {op : Operator} (c : Opo X.prog X.w X.K X.mg X.base k C op.info.2 sp) (hr : Room j X.A) (h : k ≤ j) : OpR X (binaryOp op) (rOwnOp C sp) :=
  let ⟨_, _, _, o, F, b⟩ := c.ex
  op_own F (hr.mono h) b o
theorem Eqn.eq (c : Eqn X.prog X.w X.K X.mg X.base k C sp) (hr : Room j X.A) (h : k ≤ j) : OpR X (compareOp .Eq) (rOwnEq C sp false) :=
  let ⟨_, _, _, e, i, _, _, F, b⟩ := c.ex
  op_eqOwn F (hr.mono h) e i b
theorem Eqn.ne (c : Eqn X.prog X.w X.K X.mg X.base k C sp) (hr : Room j X.A) (h : k + 1 ≤ j) : OpR X (compareOp .NotEq) (rOwnEq C sp true) :=
  let ⟨_, _, _, e, i, n, o, F, b⟩ := c.ex
  op_neOwn F (hr.mono h) e i b n o
end
theorem hu_of {k : Nat} {A : Around} (hr : Room k A) : A.units + 1 < cLine := Nat.lt_of_le_of_lt (Nat.add_le_add_left (by decide) _) hr.units
/-! ### rules within a comprehension's block: the constants named apart -/
section
variable {X : Cx} {o e : Expr} {f : Str} {pos : Pos} {ta : TE}
theorem fldB (K : PySem.W.Frag) (he : PE X e ta) (hb : attributeBase e f X.env (eval e X.env) = eval e X.env) (hK : X.K = K := by rfl) : PE X (.Attribute e f pos) (tFld K ta f) := by
  subst hK
  exact pe_fld he hb
theorem ixtB (K : PySem.W.Frag) (hK : X.K = K := by rfl) : IxR X (rIxT K) := by
  subst hK
  exact ix_tup
theorem ixlB (K : PySem.W.Frag) (hK : X.K = K := by rfl) : IxR X (rIxL K) := by
  subst hK
  exact ix_list
theorem lstB (K : PySem.W.Frag) (hK : X.K = K := by rfl) : CallR X (.type "list") (fun xs H Q => ∃ p ys, xs = [.ref p] ∧ (SqL K H p ys ∨ SqT K H p ys) ∧ ∀ l, H l = none → Q (.ref l) (upd H l (.lst ys))) := by
  subst hK
  exact call_list_of
theorem pgtB (K : PySem.W.Frag) {es : List Expr} {k : Nat} {t : TGs} {n : Nat} (hc : X.calm = true) (h : PGs X es t) (hn : (assignEach es X.env).length = n := by rfl) (hs : (assignEach es X.env).findIdx? (·.1) = none := by rfl) (hK : X.K = K := by rfl) : PG X (.Tuple es k pos) (gTup K n t) := by
  subst hK
  exact pg_tup hc h hn hs
end

/-! ### numbers -/
def Sz (q : Rat) : Prop := q.num.natAbs < 2 ^ 4000 ∧ q.den < 2 ^ 4000
theorem sz_int {q : Rat} (h : Sz q) : q.num.natAbs < 2 ^ 4000 := h.1
theorem den_abs (q : Rat) : ((q.den : Int)).natAbs = q.den := Int.natAbs_natCast _
theorem den_pos' (q : Rat) : (0 : Int) < (q.den : Int) := Int.natCast_pos.mpr q.den_pos
theorem ratv_num {C : Addr} {H : Hp} {v : V} {q : Rat} (h : RatV C H v q) : NumV C H v q := .inr h
/-- Ratio(top, bottom) as the class lays it -/
theorem mk_num {t : Int} {d : Nat} (h : 0 < d) : (mkRat t d).num = t / ((Int.gcd t d : Nat) : Int) := by
  rw [Rat.num_mkRat, if_neg (by omega)]
  have : d.gcd t.natAbs = Int.gcd t d := by
    rw [Nat.gcd_comm]
    rfl
  rw [this]
theorem mk_den {t : Int} {d : Nat} (h : 0 < d) : (((mkRat t d).den : Nat) : Int) = (d : Int) / ((Int.gcd t d : Nat) : Int) := by
  rw [Rat.den_mkRat, if_neg (by omega)]
  have : d.gcd t.natAbs = Int.gcd t d := by
    rw [Nat.gcd_comm]
    rfl
  rw [this]
  exact Int.natCast_ediv _ _
theorem mk_one (t : Int) : mkRat t 1 = (t : Rat) := by
  refine Rat.ext ?_ ?_
  · rw [Rat.num_mkRat]
    simp
  · rw [Rat.den_mkRat]
    simp
theorem mk_self (q : Rat) : mkRat q.num q.den = q := Rat.mkRat_self q
theorem lt_two {a b : Nat} (h : a < 2 ^ 4000) (h2 : b < 2 ^ 4000) : a * b < 2 ^ 8000 := by
  have : a * b < 2 ^ 4000 * 2 ^ 4000 := Nat.mul_lt_mul'' h h2
  rwa [← Nat.pow_add] at this

/-! ### what the program's values are -/
def kk (c : Ky) : List L2.Key := c.map fun (n : Nat) => Sum.inl (n : Int)
def kvs (c : Ky) : List V := c.map fun (n : Nat) => V.int (n : Int)
theorem kk_kV (c : Ky) : (kk c).map kV = kvs c := by
  unfold kk kvs
  rw [List.map_map]
  rfl
theorem kk_inj : ∀ {a b : Ky}, kk a = kk b → a = b
  | [], [], _ => rfl
  | [], _ :: _, h => by cases h
  | _ :: _, [], h => by cases h
  | x :: a, y :: b, h => by
    have h1 : (Sum.inl (x : Int) : L2.Key) = Sum.inl (y : Int) := (List.cons.inj h).1
    have h2 : (x : Int) = y := Sum.inl.inj h1
    have h3 : kk a = kk b := (List.cons.inj h).2
    rw [kk_inj h3, Int.ofNat.inj h2]
/-- a dict's rows and the products -/
abbrev Row (Y : Yc) (H : Hp) : List L2.Key × V → Ky × Rat → Prop := fun a t => a.1 = kk t.1 ∧ RatV Y.CR H a.2 t.2
abbrev Rows (Y : Yc) (H : Hp) (ks : List (List L2.Key × V)) (P : Poly) : Prop := Paired (Row Y H) ks P
abbrev Hx (H H' : Hp) : Prop := ∀ a o, H a = some o → H' a = some o
def DicAt (Y : Yc) (H : Hp) (d : Addr) (P : Poly) : Prop := ∃ ks, H d = some (.dT ks) ∧ Paired (Row Y H) ks P
theorem Rows.mono {Y : Yc} {H H' : Hp} {ks : List (List L2.Key × V)} {P : Poly} (e : Sm H H') (h : Rows Y H ks P) : Rows Y H' ks P := Paired.mapP h fun _ _ z => ⟨z.1, z.2.mono e⟩
theorem DicAt.mono {Y : Yc} {H H' : Hp} {d : Addr} {P : Poly} (e : Hx H H') (h : DicAt Y H d P) : DicAt Y H' d P :=
  let ⟨ks, r, p⟩ := h
  ⟨ks, e _ _ r, Rows.mono (Sm.of_same e) p⟩
/-- a list of numbers -/
def NumL (Y : Yc) (H : Hp) (xs : List V) (qs : List Rat) : Prop := Paired (NumV Y.CR H) xs qs
def RatL (Y : Yc) (H : Hp) (xs : List V) (qs : List Rat) : Prop := Paired (RatV Y.CR H) xs qs
theorem NumL.mono {Y : Yc} {H H' : Hp} {xs : List V} {qs : List Rat} (e : Sm H H') (h : NumL Y H xs qs) : NumL Y H' xs qs := Paired.mapP h fun _ _ z => z.mono e
theorem RatL.mono {Y : Yc} {H H' : Hp} {xs : List V} {qs : List Rat} (e : Sm H H') (h : RatL Y H xs qs) : RatL Y H' xs qs := Paired.mapP h fun _ _ z => z.mono e
/-- a list or a tuple -/
def SeqV (Y : Yc) (H : Hp) (v : V) (xs : List V) : Prop := ∃ a, v = .ref a ∧ (SqL Y.K H a xs ∨ SqT Y.K H a xs)
theorem SeqV.mono {Y : Yc} {H H' : Hp} {v : V} {xs : List V} (e : Sm H H') (h : SeqV Y H v xs) : SeqV Y H' v xs :=
  let ⟨a, z, r⟩ := h
  ⟨a, z, r.imp (fun r => e.sq r) fun r => e.st r⟩
/-- a blend of the letters L -/
def degV (P : Poly) : V := match P with
  | [] => .non
  | t :: _ => .int (deg t.1 : Nat)
def TopAt (H : Hp) (B : Nat) (x : V) (t : Ky × Rat) : Prop := ∃ a q z, x = .ref a ∧ Rd H a (.tup [.ref q, .int z]) ∧ Rd H q (.tup (kvs t.1)) ∧ (z : Rat) = t.2 * (B : Rat)
theorem TopAt.mono {H H' : Hp} {B : Nat} {x : V} {t : Ky × Rat} (e : Sm H H') (h : TopAt H B x t) : TopAt H' B x t :=
  let ⟨a, q, z, h1, h2, h3, h4⟩ := h
  ⟨a, q, z, h1, e.rd _ _ nf_tup h2, e.rd _ _ nf_tup h3, h4⟩
structure BlendF (Y : Yc) (H : Hp) (p : Addr) (L : Str) (P : Poly) (d t dx : Addr) (B : Nat) (tops : List V) : Prop where
  at_ : H p = some (.ins Y.CB dx [("own_letters", .str L), ("own_amounts", .ref d), ("own_degree", degV P), ("own_bottom", .int (B : Nat)), ("own_tops", .ref t)])
  dic : DicAt Y H d P
  tps : H t = some (.lst tops)
  top : Paired (TopAt H B) tops P
  pos : 0 < B
  fit : ∀ D : Nat, (∀ u ∈ P, u.2.den ∣ D) → B ∣ D
def BlendV (Y : Yc) (H : Hp) (v : V) (L : Str) (P : Poly) : Prop := ∃ p d t dx B tops, v = .ref p ∧ BlendF Y H p L P d t dx B tops
theorem BlendV.mono {Y : Yc} {H H' : Hp} {v : V} {L : Str} {P : Poly} (e : Hx H H') (h : BlendV Y H v L P) : BlendV Y H' v L P :=
  let ⟨p, d, t, dx, B, tops, z, f⟩ := h
  ⟨p, d, t, dx, B, tops, z, ⟨e _ _ f.at_, f.dic.mono e, e _ _ f.tps, Paired.mapP f.top fun _ _ z => z.mono (Sm.of_same e), f.pos, f.fit⟩⟩
end Km
end

section
set_option Elab.async false
set_option linter.all false
set_option maxRecDepth 100000
namespace Km
open PySem PySem.Spec PyProof.Rows L2 Evl
theorem exsm {H H' : Hp} (e : Ex H H') : Sm H H' := Sm.of_same e
/-- a locked dict is free again -/
theorem ex_unlock {H H' : Hp} {d : Addr} {o : Obj} {u : HO} (h : H d = some u) (e : Ex (upd H d (.frz o u)) H') : H' d = some (.frz o u) ∧ Ex H (upd H' d u) := by
  refine ⟨e _ _ upd_same, fun b v q => ?_⟩
  by_cases hb : b = d
  · subst hb
    rw [h] at q
    cases q
    exact upd_same
  · rw [upd_ne hb]
    exact e b v (by rw [upd_ne hb]; exact q)
theorem get_lt {α : Type} {l : List α} {i : Nat} (h : i < l.length) : ∃ x, l[i]? = some x := ⟨l[i], List.getElem?_eq_getElem h⟩
theorem take_next {α : Type} {l : List α} {i : Nat} {x : α} (h : l[i]? = some x) : l.take (i + 1) = l.take i ++ [x] := by
  rw [List.take_succ, h]
  rfl
/-- a list comprehension, what it makes told by what it walks -/
theorem lc_of {α : Type} {J : It} {us : List α} {G : Hp → Prop} {Yy : Nat → Hp → V → Hp → Prop} (w : Walk J us.length G Yy) {g : TG} {tt : TT} {te : TE} {vs : List Nat} {σ : L2.St} {H1 : Hp} {D : Addr} {Qd : Hp → Prop}
    (p : α → Bool) (R : α → V → Hp → Prop) (hD : H1 D = none) (hn : us.length ≤ 100000) (hG : ∀ H', Ex H1 H' → G H') (hR : ∀ u y H H', Ex H H' → R u y H → R u y H')
    (hL : ∀ u y H ys zs, H D = some (.lst ys) → R u y H → R u y (upd H D (.lst zs)))
    (hs : ∀ i u x H H' (Kq : VK) (N : Hp → Prop), us[i]? = some u → Ex H1 H → (∃ ys, H D = some (.lst ys)) → Yy i H x H' → (p u = true → ∀ y H4, Ex H H4 → R u y H4 → Kq y H4) → (p u = false → ∀ H4, Ex H H4 → N H4) →
      g x (wipe σ vs) H' fun σ2 H2 => wipe σ2 vs = wipe σ vs ∧ tt σ2 H2 fun b H3 => if b = true then te σ2 H3 Kq else N H3)
    (k : ∀ ys H', Ex H1 H' → H' D = some (.lst ys) → Paired (fun y u => R u y H') ys (us.filter p) → Qd H') :
    ∃ W : Nat → Nat → Hp → Prop, (∃ m, W 0 m (upd H1 D (.lst []))) ∧ ∀ i m H, W i m H →
      (J.stop i H ∧ Qd H) ∨ (J.go i H ∧ ∃ Nx : Hp → Prop, (∀ H', Nx H' → ∃ m', m' < m ∧ W (i + 1) m' H') ∧ ∀ x H', J.yld i H x H' → g x (wipe σ vs) H' fun σ2 H2 => wipe σ2 vs = wipe σ vs ∧ tt σ2 H2 fun b H3 =>
        if b = true then te σ2 H3 fun y H4 => ∃ acc, H4 D = some (.lst acc) ∧ acc.length < sizeLine ∧ Nx (upd H4 D (.lst (acc ++ [y]))) else Nx H3) := by
  have len : ∀ (i : Nat) (ys : List V) (H' : Hp), Paired (fun y u => R u y H') ys ((us.take i).filter p) → ys.length < sizeLine := by
    intro i ys H' q
    have h1 := Paired.length q
    have h2 := List.length_filter_le p (us.take i)
    have h3 : (us.take i).length ≤ us.length := List.length_take_le' ..
    have h4 : (100000 : Nat) < sizeLine := by decide
    omega
  refine lc_it w (Qd := Qd) (fun i H' => Ex H1 H' ∧ ∃ ys, H' D = some (.lst ys) ∧ Paired (fun y u => R u y H') ys ((us.take i).filter p)) ⟨(Ex.refl H1).mut hD, [], upd_same, .nil⟩ (fun i H' _ q => hG H' q.1) ?_ ?_
  · intro i x H H' hi q hy
    obtain ⟨e, ys, hd, pr⟩ := q
    obtain ⟨u, hu⟩ := get_lt hi
    refine hs i u x H H' _ _ hu e ⟨ys, hd⟩ hy (fun hp y H4 e4 r4 => ?_) (fun hp H4 e4 => ?_)
    · have hd4 := e4 _ _ hd
      have pr4 : Paired (fun y u => R u y H4) ys ((us.take i).filter p) := Paired.mapP pr fun _ _ z => hR _ _ _ _ e4 z
      refine ⟨ys, hd4, len i ys H4 pr4, (e.trans e4).mut hD, ys ++ [y], upd_same, ?_⟩
      rw [take_next hu, List.filter_append, List.filter_cons, if_pos hp]
      exact Paired.snoc (Paired.mapP pr4 fun _ _ z => hL _ _ _ _ _ hd4 z) (hL _ _ _ _ _ hd4 r4)
    · refine ⟨e.trans e4, ys, e4 _ _ hd, ?_⟩
      rw [take_next hu, List.filter_append, List.filter_cons, hp, if_neg (by decide), List.filter_nil, List.append_nil]
      exact Paired.mapP pr fun _ _ z => hR _ _ _ _ e4 z
  · intro H' q
    obtain ⟨e, ys, hd, pr⟩ := q
    rw [List.take_length] at pr
    exact k ys H' e hd pr
/-- one value for each -/
theorem lc_map {α : Type} {J : It} {us : List α} {G : Hp → Prop} {Yy : Nat → Hp → V → Hp → Prop} (w : Walk J us.length G Yy) {g : TG} {te : TE} {vs : List Nat} {σ : L2.St} {H1 : Hp} {D : Addr} {Qd : Hp → Prop}
    (R : α → V → Hp → Prop) (hD : H1 D = none) (hn : us.length ≤ 100000) (hG : ∀ H', Ex H1 H' → G H') (hR : ∀ u y H H', Ex H H' → R u y H → R u y H')
    (hL : ∀ u y H ys zs, H D = some (.lst ys) → R u y H → R u y (upd H D (.lst zs)))
    (hs : ∀ i u x H H' (Kq : VK), us[i]? = some u → Ex H1 H → (∃ ys, H D = some (.lst ys)) → Yy i H x H' → (∀ y H4, Ex H H4 → R u y H4 → Kq y H4) →
      g x (wipe σ vs) H' fun σ2 H2 => wipe σ2 vs = wipe σ vs ∧ te σ2 H2 Kq)
    (hg : ∀ x σ H (A B : L2.St → Hp → Prop), (∀ σ H, A σ H → B σ H) → g x σ H A → g x σ H B)
    (k : ∀ ys H', Ex H1 H' → H' D = some (.lst ys) → Paired (fun y u => R u y H') ys us → Qd H') :
    ∃ W : Nat → Nat → Hp → Prop, (∃ m, W 0 m (upd H1 D (.lst []))) ∧ ∀ i m H, W i m H →
      (J.stop i H ∧ Qd H) ∨ (J.go i H ∧ ∃ Nx : Hp → Prop, (∀ H', Nx H' → ∃ m', m' < m ∧ W (i + 1) m' H') ∧ ∀ x H', J.yld i H x H' → g x (wipe σ vs) H' fun σ2 H2 => wipe σ2 vs = wipe σ vs ∧ tYes σ2 H2 fun b H3 =>
        if b = true then te σ2 H3 fun y H4 => ∃ acc, H4 D = some (.lst acc) ∧ acc.length < sizeLine ∧ Nx (upd H4 D (.lst (acc ++ [y]))) else Nx H3) := by
  refine lc_of w (fun _ => true) R hD hn hG hR hL (fun i u x H H' Kq N hu e ex hy hk _ => ?_) (fun ys H' e hd pr => k ys H' e hd ?_)
  · exact hg _ _ _ _ _ (fun σ2 H2 q => ⟨q.1, iteT (B := N H2) q.2⟩) (hs i u x H H' Kq hu e ex hy (hk rfl))
  · rw [List.filter_eq_self.mpr fun _ _ => rfl] at pr
    exact pr
theorem gn_mono {i : Nat} : ∀ x σ H (A B : L2.St → Hp → Prop), (∀ σ H, A σ H → B σ H) → gName i x σ H A → gName i x σ H B := fun _ _ _ _ _ h q => h _ _ q
theorem gt2_mono {K : PySem.W.Frag} {i j : Nat} : ∀ x σ H (A B : L2.St → Hp → Prop), (∀ σ H, A σ H → B σ H) → gTup K 2 (gCons (gName i) (gCons (gName j) gNil)) x σ H A → gTup K 2 (gCons (gName i) (gCons (gName j) gNil)) x σ H B := by
  intro x σ H A B h q
  obtain ⟨a, xs, e, hq, hl, v, vr, e1, v2, vr2, e2, e3, q⟩ := q
  exact ⟨a, xs, e, hq, hl, v, vr, e1, v2, vr2, e2, e3, h _ _ q⟩
/-- Paired, by places -/
theorem pr_get {α β : Type} {F : α → β → Prop} : ∀ {l : List α} {m : List β} {i : Nat} {b : β}, Paired F l m → m[i]? = some b → ∃ a, l[i]? = some a ∧ F a b
  | _, _, _, _, .nil, e => by simp at e
  | _, _, 0, _, .cons h _, e => by simp at e; subst e; exact ⟨_, rfl, h⟩
  | _, _, i + 1, b, .cons _ t, e => by
    obtain ⟨a, h1, h2⟩ := pr_get (i := i) (b := b) t (by simpa using e)
    exact ⟨a, by simpa using h1, h2⟩
theorem pr_getL {α β : Type} {F : α → β → Prop} : ∀ {l : List α} {m : List β} {i : Nat} {a : α}, Paired F l m → l[i]? = some a → ∃ b, m[i]? = some b ∧ F a b
  | _, _, _, _, .nil, e => by simp at e
  | _, _, 0, _, .cons h _, e => by simp at e; subst e; exact ⟨_, rfl, h⟩
  | _, _, i + 1, a, .cons _ t, e => by
    obtain ⟨b, h1, h2⟩ := pr_getL (i := i) (a := a) t (by simpa using e)
    exact ⟨b, by simpa using h1, h2⟩
theorem pr_map {α β : Type} {F : α → β → Prop} {f : β → α} : ∀ {l : List β}, (∀ b ∈ l, F (f b) b) → Paired F (l.map f) l
  | [], _ => .nil
  | b :: l, h => .cons (h b (List.mem_cons_self ..)) (pr_map fun c hc => h c (List.mem_cons_of_mem _ hc))
theorem pr_eq {α β : Type} {F : α → β → Prop} {f : β → α} : ∀ {l : List α} {m : List β}, Paired F l m → (∀ a b, F a b → a = f b) → l = m.map f
  | _, _, .nil, _ => rfl
  | _, _, .cons h t, e => by rw [List.map_cons, ← e _ _ h, ← pr_eq t e]
theorem pr_trans {α β γ : Type} {F : α → β → Prop} {G : β → γ → Prop} : ∀ {l : List α} {m : List β} {n : List γ}, Paired F l m → Paired G m n → Paired (fun a c => ∃ b, F a b ∧ G b c) l n
  | _, _, _, .nil, .nil => .nil
  | _, _, _, .cons a t, .cons b u => .cons ⟨_, a, b⟩ (pr_trans t u)
theorem ratv_lst {C : Addr} {H : Hp} {v : V} {q : Rat} {D : Addr} {ys zs : List V} (hD : H D = some (.lst ys)) (h : RatV C H v q) : RatV C (upd H D (.lst zs)) v q := by
  obtain ⟨p, e, dx, hp⟩ := h
  refine ⟨p, e, dx, ?_⟩
  rw [upd_ne fun z => by subst z; rw [hp] at hD; cases hD]
  exact hp
end Km
end

section
set_option Elab.async false
set_option linter.all false
set_option maxRecDepth 100000
namespace Km
open PySem PySem.Spec PyProof.Rows L2 Evl
open C8 (fn0 fnScope_by Cal Mak Met pe_c pe_mk pe_mt pe_mt0 pe_gc fnScope fnBody fnArgs)
variable {Y : Yc}
theorem z0 : (0 : Nat) < 1000 := by decide
theorem z1 : (1 : Nat) < 1000 := by decide
theorem z2 : (2 : Nat) < 1000 := by decide
theorem z3 : (3 : Nat) < 1000 := by decide
theorem z4 : (4 : Nat) < 1000 := by decide
theorem l0 : (0 : Nat) ≤ sizeLine := by decide
theorem l1 : (1 : Nat) ≤ sizeLine := by decide
theorem l2 : (2 : Nat) ≤ sizeLine := by decide
theorem l3 : (3 : Nat) ≤ sizeLine := by decide
theorem gt2 {K : PySem.W.Frag} {H : Hp} {T : Addr} {x y : V} {i j : Nat} {σ : L2.St} {Q : L2.St → Hp → Prop} (h : SqT K H T [x, y]) (k : Q ((σ.set i (some x)).set j (some y)) H) :
    gTup K 2 (gCons (gName i) (gCons (gName j) gNil)) (.ref T) σ H Q := ⟨T, _, rfl, h, rfl, _, _, rfl, _, _, rfl, rfl, k⟩
theorem cv {Q : VK} {v w : V} {H : Hp} (e : v = w) (k : Q w H) : Q v H := e ▸ k
theorem iteDT {p : Prop} [Decidable p] {A B : Prop} (h : p) (k : A) : if decide p = true then A else B := by rw [decide_eq_true h]; exact k
theorem iteDF {p : Prop} [Decidable p] {A B : Prop} (h : ¬ p) (k : B) : if decide p = true then A else B := by rw [decide_eq_false h]; exact iteF k


/-! ### basics -/
def sp_is_integer (Y : Yc) : Sp := fun vs H Q _ => ∃ v, vs = [v] ∧ ((∃ n, v = .int n ∧ Q (.bl true) H) ∨ ∃ q, RatV Y.CR H v q ∧ Q (.bl false) H)

abbrev st_is_integer : Stmt := top 19
theorem ok_is_integer {f : Addr} {fd : FuncData} (F : C8.Fun Y.K "is_integer" "is_integer" st_is_integer f fd) (T : TxtY Y)  : FnOk Y.P Y.w Y.K Y.mg Y.base C8.CX0 1 f fd ["value"] (sp_is_integer Y) := by
  have S : FnScope ["value"] ["value"] (fnScope st_is_integer) := fnScope_by (by decide +kernel)
  have nd := S.nd
  refine fn0 F S (fun vs H Q E h => ?_) (fun cdv A outer s H vs Q E hr h => ?_)
  · obtain ⟨_, rfl, _⟩ := h; rfl
  refine ⟨_, (pss_one (ps_ret (pe_and (pe_callB call_isi rfl T.n_isinstance boot_isinstance (pa_cons (pv 0) (pa_cons (pe_bltn (v := .ty "int") rfl T.n_int boot_int rfl) pa_nil))) (pe_one (pe_not (pe_callB call_isi rfl T.n_isinstance boot_isinstance (pa_cons (pv 0) (pa_cons (pe_bltn (v := .ty "bool") rfl T.n_bool boot_bool rfl) pa_nil)))))))), ?_⟩
  obtain ⟨v, rfl, h⟩ := h
  rcases h with ⟨n, rfl, k⟩ | ⟨q, ⟨p, rfl, dx, hp⟩, k⟩
  · refine ⟨_, rfl, _, _, _, _, true, rfl, .ty "int", .base (.int n), kit_ty (by decide +kernel), true, rfl, ?_⟩
    refine iteT ?_
    refine ⟨_, rfl, _, _, _, _, false, rfl, .ty "bool", .base (.int n), kit_ty (by decide +kernel), false, rfl, ?_⟩
    exact k
  · refine ⟨_, rfl, _, _, _, _, false, rfl, .ty "int", T.R.ty hp, T.R.noI, false, rfl, ?_⟩
    exact iteF k

def sp_is_count (Y : Yc) : Sp := fun vs H Q _ => ∃ n : Nat, vs = [.int (n : Int)] ∧ Q (.bl true) H

abbrev st_is_count : Stmt := top 20
theorem ok_is_count {f : Addr} {fd : FuncData} (F : C8.Fun Y.K "is_count" "is_count" st_is_count f fd) (T : TxtY Y) (c_is_integer : CalY Y 1 "is_integer" (sp_is_integer Y) []) : FnOk Y.P Y.w Y.K Y.mg Y.base C8.CX0 2 f fd ["value"] (sp_is_count Y) := by
  have S : FnScope ["value"] ["value"] (fnScope st_is_count) := fnScope_by (by decide +kernel)
  have nd := S.nd
  refine fn0 F S (fun vs H Q E h => ?_) (fun cdv A outer s H vs Q E hr h => ?_)
  · obtain ⟨_, rfl, _⟩ := h; rfl
  refine ⟨_, (pss_one (ps_ret (pe_and (pe_c c_is_integer hr (by decide) rfl (pa_cons (pv 0) pa_nil)) (pe_one (pe_cmpR op_ge (pv 0) pe_int (nomark _)))))), ?_⟩
  obtain ⟨n, rfl, k⟩ := h
  refine ⟨_, rfl, _, rfl, .inl ⟨_, rfl, true, rfl, iteT ?_⟩⟩
  refine ⟨_, rfl, _, _, rfl, rfl, ?_⟩
  exact cv (congrArg V.bl (decide_eq_true (Int.natCast_nonneg n))) k

/-- a list or a tuple that the calls have laid -/
def SeqH (H : Hp) (v : V) (xs : List V) : Prop := ∃ a, v = .ref a ∧ (H a = some (.lst xs) ∨ H a = some (.tup xs))
theorem SeqH.mono {H H' : Hp} {v : V} {xs : List V} (e : Sm H H') (h : SeqH H v xs) : SeqH H' v xs :=
  let ⟨a, z, r⟩ := h
  ⟨a, z, r.imp (fun r => e.obj _ _ nf_lst (fun _ z => by cases z) r) fun r => e.obj _ _ nf_tup (fun _ z => by cases z) r⟩
theorem SeqH.sv {H : Hp} {v : V} {xs : List V} (h : SeqH H v xs) : SeqV Y H v xs :=
  let ⟨a, z, r⟩ := h
  ⟨a, z, r.imp (fun r => .inl (.inl r)) fun r => .inl (.inl r)⟩
/-- what is_list is asked -/
def SeqK (Y : Yc) (H : Hp) (v : V) (xs : List V) : Prop := SeqH H v xs ∨ ∃ a o, v = .ref a ∧ Y.K.lookup a = some o ∧ o.cls = .type "tuple" ∧ SqT Y.K H a xs
def sp_is_list (Y : Yc) : Sp := fun vs H Q _ => ∃ v xs, vs = [v] ∧ SeqK Y H v xs ∧ ∀ H', Ex H H' → Q (.bl true) H'
theorem isTL {K : PySem.W.Frag} : PySem.W.kitAny K (.type "tuple") [.type "list", .type "tuple"] = some true :=
  kitAny_cons (kit_ty (b := "list") (r := false) (by decide +kernel)) (fun _ => kitAny_cons (kit_ty (b := "tuple") (r := true) (by decide +kernel)) (fun h => by cases h) fun _ => rfl) (fun h => by cases h)
theorem isLL {K : PySem.W.Frag} : PySem.W.kitAny K (.type "list") [.type "list", .type "tuple"] = some true :=
  kitAny_cons (kit_ty (b := "list") (r := true) (by decide +kernel)) (fun h => by cases h) fun _ => rfl
theorem SeqK.ty {H : Hp} {v : V} {xs : List V} (h : SeqK Y H v xs) : ∃ t, TyX Y.K H v (.type t) ∧ PySem.W.kitAny Y.K (.type t) [.type "list", .type "tuple"] = some true := by
  rcases h with ⟨a, rfl, h | h⟩ | ⟨a, o, rfl, h, c, _⟩
  · exact ⟨_, .base (.lst h), isLL⟩
  · exact ⟨_, .base (.tup h), isTL⟩
  · exact ⟨_, .kTuple h c, isTL⟩
theorem SeqK.mono {H H' : Hp} {v : V} {xs : List V} (e : Sm H H') (h : SeqK Y H v xs) : SeqK Y H' v xs :=
  h.imp (fun h => h.mono e) fun ⟨a, o, z, r, c, q⟩ => ⟨a, o, z, r, c, e.st q⟩
theorem SeqK.sv {H : Hp} {v : V} {xs : List V} (h : SeqK Y H v xs) : SeqV Y H v xs :=
  h.elim (fun h => h.sv) fun ⟨a, o, z, r, c, q⟩ => ⟨a, z, .inr q⟩

abbrev st_is_list : Stmt := top 21
theorem ok_is_list {f : Addr} {fd : FuncData} (F : C8.Fun Y.K "is_list" "is_list" st_is_list f fd) (T : TxtY Y)  : FnOk Y.P Y.w Y.K Y.mg Y.base C8.CX0 1 f fd ["value"] (sp_is_list Y) := by
  have S : FnScope ["value"] ["value"] (fnScope st_is_list) := fnScope_by (by decide +kernel)
  have nd := S.nd
  refine fn0 F S (fun vs H Q E h => ?_) (fun cdv A outer s H vs Q E hr h => ?_)
  · obtain ⟨_, _, rfl, _⟩ := h; rfl
  refine ⟨_, (pss_one (ps_ret (pe_callB call_isiT rfl T.n_isinstance boot_isinstance (pa_cons (pv 0) (pa_cons (pe_tup (pa_cons (pe_bltn (v := .ty "list") rfl T.n_list boot_list rfl) (pa_cons (pe_bltn (v := .ty "tuple") rfl T.n_tuple boot_tuple rfl) pa_nil))) pa_nil))))), ?_⟩
  obtain ⟨v, xs, rfl, sq, k⟩ := h
  refine ⟨_, rfl, by decide, fun tp htp => ?_⟩
  obtain ⟨t, ty, kit⟩ := sq.mono (Sm.new (o := .tup [.ty "list", .ty "tuple"]) htp) |>.ty
  exact ⟨v, tp, _, _, _, true, rfl, upd_same, .cons (.ty _) (.cons (.ty _) .nil), ty, kit, k _ (Ex.new htp)⟩

def sp_want_many (Y : Yc) : Sp := fun vs H Q _ => ∃ n : Nat, vs = [.int (n : Int), .non] ∧ Q .non H

abbrev st_want_many : Stmt := top 22
theorem ok_want_many {f : Addr} {fd : FuncData} (F : C8.Fun Y.K "want_many" "want_many" st_want_many f fd) (T : TxtY Y) (c_is_count : CalY Y 2 "is_count" (sp_is_count Y) []) : FnOk Y.P Y.w Y.K Y.mg Y.base C8.CX0 3 f fd ["value", "most"] (sp_want_many Y) := by
  have S : FnScope ["value", "most"] ["value", "most"] (fnScope st_want_many) := fnScope_by (by decide +kernel)
  have nd := S.nd
  refine fn0 F S (fun vs H Q E h => ?_) (fun cdv A outer s H vs Q E hr h => ?_)
  · obtain ⟨_, rfl, _⟩ := h; rfl
  refine ⟨_, (pss_cons (ps_if (pt_not (pt_val (pe_c c_is_count hr (by decide) rfl (pa_cons (pv 0) pa_nil)))) (pss_one ps_never) pss_nil)
    (pss_one (ps_if (PW.pt (pw_and (pt_cmpR op_notN (pv 1) pe_non (nomark _)) (pw_and1 (pt_cmpR op_gt (pv 0) (pv 1) (nomark _))))) (pss_one ps_never) pss_nil))), ?_⟩
  obtain ⟨n, rfl, k⟩ := h
  refine ⟨_, rfl, n, rfl, _, rfl, ?_⟩
  refine iteF ?_
  refine ⟨_, rfl, rfl, _, rfl, ?_⟩
  refine iteF ?_
  exact iteF k

def sp_want_at_most (Y : Yc) : Sp := fun vs H Q _ => ∃ (v : V) (l n : Int), vs = [v, .int l, .int n] ∧ n ≤ l ∧ Q .non H

abbrev st_want_at_most : Stmt := top 23
theorem ok_want_at_most {f : Addr} {fd : FuncData} (F : C8.Fun Y.K "want_at_most" "want_at_most" st_want_at_most f fd) (T : TxtY Y)  : FnOk Y.P Y.w Y.K Y.mg Y.base C8.CX0 1 f fd ["what", "limit", "number"] (sp_want_at_most Y) := by
  have S : FnScope ["what", "limit", "number"] ["what", "limit", "number"] (fnScope st_want_at_most) := fnScope_by (by decide +kernel)
  have nd := S.nd
  refine fn0 F S (fun vs H Q E h => ?_) (fun cdv A outer s H vs Q E hr h => ?_)
  · obtain ⟨_, _, _, rfl, _⟩ := h; rfl
  refine ⟨_, (pss_one (ps_if (pt_cmpR op_gt (pv 2) (pv 1) (nomark _)) (pss_one ps_never) pss_nil)), ?_⟩
  obtain ⟨v, l, n, rfl, hl, k⟩ := h
  refine ⟨_, rfl, _, rfl, _, _, rfl, rfl, _, rfl, ?_⟩
  have e : decide (l < n) = false := decide_eq_false (by omega)
  rw [e]
  exact iteF k

def sp_common_part (Y : Yc) : Sp := fun vs H Q _ => ∃ a b, vs = [.int a, .int b] ∧ Q (.int (Int.gcd a b : Int)) H
theorem gcd_turn2 {a b : Int} (ha : 0 ≤ a) (hb : 0 < b) : Int.gcd b (a % b) = Int.gcd a b := by
  rw [Int.gcd_comm b (a % b), Int.gcd_comm a b]
  obtain ⟨m, rfl⟩ := Int.eq_ofNat_of_zero_le ha
  obtain ⟨n, rfl⟩ := Int.eq_ofNat_of_zero_le (Int.le_of_lt hb)
  show Nat.gcd (((m : Int) % (n : Int)).natAbs) n = Nat.gcd n m
  rw [← Int.natCast_emod, Int.natAbs_natCast, ← Nat.gcd_rec]
/-- the turns of common_part, common_bottom -/
theorem gcd_while {tb : TS} {D : Ends} {c : TT} {σ : L2.St} {H : Hp} (r1 r2 : Option V) (mk : Nat → Nat → L2.St) (a b : Nat) (h0 : σ = mk a b)
    (hc : ∀ (x y : Nat) (Q : Bool → Hp → Prop), Q (decide ((0 : Int) < y)) H → c (mk x y) H Q)
    (hm : ∀ (σ : L2.St) H (Q1 Q2 : Bool → Hp → Prop), (∀ b H', Q1 b H' → Q2 b H') → c σ H Q1 → c σ H Q2)
    (hb : ∀ (x y : Nat) (D' : Ends), 0 < y → D'.nx (mk y (x % y)) H → tb D' (mk x y) H)
    (hi : ∀ x y x' y', mk x y = mk x' y' → x = x' ∧ y = y')
    (hd : ∀ x, x = Nat.gcd a b → D.nx (mk x 0) H) : tWhile c tb D σ H := by
  subst h0
  refine while_by (fun σ' H' => H' = H ∧ ∃ x y : Nat, σ' = mk x y ∧ Nat.gcd x y = Nat.gcd a b) (fun σ' _ => (Classical.epsilon fun y : Nat => ∃ x, σ' = mk x y)) ⟨rfl, a, b, rfl, rfl⟩ ?_ hm
  rintro σ' H' ⟨rfl, x, y, rfl, g⟩
  have ep : ∀ x y : Nat, (Classical.epsilon fun y' : Nat => ∃ x', mk x y = mk x' y') = y := fun x y => by
    have z := Classical.epsilon_spec (p := fun y' : Nat => ∃ x', mk x y = mk x' y') ⟨y, x, rfl⟩
    obtain ⟨x', e⟩ := z
    exact (hi _ _ _ _ e).2.symm
  refine hc x y _ ?_
  by_cases hy : 0 < y
  · have e : decide ((0 : Int) < (y : Int)) = true := decide_eq_true (by omega)
    rw [e]
    refine iteT (hb x y _ hy ⟨⟨rfl, y, x % y, rfl, ?_⟩, ?_⟩)
    · rw [Nat.gcd_comm, ← Nat.gcd_rec, Nat.gcd_comm, g]
    · rw [ep, ep]
      exact Nat.mod_lt _ hy
  · have e : decide ((0 : Int) < (y : Int)) = false := decide_eq_false (by omega)
    rw [e]
    have hy0 : y = 0 := by omega
    subst hy0
    rw [Nat.gcd_zero_right] at g
    exact iteF (hd x g)

abbrev st_common_part : Stmt := top 28
theorem ok_common_part {f : Addr} {fd : FuncData} (F : C8.Fun Y.K "common_part" "common_part" st_common_part f fd) (T : TxtY Y)  : FnOk Y.P Y.w Y.K Y.mg Y.base C8.CX0 1 f fd ["one", "other"] (sp_common_part Y) := by
  have S : FnScope ["one", "other"] ["one", "other"] (fnScope st_common_part) := fnScope_by (by decide +kernel)
  have nd := S.nd
  refine fn0 F S (fun vs H Q E h => ?_) (fun cdv A outer s H vs Q E hr h => ?_)
  · obtain ⟨_, _, rfl, _⟩ := h; rfl
  refine ⟨_, (pss_cons (ps_par (i := 0) (j := 1) rfl nd rfl rfl (by decide) rfl rfl (pa_cons (pe_callB call_abs rfl T.n_abs boot_abs (pa_cons (pv 0) pa_nil)) (pa_cons (pe_callB call_abs rfl T.n_abs boot_abs (pa_cons (pv 1) pa_nil)) pa_nil)) (by rfl))
    (pss_cons (ps_while PassesOwn.never (pt_cmpR op_gt (pv 1) pe_int (nomark _)) (pss_one (ps_par (i := 0) (j := 1) rfl nd rfl rfl (by decide) rfl rfl (pa_cons (pv 1) (pa_cons (pe_op op_mod (pe_callTy call_int1 rfl T.n_int boot_int (pa_cons (pv 0) pa_nil)) (pv 1)) pa_nil)) (by rfl))))
    (pss_one (ps_ret (pv 0))))), ?_⟩
  obtain ⟨a, b, rfl, k⟩ := h
  have e0 : ∀ z : Int, (if z < 0 then -z else z) = (z.natAbs : Int) := fun z => by split <;> omega
  refine ⟨_, rfl, a, rfl, _, rfl, b, rfl, _, _, rfl, ?_⟩
  rw [e0, e0]
  refine gcd_while (.some (.int 0)) .none (fun x y => [some (.int (x : Nat)), some (.int (y : Nat))]) a.natAbs b.natAbs rfl (fun x y Q q => ⟨_, rfl, _, _, rfl, rfl, _, rfl, q⟩) ?_ (fun x y D' hy q => ?_) (fun x y x' y' e => ?_) (fun x e => ?_)
  · intro σ H' Q1 Q2 hq h1
    obtain ⟨v, e, i, j, e1, e2, b', e3, q⟩ := h1
    exact ⟨v, e, i, j, e1, e2, b', e3, hq _ _ q⟩
  · refine ⟨_, rfl, _, rfl, .inl ⟨_, rfl, _, rfl, _, _, rfl, rfl, by omega, _, _, rfl, ?_⟩⟩
    show D'.nx [some (.int (y : Int)), some (.int ((x : Int) % (y : Int)))] H
    rw [← Int.natCast_emod]
    exact q
  · simp at e
    exact ⟨by omega, by omega⟩
  · refine ⟨_, rfl, ?_⟩
    subst e
    exact k

def sp_common_bottom (Y : Yc) : Sp := fun vs H Q _ => ∃ a b : Nat, vs = [.int (a : Int), .int (b : Int)] ∧ 0 < a ∧ 0 < b ∧ a < 2 ^ 4000 ∧ b < 2 ^ 4000 ∧ Q (.int (Nat.lcm a b : Nat)) H

abbrev st_common_bottom : Stmt := top 24
theorem ok_common_bottom {f : Addr} {fd : FuncData} (F : C8.Fun Y.K "common_bottom" "common_bottom" st_common_bottom f fd) (T : TxtY Y)  : FnOk Y.P Y.w Y.K Y.mg Y.base C8.CX0 1 f fd ["one", "other"] (sp_common_bottom Y) := by
  have S : FnScope ["one", "other", "left", "right"] ["one", "other"] (fnScope st_common_bottom) := fnScope_by (by decide +kernel)
  have nd := S.nd
  refine fn0 F S (fun vs H Q E h => ?_) (fun cdv A outer s H vs Q E hr h => ?_)
  · obtain ⟨_, _, rfl, _⟩ := h; rfl
  refine ⟨_, (pss_cons (ps_par (i := 2) (j := 3) rfl nd rfl rfl (by decide) rfl rfl (pa_cons (pv 0) (pa_cons (pv 1) pa_nil)) (by rfl))
    (pss_cons (ps_while PassesOwn.never (pt_cmpR op_gt (pv 3) pe_int (nomark _)) (pss_one (ps_par (i := 2) (j := 3) rfl nd rfl rfl (by decide) rfl rfl (pa_cons (pv 3) (pa_cons (pe_op op_mod (pe_callTy call_int1 rfl T.n_int boot_int (pa_cons (pv 2) pa_nil)) (pv 3)) pa_nil)) (by rfl))))
    (pss_one (ps_ret (pe_op op_mulW (pe_op op_fdivW (pv 0) (pv 2)) (pv 1)))))), ?_⟩
  obtain ⟨a, b, rfl, ha, hb, sa, sb, k⟩ := h
  refine ⟨_, rfl, _, rfl, _, _, rfl, ?_⟩
  refine gcd_while (.some (.int 0)) .none (fun x y => [some (.int (a : Nat)), some (.int (b : Nat)), some (.int (x : Nat)), some (.int (y : Nat))]) a b rfl (fun x y Q q => ⟨_, rfl, _, _, rfl, rfl, _, rfl, q⟩) ?_ (fun x y D' hy q => ?_) (fun x y x' y' e => ?_) (fun x e => ?_)
  · intro σ H' Q1 Q2 hq h1
    obtain ⟨v, e, i, j, e1, e2, b', e3, q⟩ := h1
    exact ⟨v, e, i, j, e1, e2, b', e3, hq _ _ q⟩
  · refine ⟨_, rfl, _, rfl, .inl ⟨_, rfl, _, rfl, _, _, rfl, rfl, by omega, _, _, rfl, ?_⟩⟩
    show D'.nx [some (.int (a : Int)), some (.int (b : Int)), some (.int (y : Int)), some (.int ((x : Int) % (y : Int)))] H
    rw [← Int.natCast_emod]
    exact q
  · simp at e
    exact ⟨by omega, by omega⟩
  · subst e
    have gp : 0 < Nat.gcd a b := Nat.gcd_pos_of_pos_left b ha
    have gl : Nat.gcd a b ≤ a := Nat.gcd_le_left b ha
    refine ⟨_, rfl, _, rfl, _, _, rfl, rfl, wide_div (by omega) (b := 4000) (by rw [Int.natAbs_natCast]; exact Nat.lt_of_le_of_lt gl sa) (by decide) (by decide), _, rfl, _, _, rfl, rfl, ?_, ?_⟩
    · refine wide_mul (a := 4000) (b := 4000) ?_ ?_ (by decide) (by decide) (by decide)
      · rw [← Int.natCast_ediv, Int.natAbs_natCast]
        exact Nat.lt_of_le_of_lt (Nat.div_le_self _ _) sa
      · rw [Int.natAbs_natCast]
        exact sb
    · have e : (a : Int) / ((Nat.gcd a b : Nat) : Int) * (b : Int) = ((Nat.lcm a b : Nat) : Int) := by
        rw [← Int.natCast_ediv, ← Int.natCast_mul]
        congr 1
        obtain ⟨c, hc⟩ := Nat.gcd_dvd_left a b
        unfold Nat.lcm
        generalize Nat.gcd a b = g at *
        subst hc
        rw [Nat.mul_div_cancel_left _ gp, Nat.mul_assoc, Nat.mul_div_cancel_left _ gp]
      show Q (.int ((a : Int) / ((Nat.gcd a b : Nat) : Int) * (b : Int))) H
      rw [e]
      exact k

/-! ### Ratio -/
def sp_Ratio (Y : Yc) : Sp := fun vs H Q _ => ∃ (x dx : Addr) (t : Int) (b : Nat) (bi : Int), vs = [.ref x, .int t, .int bi] ∧ bi = (b : Int) ∧ H x = some (.ins Y.CR dx []) ∧ 0 < b ∧ b < 2 ^ 8000 ∧ Q .non (upd H x (.ins Y.CR dx (ratF (mkRat t b))))
theorem new_rat {H : Hp} {x dx : Addr} {Q : VK} {t bi : Int} {b : Nat} (hx : H x = none) (hdx : H dx = none) (ne : dx ≠ x) (e : bi = (b : Int)) (hb : 0 < b) (sb : b < 2 ^ 8000)
    (k : ∀ v H', Ex H H' → RatV Y.CR H' v (mkRat t b) → Q v H') : sp_Ratio Y [.ref x, .int t, .int bi] (upd (upd H dx (.own x)) x (.ins Y.CR dx [])) (fun v H2 => v = .non ∧ Q (.ref x) H2) C8.E0 := by
  refine ⟨x, dx, t, b, bi, rfl, e, upd_same, hb, sb, rfl, ?_⟩
  rw [upd_upd]
  have h1 : Ex H (upd H dx (.own x)) := Ex.new hdx
  exact k _ _ (h1.mut hx) ⟨x, rfl, dx, upd_same⟩

abbrev st_Ratio : Stmt := sub 29 0
theorem ok_Ratio {f : Addr} {fd : FuncData} (F : C8.Fun Y.K "__init__" "Ratio.__init__" st_Ratio f fd) (T : TxtY Y) (c_common_part : CalY Y 1 "common_part" (sp_common_part Y) []) (c_is_integer : CalY Y 1 "is_integer" (sp_is_integer Y) []) : FnOk Y.P Y.w Y.K Y.mg Y.base C8.CX0 2 f fd ["self", "top", "bottom"] (sp_Ratio Y) := by
  have S : FnScope ["self", "top", "bottom", "common"] ["self", "top", "bottom"] (fnScope st_Ratio) := fnScope_by (by decide +kernel)
  have nd := S.nd
  refine fn0 F S (fun vs H Q E h => ?_) (fun cdv A outer s H vs Q E hr h => ?_)
  · obtain ⟨_, _, _, _, _, rfl, _⟩ := h; rfl
  refine ⟨_, (pss_cons (ps_if (pt_not (pt_val (pe_c c_is_integer hr (by decide) rfl (pa_cons (pv 1) pa_nil)))) (pss_one ps_never) pss_nil)
    (pss_cons (ps_if (PW.pt (pw_or (pt_not (pt_val (pe_c c_is_integer hr (by decide) rfl (pa_cons (pv 2) pa_nil)))) (pw_or1 (pt_cmpR op_eq (pv 2) pe_int (nomark _))))) (pss_one ps_never) pss_nil)
    (pss_cons (ps_set (i := 3) nd rfl (Or.inl rfl) (pe_c c_common_part hr (by decide) rfl (pa_cons (pv 1) (pa_cons (pv 2) pa_nil))))
    (pss_cons (ps_if (pt_cmpR op_lt (pv 2) pe_int (nomark _)) (pss_one (ps_set (i := 3) nd rfl (Or.inl rfl) (pe_op op_sub pe_int (pv 3)))) pss_nil)
    (pss_cons (ps_fld (pv 0) (pe_op op_fdivW (pv 1) (pv 3)) rfl)
    (pss_one (ps_fld (pv 0) (pe_op op_fdivW (pv 2) (pv 3)) rfl))))))), ?_⟩
  obtain ⟨x, dx, t, b, bi, rfl, rfl, hx, hb, sb, k⟩ := h
  have hb1 : (b : Int) ≠ 0 := by omega
  refine ⟨_, rfl, _, rfl, .inl ⟨_, rfl, true, rfl, iteF ?_⟩⟩
  refine ⟨_, rfl, _, rfl, .inl ⟨_, rfl, true, rfl, iteF ?_⟩⟩
  refine ⟨_, rfl, rfl, _, rfl, iteDF (fun e => hb1 (V.int.inj e)) ?_⟩
  refine ⟨_, rfl, _, rfl, _, _, rfl, ?_⟩
  refine ⟨_, rfl, _, _, rfl, rfl, _, rfl, iteDF (by omega) ?_⟩
  have gp : 0 < Int.gcd t (b : Int) := Int.gcd_pos_of_ne_zero_right t hb1
  have gl : Int.gcd t (b : Int) ≤ b := by
    have := Int.gcd_le_natAbs_right t hb1
    rwa [Int.natAbs_natCast] at this
  have dv : CDivW t ((Int.gcd t (b : Int) : Nat) : Int) := wide_div (by omega) (b := 8000) (by rw [Int.natAbs_natCast]; exact Nat.lt_of_le_of_lt gl sb) (by decide) (by decide)
  refine ⟨_, rfl, _, rfl, _, _, rfl, rfl, dv, _, rfl, x, _, dx, [], rfl, hx, T.R.cl, T.rTop, z0, ?_⟩
  refine ⟨_, rfl, _, rfl, _, _, rfl, rfl, dv, _, rfl, x, _, dx, _, rfl, upd_same, T.R.cl, T.rBot, z1, ?_⟩
  show Q .non (upd (upd H x _) x (.ins Y.CR dx [("own_top", .int (t / ((Int.gcd t (b : Int) : Nat) : Int))), ("own_bottom", .int ((b : Int) / ((Int.gcd t (b : Int) : Nat) : Int)))]))
  rw [upd_upd, ← mk_num hb, ← mk_den hb]
  exact k

def sp_told_pair (Y : Yc) : Sp := fun vs H Q _ => ∃ v q, vs = [v] ∧ NumV Y.CR H v q ∧ ∀ p, H p = none → Q (.ref p) (upd H p (.tup [.int q.num, .int (q.den : Int)]))

abbrev st_told_pair : Stmt := top 30
theorem ok_told_pair {f : Addr} {fd : FuncData} (F : C8.Fun Y.K "told_pair" "told_pair" st_told_pair f fd) (T : TxtY Y) (c_is_integer : CalY Y 1 "is_integer" (sp_is_integer Y) []) : FnOk Y.P Y.w Y.K Y.mg Y.base C8.CX0 2 f fd ["value"] (sp_told_pair Y) := by
  have S : FnScope ["value"] ["value"] (fnScope st_told_pair) := fnScope_by (by decide +kernel)
  have nd := S.nd
  refine fn0 F S (fun vs H Q E h => ?_) (fun cdv A outer s H vs Q E hr h => ?_)
  · obtain ⟨_, _, rfl, _⟩ := h; rfl
  refine ⟨_, (pss_cons (ps_if (pt_val (pe_callB call_isi rfl T.n_isinstance boot_isinstance (pa_cons (pv 0) (pa_cons (pe_gc rfl T.k_Ratio) pa_nil)))) (pss_one (ps_ret (pe_tup (pa_cons (pe_fld (pv 0) rfl) (pa_cons (pe_fld (pv 0) rfl) pa_nil))))) pss_nil)
    (pss_cons (ps_if (pt_not (pt_val (pe_c c_is_integer hr (by decide) rfl (pa_cons (pv 0) pa_nil)))) (pss_one ps_never) pss_nil)
    (pss_one (ps_ret (pe_tup (pa_cons (pv 0) (pa_cons pe_int pa_nil))))))), ?_⟩
  obtain ⟨v, q, rfl, n, k⟩ := h
  rcases n with ⟨n, rfl, rfl⟩ | ⟨p, rfl, dx, hp⟩
  · refine ⟨_, rfl, _, _, _, _, false, rfl, .own _, .base (.int n), T.R.iI, false, rfl, iteF ?_⟩
    refine ⟨_, rfl, _, rfl, .inl ⟨_, rfl, true, rfl, iteF ?_⟩⟩
    exact ⟨_, rfl, l2, k⟩
  · refine ⟨_, rfl, _, _, _, _, true, rfl, .own _, T.R.ty hp, T.R.is, true, rfl, iteT ?_⟩
    exact ⟨_, rfl, p, _, dx, _, _, rfl, hp, T.R.cl, T.rTop, lk_top q, _, rfl, p, _, dx, _, _, rfl, hp, T.R.cl, T.rBot, lk_bot q, l2, k⟩

def sp_radd (Y : Yc) : Sp := fun vs H Q _ => ∃ a b q r, vs = [a, b] ∧ RatV Y.CR H a q ∧ NumV Y.CR H b r ∧ Sz q ∧ Sz r ∧ ∀ v H', Ex H H' → RatV Y.CR H' v (q + r) → Q v H'
def sp_rmul (Y : Yc) : Sp := fun vs H Q _ => ∃ a b q r, vs = [a, b] ∧ RatV Y.CR H a q ∧ NumV Y.CR H b r ∧ Sz q ∧ Sz r ∧ ∀ v H', Ex H H' → RatV Y.CR H' v (q * r) → Q v H'
theorem cm {a b : Int} (ha : a.natAbs < 2 ^ 4000) (hb : b.natAbs < 2 ^ 4000) : CMulW a b := wide_mul ha hb (by decide) (by decide) (by decide)
theorem sd {q : Rat} (h : Sz q) : ((q.den : Int)).natAbs < 2 ^ 4000 := by rw [Int.natAbs_natCast]; exact h.2

abbrev st_radd : Stmt := sub 29 6
theorem ok_radd {f : Addr} {fd : FuncData} (F : C8.Fun Y.K "__add__" "Ratio.__add__" st_radd f fd) (T : TxtY Y) (c_told_pair : CalY Y 2 "told_pair" (sp_told_pair Y) []) (m_Ratio2 : MakY Y 2 "Ratio" Y.CR (sp_Ratio Y) []) : FnOk Y.P Y.w Y.K Y.mg Y.base C8.CX0 4 f fd ["self", "other"] (sp_radd Y) := by
  have S : FnScope ["self", "other", "top", "bottom"] ["self", "other"] (fnScope st_radd) := fnScope_by (by decide +kernel)
  have nd := S.nd
  refine fn0 F S (fun vs H Q E h => ?_) (fun cdv A outer s H vs Q E hr h => ?_)
  · obtain ⟨_, _, _, _, rfl, _⟩ := h; rfl
  refine ⟨_, (pss_cons (ps_asg (pe_c c_told_pair hr (by decide) rfl (pa_cons (pv 1) pa_nil)) (pg_tup rfl (pgs_cons (pg_name (i := 2) nd rfl (Or.inl rfl)) (pgs_cons (pg_name (i := 3) nd rfl (Or.inl rfl)) pgs_nil))))
    (pss_one (ps_ret (pe_mk m_Ratio2 hr (by decide) rfl (pa_cons (pe_op op_add (pe_op op_mulW (pe_fld (pv 0) rfl) (pv 3)) (pe_op op_mulW (pv 2) (pe_fld (pv 0) rfl))) (pa_cons (pe_op op_mulW (pe_fld (pv 0) rfl) (pv 3)) pa_nil)))))), ?_⟩
  obtain ⟨a, b, q, r, rfl, ⟨p, rfl, dx, hp⟩, hb, sq, sr, k⟩ := h
  refine ⟨_, rfl, _, r, rfl, hb, fun tp htp => ?_⟩
  have e1 : Ex H (upd H tp (.tup [.int r.num, .int (r.den : Int)])) := Ex.new htp
  have hp1 := e1 _ _ hp
  refine gt2 (st_of upd_same) ?_
  refine ⟨_, rfl, p, _, dx, _, _, rfl, hp1, T.R.cl, T.rTop, lk_top q, _, rfl, _, _, rfl, rfl, cm sq.1 (sd sr), ?_⟩
  refine ⟨_, rfl, _, rfl, p, _, dx, _, _, rfl, hp1, T.R.cl, T.rBot, lk_bot q, _, _, rfl, rfl, cm sr.1 (sd sq), ?_⟩
  refine ⟨_, _, rfl, rfl, ?_⟩
  refine ⟨_, rfl, p, _, dx, _, _, rfl, hp1, T.R.cl, T.rBot, lk_bot q, _, rfl, _, _, rfl, rfl, cm (sd sq) (sd sr), ?_⟩
  intro x dx hx hdx ne
  refine new_rat hx hdx ne (b := q.den * r.den) (Int.natCast_mul _ _).symm (Nat.mul_pos q.den_pos r.den_pos) (lt_two sq.2 sr.2) fun v H' e hv => k v H' (e1.trans e) ?_
  rw [Rat.add_def']
  exact hv
abbrev st_rmul : Stmt := sub 29 10
theorem ok_rmul {f : Addr} {fd : FuncData} (F : C8.Fun Y.K "__mul__" "Ratio.__mul__" st_rmul f fd) (T : TxtY Y) (c_told_pair : CalY Y 2 "told_pair" (sp_told_pair Y) []) (m_Ratio2 : MakY Y 2 "Ratio" Y.CR (sp_Ratio Y) []) : FnOk Y.P Y.w Y.K Y.mg Y.base C8.CX0 4 f fd ["self", "other"] (sp_rmul Y) := by
  have S : FnScope ["self", "other", "top", "bottom"] ["self", "other"] (fnScope st_rmul) := fnScope_by (by decide +kernel)
  have nd := S.nd
  refine fn0 F S (fun vs H Q E h => ?_) (fun cdv A outer s H vs Q E hr h => ?_)
  · obtain ⟨_, _, _, _, rfl, _⟩ := h; rfl
  refine ⟨_, (pss_cons (ps_asg (pe_c c_told_pair hr (by decide) rfl (pa_cons (pv 1) pa_nil)) (pg_tup rfl (pgs_cons (pg_name (i := 2) nd rfl (Or.inl rfl)) (pgs_cons (pg_name (i := 3) nd rfl (Or.inl rfl)) pgs_nil))))
    (pss_one (ps_ret (pe_mk m_Ratio2 hr (by decide) rfl (pa_cons (pe_op op_mulW (pe_fld (pv 0) rfl) (pv 2)) (pa_cons (pe_op op_mulW (pe_fld (pv 0) rfl) (pv 3)) pa_nil)))))), ?_⟩
  obtain ⟨a, b, q, r, rfl, ⟨p, rfl, dx, hp⟩, hb, sq, sr, k⟩ := h
  refine ⟨_, rfl, _, r, rfl, hb, fun tp htp => ?_⟩
  have e1 : Ex H (upd H tp (.tup [.int r.num, .int (r.den : Int)])) := Ex.new htp
  have hp1 := e1 _ _ hp
  refine gt2 (st_of upd_same) ?_
  refine ⟨_, rfl, p, _, dx, _, _, rfl, hp1, T.R.cl, T.rTop, lk_top q, _, rfl, _, _, rfl, rfl, cm sq.1 sr.1, ?_⟩
  refine ⟨_, rfl, p, _, dx, _, _, rfl, hp1, T.R.cl, T.rBot, lk_bot q, _, rfl, _, _, rfl, rfl, cm (sd sq) (sd sr), ?_⟩
  intro x dx hx hdx ne
  refine new_rat hx hdx ne (b := q.den * r.den) (Int.natCast_mul _ _).symm (Nat.mul_pos q.den_pos r.den_pos) (lt_two sq.2 sr.2) fun v H' e hv => k v H' (e1.trans e) ?_
  rw [Rat.mul_def']
  exact hv

def sp_req (Y : Yc) : Sp := fun vs H Q _ => ∃ a b q r, vs = [a, b] ∧ RatV Y.CR H a q ∧ RatV Y.CR H b r ∧ Q (.bl (decide (q = r))) H
def sp_rsign (Y : Yc) : Sp := fun vs H Q _ => ∃ a q, vs = [a] ∧ RatV Y.CR H a q ∧ Q (.int q.num.sign) H

abbrev st_req : Stmt := sub 29 17
theorem ok_req {f : Addr} {fd : FuncData} (F : C8.Fun Y.K "__eq__" "Ratio.__eq__" st_req f fd) (T : TxtY Y)  : FnOk Y.P Y.w Y.K Y.mg Y.base C8.CX0 1 f fd ["self", "other"] (sp_req Y) := by
  have S : FnScope ["self", "other"] ["self", "other"] (fnScope st_req) := fnScope_by (by decide +kernel)
  have nd := S.nd
  refine fn0 F S (fun vs H Q E h => ?_) (fun cdv A outer s H vs Q E hr h => ?_)
  · obtain ⟨_, _, _, _, rfl, _⟩ := h; rfl
  refine ⟨_, (pss_cons (ps_if (pt_not (pt_val (pe_callB call_isi rfl T.n_isinstance boot_isinstance (pa_cons (pv 1) (pa_cons (pe_gc rfl T.k_Ratio) pa_nil))))) (pss_one (ps_ret pe_bl)) pss_nil)
    (pss_one (ps_ret (pe_and (pe_cmpR op_eq (pe_fld (pv 0) rfl) (pe_fld (pv 1) rfl) (nomark _)) (pe_one (pe_cmpR op_eq (pe_fld (pv 0) rfl) (pe_fld (pv 1) rfl) (nomark _))))))), ?_⟩
  obtain ⟨a, b, q, r, rfl, ⟨p, rfl, dx, hp⟩, ⟨p2, rfl, dx2, hp2⟩, k⟩ := h
  refine ⟨_, rfl, _, _, _, _, true, rfl, .own _, T.R.ty hp2, T.R.is, true, rfl, iteF ?_⟩
  refine ⟨_, rfl, p, _, dx, _, _, rfl, hp, T.R.cl, T.rTop, lk_top q, _, rfl, p2, _, dx2, _, _, rfl, hp2, T.R.cl, T.rTop, lk_top r, rfl, _, rfl, ?_⟩
  refine ite2 (fun h0 => ?_) (fun h0 => ?_)
  · have e0 : q.num = r.num := V.int.inj (of_decide_eq_true h0)
    refine ⟨_, rfl, p, _, dx, _, _, rfl, hp, T.R.cl, T.rBot, lk_bot q, _, rfl, p2, _, dx2, _, _, rfl, hp2, T.R.cl, T.rBot, lk_bot r, rfl, ?_⟩
    refine cv (congrArg V.bl ?_) k
    rw [decide_eq_decide]
    constructor
    · intro e
      exact Rat.ext e0 (Int.ofNat.inj (V.int.inj e))
    · rintro rfl
      rfl
  · refine cv (congrArg V.bl ?_) k
    have h1 : q ≠ r := fun e => h0 (decide_eq_true (by rw [e]))
    exact (decide_eq_false h1).symm
abbrev st_rsign : Stmt := sub 29 3
theorem ok_rsign {f : Addr} {fd : FuncData} (F : C8.Fun Y.K "sign" "Ratio.sign" st_rsign f fd) (T : TxtY Y)  : FnOk Y.P Y.w Y.K Y.mg Y.base C8.CX0 1 f fd ["self"] (sp_rsign Y) := by
  have S : FnScope ["self"] ["self"] (fnScope st_rsign) := fnScope_by (by decide +kernel)
  have nd := S.nd
  refine fn0 F S (fun vs H Q E h => ?_) (fun cdv A outer s H vs Q E hr h => ?_)
  · obtain ⟨_, _, rfl, _⟩ := h; rfl
  refine ⟨_, (pss_one (ps_ret (pe_op op_sub (pe_callTy call_int1 rfl T.n_int boot_int (pa_cons (pe_cmpR op_gt (pe_fld (pv 0) rfl) pe_int (nomark _)) pa_nil)) (pe_callTy call_int1 rfl T.n_int boot_int (pa_cons (pe_cmpR op_lt (pe_fld (pv 0) rfl) pe_int (nomark _)) pa_nil))))), ?_⟩
  obtain ⟨a, q, rfl, ⟨p, rfl, dx, hp⟩, k⟩ := h
  refine ⟨_, rfl, p, _, dx, _, _, rfl, hp, T.R.cl, T.rTop, lk_top q, _, _, rfl, rfl, .inr ⟨_, rfl, ?_⟩⟩
  refine ⟨_, rfl, p, _, dx, _, _, rfl, hp, T.R.cl, T.rTop, lk_top q, _, _, rfl, rfl, .inr ⟨_, rfl, ?_⟩⟩
  refine ⟨_, _, rfl, rfl, ?_⟩
  refine cv (congrArg V.int ?_) k
  rcases Int.lt_trichotomy q.num 0 with h | h | h
  · rw [Int.sign_eq_neg_one_of_neg h]
    simp [h, Int.lt_asymm h]
  · rw [h]
    rfl
  · rw [Int.sign_eq_one_of_pos h]
    simp [h, Int.lt_asymm h]

/-! ### numbers -/
def sp_is_number (Y : Yc) : Sp := fun vs H Q _ => ∃ v q, vs = [v] ∧ NumV Y.CR H v q ∧ Q (.bl true) H
def sp_ratio_of (Y : Yc) : Sp := fun vs H Q _ => ∃ v q, vs = [v] ∧ NumV Y.CR H v q ∧ ∀ v' H', Ex H H' → RatV Y.CR H' v' q → Q v' H'
def sp_pair_sum (Y : Yc) : Sp := fun vs H Q _ => ∃ a b q r, vs = [a, b] ∧ RatV Y.CR H a q ∧ RatV Y.CR H b r ∧ Sz q ∧ Sz r ∧ ∀ v H', Ex H H' → RatV Y.CR H' v (q + r) → Q v H'
def sp_top_of (Y : Yc) : Sp := fun vs H Q _ => ∃ v q, vs = [v] ∧ NumV Y.CR H v q ∧ Q (.int q.num) H
def sp_is_from_nought (Y : Yc) : Sp := fun vs H Q _ => ∃ v q, vs = [v] ∧ NumV Y.CR H v q ∧ Q (.bl (decide (0 ≤ q))) H
def sp_is_above (Y : Yc) : Sp := fun vs H Q _ => ∃ v q, vs = [v] ∧ NumV Y.CR H v q ∧ Q (.bl (decide (0 < q))) H

abbrev st_is_number : Stmt := top 31
theorem ok_is_number {f : Addr} {fd : FuncData} (F : C8.Fun Y.K "is_number" "is_number" st_is_number f fd) (T : TxtY Y) (c_is_integer : CalY Y 1 "is_integer" (sp_is_integer Y) []) : FnOk Y.P Y.w Y.K Y.mg Y.base C8.CX0 2 f fd ["value"] (sp_is_number Y) := by
  have S : FnScope ["value"] ["value"] (fnScope st_is_number) := fnScope_by (by decide +kernel)
  have nd := S.nd
  refine fn0 F S (fun vs H Q E h => ?_) (fun cdv A outer s H vs Q E hr h => ?_)
  · obtain ⟨_, _, rfl, _⟩ := h; rfl
  refine ⟨_, (pss_one (ps_ret (pe_or (pe_c c_is_integer hr (by decide) rfl (pa_cons (pv 0) pa_nil)) (pe_one (pe_callB call_isi rfl T.n_isinstance boot_isinstance (pa_cons (pv 0) (pa_cons (pe_gc rfl T.k_Ratio) pa_nil))))))), ?_⟩
  obtain ⟨v, q, rfl, n, k⟩ := h
  rcases n with ⟨n, rfl, rfl⟩ | ⟨p, rfl, dx, hp⟩
  · refine ⟨_, rfl, _, rfl, .inl ⟨_, rfl, true, rfl, iteT k⟩⟩
  · refine ⟨_, rfl, _, rfl, .inr ⟨q, ⟨p, rfl, dx, hp⟩, false, rfl, iteF ?_⟩⟩
    exact ⟨_, rfl, _, _, _, _, true, rfl, .own _, T.R.ty hp, T.R.is, k⟩
abbrev st_ratio_of : Stmt := top 32
theorem ok_ratio_of {f : Addr} {fd : FuncData} (F : C8.Fun Y.K "ratio_of" "ratio_of" st_ratio_of f fd) (T : TxtY Y) (m_Ratio1 : MakY Y 2 "Ratio" Y.CR (sp_Ratio Y) [.int 1]) : FnOk Y.P Y.w Y.K Y.mg Y.base C8.CX0 4 f fd ["number"] (sp_ratio_of Y) := by
  have S : FnScope ["number"] ["number"] (fnScope st_ratio_of) := fnScope_by (by decide +kernel)
  have nd := S.nd
  refine fn0 F S (fun vs H Q E h => ?_) (fun cdv A outer s H vs Q E hr h => ?_)
  · obtain ⟨_, _, rfl, _⟩ := h; rfl
  refine ⟨_, (pss_one (ps_ret (pe_ifExp (pt_val (pe_callB call_isi rfl T.n_isinstance boot_isinstance (pa_cons (pv 0) (pa_cons (pe_gc rfl T.k_Ratio) pa_nil)))) (pv 0) (pe_mk m_Ratio1 hr (by decide) rfl (pa_cons (pv 0) pa_nil))))), ?_⟩
  obtain ⟨v, q, rfl, n, k⟩ := h
  rcases n with ⟨n, rfl, rfl⟩ | ⟨p, rfl, dx, hp⟩
  · refine ⟨_, rfl, _, _, _, _, false, rfl, .own _, .base (.int n), T.R.iI, false, rfl, iteF ?_⟩
    refine ⟨_, rfl, fun x dx hx hdx ne => ?_⟩
    refine new_rat hx hdx ne (b := 1) rfl (by decide) (Nat.one_lt_two_pow (by decide)) fun v H' e hv => k v H' e ?_
    rw [mk_one] at hv
    exact hv
  · refine ⟨_, rfl, _, _, _, _, true, rfl, .own _, T.R.ty hp, T.R.is, true, rfl, iteT ?_⟩
    exact ⟨_, rfl, k _ _ (Ex.refl H) ⟨p, rfl, dx, hp⟩⟩
abbrev st_pair_sum : Stmt := top 34
theorem ok_pair_sum {f : Addr} {fd : FuncData} (F : C8.Fun Y.K "pair_sum" "pair_sum" st_pair_sum f fd) (T : TxtY Y) (m_Ratio2 : MakY Y 2 "Ratio" Y.CR (sp_Ratio Y) []) : FnOk Y.P Y.w Y.K Y.mg Y.base C8.CX0 4 f fd ["one", "other"] (sp_pair_sum Y) := by
  have S : FnScope ["one", "other"] ["one", "other"] (fnScope st_pair_sum) := fnScope_by (by decide +kernel)
  have nd := S.nd
  refine fn0 F S (fun vs H Q E h => ?_) (fun cdv A outer s H vs Q E hr h => ?_)
  · obtain ⟨_, _, _, _, rfl, _⟩ := h; rfl
  refine ⟨_, (pss_one (ps_ret (pe_mk m_Ratio2 hr (by decide) rfl (pa_cons (pe_op op_add (pe_op op_mulW (pe_fld (pv 0) rfl) (pe_fld (pv 1) rfl)) (pe_op op_mulW (pe_fld (pv 1) rfl) (pe_fld (pv 0) rfl))) (pa_cons (pe_op op_mulW (pe_fld (pv 0) rfl) (pe_fld (pv 1) rfl)) pa_nil))))), ?_⟩
  obtain ⟨a, b, q, r, rfl, ⟨p, rfl, dx, hp⟩, ⟨p2, rfl, dx2, hp2⟩, sq, sr, k⟩ := h
  refine ⟨_, rfl, p, _, dx, _, _, rfl, hp, T.R.cl, T.rTop, lk_top q, _, rfl, p2, _, dx2, _, _, rfl, hp2, T.R.cl, T.rBot, lk_bot r, _, _, rfl, rfl, cm sq.1 (sd sr), ?_⟩
  refine ⟨_, rfl, p2, _, dx2, _, _, rfl, hp2, T.R.cl, T.rTop, lk_top r, _, rfl, p, _, dx, _, _, rfl, hp, T.R.cl, T.rBot, lk_bot q, _, _, rfl, rfl, cm sr.1 (sd sq), ?_⟩
  refine ⟨_, _, rfl, rfl, ?_⟩
  refine ⟨_, rfl, p, _, dx, _, _, rfl, hp, T.R.cl, T.rBot, lk_bot q, _, rfl, p2, _, dx2, _, _, rfl, hp2, T.R.cl, T.rBot, lk_bot r, _, _, rfl, rfl, cm (sd sq) (sd sr), ?_⟩
  intro x dx hx hdx ne
  refine new_rat hx hdx ne (b := q.den * r.den) (Int.natCast_mul _ _).symm (Nat.mul_pos q.den_pos r.den_pos) (lt_two sq.2 sr.2) fun v H' e hv => k v H' e ?_
  rw [Rat.add_def']
  exact hv
abbrev st_top_of : Stmt := top 36
theorem ok_top_of {f : Addr} {fd : FuncData} (F : C8.Fun Y.K "top_of" "top_of" st_top_of f fd) (T : TxtY Y)  : FnOk Y.P Y.w Y.K Y.mg Y.base C8.CX0 1 f fd ["number"] (sp_top_of Y) := by
  have S : FnScope ["number"] ["number"] (fnScope st_top_of) := fnScope_by (by decide +kernel)
  have nd := S.nd
  refine fn0 F S (fun vs H Q E h => ?_) (fun cdv A outer s H vs Q E hr h => ?_)
  · obtain ⟨_, _, rfl, _⟩ := h; rfl
  refine ⟨_, (pss_one (ps_ret (pe_ifExp (pt_val (pe_callB call_isi rfl T.n_isinstance boot_isinstance (pa_cons (pv 0) (pa_cons (pe_gc rfl T.k_Ratio) pa_nil)))) (pe_fld (pv 0) rfl) (pv 0)))), ?_⟩
  obtain ⟨v, q, rfl, n, k⟩ := h
  rcases n with ⟨n, rfl, rfl⟩ | ⟨p, rfl, dx, hp⟩
  · refine ⟨_, rfl, _, _, _, _, false, rfl, .own _, .base (.int n), T.R.iI, false, rfl, iteF ?_⟩
    exact ⟨_, rfl, k⟩
  · refine ⟨_, rfl, _, _, _, _, true, rfl, .own _, T.R.ty hp, T.R.is, true, rfl, iteT ?_⟩
    exact ⟨_, rfl, p, _, dx, _, _, rfl, hp, T.R.cl, T.rTop, lk_top q, k⟩
abbrev st_is_from_nought : Stmt := top 37
theorem ok_is_from_nought {f : Addr} {fd : FuncData} (F : C8.Fun Y.K "is_from_nought" "is_from_nought" st_is_from_nought f fd) (T : TxtY Y) (c_is_number : CalY Y 2 "is_number" (sp_is_number Y) []) (c_top_of : CalY Y 1 "top_of" (sp_top_of Y) []) : FnOk Y.P Y.w Y.K Y.mg Y.base C8.CX0 3 f fd ["value"] (sp_is_from_nought Y) := by
  have S : FnScope ["value"] ["value"] (fnScope st_is_from_nought) := fnScope_by (by decide +kernel)
  have nd := S.nd
  refine fn0 F S (fun vs H Q E h => ?_) (fun cdv A outer s H vs Q E hr h => ?_)
  · obtain ⟨_, _, rfl, _⟩ := h; rfl
  refine ⟨_, (pss_one (ps_ret (pe_and (pe_c c_is_number hr (by decide) rfl (pa_cons (pv 0) pa_nil)) (pe_one (pe_cmpR op_ge (pe_c c_top_of hr (by decide) rfl (pa_cons (pv 0) pa_nil)) pe_int (nomark _)))))), ?_⟩
  obtain ⟨v, q, rfl, n, k⟩ := h
  refine ⟨_, rfl, v, q, rfl, n, true, rfl, iteT ?_⟩
  refine ⟨_, rfl, v, q, rfl, n, _, _, rfl, rfl, ?_⟩
  exact cv (congrArg V.bl (decide_eq_decide.mpr Rat.num_nonneg)) k
abbrev st_is_above : Stmt := top 38
theorem ok_is_above {f : Addr} {fd : FuncData} (F : C8.Fun Y.K "is_above" "is_above" st_is_above f fd) (T : TxtY Y) (c_is_number : CalY Y 2 "is_number" (sp_is_number Y) []) (c_top_of : CalY Y 1 "top_of" (sp_top_of Y) []) : FnOk Y.P Y.w Y.K Y.mg Y.base C8.CX0 3 f fd ["value"] (sp_is_above Y) := by
  have S : FnScope ["value"] ["value"] (fnScope st_is_above) := fnScope_by (by decide +kernel)
  have nd := S.nd
  refine fn0 F S (fun vs H Q E h => ?_) (fun cdv A outer s H vs Q E hr h => ?_)
  · obtain ⟨_, _, rfl, _⟩ := h; rfl
  refine ⟨_, (pss_one (ps_ret (pe_and (pe_c c_is_number hr (by decide) rfl (pa_cons (pv 0) pa_nil)) (pe_one (pe_cmpR op_gt (pe_c c_top_of hr (by decide) rfl (pa_cons (pv 0) pa_nil)) pe_int (nomark _)))))), ?_⟩
  obtain ⟨v, q, rfl, n, k⟩ := h
  refine ⟨_, rfl, v, q, rfl, n, true, rfl, iteT ?_⟩
  refine ⟨_, rfl, v, q, rfl, n, _, _, rfl, rfl, ?_⟩
  refine cv (congrArg V.bl (decide_eq_decide.mpr ?_)) k
  have e : q.num ≤ 0 ↔ q ≤ 0 := by
    rw [← Rat.neg_neg (a := q), Rat.neg_num, Rat.neg_le_iff, Rat.neg_zero, ← Rat.num_nonneg, Rat.neg_num]
    omega
  rw [← Int.not_le, e, Rat.not_le]

/-! ### the common bottom of ratios -/
def lcms : Nat → List Rat → Nat
  | B, [] => B
  | B, q :: r => lcms (Nat.lcm B q.den) r
theorem lcms_snoc (q : Rat) : ∀ (l : List Rat) (B : Nat), lcms B (l ++ [q]) = Nat.lcm (lcms B l) q.den
  | [], _ => rfl
  | x :: l, B => lcms_snoc q l (Nat.lcm B x.den)
theorem lcms_pos : ∀ (l : List Rat) (B : Nat), 0 < B → 0 < lcms B l
  | [], _, h => h
  | x :: l, B, h => lcms_pos l _ (Nat.lcm_pos h x.den_pos)
theorem lcms_dvd {D : Nat} : ∀ (l : List Rat) (B : Nat), B ∣ D → (∀ q ∈ l, q.den ∣ D) → lcms B l ∣ D
  | [], _, h, _ => h
  | x :: l, B, h, a => lcms_dvd l _ (Nat.lcm_dvd h (a x (List.mem_cons_self ..))) fun q hq => a q (List.mem_cons_of_mem _ hq)
theorem lcms_self : ∀ (l : List Rat) (B : Nat), B ∣ lcms B l ∧ ∀ q ∈ l, q.den ∣ lcms B l
  | [], B => ⟨Nat.dvd_refl B, fun _ h => by cases h⟩
  | x :: l, B => by
    obtain ⟨h1, h2⟩ := lcms_self l (Nat.lcm B x.den)
    refine ⟨Nat.dvd_trans (Nat.dvd_lcm_left B x.den) h1, fun q hq => ?_⟩
    rcases List.mem_cons.mp hq with e | e
    · rw [e]
      exact Nat.dvd_trans (Nat.dvd_lcm_right B x.den) h1
    · exact h2 q e
theorem mul_den (q : Rat) : q * (q.den : Rat) = (q.num : Rat) := by
  have h := Rat.mkRat_self q
  rw [Rat.mkRat_eq_div] at h
  have h0 : ((q.den : Nat) : Rat) ≠ 0 := fun e => q.den_nz (Rat.natCast_eq_zero_iff.mp e)
  have z := Rat.div_mul_cancel (a := (q.num : Rat)) h0
  rw [h] at z
  exact z
/-- q over the bottom B -/
def upTo (B : Nat) (q : Rat) : Int := q.num * ((B / q.den : Nat) : Int)
theorem upTo_rat {B : Nat} {q : Rat} (h : q.den ∣ B) : ((upTo B q : Int) : Rat) = q * (B : Rat) := by
  obtain ⟨c, rfl⟩ := h
  unfold upTo
  rw [Nat.mul_div_cancel_left _ q.den_pos]
  have e := mul_den q
  push_cast
  rw [← e]
  grind
/-- what wholes is asked: every bottom divides D -/
def FitL (D : Nat) (qs : List Rat) : Prop := ∀ q ∈ qs, q.den ∣ D ∧ q.num.natAbs < 2 ^ 4000
def sp_wholes (Y : Yc) : Sp := fun vs H Q _ => ∃ (l : Addr) (xs : List V) (qs : List Rat) (D : Nat), vs = [.ref l] ∧ SqL Y.K H l xs ∧ RatL Y H xs qs ∧ qs.length ≤ 1000 ∧ 0 < D ∧ D < 2 ^ 4000 ∧ FitL D qs ∧
  ∀ p t H', Ex H H' → H' p = some (.tup [.int (lcms 1 qs : Nat), .ref t]) → H' t = some (.lst (qs.map fun q => .int (upTo (lcms 1 qs) q))) → Q (.ref p) H'

abbrev st_wholes : Stmt := top 39
theorem ok_wholes {f : Addr} {fd : FuncData} (F : C8.Fun Y.K "wholes" "wholes" st_wholes f fd) (T : TxtY Y) (c_common_bottom : CalY Y 1 "common_bottom" (sp_common_bottom Y) []) : FnOk Y.P Y.w Y.K Y.mg Y.base C8.CX0 2 f fd ["ratios"] (sp_wholes Y) := by
  have S : FnScope ["ratios", "bottom", "ratio"] ["ratios"] (fnScope st_wholes) := fnScope_by (by decide +kernel)
  have nd := S.nd
  refine fn0 F S (fun vs H Q E h => ?_) (fun cdv A outer s H vs Q E hr h => ?_)
  · obtain ⟨_, _, _, _, rfl, _⟩ := h; rfl
  refine ⟨_, (pss_cons (ps_set (i := 1) nd rfl (Or.inr rfl) pe_int)
    (pss_cons (ps_for PassesOwn.never rfl (pi_list (pv 0)) (pg_name (i := 2) nd rfl (Or.inl rfl))
    (pss_one (ps_set (i := 1) nd rfl (Or.inr rfl) (pe_c c_common_bottom hr (by decide) rfl (pa_cons (pv 1) (pa_cons (pe_fld (pv 2) rfl) pa_nil))))))
    (pss_one (ps_ret (pe_tup (pa_cons (pv 1) (pa_cons (pe_lc (own := [("ratio", 2)]) (g := gName 2) (tt := tYes) rfl nd (pi_list (pv 0)) (blkOk_by (N := ["ratios", "bottom", "ratio"]) (sc := (fnScope st_wholes)) (by decide +kernel)) (fun _ _ _ _ _ => by exact (pg_name (i := 2) nd rfl (Or.inl rfl))) (fun _ _ _ _ _ => by exact pts_nil) (fun _ _ _ _ _ => by exact (pe_op op_mulW (fldB Y.K (pv 2) rfl) (pe_op op_fdivW (pv 1) (fldB Y.K (pv 2) rfl))))) pa_nil))))))), ?_⟩
  obtain ⟨l, xs, qs, D, rfl, sq, rl, hl, hD, sD, fit, k⟩ := h
  have lx : xs.length = qs.length := Paired.length rl
  have part : ∀ i, lcms 1 (qs.take i) ∣ D := fun i => lcms_dvd _ 1 (Nat.one_dvd D) fun q hq => (fit q (List.mem_of_mem_take hq)).1
  have lt : ∀ {a : Nat}, a ∣ D → a < 2 ^ 4000 := fun h => Nat.lt_of_le_of_lt (Nat.le_of_dvd hD h) sD
  refine ⟨_, rfl, l, rfl, ⟨xs, sq⟩, ?_⟩
  refine for_it (walk_list (xs := xs)) (fun i σ H' => H' = H ∧ ∃ o, σ = [some (.ref l), some (.int (lcms 1 (qs.take i) : Nat)), o]) ⟨rfl, none, rfl⟩ (fun i σ H' _ q => by rw [q.1]; exact sq) ?_ ?_
  · rintro i x σ H' H2 hi ⟨rfl, o, rfl⟩ ⟨rfl, hx⟩
    obtain ⟨q, hq, p, rfl, dx, hp⟩ := pr_getL rl hx
    have hm := List.mem_of_getElem? hq
    refine ⟨_, rfl, _, rfl, p, _, dx, _, _, rfl, hp, T.R.cl, T.rBot, lk_bot q, ?_⟩
    refine ⟨_, _, rfl, lcms_pos _ 1 (by decide), q.den_pos, lt (part i), lt (fit q hm).1, ?_⟩
    refine ⟨rfl, some (.ref p), ?_⟩
    rw [take_next hq, lcms_snoc]
    rfl
  · rintro σ H' ⟨rfl, o, rfl⟩
    rw [lx, List.take_length]
    have dv := lcms_self qs 1
    refine ⟨_, rfl, _, rfl, l, rfl, ⟨xs, sq⟩, fun Dl hDl => ?_⟩
    have wl := walk_list (K := Y.K) (a := l) (xs := xs)
    rw [lx] at wl
    refine lc_map (us := qs) wl (fun q y _ => y = .int (upTo (lcms 1 qs) q)) hDl (by omega) (fun H2 e => ex_l e sq) (fun _ _ _ _ _ h => h) (fun _ _ _ _ _ _ h => h) ?_ gn_mono ?_
    · rintro i q x H2 H3 Kq hq e ⟨ys, hys⟩ ⟨rfl, hx⟩ hk
      obtain ⟨q', hq', p, rfl, dx, hp⟩ := pr_getL rl hx
      obtain rfl : q' = q := Option.some.inj (hq'.symm.trans hq)
      have hm := List.mem_of_getElem? hq
      have hp2 := e _ _ hp
      have hB := lt (lcms_dvd (D := D) qs 1 (Nat.one_dvd D) fun q hq => (fit q hq).1)
      refine ⟨rfl, ?_⟩
      refine ⟨_, rfl, p, _, dx, _, _, rfl, hp2, T.R.cl, T.rTop, lk_top q', _, rfl, _, rfl, p, _, dx, _, _, rfl, hp2, T.R.cl, T.rBot, lk_bot q', ?_⟩
      refine ⟨_, _, rfl, rfl, wide_div (den_pos' q') (b := 4000) (by rw [Int.natAbs_natCast]; exact lt (fit q' hm).1) (by decide) (by decide), ?_⟩
      refine ⟨_, _, rfl, rfl, cm (fit q' hm).2 ?_, hk _ _ (Ex.refl _) ?_⟩
      · rw [← Int.natCast_ediv, Int.natAbs_natCast]
        exact Nat.lt_of_le_of_lt (Nat.div_le_self _ _) hB
      · unfold upTo
        rw [Int.natCast_ediv]
    · intro ys H2 e hd pr
      rw [pr_eq pr fun _ _ h => h] at hd
      refine ⟨l2, fun p hp => k p Dl _ (e.trans (Ex.new hp)) upd_same ?_⟩
      rw [upd_ne (ne_of_none hd hp)]
      exact hd

end Km
end

section
set_option Elab.async false
set_option linter.all false
set_option maxRecDepth 100000
namespace Km
open PySem PySem.Calls PyProof.Rows
section
variable {prog : Program} {w : World} {A : Around} {E : Value → Shared → Prop} {s : Shared}
/-- the sum of a tuple of ints -/
theorem sum_tupRaw {t : Addr} {xs : Array (Int × Tok)} {Q : Value → Shared → Prop} (hh : A.handled = none) (ht : s.heap.IsTuple t (intItems xs))
    (h : ∀ h' tk u, (∀ b o, s.heap.get? b = some o → h'.get? b = some o) → Q (.int (preSum (numAt xs) xs.size) u) { s with heap := h', toks := tk }) :
    wpAny (model prog w) A (call (.builtin "sum") [.ref t]) Q E s := by
  have hlt : t < s.heap.objs.size := by
    obtain ⟨o, e, _⟩ := ht
    exact Heap.lt_size e
  refine call_sum_walkG (wpAny_pyIter_tuple ht ?_)
  refine ⟨s.heap.objs.size, _, _, _, _, _, numAt xs, rfl, Walks.tuple (A := A.in1) hh _ t (Nat.ne_of_lt hlt) (intItems xs), ⟨⟨_, Heap.get?_push_size _ rfl, rfl, rfl⟩, ht.push _⟩, fun b hb => ?_, fun _ _ => intItems_at, fun h' tk u hk => ?_⟩
  · show b < (s.heap.push _).objs.size
    rw [Heap.size_push]
    rcases List.mem_cons.mp hb with rfl | hb
    · exact Nat.lt_succ_self _
    · rcases List.mem_cons.mp hb with rfl | hb
      · exact Nat.lt_succ_of_lt hlt
      · cases hb
  · have z := h h' tk u fun b o e => hk b o (by simp; exact Nat.ne_of_lt (Heap.lt_size e)) (Heap.get?_push_of_some _ e)
    simpa [intItems] using z
end
end Km
namespace Km
open PySem PySem.Spec PyProof.Rows L2
section
variable {X : Cx}
theorem cr_sumT (hc : X.calm = true) : CallR X (.builtin "sum") (fun vs H Q => ∃ (a : Addr) (ns : List Int), vs = [V.ref a] ∧ SqT X.K H a (ns.map V.int) ∧ Q (.int ns.sum) H) := by
  intro pins s σ H vs us Q I r h
  obtain ⟨a, ns, rfl, hs, q⟩ := h
  obtain ⟨its, rv, hl, _⟩ := I.tuple hs
  rw [Vals.ref1 r]
  have hi := rv.ints
  obtain ⟨xs, e⟩ := hi.allInts.items
  have hn : numsOf (intItems xs).toList = ns := by
    rw [← e]
    exact hi.numsOf
  rw [nums_intItems] at hn
  rw [e] at hl
  refine sum_tupRaw (I.ok.hd hc) hl fun h' tk u hk => ⟨.int ns.sum, H, I.kept hk, ⟨u, ?_⟩, q⟩
  rw [preSum_eq, List.take_of_length_le (by simp), hn]
theorem get_list : PGet X (fun o i H Q => ∃ p xs k v, o = .ref p ∧ i = .int k ∧ SqL X.K H p xs ∧ atI xs k = some v ∧ Q v H) := by
  intro pins s σ H o i ov iv Q I ro ri h
  obtain ⟨p, xs, k, v, rfl, rfl, hq, he, q⟩ := h
  cases ro
  obtain ⟨t, rfl⟩ := ri
  obtain ⟨its, r, pl, hz⟩ := I.list hq
  obtain ⟨j, h1, h2, h3, h4, h5⟩ := atI_get he
  obtain ⟨u, eu, ru⟩ := r.get h2
  have hl := r.length
  have hn := line63
  by_cases h0 : 0 ≤ k
  · have hj : k.toNat = j := by
      rw [seqIndex_of h0 h5] at h1
      exact Option.some.inj h1
    exact wpAny_getItem_list pl.isList h0 (by omega) (by rw [hj]; simpa using eu) ⟨v, H, I, ru, q⟩
  · have hj : (k + (its.toArray.size : Int)).toNat = j := by
      rw [seqIndex_neg (by omega) h4] at h1
      rw [List.size_toArray, ← hl]
      exact Option.some.inj h1
    exact wpAny_getItem_list_neg pl.isList (by omega) (by rw [List.size_toArray] <;> omega) (by omega) (by rw [hj]; simpa using eu) ⟨v, H, I, ru, q⟩
end
/-! ### list(d.items()), keys that are tuples -/
section
variable {prog : Program} {w : World} {A : Around} {E : Value → Shared → Prop} {s : Shared} {r d : Addr} {es : Array DictEntry} {ep : Nat}
theorem init_itemsT {R : Result → Shared → Prop} (hh : A.handled = none) (hv : s.heap.IsItemsView r d) (hm : DT.Raw s.heap d es ep) (S : Addr) (n1 : S ≠ r) (n2 : d ≠ S) (hS : s.heap.get? S = some { cls := .type "list", data := .seq #[] })
    (hR : ∀ h' tk acc c as, (∀ b o, b ≠ S → s.heap.get? b = some o → h'.get? b = some o) → h'.get? S = some { cls := .type "list", dict := none, data := .seq acc c, slots := #[] } → as.length = es.size → DT.Made es S h' as →
      acc.toList = as.map Value.ref → R (.ok (.ret .none)) { s with heap := h', toks := tk }) (hn : es.size ≤ sizeLine) :
    wpAny (model prog w) A.in1 (Builtin.«list.__init__» ⟨[.ref S, .ref r], []⟩)
      (fun fin t => match fin with | .done f => R (.ok f) t | .again c' => c'.quiet = true ∧ codeAny (model prog w) A c' R t) (fun e t => R (.error e) t) s := by
  show wpAny _ _ (do let old ← Builtin.List.listItems (.ref S); Builtin.List.listUpdate (.ref S) (fun _ => #[]); letGo old.toList.reverse; Builtin.List.listExtendWith (.ref S) (.ref r) .none) _ _ s
  refine wpAny_bind ?_
  unfold Builtin.List.listItems
  refine wpAny_bind (wpAny_seqItems hS rfl (wpAny_pure ?_))
  show wpAny _ _ (updateSeq S (fun _ => #[]) >>= fun _ => letGo (#[] : Array Value).toList.reverse >>= fun _ => Builtin.List.listExtendWith (.ref S) (.ref r) .none) _ _ s
  refine wpAny_bind (wpAny_updateSeq hS rfl ?_)
  have hS2 := Heap.get?_update_self (Obj.mapSeq (fun _ => (#[] : Array Value))) hS rfl
  have kp : ∀ b o, b ≠ S → s.heap.get? b = some o → (s.heap.update S (Obj.mapSeq (fun _ => (#[] : Array Value)))).get? b = some o := fun b o n e => (Heap.get?_update_other _ _ n.symm).trans e
  refine wpAny_bind (wpAny_letGo ?_)
  refine DT.extI (es := es) (ep := ep) hh (let ⟨o, ho, x⟩ := hv; ⟨o, kp r o n1.symm ho, x⟩) (hm.at' fun o e => kp d o n2 e) S n1 n2 .none _ hS2 (fun h' tk acc c as hk hS' hl hG hacc => ?_) hn
  exact hR h' tk acc c as (fun b o n e => hk b o n (kp b o n e)) hS' hl (hG.low (Nat.le_of_lt (Heap.lt_size hS2))) hacc
theorem list_itemsT {Q : Value → Shared → Prop} (hh : A.handled = none) (hv : s.heap.IsItemsView r d) (hm : DT.Raw s.heap d es ep) (hn : es.size ≤ sizeLine)
    (hQ : ∀ h' tk acc c as, (∀ b o, s.heap.get? b = some o → h'.get? b = some o) → h'.get? s.heap.objs.size = some { cls := .type "list", dict := none, data := .seq acc c, slots := #[] } → as.length = es.size → DT.Made es s.heap.objs.size h' as →
      acc.toList = as.map Value.ref → Q (.ref s.heap.objs.size) { s with heap := h', toks := tk }) : wpAny (model prog w) A (call (.type "list") [.ref r]) Q E s := by
  refine callType_codes (Q₁ := fun obj t => obj = .ref s.heap.objs.size ∧ t = { s with heap := s.heap.push { cls := .type "list", data := .seq #[] } }) PySem.F.called_list (PySem.F.typeCall_list_1 _) PySem.F.entry_list_init
    (code_list_new _ ⟨rfl, rfl⟩) fun obj t ht => ?_
  obtain ⟨rfl, rfl⟩ := ht
  have hS : (s.heap.push { cls := .type "list", data := .seq #[] }).get? s.heap.objs.size = some { cls := .type "list", data := .seq #[] } := Heap.get?_push_size _ rfl
  have lr : r < s.heap.objs.size := let ⟨_, ho, _⟩ := hv; Heap.lt_size ho
  refine ⟨⟨_, hS, rfl⟩, PySem.F.args_list_init_2 _ _, init_itemsT (es := es) (ep := ep) (A := A.in1) hh (let ⟨o, ho, x⟩ := hv; ⟨o, Heap.get?_push_of_some _ ho, x⟩) (hm.push _) _ (Nat.ne_of_gt lr) (Nat.ne_of_lt hm.lt) hS (fun h' tk acc c as hk hS' hl hG hacc => ?_) hn⟩
  exact ⟨rfl, hQ h' tk acc c as (fun b o e => hk b o (Nat.ne_of_lt (Heap.lt_size e)) (Heap.get?_push_of_some _ e)) hS' hl hG hacc⟩
end
/-- pairs tracked at their addresses -/
def putP : Hp → List Addr → List (V × V) → Hp
  | H, a :: as, p :: ps => putP (upd H a (.tup [p.1, p.2])) as ps
  | H, _, _ => H
theorem putP_off {b : Addr} : ∀ (as : List Addr) (ps : List (V × V)) (H : Hp), b ∉ as → putP H as ps b = H b
  | [], _, _, _ => rfl
  | _ :: _, [], _, _ => rfl
  | a :: as, p :: ps, H, h => by
    show putP (upd H a _) as ps b = H b
    rw [putP_off as ps _ fun z => h (List.mem_cons_of_mem _ z), upd_ne fun z => h (by rw [z]; exact List.mem_cons_self ..)]
theorem putP_at : ∀ (as : List Addr) (ps : List (V × V)) (H : Hp), as.length = ps.length → as.Nodup → Paired (fun (t : Addr) (p : V × V) => putP H as ps t = some (.tup [p.1, p.2])) as ps
  | [], [], _, _, _ => .nil
  | [], _ :: _, _, h, _ => by cases h
  | _ :: _, [], _, h, _ => by cases h
  | a :: as, p :: ps, H, h, hn => by
    obtain ⟨n1, n2⟩ := List.nodup_cons.mp hn
    refine .cons ?_ (putP_at as ps (upd H a (.tup [p.1, p.2])) (Nat.succ.inj h) n2)
    show putP (upd H a (.tup [p.1, p.2])) as ps a = _
    rw [putP_off as ps _ n1, upd_same]
section
variable {X : Cx}
/-- a list of new pairs, all tracked at once -/
theorem pairs_laid {pins : List (Addr × Obj)} {σ : L2.St} {H : Hp} {s : Shared} {h' : Heap} {tk c : Nat} {S : Addr} {ps : List (V × V)} {acc : Array Value} {as : List Addr} (I : Inv X pins σ H s) (hz : ps.length ≤ sizeLine) (hS0 : s.heap.objs.size ≤ S)
    (hk : ∀ b o, s.heap.get? b = some o → h'.get? b = some o) (hS : h'.get? S = some { cls := .type "list", dict := none, data := .seq acc c, slots := #[] }) (hl : as.length = ps.length) (hd : as.Nodup) (above : ∀ a ∈ as, s.heap.objs.size ≤ a ∧ a ≠ S)
    (hG : ∀ (j : Nat) (a : Addr), as[j]? = some a → ∃ p u v, ps[j]? = some p ∧ RelV p.1 u ∧ RelV p.2 v ∧ IsTup h' a #[u, v]) (hacc : acc.toList = as.map Value.ref) :
    ∃ H' : Hp, Evl.Ex H H' ∧ H S = none ∧ (∀ t ∈ as, H t = none) ∧ H' S = some (.lst (as.map V.ref)) ∧ Paired (fun (t : Addr) (p : V × V) => H' t = some (.tup [p.1, p.2])) as ps ∧ Inv X pins σ H' { s with heap := h', toks := tk } := by
  have new : ∀ t ∈ as, H t = none := fun t ht => I.hok.fresh (above t ht).1
  have newS : H S = none := I.hok.fresh hS0
  have hSn : S ∉ as := fun z => (above S z).2 rfl
  have atP := putP_at as ps (upd H S (.lst (as.map V.ref))) hl hd
  have off : ∀ b, b ∉ as → b ≠ S → putP (upd H S (.lst (as.map V.ref))) as ps b = H b := fun b h1 h2 => by rw [putP_off as ps _ h1, upd_ne h2]
  have low : ∀ b o, s.heap.get? b = some o → b ∉ as ∧ b ≠ S := fun b o e => ⟨fun z => absurd (Heap.lt_size e) (Nat.not_lt.mpr (above b z).1), fun z => absurd (Heap.lt_size e) (Nat.not_lt.mpr (z ▸ hS0))⟩
  have kp : ∀ b u, H b = some u → (putP (upd H S (.lst (as.map V.ref))) as ps) b = some u := fun b u e => by
    rw [off b (fun z => by rw [new b z] at e; cases e) (fun z => by rw [z, newS] at e; cases e)]
    exact e
  have eS : putP (upd H S (.lst (as.map V.ref))) as ps S = some (.lst (as.map V.ref)) := by rw [putP_off as ps _ hSn, upd_same]
  refine ⟨_, kp, newS, new, eS, atP, ?_⟩
  refine I.call' (ch := []) rfl ⟨fun b o q _ _ _ => hk b o q, fun b o q _ _ _ => ⟨o.slots, hk b o q⟩, fun b o q n _ => ?_, fun b o q _ => ⟨o, hk b o q⟩, fun b xs q => kp b _ q, fun b o u q => kp b _ q, fun b ps q => ⟨#[], by rw [kp b _ q]; simp⟩⟩ (fun b u q => ?_) I.bare fun b z => by simp at z
  · obtain ⟨z1, z2⟩ := low b o q
    rw [off b z1 z2]
    exact n
  · by_cases hb : b ∈ as
    · obtain ⟨j, hj⟩ := List.mem_iff_getElem?.mp hb
      obtain ⟨p, e1, e2⟩ := pr_getL atP hj
      rw [e2] at q
      cases q
      obtain ⟨p', x, y, f1, f2, f3, o, f4, f5, n, f6⟩ := hG j b hj
      obtain rfl : p' = p := Option.some.inj (f1.symm.trans e1)
      exact ⟨by show 2 ≤ sizeLine; decide, [x, y], .cons f2 (.cons f3 .nil), ⟨o, f4, f5, n, f6⟩⟩
    · by_cases hb2 : b = S
      · rw [hb2] at q ⊢
        rw [eS] at q
        cases q
        refine ⟨by rw [List.length_map]; omega, acc.toList, c, by rw [hacc]; exact vals_refs as, ?_⟩
        rw [Array.toArray_toList]
        exact hS
      · rw [off b hb hb2] at q
        exact (I.hok b u q).stay (fun d v _ y => hk d v y) (fun d y => kp d _ y) fun d xs y => kp d _ y
/-- what list(d.items()) gives -/
def rItemsT2 : List V → Hp → VK → Prop := fun vs H Q => ∃ (p a : Addr) (ks : List (List L2.Key × V)), vs = [.ref p] ∧ H p = some (L2.DX.itemsO p a) ∧ Rd H a (.dT ks) ∧
  ∀ (H' : Hp) (l : Addr) (as bs : List Addr), Evl.Ex H H' → H' l = some (.lst (as.map V.ref)) → IsKeys H ks bs → Paired (fun (t : Addr) (q : V × V) => H' t = some (.tup [q.1, q.2])) as (List.zipWith (fun (b : Addr) (k : List L2.Key × V) => (V.ref b, k.2)) bs ks) → Q (.ref l) H'
theorem call_list_itemsT (hc : X.calm = true) : CallR X (.type "list") rItemsT2 := by
  intro pins s σ H vs us Q I r h
  obtain ⟨p, a, ks, rfl, hp, ha, q⟩ := h
  rw [Vals.ref1 r]
  obtain ⟨hv, _, _⟩ := (show ObjOk X.prog X.w H s.heap p (L2.DX.itemsO p a) from I.hok p _ hp)
  obtain ⟨z, hs, xs, pr, o, es, ep, ho, hx, hdt, he, hn⟩ := (show ObjOk X.prog X.w H s.heap a (.dT ks) from ha.ok I.hok)
  have l1 : es.size = xs.length := size_of_entries he
  have l2 : ks.length = xs.length := Paired.length pr
  refine list_itemsT (I.ok.hd hc) hv ⟨o, ho, hx, hdt⟩ (by omega) fun h' tk acc c as hk hS hl hG hacc => ?_
  have kb := isKeys_of pr
  have zl : (List.zipWith (fun (b : Addr) (k : List L2.Key × V) => (V.ref b, k.2)) (xs.map fun x => x.2.1) ks).length = ks.length := by
    rw [List.length_zipWith, List.length_map, ← l2, Nat.min_self]
  have hpairs : ∀ (j : Nat) (t : Addr), as[j]? = some t → ∃ p u v, (List.zipWith (fun (b : Addr) (k : List L2.Key × V) => (V.ref b, k.2)) (xs.map fun x => x.2.1) ks)[j]? = some p ∧ RelV p.1 u ∧ RelV p.2 v ∧ IsTup h' t #[u, v] := by
    intro j t hj
    obtain ⟨e, f1, f2⟩ := hG.pairs j t hj
    have f3 : es.toList[j]? = some e := by rw [Array.getElem?_toList]; exact f1
    rw [he, List.getElem?_map] at f3
    cases hx2 : xs[j]? with
    | none => rw [hx2] at f3; cases f3
    | some x =>
      rw [hx2] at f3
      obtain rfl := Option.some.inj f3
      obtain ⟨k, hk2, g1, g2, g3⟩ := pr_get pr hx2
      refine ⟨(.ref x.2.1, k.2), .ref x.2.1, x.2.2, ?_, rfl, g3, _, f2, rfl, _, rfl⟩
      rw [List.getElem?_zipWith, List.getElem?_map, hx2, hk2]
      rfl
  obtain ⟨H', k1, k2, k3, k4, k5, J⟩ := pairs_laid (tk := tk) (ps := List.zipWith (fun (b : Addr) (k : List L2.Key × V) => (V.ref b, k.2)) (xs.map fun x => x.2.1) ks) I (by rw [zl]; exact z) (Nat.le_refl _) hk hS (by rw [zl]; omega)
    (List.Pairwise.imp (fun {a b} (h : a < b) => Nat.ne_of_lt h) hG.rise) (fun a ha => ⟨Nat.le_of_lt (hG.above a ha), Nat.ne_of_gt (hG.above a ha)⟩) hpairs hacc
  exact ⟨.ref _, H', J, rfl, q H' _ as _ k1 k4 kb k5⟩
/-- sorted(d), keys that are tuples of d ints below B -/
def rSortD (dg : Nat) (B : Int) : List V → Hp → VK → Prop := fun vs H Q => ∃ (a : Addr) (ks : List (List L2.Key × V)) (ns : List (List Int)), vs = [V.ref a] ∧ Rd H a (.dT ks) ∧ ks.map (·.1) = ns.map (fun n => n.map Sum.inl) ∧ ns.length < 64 ∧ (∀ n ∈ ns, n.length = dg ∧ TS.Bd B n) ∧
  ∀ (zs : List (Addr × List Int)) (p : Addr), (zs.map (·.2)).Perm ns → zs.Pairwise (fun x y => TS.code B x.2 ≤ TS.code B y.2) → (∀ z ∈ zs, H z.1 = some (.tup (z.2.map V.int))) → H p = none → Q (.ref p) (upd H p (.lst (zs.map fun z => V.ref z.1)))
theorem cr_sortD (hc : X.calm = true) {dg : Nat} {B : Int} (hd : 1 ≤ dg) : CallR X (.builtin "sorted") (rSortD dg B) := by
  intro pins s σ H vs us Q I r h
  obtain ⟨a, ks, ns, rfl, ha, hks, h64, hb, q⟩ := h
  rw [Vals.ref1 r]
  obtain ⟨z, hs, xs, pr, o, es, ep, ho, hx, hdt, he, hn⟩ := (show ObjOk X.prog X.w H s.heap a (.dT ks) from ha.ok I.hok)
  have l1 : es.size = xs.length := size_of_entries he
  have l2 : ks.length = xs.length := Paired.length pr
  have l3 : ks.length = ns.length := by
    have e := congrArg List.length hks
    rwa [List.length_map, List.length_map] at e
  -- the rows: addresses and numbers
  have L0 : ∃ L : List (Addr × List Int), L.map (·.1) = xs.map (fun x => x.2.1) ∧ L.map (·.2) = ns ∧ ∀ y ∈ L, H y.1 = some (.tup (y.2.map V.int)) := by
    clear hdt he hn l1 l2 l3 h64 hb q ha z
    induction pr generalizing ns with
    | nil =>
      cases ns with
      | nil => exact ⟨[], rfl, rfl, fun _ h => by cases h⟩
      | cons n ns => cases hks
    | @cons k x l m h t ih =>
      cases ns with
      | nil => cases hks
      | cons n ns =>
        obtain ⟨e1, e2⟩ := List.cons.inj hks
        obtain ⟨L, f1, f2, f3⟩ := ih ns e2
        refine ⟨(x.2.1, n) :: L, ?_, ?_, fun y hy => ?_⟩
        · rw [List.map_cons, f1]; rfl
        · rw [List.map_cons, f2]
        · rcases List.mem_cons.mp hy with e | e
          · rw [e]
            have g := h.2.1
            have e1 : k.1 = n.map Sum.inl := e1
            rw [e1, List.map_map] at g
            exact g
          · exact f3 y e
  obtain ⟨L, hL1, hL2, hL3⟩ := L0
  have hLl : L.length = ns.length := by rw [← hL2, List.length_map]
  refine Calls.call_function_entry PyProof.Rows.kind_sorted PyProof.Rows.plain_sorted PyProof.Rows.entry_sorted (PyProof.Rows.args_sorted1 _) ?_
  unfold Builtin.«sorted»
  refine wpAny_bind (m := checkCount "sorted" 1 1 _) (wpAny_pure ?_)
  refine wpAny_bind (PySem.W.kdu_collect (A := X.A.in1) (kdl_raw hs hx hdt) (I.ok.hd hc) ho (by omega) fun h' tk acc kp it => ?_)
  have ea : acc.toList = L.map fun y => Value.ref y.1 := by
    have e0 : L.map (fun y => Value.ref y.1) = xs.map fun x => Value.ref x.2.1 := by
      have e := congrArg (List.map Value.ref) hL1
      rw [List.map_map, List.map_map] at e
      exact e
    rw [e0]
    apply List.ext_getElem?
    intro j
    by_cases hj : j < acc.toList.length
    · obtain ⟨v, hv⟩ := get_lt hj
      obtain ⟨en, f1, f2⟩ := it.2 j v (by rw [← Array.getElem?_toList]; exact hv)
      have f3 : es.toList[j]? = some en := by rw [Array.getElem?_toList]; exact f1
      rw [he, List.getElem?_map] at f3
      rw [hv, List.getElem?_map]
      cases hx2 : xs[j]? with
      | none => rw [hx2] at f3; cases f3
      | some x =>
        rw [hx2] at f3
        obtain rfl := Option.some.inj f3
        rw [f2]
        rfl
    · have hj2 : xs.length ≤ j := by
        have := it.1
        rw [← Array.length_toList] at this
        omega
      rw [List.getElem?_eq_none (by omega), List.getElem?_eq_none (by rw [List.length_map]; exact hj2)]
  have I1 : Inv X pins σ H { s with heap := h', toks := tk } := I.kept kp
  have hsz : (L.map fun y => Value.ref y.1).length ≤ sizeLine := by rw [List.length_map, sizeLine_eq]; omega
  rw [ea]
  refine wpAny_bind (wpAny_newList ?_ hsz)
  have hoL : (h'.push (seqObj "list" (L.map fun y => Value.ref y.1).toArray 0)).get? h'.objs.size = some (seqObj "list" (L.map fun y => Value.ref y.1).toArray 0) := Heap.get?_push_size _ rfl
  show wpAny _ _ _ _ _ { s with heap := h'.push (seqObj "list" (L.map fun y => Value.ref y.1).toArray 0), toks := tk }
  have I2 : Inv X pins σ H { s with heap := h'.push (seqObj "list" (L.map fun y => Value.ref y.1).toArray 0), toks := tk } := I1.kept fun b u e => Heap.get?_push_of_some _ e
  have raw : ∀ y ∈ L, TS.TupInts (h'.push (seqObj "list" (L.map fun y => Value.ref y.1).toArray 0)) (.ref y.1) y.2 := fun y hy => tupI_raw I2 (st_of (K := X.K) (hL3 y hy))
  refine wpAny_bind (wpAny_holding (TS.call_sort_tups (s := { s with heap := h'.push (seqObj "list" (L.map fun y => Value.ref y.1).toArray 0), toks := tk }) (d := dg) (B := B) hoL (by rw [List.length_map]; omega) hd (fun v hv => ?_) fun out p1 p2 => ?_))
  · obtain ⟨y, hy, rfl⟩ := List.mem_map.mp hv
    have hm : y.2 ∈ ns := by
      rw [← hL2]
      exact List.mem_map.mpr ⟨y, hy, rfl⟩
    exact ⟨y.2, raw y hy, hb _ hm⟩
  · obtain ⟨ep', he'⟩ := PyProof.Rows.sortedHeap_at (vs := L.map fun y => Value.ref y.1) (out := out) hoL
    obtain ⟨zs, g1, g2⟩ := perm_lift (fun y : Addr × List Int => Value.ref y.1) p1 L rfl
    have hlen : (zs.map fun y => V.ref y.1).length ≤ sizeLine := by
      rw [List.length_map, g1.length_eq, ← List.length_map (f := fun y : Addr × List Int => Value.ref y.1)]
      exact hsz
    have hv : Vals (zs.map fun y => V.ref y.1) out.toList := by
      rw [← g2]
      exact vals_of_refs zs
    refine wpAny_pure ⟨_, rfl, .ref h'.objs.size, upd H h'.objs.size (.lst (zs.map fun y => V.ref y.1)), I1.laid (t' := tk) (fun b u e => ?_) (Nat.le_refl _)
      (show ObjOk X.prog X.w _ _ _ (.lst (zs.map fun y => V.ref y.1)) from ⟨hlen, out.toList, ep', hv, by rw [Array.toArray_toList]; exact he'⟩), rfl, q zs _ ?_ ?_ (fun y hy => hL3 y (g1.mem_iff.mp hy)) (I1.hok.fresh (Nat.le_refl _))⟩
    · have hb2 : b < h'.objs.size := Heap.lt_size e
      rw [PyProof.Rows.sortedHeap_old (Nat.ne_of_lt hb2) (by rw [size_push']; exact Nat.lt_succ_of_lt hb2)]
      exact Heap.get?_push_of_some _ e
    · rw [← hL2]
      exact g1.map _
    · rw [← g2, List.pairwise_map] at p2
      refine List.Pairwise.imp_of_mem (fun {x y} hx hy h => ?_) p2
      rw [(raw x (g1.mem_iff.mp hx)).ints, (raw y (g1.mem_iff.mp hy)).ints] at h
      exact h
end
end Km
end

section
set_option Elab.async false
set_option linter.all false
set_option maxRecDepth 100000
namespace Km
open PySem PySem.Spec PyProof.Rows L2
theorem kt_keys {H : Hp} {ks : List (List L2.Key × V)} {xs : List (List L2.Key × Addr × Value)} (pr : KT H ks xs) : xs.map (·.1) = ks.map (·.1) := by
  induction pr with
  | nil => rfl
  | cons h t ih => rw [List.map_cons, List.map_cons, ih, h.1]
section
variable {X : Cx}
/-- a key's hash -/
abbrev thash (X : Cx) (k : List L2.Key) : Int := tupleKeyHash (mixKind X.prog X.w) k
/-- dict(d), keys that are tuples with hashes of their own -/
def rDictT (X : Cx) : List V → Hp → VK → Prop := fun vs H Q => ∃ (a : Addr) (ks : List (List L2.Key × V)), vs = [.ref a] ∧ Rd H a (.dT ks) ∧ ((ks.map (·.1)).map (thash X)).Nodup ∧ ∀ p, H p = none → Q (.ref p) (upd H p (.dT ks))
theorem call_dictT (hc : X.calm = true) (hu : X.A.units + 4 < cLine) : CallR X (.type "dict") (rDictT X) := by
  intro pins s σ H vs us Q I r h
  obtain ⟨a, ks, rfl, ha, hn, q⟩ := h
  rw [Vals.ref1 r]
  have hS : (s.heap.objs.size == sysModules) = false := beq_eq_false_iff_ne.mpr (Nat.ne_of_gt I.big)
  refine callType_codes (Q₁ := fun obj t => obj = .ref s.heap.objs.size ∧ t = { s with heap := s.heap.push { cls := .type "dict", data := .dict #[] } }) PySem.F.kt_called_dict (PySem.F.kt_typeCall_dict_1 _) PySem.F.entry_dict_init (kt_code_dict_new _ ⟨rfl, rfl⟩) ?_
  rintro obj t ⟨rfl, rfl⟩
  have I1 : Inv X pins σ H { s with heap := s.heap.push { cls := .type "dict", data := .dict #[] } } := I.kept (t' := s.toks) fun b o q => Heap.get?_push_of_some _ q
  obtain ⟨z, lo, xs, pr, dd⟩ := dt_rd I1.hok ha
  have hT : Shared.TypeIs { s with heap := s.heap.push { cls := .type "dict", data := .dict #[] } } (.ref s.heap.objs.size) "dict" := ⟨_, Heap.get?_push_size _ rfl, rfl⟩
  have la : a < s.heap.objs.size := by
    obtain ⟨_, _, xs0, pr0, dd0⟩ := dt_rd I.hok ha
    exact dd0.lt_size
  refine ⟨hT, PySem.F.args_dict_init_2 _ _, ?_⟩
  unfold Builtin.«dict.__init__»
  refine wpAny_bind ?_
  unfold Builtin.Dict.selfAndRest
  refine wpAny_bind (wpAny_notOrdered_dict hT ?_)
  show wpAny _ _ (pure (s.heap.objs.size, [Value.ref a])) _ _ _
  refine wpAny_pure ?_
  have l2 : ks.length = xs.length := Paired.length pr
  have hkeys := kt_keys pr
  have hap : (xs.map fun x => (tupleKind (mixKind X.prog X.w)).hash x.1).Nodup := by
    rw [← hkeys, List.map_map] at hn
    exact hn
  have hty : ∀ x ∈ xs, Shared.TypeIs { s with heap := s.heap.push { cls := .type "dict", data := .dict #[] } } (.ref x.2.1) "tuple" := by
    intro x hx
    obtain ⟨j, hj⟩ := List.mem_iff_getElem?.mp hx
    obtain ⟨k, _, _, hb, _⟩ := pr_get pr hj
    obtain ⟨_, its, rv, o, ho, hcl, _⟩ := (show ObjOk X.prog X.w H _ x.2.1 (.tup (k.1.map kV)) from I1.hok _ _ hb)
    exact ⟨o, ho, hcl⟩
  refine updateFrom_dictH (A := X.A.in1) (knd := tupleKind (mixKind X.prog X.w)) (kvs := []) (more := xs) .none (show X.A.in1.in1.units < cLine from ?_) (Nat.ne_of_gt la) lo (Heap.DictOfH.new s.heap) dd (.inr ⟨hty, hap⟩) (by rw [List.length_nil, Nat.zero_add, ← l2]; exact z) fun h' hd' _ hs => ?_
  · show X.A.units + 1 + 1 < cLine
    omega
  · rw [storedAllH_nil_of_nodup xs dd.nodup] at hd'
    obtain ⟨o', es', ep', w1, w2, w3, w4, _, w6⟩ := hd'
    have kp : ∀ b o, s.heap.get? b = some o → h'.get? b = some o := fun b o e => (hs.2 b (Nat.ne_of_lt (Heap.lt_size e))).trans (Heap.get?_push_of_some _ e)
    exact ⟨rfl, .ref s.heap.objs.size, upd H s.heap.objs.size (.dT ks), I.laid (t' := s.toks) kp (Nat.le_refl _)
      (show ObjOk X.prog X.w _ _ _ (.dT ks) from ⟨z, hS, xs, pr.keeps fun b ys e => by rw [upd_ne (ne_of_none e (I.hok.fresh (Nat.le_refl _)))]; exact e, o', es', ep', w1, w2, w3, w4, w6⟩), rfl, q _ (I.hok.fresh (Nat.le_refl _))⟩
/-- dict(pairs), keys that are tuples, each once -/
def rDictP (K : PySem.W.Frag) : List V → Hp → VK → Prop := fun vs H Q => ∃ (a : Addr) (ps : List V) (ks : List (List L2.Key × V)), vs = [.ref a] ∧ SqL K H a ps ∧ (ks.map (·.1)).Nodup ∧
  Paired (fun (p : V) (kv : List L2.Key × V) => ∃ t b, p = .ref t ∧ SqT K H t [.ref b, kv.2] ∧ H b = some (.tup (kv.1.map kV))) ps ks ∧ ∀ p, H p = none → Q (.ref p) (upd H p (.dT ks))
theorem rows_of {pins : List (Addr × Obj)} {σ : L2.St} {H : Hp} {s : Shared} (I : Inv X pins σ H s) : ∀ {ps : List V} {ks : List (List L2.Key × V)} {its : List Value},
    Paired (fun (p : V) (kv : List L2.Key × V) => ∃ t b, p = .ref t ∧ SqT X.K H t [.ref b, kv.2] ∧ H b = some (.tup (kv.1.map kV))) ps ks → Vals ps its →
    ∃ xs : List (List L2.Key × Addr × Value), KT H ks xs ∧ ∃ ts : List Addr, its = ts.map Value.ref ∧ Paired (fun (t : Addr) (x : List L2.Key × Addr × Value) => s.heap.IsTuple t #[.ref x.2.1, x.2.2]) ts xs
  | _, _, _, .nil, .nil => ⟨[], .nil, [], rfl, .nil⟩
  | _, _, _, .cons (b := kv) h t, .cons r rv => by
    obtain ⟨xs, g1, ts, g2, g3⟩ := rows_of I t rv
    obtain ⟨t0, b, rfl, hq, hb⟩ := h
    obtain ⟨us, ru, hl, _⟩ := I.tuple hq
    cases ru with
    | cons r1 r2 =>
      cases r2 with
      | cons r3 r4 =>
        cases r4
        cases r1
        rename_i u
        refine ⟨(kv.1, b, u) :: xs, .cons ⟨rfl, hb, r3⟩ g1, t0 :: ts, ?_, .cons hl g3⟩
        rw [List.map_cons, ← g2]
        cases r
        rfl
theorem call_dictPT (hc : X.calm = true) (hu : X.A.units + 4 < cLine) : CallR X (.type "dict") (rDictP X.K) := by
  intro pins s σ H vs us Q I r h
  obtain ⟨a, ps, ks, rfl, hq, hn, hp, q⟩ := h
  rw [Vals.ref1 r]
  obtain ⟨its, rv, pl, hz⟩ := I.list hq
  obtain ⟨xs, pr, ts, rfl, ht⟩ := rows_of I hp rv
  have hS : (s.heap.objs.size == sysModules) = false := beq_eq_false_iff_ne.mpr (Nat.ne_of_gt I.big)
  have l1 : ps.length = ks.length := Paired.length hp
  have l2 : ks.length = xs.length := Paired.length pr
  have l3 : ts.length = xs.length := Paired.length ht
  have hkeys := kt_keys pr
  have prs : (xs.map fun x => (Value.ref x.2.1, x.2.2)).length = xs.length := List.length_map ..
  obtain ⟨o, n, ho, hcl, hdi, hda⟩ := pl
  refine PySem.call_dict_pairsH (knd := tupleKind (mixKind X.prog X.w)) (ps := xs) (PairArg.list a (ts.map Value.ref).toArray (fun j => ts.getD j 0) (xs.map fun x => (Value.ref x.2.1, x.2.2))) (I.ok.hd hc) (show X.A.in1.in1.units < cLine from ?_)
    ⟨⟨o, n, ho, hcl, hdi, hda⟩, ?_, fun j k v hj => ?_⟩ ⟨prs.symm, fun i key v hi => ?_⟩ (fun h' hk x hx => ?_) (by rw [prs, ← l2, ← l1]; exact hz) fun h' tk hd' hk => ?_
  · show X.A.units + 1 + 1 < cLine
    omega
  · rw [prs, List.size_toArray, List.length_map, l3]
  · rw [List.getElem?_map] at hj
    cases hx : xs[j]? with
    | none => rw [hx] at hj; cases hj
    | some x =>
      rw [hx] at hj
      cases hj
      obtain ⟨t, ht1, ht2⟩ := pr_get ht hx
      have e : ts.getD j 0 = t := by rw [List.getD_eq_getElem?_getD, ht1]; rfl
      refine ⟨?_, .inl ?_⟩
      · rw [List.getElem?_toArray, List.getElem?_map, ht1]
        exact congrArg (fun z => some (Value.ref z)) e.symm
      · show s.heap.IsTuple (ts.getD j 0) _
        rw [e]
        exact ht2
  · have hi : (xs.map fun x => (Value.ref x.2.1, x.2.2))[i]? = some (key, v) := hi
    rw [List.getElem?_map] at hi
    cases hx : xs[i]? with
    | none => rw [hx] at hi; cases hi
    | some x =>
      rw [hx] at hi
      cases hi
      exact ⟨x.1, x.2.1, rfl, rfl⟩
  · have I1 : Inv X pins σ H { s with heap := h' } := I.kept (t' := s.toks) fun b ob e => hk b ob (Nat.ne_of_lt (Heap.lt_size e)) (by simp) e
    obtain ⟨j, hj⟩ := List.mem_iff_getElem?.mp hx
    obtain ⟨kv, _, g1, g2, _⟩ := pr_get pr hj
    rw [← g1]
    exact key_of I1.hok g2
  · rw [storedAllH_nil_of_nodup xs (by rw [hkeys]; exact hn)] at hd'
    obtain ⟨o', es', ep', w1, w2, w3, w4, _, w6⟩ := hd'
    have kp : ∀ b o, s.heap.get? b = some o → h'.get? b = some o := fun b ob e => hk b ob (by simp) e
    exact ⟨.ref s.heap.objs.size, upd H s.heap.objs.size (.dT ks), I.laid (t' := tk) kp (Nat.le_refl _)
      (show ObjOk X.prog X.w _ _ _ (.dT ks) from ⟨by rw [← l1]; exact hz, hS, xs, pr.keeps fun b ys e => by rw [upd_ne (ne_of_none e (I.hok.fresh (Nat.le_refl _)))]; exact e, o', es', ep', w1, w2, w3, w4, w6⟩), rfl, q _ (I.hok.fresh (Nat.le_refl _))⟩
end
end Km
end

section
set_option Elab.async false
set_option linter.all false
set_option maxRecDepth 100000
namespace Km
open PySem PySem.Spec PyProof.Rows L2
/-- a def called by keywords alone -/
structure CalK (P : Program) (w : World) (K : PySem.W.Frag) (mg : Str → Option Value) (base : Heap) (k : Nat) (x : Str) (ks : List Str) (sp : Sp) (gV : List V → List V → List V) : Prop where
  ex : ∃ (f : Addr) (fd : FuncData) (ps : List Str) (g : List Value → List Value → List Value), FnOk P w K mg base C8.CX0 k f fd ps sp ∧ mg x = some (.ref f) ∧ PySem.W.keepIn K (.ref f) = true ∧ KBn K fd ps 0 ks g gV
section
variable {X : Cx} {k j : Nat} {x : Str} {ks : List Str} {sp : Sp} {gV : List V → List V → List V} {kws : List Keyword} {tk : TA} {p pos : Pos}
theorem pe_ck (c : CalK X.prog X.w X.K X.mg X.base k x ks sp gV) (hr : Room j X.A) (hk : k ≤ j) (hg : Gl X x) (hkw : PK X kws tk)
    (hall : (backToKw pos (keywordEach kws X.env)).all (·.1.isSome) = true := by rfl) (hks : (backToKw pos (keywordEach kws X.env)).filterMap (·.1) = ks := by rfl) (hdb : (x == ("__debug__" : Str)) = false := by decide)
    (hpl : ((backTo pos (starEach [] X.env)).any (·.1) || (backToKw pos (keywordEach kws X.env)).any (·.1.isNone)) = false := by rfl) :
    PE X (.Call (.Name x p) [] kws pos) (fun σ H Q => tk σ H fun zs H2 => zs.length = ks.length ∧ sp (gV [] zs) H2 Q C8.E0) := by
  obtain ⟨f, fd, ps, g, F, hm, kp, hb⟩ := c.ex
  refine ⟨fun pins s σ H Q I h => ?_⟩
  refine wpAny_Call_Name_kw (ld_glob I hg hm ?_ hdb)
  refine PySem.W.callWith_KW0 (h₀ := X.base) I.ok.mod.kin kp hall ?_ hpl
  refine thn (hkw.run pos pins s σ H _ I h) fun ws s2 ⟨zs, H2, I2, rz, l2, q2⟩ => ⟨I2.kIn, ?_⟩
  rw [hks]
  exact run_fnN (us := []) (vs := []) F (hr.mono hk) hb C8.pass0 I2 .nil rz rfl l2 q2
end
end Km
end

section
set_option Elab.async false
set_option linter.all false
set_option maxRecDepth 100000
namespace Km
open PySem PySem.W PySem.Calls PyProof.Rows
/-! ### a dict's keys drawn one by one -/
section
variable {prog : Program} {w : World} {A : Around} {E : Value → Shared → Prop} {s : Shared}
theorem key_drawn {it d : Addr} {i n ep : Nat} {es : Array DictEntry} {en : DictEntry} {Q : Value → Shared → Prop} (ki : s.heap.IsKeyIter it d i n ep) (rw0 : DT.Raw s.heap d es ep) (n0 : es.size = n) (x0 : es[i]? = some en)
    (k : ∀ g, g.IsKeyIter it d (i + 1) n ep → Heap.SameBut it s.heap g → Q en.key { s with heap := g }) : wpAny (model prog w) A (Builtin.SmallTypes.nextOf (.ref it)) Q E s := by
  obtain ⟨od, god, _, dod⟩ := rw0
  obtain ⟨o, go, co, dob⟩ := id ki
  unfold Builtin.SmallTypes.nextOf
  refine wpAny_bind (wpAny_callSpecial?_slot (name := Str.ofString "__next__") ki.typeIs F.slot_dict_keyiterator_next
    (wpAny_call_entry F.slot_dict_keyiterator_next ki.typeIs F.entry_dict_keyiterator_next ?_ (F.args_dict_keyiterator_next_1 _)))
  refine wpAny_bind (wpAny_pure (wpAny_bind (wpAny_bind ?_)))
  first | refine wpAny_bind (wpAny_typeNameOfWhole_keyiter ki.typeIs (wpAny_pure ?_)) | refine wpAny_bind (wpAny_typeNameOf_keyiter ki.typeIs (wpAny_pure ?_))
  refine wpAny_bind (wpAny_fieldsOf go dob ?_)
  have ow : Builtin.Dict_items.ownsTuple "dict_keyiterator" = false := by decide
  simp only [ow, Bool.false_eq_true, if_false]
  show wpAny _ _ (if (Value.ref d == Value.none) = true then _ else _) _ _ s
  rw [if_neg (show ¬ ((Value.ref d == Value.none) = true) from Bool.false_ne_true)]
  refine wpAny_bind (wpAny_pure (wpAny_bind (wpAny_dictEntries god dod ?_)))
  rw [if_neg (by rw [n0]; simp)]
  refine wpAny_bind (wpAny_pure (wpAny_bind (wpAny_dictEpoch god dod ?_)))
  rw [if_neg (by simp)]
  refine wpAny_pure ?_
  obtain ⟨lt0, en0⟩ := Array.getElem?_eq_some_iff.mp x0
  simp only [show ¬ ((i : Int) < 0) from by omega, if_false, Int.toNat_natCast, Array.getElem?_eq_getElem lt0]
  refine wpAny_bind ?_
  first | refine wpAny_bind (wpAny_typeNameOfWhole_keyiter ki.typeIs (wpAny_pure ?_)) | refine wpAny_bind (wpAny_typeNameOf_keyiter ki.typeIs (wpAny_pure ?_))
  refine wpAny_bind (wpAny_isOneOf_keyiter ki.typeIs ?_)
  show wpAny _ _ (setField (.ref it) 1 (rawInt ((i : Int) + 1)) >>= _) _ _ s
  refine wpAny_bind (wpAny_setField go dob (by simp) ?_)
  have ki2 : (s.heap.update it (Obj.mapFields (·.setIfInBounds 1 (rawInt ((i : Int) + 1))))).IsKeyIter it d (i + 1) n ep :=
    ⟨_, Heap.get?_update_self _ go (Obj.isFreed_of_fields (Obj.data_mapFields dob _)), (Obj.cls_mapFields ..).trans co, by rw [Obj.data_mapFields dob]; simp [rawInt]⟩
  refine wpAny_bind (wpAny_holding ?_)
  refine wpAny_bind (wpAny_isOneOf_keyiter (s := { s with heap := s.heap.update it (Obj.mapFields (·.setIfInBounds 1 (rawInt ((i : Int) + 1)))) }) ki2.typeIs ?_)
  show wpAny _ _ (pure es[i].key) _ _ _
  rw [en0]
  exact wpAny_pure (wpAny_pure ⟨_, rfl, wpAny_pure (k _ ki2 (Heap.SameBut.update ..))⟩)
theorem key_ended {it d : Addr} {i n ep : Nat} {es : Array DictEntry} {Q : Value → Shared → Prop} (hh : A.handled = none) (ki : s.heap.IsKeyIter it d i n ep) (rw0 : DT.Raw s.heap d es ep) (n0 : es.size = n) (ge0 : n ≤ i)
    (k : ∀ g e, Heap.ExtBut it s.heap g → (∃ o, g.get? e = some o ∧ o.cls = .type "StopIteration") → E (.ref e) { s with heap := g }) : wpAny (model prog w) A (Builtin.SmallTypes.nextOf (.ref it)) Q E s := by
  obtain ⟨od, god, _, dod⟩ := rw0
  obtain ⟨o, go, co, dob⟩ := id ki
  unfold Builtin.SmallTypes.nextOf
  refine wpAny_bind (wpAny_callSpecial?_slot (name := Str.ofString "__next__") ki.typeIs F.slot_dict_keyiterator_next
    (wpAny_call_entry F.slot_dict_keyiterator_next ki.typeIs F.entry_dict_keyiterator_next ?_ (F.args_dict_keyiterator_next_1 _)))
  refine wpAny_bind (wpAny_pure (wpAny_bind (wpAny_bind ?_)))
  first | refine wpAny_bind (wpAny_typeNameOfWhole_keyiter ki.typeIs (wpAny_pure ?_)) | refine wpAny_bind (wpAny_typeNameOf_keyiter ki.typeIs (wpAny_pure ?_))
  refine wpAny_bind (wpAny_fieldsOf go dob ?_)
  have ow : Builtin.Dict_items.ownsTuple "dict_keyiterator" = false := by decide
  simp only [ow, Bool.false_eq_true, if_false]
  show wpAny _ _ (if (Value.ref d == Value.none) = true then _ else _) _ _ s
  rw [if_neg (show ¬ ((Value.ref d == Value.none) = true) from Bool.false_ne_true)]
  refine wpAny_bind (wpAny_pure (wpAny_bind (wpAny_dictEntries god dod ?_)))
  rw [if_neg (by rw [n0]; simp)]
  refine wpAny_bind (wpAny_pure (wpAny_bind (wpAny_dictEpoch god dod ?_)))
  rw [if_neg (by simp)]
  refine wpAny_pure ?_
  have ge1 : es.size ≤ i := by rw [n0]; exact ge0
  simp only [show ¬ ((i : Int) < 0) from by omega, if_false, Int.toNat_natCast, Array.getElem?_eq_none ge1]
  refine wpAny_bind ?_
  first | refine wpAny_bind (wpAny_typeNameOfWhole_keyiter ki.typeIs (wpAny_pure ?_)) | refine wpAny_bind (wpAny_typeNameOf_keyiter ki.typeIs (wpAny_pure ?_))
  show wpAny _ _ (setField (.ref it) 0 .none >>= _) _ _ s
  refine wpAny_bind (wpAny_setField go dob (by simp) ?_)
  show wpAny _ _ (newExc (.type "StopIteration") [] >>= _) _ _ _
  refine wpAny_bind ?_
  simp only [newExc, newTuple]
  refine wpAny_bind (wpAny_newObj_type ?_ (by size_fits))
  refine wpAny_bind (m := firstArgMember _ _) (wpAny_of_eq (a := Value.none) (by first | rfl | (simp only [firstArgMember]; rfl)) ?_)
  refine wpAny_newObj_type ?_ (by size_fits)
  simp only [raiseNew]
  refine wpAny_bind (wpAny_handled ?_)
  first | rw [show A.in1.handled = none from hh] | rw [hh]
  refine wpAny_bind (wpAny_pure (wpAny_throw ?_))
  exact k _ _ (((Heap.SameBut.update ..).extBut.push _).push _) ⟨_, Heap.get?_push_size _ rfl, rfl⟩
end
theorem draws_keys {prog : Program} {w : World} {A : Around} (hh : A.handled = none) (it d : Addr) (ne : d ≠ it) (es : Array DictEntry) (ep : Nat) :
    Draws prog w A it [it, d] es.size (fun i v => ∃ en : DictEntry, es[i]? = some en ∧ v = en.key) (fun i h => h.IsKeyIter it d i es.size ep ∧ DT.Raw h d es ep) where
  live := fun _ _ st => let ⟨o, e, _⟩ := st.1; ⟨o, e⟩
  frame := fun _ _ _ st kp => ⟨st.1.at fun o e => kp it (by simp) o e, st.2.at' fun o e => kp d (by simp) o e⟩
  item := fun i s Q E lt st k => by
    have x0 : es[i]? = some es[i] := Array.getElem?_eq_getElem lt
    exact key_drawn st.1 st.2 rfl x0 fun g kg sg => k _ g s.toks ⟨_, x0, rfl⟩ ⟨kg, st.2.at' fun o e => sg.extBut _ _ ne e⟩ sg
  done := fun s Q E st k => key_ended hh st.1 st.2 rfl (Nat.le_refl _) k
/-! ### zip of two, the pairs kept -/
section
variable {prog : Program} {w : World} {A : Around} {E : Value → Shared → Prop} {s : Shared} {z TI TO i1 i2 : Addr} {fp1 fp2 : List Addr} {n1 n2 i : Nat} {P1 P2 : Nat → Value → Prop} {St1 St2 : Nat → Heap → Prop}
theorem zipK_item {T : Addr} {f : Bool} {oT : Obj} {Q : Value → Shared → Prop} (S : ZipSep2 z TI TO i1 i2 fp1 fp2) (D1 : Draws prog w A i1 fp1 n1 P1 St1) (D2 : Draws prog w A i2 fp2 n2 P2 St2)
    (zh : IsZipHeld s.heap z TI TO T f) (gT : s.heap.get? T = some oT) (ti : IsTupOf2 s.heap TI (.ref i1) (.ref i2)) (c1 : St1 i s.heap) (c2 : St2 i s.heap) (m1 : i < n1) (m2 : i < n2)
    (k : ∀ x y g tk, P1 i x → P2 i y → IsZipHeld g z TI TO T true → St1 (i + 1) g → St2 (i + 1) g → IsTupOf2 g s.heap.objs.size x y → g.objs.size = s.heap.objs.size + 1 →
      (∀ c o, c ≠ z → c ≠ i1 → c ≠ i2 → s.heap.get? c = some o → g.get? c = some o) → Q (.ref s.heap.objs.size) { s with heap := g, toks := tk }) :
    wpAny (model prog w) A (Builtin.«zip.__next__» ⟨[.ref z], []⟩) (fun fin t => ∃ v, fin = .done (.ret v) ∧ Q v t) E s := by
  obtain ⟨hp, gs, dr, tk0, os⟩ := s
  show wpAny _ _ (field (.ref z) 2 >>= _) _ _ _
  refine wpAny_bind (wpAny_field zh rfl (x := .bool false) rfl ?_)
  show wpAny _ _ (field (.ref z) 3 >>= _) _ _ _
  refine wpAny_bind (wpAny_field zh rfl (x := .ref TI) rfl ?_)
  refine wpAny_bind (wpAny_seqItems ti rfl ?_)
  show wpAny _ _ (Builtin.SmallTypes.ownedTupleIsFree (.ref z) >>= _) _ _ _
  refine wpAny_bind (wpAny_tupleHeld_zip zh gT fun g0 zh0 sb0 => ?_)
  replace sb0 : Heap.SameBut z hp g0 := sb0
  simp only [Bool.false_eq_true, if_false]
  refine wpAny_bind ?_
  rw [← Array.forIn_toList]
  simp only [List.forIn_cons, List.forIn_nil]
  refine wpAny_bind (wpAny_bind (wpAny_holding ?_))
  show wpAny _ _ (Builtin.SmallTypes.nextOf (.ref i1) >>= _) _ _ ⟨g0, gs, dr, tk0, os⟩
  refine wpAny_bind (D1.item i _ _ _ m1 (D1.over c1 sb0 S.zf1) fun x g1 tk1 px d1 sb1 => wpAny_pure ?_)
  replace sb1 : Heap.SameBut i1 g0 g1 := sb1
  refine wpAny_pure ?_
  refine wpAny_bind (wpAny_bind (wpAny_holding ?_))
  show wpAny _ _ (Builtin.SmallTypes.nextOf (.ref i2) >>= _) _ _ ⟨g1, gs, dr, tk1, os⟩
  refine wpAny_bind (D2.item i _ _ _ m2 (D2.over (D2.over c2 sb0 S.zf2) sb1 S.sep1_2) fun y g2 tk2 py d2 sb2 => wpAny_pure ?_)
  replace sb2 : Heap.SameBut i2 g1 g2 := sb2
  refine wpAny_pure (wpAny_pure ?_)
  show wpAny _ _ (newTuple [x, y] >>= _) _ _ _
  refine wpAny_bind (wpAny_newTuple ?_)
  have sz : g2.objs.size = hp.objs.size := by rw [sb2.1, sb1.1, sb0.1]
  have zh2 : IsZipHeld g2 z TI TO T true := sb2.extBut _ _ S.zi2 (sb1.extBut _ _ S.zi1 zh0)
  refine wpAny_pure ⟨_, rfl, ?_⟩
  show Q (.ref g2.objs.size) ⟨g2.push { cls := .type "tuple", data := .seq #[x, y] }, gs, dr, tk2, os⟩
  have new : IsTupOf2 (g2.push { cls := .type "tuple", data := .seq #[x, y] }) g2.objs.size x y := Heap.get?_push_size _ rfl
  have ns : (g2.push { cls := .type "tuple", data := .seq #[x, y] }).objs.size = g2.objs.size + 1 := Heap.size_push ..
  rw [sz] at new ns ⊢
  exact k x y _ tk2 px py (Heap.get?_push_of_some _ zh2) (D1.frame _ _ _ (D1.over d1 sb2 S.sep2_1) fun b _ o e => Heap.get?_push_of_some _ e) (D2.frame _ _ _ d2 fun b _ o e => Heap.get?_push_of_some _ e) new ns
    fun c o a1 a2 a3 e => Heap.get?_push_of_some _ (sb2.extBut _ _ a3 (sb1.extBut _ _ a2 (sb0.extBut _ _ a1 e)))
theorem zipK_end {T : Addr} {f : Bool} {oT : Obj} {Q : PySem.Fin → Shared → Prop} (S : ZipSep2 z TI TO i1 i2 fp1 fp2) (D1 : Draws prog w A i1 fp1 n1 P1 St1)
    (zh : IsZipHeld s.heap z TI TO T f) (gT : s.heap.get? T = some oT) (ti : IsTupOf2 s.heap TI (.ref i1) (.ref i2)) (c1 : St1 n1 s.heap)
    (k : ∀ g tk e, (∀ c o, c ≠ z → c ≠ i1 → s.heap.get? c = some o → g.get? c = some o) → (∃ o, g.get? e = some o ∧ o.cls = .type "StopIteration") → E (.ref e) { s with heap := g, toks := tk }) :
    wpAny (model prog w) A (Builtin.«zip.__next__» ⟨[.ref z], []⟩) Q E s := by
  obtain ⟨hp, gs, dr, tk0, os⟩ := s
  show wpAny _ _ (field (.ref z) 2 >>= _) _ _ _
  refine wpAny_bind (wpAny_field zh rfl (x := .bool false) rfl ?_)
  show wpAny _ _ (field (.ref z) 3 >>= _) _ _ _
  refine wpAny_bind (wpAny_field zh rfl (x := .ref TI) rfl ?_)
  refine wpAny_bind (wpAny_seqItems ti rfl ?_)
  show wpAny _ _ (Builtin.SmallTypes.ownedTupleIsFree (.ref z) >>= _) _ _ _
  refine wpAny_bind (wpAny_tupleHeld_zip zh gT fun g0 zh0 sb0 => ?_)
  replace sb0 : Heap.SameBut z hp g0 := sb0
  simp only [Bool.false_eq_true, if_false]
  refine wpAny_bind ?_
  rw [← Array.forIn_toList]
  simp only [List.forIn_cons, List.forIn_nil]
  refine wpAny_bind (wpAny_bind (wpAny_holding ?_))
  show wpAny _ _ (Builtin.SmallTypes.nextOf (.ref i1) >>= _) _ _ ⟨g0, gs, dr, tk0, os⟩
  refine wpAny_bind (D1.done ⟨g0, gs, dr, tk0, os⟩ _ _ (D1.over c1 sb0 S.zf1) fun g e x he => ?_)
  exact k g tk0 e (fun c o a1 a2 y => x _ _ a2 (sb0.extBut _ _ a1 y)) he
/-- where a zip stands whose pairs are kept -/
def ZSt (h : Heap) (z TI TO i1 i2 : Addr) (i : Nat) : Prop := (i = 0 ∧ IsZip h z TI TO .none ∧ ∃ a b, IsTupOf2 h TO a b) ∨ ∃ T f oT, IsZipHeld h z TI TO T f ∧ h.get? T = some oT ∧ T ≠ z ∧ T ≠ i1 ∧ T ≠ i2
theorem ZSt.keep {h h' : Heap} {S : Addr} (st : ZSt h z TI TO i1 i2 i) (k : ∀ b o, b ≠ S → h.get? b = some o → h'.get? b = some o) (gS : ∃ o, h'.get? S = some o) (nz : z ≠ S) (nO : TO ≠ S) : ZSt h' z TI TO i1 i2 i := by
  rcases st with ⟨e, hz, a, b, t⟩ | ⟨T, f, oT, hz, hT, q1⟩
  · exact .inl ⟨e, k _ _ nz hz, a, b, k _ _ nO t⟩
  · by_cases q : T = S
    · obtain ⟨o, g⟩ := gS
      exact .inr ⟨T, f, o, k _ _ nz hz, by rw [q]; exact g, q1⟩
    · exact .inr ⟨T, f, oT, k _ _ nz hz, k _ _ q hT, q1⟩
theorem zipN_item {Q : Option Value → Shared → Prop} (S : ZipSep2 z TI TO i1 i2 fp1 fp2) (D1 : Draws prog w A.in1 i1 fp1 n1 P1 St1) (D2 : Draws prog w A.in1 i2 fp2 n2 P2 St2) (st : ZSt s.heap z TI TO i1 i2 i)
    (ti : IsTupOf2 s.heap TI (.ref i1) (.ref i2)) (c1 : St1 i s.heap) (c2 : St2 i s.heap) (m1 : i < n1) (m2 : i < n2)
    (k : ∀ x y g tk, P1 i x → P2 i y → ZSt g z TI TO i1 i2 (i + 1) → St1 (i + 1) g → St2 (i + 1) g → IsTupOf2 g s.heap.objs.size x y → g.objs.size = s.heap.objs.size + 1 →
      (∀ c o, c ≠ z → c ≠ TO → c ≠ i1 → c ≠ i2 → s.heap.get? c = some o → g.get? c = some o) → Q (some (.ref s.heap.objs.size)) { s with heap := g, toks := tk }) :
    wpAny (model prog w) A (pyNext (.ref z)) Q E s := by
  have y1 : i1 < s.heap.objs.size := let ⟨_, e⟩ := D1.live _ _ c1; Heap.lt_size e
  have y2 : i2 < s.heap.objs.size := let ⟨_, e⟩ := D2.live _ _ c2; Heap.lt_size e
  rcases st with ⟨e, hz, a, b, t⟩ | ⟨T, f, oT, hz, hT, q1, q2, q3⟩
  · exact wpAny_pyNext_zipD2_item S D1 D2 hz ti t c1 c2 m1 m2 fun x y g tk p1 p2 hz' t' d1 d2 pr sz kp => k x y g tk p1 p2 (.inr ⟨_, false, _, hz', pr, Nat.ne_of_gt (Heap.lt_size hz), Nat.ne_of_gt y1, Nat.ne_of_gt y2⟩) d1 d2 pr sz kp
  · have ty : s.TypeIs (.ref z) "zip" := ⟨_, hz, rfl⟩
    unfold pyNext
    exact wpAny_bind (wpAny_attempt (wpAny_callSpecial?_slot (name := Str.ofString "__next__") ty F.slot_zip_next (wpAny_call_entry F.slot_zip_next ty F.entry_zip_next
      (zipK_item S D1 D2 hz hT ti c1 c2 m1 m2 fun x y g tk p1 p2 hz' d1 d2 pr sz kp => wpAny_pure (k x y g tk p1 p2 (.inr ⟨T, true, oT, hz', kp T oT q1 q2 q3 hT, q1, q2, q3⟩) d1 d2 pr sz fun c o a1 _ a3 a4 e => kp c o a1 a3 a4 e)) (F.args_zip_next_1 _))))
theorem zipN_end {Q : Option Value → Shared → Prop} (hh : A.handled = none) (S : ZipSep2 z TI TO i1 i2 fp1 fp2) (D1 : Draws prog w A.in1 i1 fp1 n1 P1 St1) (D2 : Draws prog w A.in1 i2 fp2 n1 P2 St2) (st : ZSt s.heap z TI TO i1 i2 n1)
    (ti : IsTupOf2 s.heap TI (.ref i1) (.ref i2)) (c1 : St1 n1 s.heap) (c2 : St2 n1 s.heap)
    (k : ∀ g tk, (∀ c o, c ≠ z → c ≠ TO → c ≠ i1 → c ≠ i2 → s.heap.get? c = some o → g.get? c = some o) → Q none { s with heap := g, toks := tk }) : wpAny (model prog w) A (pyNext (.ref z)) Q E s := by
  rcases st with ⟨e, hz, a, b, t⟩ | ⟨T, f, oT, hz, hT, q1, q2, q3⟩
  · exact wpAny_pyNext_zipD2_end S D1 D2 hz ti t c1 c2 (Nat.le_refl _) (Nat.le_refl _) (.inl rfl) k
  · have ty : s.TypeIs (.ref z) "zip" := ⟨_, hz, rfl⟩
    unfold pyNext
    refine wpAny_bind (wpAny_attempt (wpAny_callSpecial?_slot (name := Str.ofString "__next__") ty F.slot_zip_next (wpAny_call_entry F.slot_zip_next ty F.entry_zip_next
      (zipK_end S D1 hz hT ti c1 fun g tk e kp he => ?_) (F.args_zip_next_1 _))))
    obtain ⟨o, ge, ce⟩ := he
    refine wpAny_bind (wpAny_isInstance (T := "StopIteration") (b := true) ⟨o, ge, ce⟩ isSubtype_stop ?_)
    exact wpAny_pure (k g tk fun c o a1 _ a3 _ y => kp c o a1 a3 y)
/-- the pairs made so far -/
structure Kept (R : Nat → Value → Value → Prop) (lo : Addr) (h : Heap) (as : List Addr) : Prop where
  rise : as.Pairwise (· < ·)
  above : ∀ a ∈ as, lo ≤ a
  pairs : ∀ (j : Nat) (a : Addr), as[j]? = some a → ∃ x y, R j x y ∧ IsTupOf2 h a x y
theorem zip_loop {A : Around} {R : Result → Shared → Prop} {n : Nat} {L lo : Addr} (hh : A.handled = none) (S : ZipSep2 z TI TO i1 i2 fp1 fp2) (D1 : Draws prog w A.in1.in1 i1 fp1 n P1 St1) (D2 : Draws prog w A.in1.in1 i2 fp2 n P2 St2)
    (L1 : L ∉ fp1) (L2 : L ∉ fp2) (Lz : L ≠ z) (LO : L ≠ TO) (LI : L ≠ TI) (hn : n ≤ sizeLine) (zlo : z < lo ∧ TO < lo ∧ i1 < lo ∧ i2 < lo ∧ L < lo) (res : Value) {h₁ : Heap}
    (hR : ∀ h' tk acc c as, (∀ b o, b ≠ L → b ≠ z → b ≠ TO → b ≠ i1 → b ≠ i2 → h₁.get? b = some o → h'.get? b = some o) → h'.get? L = some { cls := .type "list", dict := none, data := .seq acc c, slots := #[] } → as.length = n →
      Kept (fun j x y => P1 j x ∧ P2 j y) lo h' as → acc.toList = as.map Value.ref → R (.ok (.ret res)) { s with heap := h', toks := tk }) :
    ∀ (m i : Nat) (h : Heap) (tk c : Nat) (acc : Array Value) (as : List Addr), n - i = m → i ≤ n → ZSt h z TI TO i1 i2 i → IsTupOf2 h TI (.ref i1) (.ref i2) → St1 i h → St2 i h → lo ≤ h.objs.size →
      (∀ b o, b ≠ L → b ≠ z → b ≠ TO → b ≠ i1 → b ≠ i2 → h₁.get? b = some o → h.get? b = some o) → h.get? L = some { cls := .type "list", dict := none, data := .seq acc c, slots := #[] } → acc.toList = as.map Value.ref → as.length = i →
      Kept (fun j x y => P1 j x ∧ P2 j y) lo h as → codeAny (model prog w) A (.builtin "list.extend.loop" ⟨[.ref L, .ref z, res], []⟩) R { s with heap := h, toks := tk } := by
  have ne1 : L ≠ i1 := fun e => L1 (e ▸ S.mem1)
  have ne2 : L ≠ i2 := fun e => L2 (e ▸ S.mem2)
  obtain ⟨o1, o2, o3, o4, o5⟩ := zlo
  intro m
  induction m with
  | zero =>
    intro i h tk c acc as hm hi st ti c1 c2 hlo kp gL ea el G
    obtain rfl : i = n := by omega
    refine codeAny_builtin PySem.F.entry_extend_loop ?_
    rw [Around.under_plainId PySem.F.plain_extend_loop _]
    show wpAny _ A.in1 (pyNext (.ref z) >>= _) _ _ _
    refine wpAny_bind (zipN_end (s := { s with heap := h, toks := tk }) (A := A.in1) hh S D1 D2 st ti c1 c2 fun g tk' k => ?_)
    refine wpAny_pure (hR g tk' acc c as (fun b o b1 b2 b3 b4 b5 e => k b o b2 b3 b4 b5 (kp b o b1 b2 b3 b4 b5 e)) (k L _ Lz LO ne1 ne2 gL) el ⟨G.rise, G.above, fun j a hj => ?_⟩ ea)
    obtain ⟨x, y, r, t⟩ := G.pairs j a hj
    have ab := G.above a (List.mem_of_getElem? hj)
    exact ⟨x, y, r, k a _ (Nat.ne_of_gt (Nat.lt_of_lt_of_le o1 ab)) (Nat.ne_of_gt (Nat.lt_of_lt_of_le o2 ab)) (Nat.ne_of_gt (Nat.lt_of_lt_of_le o3 ab)) (Nat.ne_of_gt (Nat.lt_of_lt_of_le o4 ab)) t⟩
  | succ m ih =>
    intro i h tk c acc as hm hi st ti c1 c2 hlo kp gL ea el G
    have lt0 : i < n := by omega
    have sza : acc.size = i := by rw [← Array.length_toList, ea, List.length_map, el]
    refine codeAny_builtin PySem.F.entry_extend_loop ?_
    rw [Around.under_plainId PySem.F.plain_extend_loop _]
    show wpAny _ A.in1 (pyNext (.ref z) >>= _) _ _ _
    refine wpAny_bind (zipN_item (s := { s with heap := h, toks := tk }) (A := A.in1) S D1 D2 st ti c1 c2 lt0 lt0 fun x y g tk' px py st' d1 d2 pr sz k => ?_)
    dsimp only at pr sz k ⊢
    have gL' := k L _ Lz LO ne1 ne2 gL
    have up : ∀ b o, b ≠ L → g.get? b = some o → (g.update L (Obj.mapSeq (·.push (Value.ref h.objs.size)))).get? b = some o := fun b o q e => (Heap.get?_update_other _ _ (Ne.symm q)).trans e
    have gL2 := Heap.get?_update_self (Obj.mapSeq (·.push (Value.ref h.objs.size))) gL' rfl
    have Ll : L < h.objs.size := Heap.lt_size gL
    show wpAny _ A.in1 (updateSeq L (·.push (Value.ref h.objs.size)) >>= _) _ _ _
    refine wpAny_bind ?_
    refine wpAny_updateSeq gL' rfl (wpAny_pure ⟨plainId_quiet PySem.F.plain_extend_loop _, ih (i + 1) _ tk' _ (acc.push (Value.ref h.objs.size)) (as ++ [h.objs.size]) (by omega) lt0 (st'.keep up ⟨_, gL2⟩ (Ne.symm Lz) (Ne.symm LO))
      (up _ _ (Ne.symm LI) (k TI _ S.TIz S.TITO S.TIi1 S.TIi2 ti)) (D1.frame _ _ _ d1 fun b hb o e => up b o (fun q => L1 (q ▸ hb)) e) (D2.frame _ _ _ d2 fun b hb o e => up b o (fun q => L2 (q ▸ hb)) e) ?_
      (fun b o b1 b2 b3 b4 b5 e => up b o b1 (k b o b2 b3 b4 b5 (kp b o b1 b2 b3 b4 b5 e))) gL2 (by rw [Array.toList_push, ea, List.map_append]; rfl) (by rw [List.length_append, el]; rfl) ⟨?_, ?_, ?_⟩⟩) (by rw [sza]; omega) (by show (acc.push (Value.ref h.objs.size)).size ≤ sizeLine + 1; rw [Array.size_push, sza]; omega)
    · have e := up _ _ (Nat.ne_of_gt Ll) pr
      exact Nat.le_of_lt (Nat.lt_of_le_of_lt hlo (Heap.lt_size e))
    · refine List.pairwise_append.mpr ⟨G.rise, List.pairwise_singleton _ _, fun a ha b hb => ?_⟩
      rw [List.mem_singleton.mp hb]
      obtain ⟨j, hj⟩ := List.mem_iff_getElem?.mp ha
      obtain ⟨x, y, _, t⟩ := G.pairs j a hj
      exact Heap.lt_size t
    · intro a ha
      rcases List.mem_append.mp ha with ha | ha
      · exact G.above a ha
      · rw [List.mem_singleton.mp ha]
        exact hlo
    · intro j b hj
      rcases Nat.lt_trichotomy j as.length with q | q | q
      · rw [List.getElem?_append_left q] at hj
        obtain ⟨x', y', r, t⟩ := G.pairs j b hj
        have ab := G.above b (List.mem_of_getElem? hj)
        exact ⟨x', y', r, up b _ (Nat.ne_of_gt (Nat.lt_of_lt_of_le o5 ab)) (k b _ (Nat.ne_of_gt (Nat.lt_of_lt_of_le o1 ab)) (Nat.ne_of_gt (Nat.lt_of_lt_of_le o2 ab)) (Nat.ne_of_gt (Nat.lt_of_lt_of_le o3 ab)) (Nat.ne_of_gt (Nat.lt_of_lt_of_le o4 ab)) t)⟩
      · subst q
        have hb : h.objs.size = b := by simpa using hj
        subst hb
        refine ⟨x, y, ?_, up _ _ (Nat.ne_of_gt Ll) pr⟩
        rw [el]
        exact ⟨px, py⟩
      · rw [List.getElem?_eq_none (by rw [List.length_append, List.length_singleton]; omega)] at hj
        cases hj
theorem nolen_zip : typeLookup (.type "zip") "__len__" = pure none := am_miss_of_fast (by decide +kernel)
theorem nohint_zip : typeLookup (.type "zip") "__length_hint__" = pure none := am_miss_of_fast (by decide +kernel)
theorem list_zipRaw {A : Around} {n : Nat} {f0 : Value} {a0 b0 : Value} {Q : Value → Shared → Prop} (hh : A.handled = none) (S : ZipSep2 z TI TO i1 i2 fp1 fp2) (D1 : Draws prog w A.in1.in1.in1 i1 fp1 n P1 St1) (D2 : Draws prog w A.in1.in1.in1 i2 fp2 n P2 St2)
    (hz : IsZip s.heap z TI TO .none) (ti : IsTupOf2 s.heap TI (.ref i1) (.ref i2)) (t0 : IsTupOf2 s.heap TO a0 b0) (c1 : St1 0 s.heap) (c2 : St2 0 s.heap) (hn : n ≤ sizeLine) (lt1 : ∀ b ∈ fp1, b < s.heap.objs.size) (lt2 : ∀ b ∈ fp2, b < s.heap.objs.size)
    (hQ : ∀ h' tk acc c as, (∀ b o, b ≠ z → b ≠ TO → b ≠ i1 → b ≠ i2 → s.heap.get? b = some o → h'.get? b = some o) → h'.get? s.heap.objs.size = some { cls := .type "list", dict := none, data := .seq acc c, slots := #[] } → as.length = n →
      Kept (fun j x y => P1 j x ∧ P2 j y) (s.heap.objs.size + 1) h' as → acc.toList = as.map Value.ref → Q (.ref s.heap.objs.size) { s with heap := h', toks := tk }) :
    wpAny (model prog w) A (call (.type "list") [.ref z]) Q E s := by
  refine callType_codes (Q₁ := fun obj t => obj = .ref s.heap.objs.size ∧ t = { s with heap := s.heap.push { cls := .type "list", data := .seq #[] } }) PySem.F.called_list (PySem.F.typeCall_list_1 _) PySem.F.entry_list_init
    (code_list_new _ ⟨rfl, rfl⟩) fun obj t ht => ?_
  obtain ⟨rfl, rfl⟩ := ht
  have gS : (s.heap.push { cls := .type "list", data := .seq #[] }).get? s.heap.objs.size = some { cls := .type "list", data := .seq #[] } := Heap.get?_push_size _ rfl
  refine ⟨⟨_, gS, rfl⟩, PySem.F.args_list_init_2 _ _, ?_⟩
  have zl : z < s.heap.objs.size := Heap.lt_size hz
  have Ol : TO < s.heap.objs.size := Heap.lt_size t0
  have Il : TI < s.heap.objs.size := Heap.lt_size ti
  have l1 := lt1 _ S.mem1
  have l2 := lt2 _ S.mem2
  show wpAny _ _ (do let old ← Builtin.List.listItems (.ref s.heap.objs.size); Builtin.List.listUpdate (.ref s.heap.objs.size) (fun _ => #[]); letGo old.toList.reverse; Builtin.List.listExtendWith (.ref s.heap.objs.size) (.ref z) .none) _ _ _
  refine wpAny_bind ?_
  unfold Builtin.List.listItems
  refine wpAny_bind (wpAny_seqItems gS rfl (wpAny_pure ?_))
  show wpAny _ _ (updateSeq s.heap.objs.size (fun _ => #[]) >>= fun _ => letGo (#[] : Array Value).toList.reverse >>= fun _ => Builtin.List.listExtendWith (.ref s.heap.objs.size) (.ref z) .none) _ _ _
  refine wpAny_bind (wpAny_updateSeq gS rfl ?_)
  have gS2 := Heap.get?_update_self (Obj.mapSeq (fun _ => (#[] : Array Value))) gS rfl
  have kp : ∀ b o, b < s.heap.objs.size → s.heap.get? b = some o → ((s.heap.push { cls := .type "list", data := .seq #[] }).update s.heap.objs.size (Obj.mapSeq (fun _ => (#[] : Array Value)))).get? b = some o :=
    fun b o lt e => (Heap.get?_update_other _ _ (Nat.ne_of_gt lt)).trans (Heap.get?_push_of_some _ e)
  refine wpAny_bind (wpAny_letGo ?_)
  unfold Builtin.List.listExtendWith
  have hz2 := kp _ _ zl hz
  refine wpAny_bind (wpAny_typeOf (T := "zip") ⟨_, hz2, rfl⟩ ?_)
  have b1 : Builtin.List.listSameRef (.ref s.heap.objs.size) (.ref z) = false := by simp [Builtin.List.listSameRef, Nat.ne_of_gt zl]
  have b2 : (Value.type "zip" == Value.type "list") = false := by decide
  have b3 : (Value.type "zip" == Value.type "tuple") = false := by decide
  simp only [b1, b2, b3, Bool.or_false, Bool.false_eq_true, if_false]
  refine wpAny_bind (wpAny_pyIter_zip hz2 ?_)
  refine wpAny_bind (wpAny_holding ?_)
  unfold Builtin.List.listLengthHint
  refine wpAny_bind (wpAny_specialOf ⟨_, hz2, rfl⟩ nolen_zip ?_)
  show wpAny _ _ (specialOf (Value.ref z) (Str.ofString "__length_hint__") >>= _) _ _ _
  refine wpAny_bind (wpAny_specialOf ⟨_, hz2, rfl⟩ nohint_zip ?_)
  refine wpAny_pure ?_
  have fin : ∀ (g : Heap) (c : Nat), (∀ b o, b < s.heap.objs.size → s.heap.get? b = some o → g.get? b = some o) → g.get? s.heap.objs.size = some { cls := .type "list", data := .seq #[] c } →
      codeAny (model prog w) A.in1 (.builtin "list.extend.loop" ⟨[.ref s.heap.objs.size, .ref z, .none], []⟩) (wants (fun r t => r = .none ∧ Q (.ref s.heap.objs.size) t) E) { s with heap := g } := by
    intro g c k gL
    refine zip_loop (A := A.in1) (L := s.heap.objs.size) (lo := s.heap.objs.size + 1) (n := n) (h₁ := s.heap) (s := s) hh S D1 D2 (fun q => Nat.lt_irrefl _ (lt1 _ q)) (fun q => Nat.lt_irrefl _ (lt2 _ q)) (Nat.ne_of_gt zl) (Nat.ne_of_gt Ol) (Nat.ne_of_gt Il) hn
      ⟨Nat.lt_succ_of_lt zl, Nat.lt_succ_of_lt Ol, Nat.lt_succ_of_lt l1, Nat.lt_succ_of_lt l2, Nat.lt_succ_self _⟩ .none (fun h' tk acc c as q gl el G ea => ⟨rfl, hQ h' tk acc c as (fun b o b1 b2 b3 b4 e => q b o (Nat.ne_of_lt (Heap.lt_size e)) b1 b2 b3 b4 e) gl el G ea⟩)
      n 0 g s.toks c #[] [] (Nat.sub_zero _) (Nat.zero_le _) (.inl ⟨rfl, k _ _ zl hz, _, _, k _ _ Ol t0⟩) (k _ _ Il ti) (D1.frame _ _ _ c1 fun b hb o e => k b o (lt1 b hb) e) (D2.frame _ _ _ c2 fun b hb o e => k b o (lt2 b hb) e)
      (Heap.lt_size gL) (fun b o _ _ _ _ _ e => k b o (Heap.lt_size e) e) gL rfl rfl ⟨.nil, (fun _ q => nomatch q), fun j a q => by simp at q⟩
  show wpAny _ _ (rule "list.extend.makes-room" >>= fun _ => Builtin.List.listTouch (.ref s.heap.objs.size) >>= fun _ => again (.builtin "list.extend.loop" ⟨[.ref s.heap.objs.size, .ref z, .none], []⟩)) _ _ _
  refine wpAny_bind (wpAny_rule ?_)
  refine wpAny_bind ?_
  show wpAny _ _ (updateSeq s.heap.objs.size (·.push .none) >>= fun _ => updateSeq s.heap.objs.size (·.pop)) _ _ _
  refine wpAny_bind (wpAny_updateSeq gS2 rfl ?_)
  have gS3 := Heap.get?_update_self (Obj.mapSeq (·.push Value.none)) gS2 rfl
  refine wpAny_updateSeq gS3 rfl ?_
  have gS4 := Heap.get?_update_self (Obj.mapSeq (·.pop)) gS3 rfl
  exact wpAny_pure ⟨plainId_quiet PySem.F.plain_extend_loop _, fin _ _ (fun b o lt e => (Heap.get?_update_other _ _ (Nat.ne_of_gt lt)).trans ((Heap.get?_update_other _ _ (Nat.ne_of_gt lt)).trans (kp b o lt e))) gS4⟩
end
end Km
end

section
set_option Elab.async false
set_option linter.all false
set_option maxRecDepth 100000
namespace Km
open PySem PySem.Spec PyProof.Rows L2
theorem begins_dict {d : Addr} {es : Array DictEntry} {ep : Nat} (lo : (d == sysModules) = false) : Begins (.ref d) { cls := .type "dict_keyiterator", data := .fields #[.ref d, .int 0 0, .int es.size 0, .int ep 0] } fun h => DT.Raw h d es ep where
  iter := fun prog w A E s Q hC h => by
    obtain ⟨o, g, c, e⟩ := hC
    exact iter_keys lo g c e h
  keeps := fun h h' x k => x.at' fun o e => k d o e
  free := rfl
/-- list(zip(d, xs)): a dict with tuple keys and a list -/
def tListZip (K : PySem.W.Frag) (ta : TA) : TE := fun σ H Q => ta σ H fun vs H1 => ∃ (d l : Addr) (ks : List (List L2.Key × V)) (ys : List V), vs = [.ref d, .ref l] ∧ Rd H1 d (.dT ks) ∧ SqL K H1 l ys ∧ ks.length = ys.length ∧
  ∀ (H' : Hp) (L : Addr) (as bs : List Addr), Evl.Ex H1 H' → H' L = some (.lst (as.map V.ref)) → IsKeys H1 ks bs → Paired (fun (t : Addr) (q : V × V) => H' t = some (.tup [q.1, q.2])) as (List.zipWith (fun (b : Addr) (y : V) => (V.ref b, y)) bs ys) → Q (.ref L) H'
section
variable {X : Cx} {e1 e2 : Expr} {ta : TA} {p p2 pos pos2 : Pos}
theorem pe_listZip (hc : X.calm = true) (hg : Gl X "list") (hm : X.mg "list" = none) (hg2 : Gl X "zip") (hm2 : X.mg "zip" = none) (ha : PA X [e1, e2] ta)
    (hs : starEach [.Call (.Name "zip" p2) [e1, e2] [] pos2] X.env = (false, eval (.Call (.Name "zip" p2) [e1, e2] [] pos2) X.env) :: starEach [] X.env := by rfl)
    (hs2 : starEach [e1, e2] X.env = (false, eval e1 X.env) :: starEach [e2] X.env := by rfl) (hpl : (backTo pos2 (starEach [e2] X.env)).any (·.1) = false := by rfl) :
    PE X (.Call (.Name "list" p) [.Call (.Name "zip" p2) [e1, e2] [] pos2] [] pos) (tListZip X.K ta) := by
  refine ⟨fun pins s σ H Q I h => ?_⟩
  refine wpAny_Call_Name_kw (ld_blt I hg hm boot_list ?_)
  refine PyProof.Rows.callWith_type1 ?_ hs rfl
  rw [hs]
  show wpAny _ _ (spliced ((false, eval (.Call (.Name "zip" p2) [e1, e2] [] pos2) X.env) :: backTo pos (starEach [] X.env))) _ _ s
  refine Calls.spliced_cons ?_
  refine Call_ (ld_blt I hg2 hm2 PyProof.Rows.boot_zip (PyProof.Rows.callWith_type1 (thn (ha.run pos2 pins s σ H _ I h) fun us s1 ⟨vs, H1, I1, r1, q1⟩ => ?_) hs2 hpl))
  obtain ⟨d, l, ks, ys, rfl, hd, hq, hl, q⟩ := q1
  obtain ⟨u1, u2, eu, ru1, ru2⟩ := vals2 r1
  subst eu
  cases ru1
  obtain ⟨z, lo, xs, pr, o, es, ep, ho, hx, hdt, he, hn⟩ := (show ObjOk X.prog X.w H1 s1.heap d (.dT ks) from hd.ok I1.hok)
  have n1 : es.size = xs.length := size_of_entries he
  have n2 : ks.length = xs.length := Paired.length pr
  obtain ⟨o2, C2, B2, c2, beg2, off2, fps2⟩ := Src.begins I1 (S := .lst l) hq ru2
  have raw : DT.Raw s1.heap d es ep := ⟨o, ho, hx, hdt⟩
  refine zip_begins2 (begins_dict (es := es) (ep := ep) lo) B2 raw c2 fun h' hz hTI hTO g1 g2 hsz hk => ?_
  refine Calls.spliced_nil ?_
  have I2 : Inv X pins σ H1 { s1 with heap := h' } := I1.kept (t' := s1.toks) hk
  have hh : X.A.in1.in1.in1.handled = none := I1.ok.hd hc
  have ld : d < s1.heap.objs.size := raw.lt
  obtain ⟨P2, St2, D2, d2, nn2, v2⟩ := Src.draws I2 X.A.in1.in1.in1 hh (S := .lst l) hq (beg2 h' _ g2) (off2 _ (Nat.le_succ _))
  have D1 := draws_keys (prog := X.prog) (w := X.w) (A := X.A.in1.in1.in1) hh s1.heap.objs.size d (Nat.ne_of_lt ld) es ep
  have e12 : ys.length = es.size := by rw [← hl, n2, n1]
  rw [e12] at D2
  refine list_zipRaw (s := { s1 with heap := h' }) (A := X.A) (n := es.size) (f0 := .none) hh (zip_sep2 (fp1 := [d]) (fp2 := Src.rst (.lst l)) (fun b hb => by rw [List.mem_singleton.mp hb]; exact ld) fps2) D1 D2 hz hTI hTO ⟨⟨_, g1, rfl, rfl⟩, raw.at' fun o e => hk d o e⟩ d2 (by omega) (fun b hb => ?_) (fun b hb => ?_) fun h'' tk acc c as kp gL el G ea => ?_
  · show b < h'.objs.size
    rw [hsz]
    rcases List.mem_cons.mp hb with q | q
    · rw [q]
      exact Nat.lt_add_of_pos_right (by decide)
    · rw [List.mem_singleton.mp q]
      exact Nat.lt_add_right 5 ld
  · show b < h'.objs.size
    rw [hsz]
    rcases List.mem_cons.mp hb with q | q
    · rw [q]
      exact Nat.add_lt_add_left (by decide) _
    · exact Nat.lt_add_right 5 (fps2 b q)
  · have kb := isKeys_of pr
    have sz' : (List.zipWith (fun (b : Addr) (y : V) => (V.ref b, y)) (xs.map fun x => x.2.1) ys).length = es.size := by
      rw [List.length_zipWith, List.length_map, e12, ← n1, Nat.min_self]
    have kp2 : ∀ b o, s1.heap.get? b = some o → h''.get? b = some o := fun b o e => by
      have lb : b < s1.heap.objs.size := Heap.lt_size e
      exact kp b o (Nat.ne_of_lt (Nat.lt_add_right 4 lb)) (Nat.ne_of_lt (Nat.lt_add_right 3 lb)) (Nat.ne_of_lt lb) (Nat.ne_of_lt (Nat.lt_add_right 1 lb)) (hk b o e)
    have le5 : s1.heap.objs.size ≤ h'.objs.size := by rw [hsz]; exact Nat.le_add_right _ _
    have hpairs : ∀ (j : Nat) (t : Addr), as[j]? = some t → ∃ p u v, (List.zipWith (fun (b : Addr) (y : V) => (V.ref b, y)) (xs.map fun x => x.2.1) ys)[j]? = some p ∧ RelV p.1 u ∧ RelV p.2 v ∧ IsTup h'' t #[u, v] := by
      intro j t hj
      obtain ⟨x, y, ⟨⟨en, f1, f2⟩, py⟩, tt⟩ := G.pairs j t hj
      have f3 : es.toList[j]? = some en := by rw [Array.getElem?_toList]; exact f1
      rw [he, List.getElem?_map] at f3
      obtain ⟨y', ey, ry⟩ := v2 j y py
      cases hx2 : xs[j]? with
      | none => rw [hx2] at f3; cases f3
      | some x2 =>
        rw [hx2] at f3
        obtain rfl := Option.some.inj f3
        refine ⟨(.ref x2.2.1, y'), x, y, ?_, ?_, ry, _, tt, rfl, _, rfl⟩
        · rw [List.getElem?_zipWith, List.getElem?_map, hx2, ey]
          rfl
        · rw [f2]
          rfl
    obtain ⟨H', k1, k2, k3, k4, k5, J⟩ := pairs_laid (tk := tk) (S := h'.objs.size) (ps := List.zipWith (fun (b : Addr) (y : V) => (V.ref b, y)) (xs.map fun x => x.2.1) ys) I1 (by rw [sz']; omega) le5 kp2 gL (by rw [sz']; exact el)
      (List.Pairwise.imp (fun {a b} (h : a < b) => Nat.ne_of_lt h) G.rise) (fun a ha => ⟨Nat.le_trans le5 (Nat.le_of_lt (G.above a ha)), Nat.ne_of_gt (G.above a ha)⟩) hpairs ea
    exact ⟨.ref _, H', J, rfl, q H' _ as _ k1 k4 kb k5⟩
end
end Km
end

section
set_option Elab.async false
set_option linter.all false
set_option maxRecDepth 100000
namespace Km
open PySem PySem.Spec PyProof.Rows L2 Evl
open C8 (fn0 fnScope_by Cal Mak Met pe_c pe_mk pe_mt pe_mt0 pe_gc fnScope fnBody fnArgs)
variable {Y : Yc}
theorem iteNF {p : Prop} [Decidable p] {A B : Prop} (h : p) (k : B) : if (!decide p) = true then A else B := by rw [decide_eq_true h]; exact iteF k
theorem iteNT {p : Prop} [Decidable p] {A B : Prop} (h : ¬ p) (k : A) : if (!decide p) = true then A else B := by rw [decide_eq_false h]; exact iteT k
theorem atI_nat {α : Type} {xs : List α} {i : Nat} {x : α} (h : xs[i]? = some x) : atI xs (i : Int) = some x := by
  have hi := (List.getElem?_eq_some_iff.mp h).1
  unfold atI ixN
  rw [if_pos (Int.natCast_nonneg i), if_pos (by omega)]
  exact h
theorem atI_of {α : Type} {xs : List α} {i : Nat} {j : Int} {x : α} (e : j = (i : Int)) (h : xs[i]? = some x) : atI xs j = some x := by
  subst e
  exact atI_nat h
theorem bls_of {α : Type} {ys : List V} {us : List α} {f : α → Bool} (h : Paired (fun y u => y = V.bl (f u)) ys us) : ys = (us.map f).map V.bl := by
  rw [List.map_map]
  exact pr_eq h fun _ _ e => e
theorem all_id {α : Type} {us : List α} {f : α → Bool} (h : ∀ u ∈ us, f u = true) : (us.map f).all id = true := by
  rw [List.all_eq_true]
  intro b hb
  obtain ⟨u, hu, rfl⟩ := List.mem_map.mp hb
  exact h u hu
theorem range_get {n i c : Nat} (h : (List.range n)[i]? = some c) : i < n ∧ c = i := by
  obtain ⟨h1, h2⟩ := List.getElem?_eq_some_iff.mp h
  rw [List.length_range] at h1
  rw [List.getElem_range] at h2
  exact ⟨h1, h2.symm⟩
/-- letters -/
structure LsOk (cs : List Nat) : Prop where
  pos : 1 ≤ cs.length
  le : cs.length ≤ 4
  lo : ∀ c ∈ cs, 97 ≤ c ∧ c ≤ 122
  rise : ∀ i a b, cs[i]? = some a → cs[i + 1]? = some b → a < b
theorem small_S : (Str.ofString "abcdefghijklmnopqrstuvwxyz" : Str) = SX.S [97,98,99,100,101,102,103,104,105,106,107,108,109,110,111,112,113,114,115,116,117,118,119,120,121,122] := by decide +kernel
theorem len_S (cs : List Nat) : (SX.S cs).length = cs.length := rfl
theorem sz_small {n : Nat} (h : n ≤ 1000) : n ≤ sizeLine := Nat.le_trans h (by decide)


def sp_is_small (Y : Yc) : Sp := fun vs H Q _ => ∃ c : Nat, vs = [.str (SX.S [c])] ∧ 97 ≤ c ∧ c ≤ 122 ∧ Q (.bl true) H

abbrev st_is_small : Stmt := top 46
theorem ok_is_small {f : Addr} {fd : FuncData} (F : C8.Fun Y.K "is_small" "is_small" st_is_small f fd) (T : TxtY Y)  : FnOk Y.P Y.w Y.K Y.mg Y.base C8.CX0 1 f fd ["value"] (sp_is_small Y) := by
  have S : FnScope ["value"] ["value"] (fnScope st_is_small) := fnScope_by (by decide +kernel)
  have nd := S.nd
  refine fn0 F S (fun vs H Q E h => ?_) (fun cdv A outer s H vs Q E hr h => ?_)
  · obtain ⟨_, rfl, _⟩ := h; rfl
  refine ⟨_, (pss_one (ps_ret (pe_and (pe_callB call_isi rfl T.n_isinstance boot_isinstance (pa_cons (pv 0) (pa_cons (pe_bltn (v := .ty "str") rfl T.n_str boot_str rfl) pa_nil))) (pe_and (pe_cmpR op_eq (pe_callB call_len rfl T.n_len boot_len (pa_cons (pv 0) pa_nil)) pe_int (nomark _)) (pe_one (pe_cmpR op_in_str (pv 0) (pe_gc rfl T.c_SMALL) (by with_unfolding_all rfl))))))), ?_⟩
  obtain ⟨c, rfl, h1, h2, k⟩ := h
  refine ⟨_, rfl, _, _, _, _, true, rfl, .ty "str", .base (.str _), kit_ty (by decide +kernel), true, rfl, iteT ?_⟩
  refine ⟨_, rfl, _, _, rfl, ⟨l1, rfl⟩, rfl, _, rfl, iteDT rfl ?_⟩
  refine ⟨_, rfl, _, _, rfl, rfl, ?_⟩
  refine cv (congrArg V.bl ?_) k
  rw [small_S, SX.in_one]
  exact decide_eq_true (by simp; omega)

def sp_is_letters (Y : Yc) : Sp := fun vs H Q _ => ∃ cs : List Nat, vs = [.str (SX.S cs)] ∧ LsOk cs ∧ ∀ H', Ex H H' → Q (.bl true) H'

abbrev st_is_letters : Stmt := top 47
theorem ok_is_letters {f : Addr} {fd : FuncData} (F : C8.Fun Y.K "is_letters" "is_letters" st_is_letters f fd) (T : TxtY Y) (c_is_small : CalY Y 1 "is_small" (sp_is_small Y) []) : FnOk Y.P Y.w Y.K Y.mg Y.base C8.CX0 2 f fd ["value"] (sp_is_letters Y) := by
  have S : FnScope ["value", "sign", "at"] ["value"] (fnScope st_is_letters) := fnScope_by (by decide +kernel)
  have nd := S.nd
  refine fn0 F S (fun vs H Q E h => ?_) (fun cdv A outer s H vs Q E hr h => ?_)
  · obtain ⟨_, rfl, _⟩ := h; rfl
  refine ⟨_, (pss_cons (ps_if (PW.pt (pw_or (pt_not (pt_val (pe_callB call_isi rfl T.n_isinstance boot_isinstance (pa_cons (pv 0) (pa_cons (pe_bltn (v := .ty "str") rfl T.n_str boot_str rfl) pa_nil))))) (pw_or1 (pt_not (pt_chain op_le op_le pe_int (pe_callB call_len rfl T.n_len boot_len (pa_cons (pv 0) pa_nil)) (pe_gc rfl T.c_MOST_LETTERS)))))) (pss_one (ps_ret pe_bl)) pss_nil)
    (pss_cons (ps_if (pt_not (pt_val (pe_callB (cr_all rfl) rfl T.n_all boot_all (pa_cons (pe_lc (own := [("sign", 1)]) (g := gName 1) (tt := tYes) rfl nd (pi_str (pv 0)) (blkOk_by (N := ["value", "sign", "at"]) (sc := (fnScope st_is_letters)) (by decide +kernel)) (fun _ _ _ _ _ => by exact (pg_name (i := 1) nd rfl (Or.inl rfl))) (fun _ _ _ _ _ => by exact pts_nil) (fun _ _ _ _ _ => by exact (pe_c c_is_small hr (by decide) rfl (pa_cons (pv 1) pa_nil)))) pa_nil)))) (pss_one (ps_ret pe_bl)) pss_nil)
    (pss_one (ps_ret (pe_callB (cr_all rfl) rfl T.n_all boot_all (pa_cons (pe_lc (own := [("at", 2)]) (g := gName 2) (tt := tYes) rfl nd (pi_range1 rfl T.n_range (pa_cons (pe_op op_sub (pe_callB call_len rfl T.n_len boot_len (pa_cons (pv 0) pa_nil)) pe_int) pa_nil)) (blkOk_by (N := ["value", "sign", "at"]) (sc := (fnScope st_is_letters)) (by decide +kernel)) (fun _ _ _ _ _ => by exact (pg_name (i := 2) nd rfl (Or.inl rfl))) (fun _ _ _ _ _ => by exact pts_nil) (fun _ _ _ _ _ => by exact (pe_cmpR op_lt_str (pe_ix ix_str (pv 0) (pv 2) (fun _ _ => rfl)) (pe_ix ix_str (pv 0) (pe_op op_add (pv 2) pe_int) (fun _ _ => rfl)) (nomark _)))) pa_nil)))))), ?_⟩
  obtain ⟨cs, rfl, ok, k⟩ := h
  have sl : (SX.S cs).length ≤ sizeLine := sz_small (Nat.le_trans ok.le (by decide))
  refine ⟨_, rfl, _, _, _, _, true, rfl, .ty "str", .base (.str _), kit_ty (by decide +kernel), true, rfl, iteF ?_⟩
  refine ⟨_, rfl, _, _, rfl, ⟨sl, rfl⟩, _, _, rfl, rfl, _, rfl, ?_⟩
  have p1 := ok.pos
  have p2 := ok.le
  rw [len_S, decide_eq_true (show (1 : Int) ≤ (cs.length : Int) by omega)]
  refine iteT ⟨_, _, rfl, rfl, _, rfl, ?_⟩
  rw [decide_eq_true (show (cs.length : Int) ≤ 8 by omega)]
  refine iteF ?_
  refine ⟨_, rfl, _, rfl, fun D hD => ?_⟩
  refine lc_map (us := cs) (walk_str (z := SX.S cs)) (fun c y _ => y = .bl true) hD (by omega) (fun _ _ => trivial) (fun _ _ _ _ _ h => h) (fun _ _ _ _ _ _ h => h) ?_ gn_mono ?_
  · rintro i c x H2 H3 Kq hc e _ ⟨rfl, c', hc', rfl⟩ hk
    have e1 : c' = c := Option.some.inj ((List.getElem?_toArray ▸ hc').symm.trans hc)
    subst e1
    have lo := ok.lo c' (List.mem_of_getElem? hc)
    exact ⟨rfl, _, rfl, c', rfl, lo.1, lo.2, hk _ _ (Ex.refl _) rfl⟩
  · intro ys H2 e hd pr
    rw [bls_of (f := fun _ => true) pr] at hd
    refine ⟨D, _, rfl, sq_of hd, _, rfl, ?_⟩
    rw [all_id fun _ _ => rfl]
    refine iteF ?_
    refine ⟨_, rfl, _, _, rfl, ⟨sl, rfl⟩, _, _, rfl, rfl, _, rfl, ?_, ?_, fun D2 hD2 => ?_⟩
    · rw [len_S]; omega
    · rw [len_S]; omega
    · have en : ((cs.length : Int) - 1).toNat = (List.range (cs.length - 1)).length := by rw [List.length_range]; omega
      have wr := walk_range (lo := 0) (n := ((cs.length : Int) - 1).toNat)
      rw [en] at wr
      show ∃ W, _
      rw [len_S, en]
      refine lc_map (us := List.range (cs.length - 1)) wr (fun c y _ => y = .bl true) hD2 (by rw [List.length_range]; omega) (fun _ _ => trivial) (fun _ _ _ _ _ h => h) (fun _ _ _ _ _ _ h => h) ?_ gn_mono ?_
      · rintro i c x H3 H4 Kq hc e3 _ ⟨rfl, rfl⟩ hk
        obtain ⟨hi, rfl⟩ := range_get hc
        obtain ⟨a, ha⟩ := get_lt (l := cs) (i := c) (by omega)
        obtain ⟨b, hb⟩ := get_lt (l := cs) (i := c + 1) (by omega)
        refine ⟨rfl, _, rfl, _, rfl, _, _, a, rfl, rfl, sl, atI_of (by omega) ha, ?_⟩
        refine ⟨_, rfl, _, rfl, _, _, rfl, rfl, _, _, b, rfl, rfl, sl, atI_of (by omega) hb, _, _, rfl, rfl, hk _ _ (Ex.refl _) ?_⟩
        have := ok.rise c a b ha hb
        exact congrArg V.bl (decide_eq_true (List.Lex.rel this))
      · intro ys2 H4 e4 hd4 pr4
        rw [bls_of (f := fun _ => true) pr4] at hd4
        refine ⟨D2, _, rfl, sq_of hd4, ?_⟩
        rw [all_id fun _ _ => rfl]
        exact k _ ((Ex.trans e (fun _ _ h => h)).trans e4)

def sp_want_letters (Y : Yc) : Sp := fun vs H Q _ => ∃ cs : List Nat, vs = [.str (SX.S cs)] ∧ LsOk cs ∧ ∀ H', Ex H H' → Q .non H'

abbrev st_want_letters : Stmt := top 48
theorem ok_want_letters {f : Addr} {fd : FuncData} (F : C8.Fun Y.K "want_letters" "want_letters" st_want_letters f fd) (T : TxtY Y) (c_is_letters : CalY Y 2 "is_letters" (sp_is_letters Y) []) : FnOk Y.P Y.w Y.K Y.mg Y.base C8.CX0 3 f fd ["value"] (sp_want_letters Y) := by
  have S : FnScope ["value"] ["value"] (fnScope st_want_letters) := fnScope_by (by decide +kernel)
  have nd := S.nd
  refine fn0 F S (fun vs H Q E h => ?_) (fun cdv A outer s H vs Q E hr h => ?_)
  · obtain ⟨_, rfl, _⟩ := h; rfl
  refine ⟨_, (pss_one (ps_if (pt_not (pt_val (pe_c c_is_letters hr (by decide) rfl (pa_cons (pv 0) pa_nil)))) (pss_one ps_never) pss_nil)), ?_⟩
  obtain ⟨cs, rfl, ok, k⟩ := h
  refine ⟨_, rfl, cs, rfl, ok, fun H' e => ⟨_, rfl, ?_⟩⟩
  exact iteF (k _ e)

/-- how the ints of a key are kept in a list -/
theorem kvs_ints (c : Ky) : kvs c = (c.map fun (n : Nat) => (n : Int)).map V.int := by
  unfold kvs
  rw [List.map_map]
  rfl
theorem sum_ints : ∀ c : Ky, (c.map fun (n : Nat) => (n : Int)).sum = (deg c : Int)
  | [] => rfl
  | n :: c => by
    rw [List.map_cons, List.sum_cons, sum_ints c]
    show (n : Int) + (deg c : Int) = ((n + deg c : Nat) : Int)
    omega
theorem kvs_get {c : Ky} {i : Nat} {x : V} (h : (kvs c)[i]? = some x) : ∃ n : Nat, c[i]? = some n ∧ x = .int (n : Int) := by
  unfold kvs at h
  rw [List.getElem?_map] at h
  cases e : c[i]? with
  | none => rw [e] at h; cases h
  | some n =>
    rw [e] at h
    exact ⟨n, rfl, (Option.some.inj h).symm⟩
theorem kvs_len (c : Ky) : (kvs c).length = c.length := List.length_map ..
def sp_are_counts (Y : Yc) : Sp := fun vs H Q _ => ∃ (a : Addr) (c : Ky) (m : Int), vs = [.ref a, .int m] ∧ H a = some (.lst (kvs c)) ∧ m = (c.length : Int) ∧ c.length ≤ 1000 ∧ ∀ H', Ex H H' → Q (.bl true) H'

abbrev st_are_counts : Stmt := top 49
theorem ok_are_counts {f : Addr} {fd : FuncData} (F : C8.Fun Y.K "are_counts" "are_counts" st_are_counts f fd) (T : TxtY Y) (c_is_count : CalY Y 2 "is_count" (sp_is_count Y) []) (c_is_list : CalY Y 1 "is_list" (sp_is_list Y) []) : FnOk Y.P Y.w Y.K Y.mg Y.base C8.CX0 3 f fd ["value", "many"] (sp_are_counts Y) := by
  have S : FnScope ["value", "many", "count"] ["value", "many"] (fnScope st_are_counts) := fnScope_by (by decide +kernel)
  have nd := S.nd
  refine fn0 F S (fun vs H Q E h => ?_) (fun cdv A outer s H vs Q E hr h => ?_)
  · obtain ⟨_, _, _, rfl, _⟩ := h; rfl
  refine ⟨_, (pss_one (ps_ret (pe_and (pe_c c_is_list hr (by decide) rfl (pa_cons (pv 0) pa_nil)) (pe_and (pe_cmpR op_eq (pe_callB call_len rfl T.n_len boot_len (pa_cons (pv 0) pa_nil)) (pv 1) (nomark _)) (pe_one (pe_callB (cr_all rfl) rfl T.n_all boot_all (pa_cons (pe_lc (own := [("count", 2)]) (g := gName 2) (tt := tYes) rfl nd (pi_list (pv 0)) (blkOk_by (N := ["value", "many", "count"]) (sc := (fnScope st_are_counts)) (by decide +kernel)) (fun _ _ _ _ _ => by exact (pg_name (i := 2) nd rfl (Or.inl rfl))) (fun _ _ _ _ _ => by exact pts_nil) (fun _ _ _ _ _ => by exact (pe_c c_is_count hr (by decide) rfl (pa_cons (pv 2) pa_nil)))) pa_nil))))))), ?_⟩
  obtain ⟨a, c, m, rfl, ha, rfl, sz, k⟩ := h
  refine ⟨_, rfl, _, _, rfl, .inl ⟨a, rfl, .inl ha⟩, fun H1 e1 => ⟨true, rfl, iteT ?_⟩⟩
  have h1 := e1 _ _ ha
  refine ⟨_, rfl, _, _, rfl, .inl ⟨_, sq_of h1, rfl⟩, _, rfl, rfl, _, rfl, iteDT (by rw [kvs_len]) ?_⟩
  refine ⟨_, rfl, a, rfl, ⟨_, sq_of h1⟩, fun D hD => ?_⟩
  have wl := walk_list (K := Y.K) (a := a) (xs := kvs c)
  rw [kvs_len] at wl
  refine lc_map (us := c) wl (fun c y _ => y = .bl true) hD (by omega) (fun H2 e => ex_l e (sq_of h1)) (fun _ _ _ _ _ h => h) (fun _ _ _ _ _ _ h => h) ?_ gn_mono ?_
  · rintro i n x H2 H3 Kq hc e _ ⟨rfl, hx⟩ hk
    obtain ⟨n', hn, rfl⟩ := kvs_get hx
    exact ⟨rfl, _, rfl, n', rfl, hk _ _ (Ex.refl _) rfl⟩
  · intro ys H2 e hd pr
    rw [bls_of (f := fun _ => true) pr] at hd
    refine ⟨D, _, rfl, sq_of hd, ?_⟩
    rw [all_id fun _ _ => rfl]
    exact k _ (e1.trans e)

/-- a pair of a list of counts and a number -/
def EntAt (Y : Yc) (H : Hp) (v : V) (t : Ky × Rat) : Prop := ∃ p a x, v = .ref p ∧ H p = some (.tup [.ref a, x]) ∧ H a = some (.lst (kvs t.1)) ∧ NumV Y.CR H x t.2
theorem EntAt.mono {H H' : Hp} {v : V} {t : Ky × Rat} (e : Ex H H') (h : EntAt Y H v t) : EntAt Y H' v t :=
  let ⟨p, a, x, h1, h2, h3, h4⟩ := h
  ⟨p, a, x, h1, e _ _ h2, e _ _ h3, h4.mono (exsm e)⟩
def sp_is_entry (Y : Yc) : Sp := fun vs H Q _ => ∃ (v : V) (t : Ky × Rat) (m : Int), vs = [v, .int m] ∧ EntAt Y H v t ∧ m = (t.1.length : Int) ∧ t.1.length ≤ 1000 ∧ deg t.1 ≤ 8 ∧ 0 < t.2 ∧ ∀ H', Ex H H' → Q (.bl true) H'

abbrev st_is_entry : Stmt := top 50
theorem ok_is_entry {f : Addr} {fd : FuncData} (F : C8.Fun Y.K "is_entry" "is_entry" st_is_entry f fd) (T : TxtY Y) (c_are_counts : CalY Y 3 "are_counts" (sp_are_counts Y) []) (c_is_above : CalY Y 3 "is_above" (sp_is_above Y) []) : FnOk Y.P Y.w Y.K Y.mg Y.base C8.CX0 4 f fd ["value", "many"] (sp_is_entry Y) := by
  have S : FnScope ["value", "many"] ["value", "many"] (fnScope st_is_entry) := fnScope_by (by decide +kernel)
  have nd := S.nd
  refine fn0 F S (fun vs H Q E h => ?_) (fun cdv A outer s H vs Q E hr h => ?_)
  · obtain ⟨_, _, _, rfl, _⟩ := h; rfl
  refine ⟨_, (pss_cons (ps_if (PW.pt (pw_or (pt_not (pt_val (pe_callB call_isi rfl T.n_isinstance boot_isinstance (pa_cons (pv 0) (pa_cons (pe_bltn (v := .ty "tuple") rfl T.n_tuple boot_tuple rfl) pa_nil))))) (pw_or (pt_cmpR op_ne (pe_callB call_len rfl T.n_len boot_len (pa_cons (pv 0) pa_nil)) pe_int (nomark _)) (pw_or1 (pt_not (pt_val (pe_c c_are_counts hr (by decide) rfl (pa_cons (pe_ix ix_tup (pv 0) pe_int (fun _ _ => rfl)) (pa_cons (pv 1) pa_nil))))))))) (pss_one (ps_ret pe_bl)) pss_nil)
    (pss_one (ps_ret (pe_and (pe_cmpR op_le (pe_callB (cr_sum rfl) rfl T.n_sum boot_sum (pa_cons (pe_ix ix_tup (pv 0) pe_int (fun _ _ => rfl)) pa_nil)) (pe_gc rfl T.c_MOST_DEGREE) (nomark _)) (pe_one (pe_c c_is_above hr (by decide) rfl (pa_cons (pe_ix ix_tup (pv 0) pe_int (fun _ _ => rfl)) pa_nil))))))), ?_⟩
  obtain ⟨v, t, m, rfl, ⟨p, a, x, rfl, hp, ha, hx⟩, rfl, sz, dg, ps, k⟩ := h
  refine ⟨_, rfl, _, _, _, _, true, rfl, .ty "tuple", .base (.tup hp), kit_ty (by decide +kernel), true, rfl, iteF ?_⟩
  refine ⟨_, rfl, _, _, rfl, .inr ⟨_, st_of hp, rfl⟩, rfl, _, rfl, iteNF rfl ?_⟩
  refine ⟨_, rfl, p, _, 0, _, rfl, rfl, st_of hp, rfl, _, rfl, a, t.1, _, rfl, ha, rfl, sz, fun H1 e1 => ⟨true, rfl, iteF ?_⟩⟩
  have hp1 := e1 _ _ hp
  have ha1 := e1 _ _ ha
  rw [kvs_ints] at ha1
  refine ⟨_, rfl, p, _, 0, _, rfl, rfl, st_of hp1, rfl, a, _, rfl, sq_of ha1, _, _, rfl, rfl, _, rfl, ?_⟩
  rw [sum_ints]
  refine iteDT (by omega) ?_
  refine ⟨_, rfl, p, _, 1, _, rfl, rfl, st_of hp1, rfl, _, _, rfl, hx.mono (exsm e1), ?_⟩
  exact cv (congrArg V.bl (decide_eq_true ps)) (k _ e1)

def sp_Amounts (Y : Yc) : Sp := fun vs H Q _ => ∃ (x dx : Addr) (v : V), vs = [.ref x, v] ∧ H x = some (.ins Y.CA dx []) ∧ Q .non (upd H x (.ins Y.CA dx [("own_dict", v)]))

abbrev st_Amounts : Stmt := sub 51 0
theorem ok_Amounts {f : Addr} {fd : FuncData} (F : C8.Fun Y.K "__init__" "Amounts.__init__" st_Amounts f fd) (T : TxtY Y)  : FnOk Y.P Y.w Y.K Y.mg Y.base C8.CX0 1 f fd ["self", "amounts"] (sp_Amounts Y) := by
  have S : FnScope ["self", "amounts"] ["self", "amounts"] (fnScope st_Amounts) := fnScope_by (by decide +kernel)
  have nd := S.nd
  refine fn0 F S (fun vs H Q E h => ?_) (fun cdv A outer s H vs Q E hr h => ?_)
  · obtain ⟨_, _, _, rfl, _⟩ := h; rfl
  refine ⟨_, (pss_one (ps_fld (pv 0) (pv 1) rfl)), ?_⟩
  obtain ⟨x, dx, v, rfl, hx, k⟩ := h
  exact ⟨_, rfl, _, rfl, x, _, dx, [], rfl, hx, T.A.cl, T.aD, z0, k⟩

/-- the keys in a dict's rows -/
theorem Rows.keys {H : Hp} {ks : List (List L2.Key × V)} {P : Poly} (h : Rows Y H ks P) : ks.map (·.1) = P.map fun t => kk t.1 := by
  unfold Rows at h
  induction h with
  | nil => rfl
  | cons h t ih => rw [List.map_cons, List.map_cons, ih, h.1]
def sp_degree_of (Y : Yc) : Sp := fun vs H Q _ => ∃ (d : Addr) (ks : List (List L2.Key × V)) (P : Poly), vs = [.ref d] ∧ H d = some (.dT ks) ∧ Rows Y H ks P ∧ ∀ H', Ex H H' → Q (degV P) H'

abbrev st_degree_of : Stmt := top 54
theorem ok_degree_of {f : Addr} {fd : FuncData} (F : C8.Fun Y.K "degree_of" "degree_of" st_degree_of f fd) (T : TxtY Y)  : FnOk Y.P Y.w Y.K Y.mg Y.base C8.CX0 1 f fd ["amounts"] (sp_degree_of Y) := by
  have S : FnScope ["amounts", "counts"] ["amounts"] (fnScope st_degree_of) := fnScope_by (by decide +kernel)
  have nd := S.nd
  refine fn0 F S (fun vs H Q E h => ?_) (fun cdv A outer s H vs Q E hr h => ?_)
  · obtain ⟨_, _, _, rfl, _⟩ := h; rfl
  refine ⟨_, (pss_cons (ps_lock (ps_for PassesOwn.never rfl (pi_keys (pv 0)) (pg_name (i := 1) nd rfl (Or.inl rfl))
    (pss_one (ps_ret (pe_callB (cr_sumT rfl) rfl T.n_sum boot_sum (pa_cons (pv 1) pa_nil))))))
    (pss_one (ps_ret pe_non))), ?_⟩
  obtain ⟨d, ks, P, rfl, hd, rows, k⟩ := h
  refine ⟨d, .dT ks, hd, trivial, fun od => ?_⟩
  refine ⟨_, rfl, d, od, rfl, .inr ⟨ks, upd_same, ?_⟩⟩
  have eu := (ex_unlock (o := od) hd (Ex.refl _)).2
  refine for_it (walk_keysT (kvs := ks)) (fun i σ H' => i = 0 ∧ σ = [some (.ref d), none] ∧ H' = upd H d (.frz od (.dT ks))) ⟨rfl, rfl, rfl⟩ (fun i σ H' _ q => by rw [q.2.2]; exact upd_same) ?_ ?_
  · rintro i x σ H' H2 hi ⟨rfl, rfl, rfl⟩ ⟨rfl, kx, vx, q, hk, rfl, hq⟩
    obtain ⟨t, ht, e1, _⟩ := pr_getL rows hk
    have e1 : kx = kk t.1 := e1
    rw [e1, kk_kV, kvs_ints] at hq
    refine ⟨_, rfl, q, _, rfl, st_of hq, upd_same, ?_⟩
    refine cv ?_ (k _ eu)
    rw [sum_ints]
    cases P with
    | nil => cases ht
    | cons u P =>
      cases ht
      rfl
  · rintro σ H' ⟨h0, rfl, rfl⟩
    refine ⟨upd_same, ?_⟩
    refine cv ?_ (k _ eu)
    cases rows with
    | nil => rfl
    | cons a b => cases h0

/-- a pair of a key and its amount -/
def PairAt2 (Y : Yc) (H : Hp) (x : V) (t : Ky × Rat) : Prop := ∃ p q y, x = .ref p ∧ H p = some (.tup [.ref q, y]) ∧ H q = some (.tup (kvs t.1)) ∧ RatV Y.CR H y t.2
theorem PairAt2.mono {H H' : Hp} {x : V} {t : Ky × Rat} (e : Ex H H') (h : PairAt2 Y H x t) : PairAt2 Y H' x t :=
  let ⟨p, q, y, a, b, c, d⟩ := h
  ⟨p, q, y, a, e _ _ b, e _ _ c, d.mono (exsm e)⟩
theorem ents_of {H0 H H' : Hp} (e0 : Ex H0 H') (e : Ex H H') : ∀ {ks : List (List L2.Key × V)} {P : Poly} {as bs : List Addr}, Rows Y H ks P → IsKeys H0 ks bs →
    Paired (fun (t : Addr) (q : V × V) => H' t = some (.tup [q.1, q.2])) as (List.zipWith (fun (b : Addr) (k : List L2.Key × V) => (V.ref b, k.2)) bs ks) → Paired (PairAt2 Y H') (as.map V.ref) P
  | [], [], as, bs, _, kb, pr => by
    cases kb
    cases pr
    exact .nil
  | k :: ks, t :: P, as, bs, .cons r rows, kb, pr => by
    cases kb with
    | cons hb kb =>
      cases pr with
      | cons h pr =>
        refine .cons ⟨_, _, _, rfl, h, ?_, r.2.mono (exsm e)⟩ (ents_of e0 e rows kb pr)
        have z := e0 _ _ hb
        rw [r.1, kk_kV] at z
        exact z
/-! ### Blend: what it is read for -/
def sp_letters (Y : Yc) : Sp := fun vs H Q _ => ∃ v L P, vs = [v] ∧ BlendV Y H v L P ∧ Q (.str L) H
def sp_degree (Y : Yc) : Sp := fun vs H Q _ => ∃ v L P, vs = [v] ∧ BlendV Y H v L P ∧ Q (degV P) H
def sp_is_nought (Y : Yc) : Sp := fun vs H Q _ => ∃ v L P, vs = [v] ∧ BlendV Y H v L P ∧ Q (.bl (decide (P = []))) H
theorem degV_non (P : Poly) : decide (degV P = .non) = decide (P = []) := by
  cases P with
  | nil => rfl
  | cons t P => exact (decide_eq_false (by intro h; cases h)).trans (decide_eq_false (by intro h; cases h)).symm

abbrev st_letters : Stmt := sub 55 1
theorem ok_letters {f : Addr} {fd : FuncData} (F : C8.Fun Y.K "letters" "Blend.letters" st_letters f fd) (T : TxtY Y)  : FnOk Y.P Y.w Y.K Y.mg Y.base C8.CX0 1 f fd ["self"] (sp_letters Y) := by
  have S : FnScope ["self"] ["self"] (fnScope st_letters) := fnScope_by (by decide +kernel)
  have nd := S.nd
  refine fn0 F S (fun vs H Q E h => ?_) (fun cdv A outer s H vs Q E hr h => ?_)
  · obtain ⟨_, _, _, rfl, _⟩ := h; rfl
  refine ⟨_, (pss_one (ps_ret (pe_fld (pv 0) rfl))), ?_⟩
  obtain ⟨v, L, P, rfl, ⟨p, d, t, dx, B, tops, rfl, f⟩, k⟩ := h
  exact ⟨_, rfl, p, _, dx, _, _, rfl, f.at_, T.B.cl, T.bL, rfl, k⟩
abbrev st_degree : Stmt := sub 55 2
theorem ok_degree {f : Addr} {fd : FuncData} (F : C8.Fun Y.K "degree" "Blend.degree" st_degree f fd) (T : TxtY Y)  : FnOk Y.P Y.w Y.K Y.mg Y.base C8.CX0 1 f fd ["self"] (sp_degree Y) := by
  have S : FnScope ["self"] ["self"] (fnScope st_degree) := fnScope_by (by decide +kernel)
  have nd := S.nd
  refine fn0 F S (fun vs H Q E h => ?_) (fun cdv A outer s H vs Q E hr h => ?_)
  · obtain ⟨_, _, _, rfl, _⟩ := h; rfl
  refine ⟨_, (pss_one (ps_ret (pe_fld (pv 0) rfl))), ?_⟩
  obtain ⟨v, L, P, rfl, ⟨p, d, t, dx, B, tops, rfl, f⟩, k⟩ := h
  exact ⟨_, rfl, p, _, dx, _, _, rfl, f.at_, T.B.cl, T.bD, rfl, k⟩
abbrev st_is_nought : Stmt := sub 55 3
theorem ok_is_nought {f : Addr} {fd : FuncData} (F : C8.Fun Y.K "is_nought" "Blend.is_nought" st_is_nought f fd) (T : TxtY Y)  : FnOk Y.P Y.w Y.K Y.mg Y.base C8.CX0 1 f fd ["self"] (sp_is_nought Y) := by
  have S : FnScope ["self"] ["self"] (fnScope st_is_nought) := fnScope_by (by decide +kernel)
  have nd := S.nd
  refine fn0 F S (fun vs H Q E h => ?_) (fun cdv A outer s H vs Q E hr h => ?_)
  · obtain ⟨_, _, _, rfl, _⟩ := h; rfl
  refine ⟨_, (pss_one (ps_ret (pe_cmpR op_isN (pe_fld (pv 0) rfl) pe_non (nomark _)))), ?_⟩
  obtain ⟨v, L, P, rfl, ⟨p, d, t, dx, B, tops, rfl, f⟩, k⟩ := h
  refine ⟨_, rfl, p, _, dx, _, _, rfl, f.at_, T.B.cl, T.bD, rfl, rfl, ?_⟩
  exact cv (congrArg V.bl (degV_non P)) k

def sp_entries (Y : Yc) : Sp := fun vs H Q _ => ∃ v L P, vs = [v] ∧ BlendV Y H v L P ∧ ∀ l ys H', Ex H H' → H' l = some (.lst ys) → Paired (PairAt2 Y H') ys P → Q (.ref l) H'

abbrev st_entries : Stmt := sub 55 5
theorem ok_entries {f : Addr} {fd : FuncData} (F : C8.Fun Y.K "entries" "Blend.entries" st_entries f fd) (T : TxtY Y)  : FnOk Y.P Y.w Y.K Y.mg Y.base C8.CX0 1 f fd ["self"] (sp_entries Y) := by
  have S : FnScope ["self"] ["self"] (fnScope st_entries) := fnScope_by (by decide +kernel)
  have nd := S.nd
  refine fn0 F S (fun vs H Q E h => ?_) (fun cdv A outer s H vs Q E hr h => ?_)
  · obtain ⟨_, _, _, rfl, _⟩ := h; rfl
  refine ⟨_, (pss_one (ps_ret (pe_callTy (call_list_itemsT rfl) rfl T.n_list boot_list (pa_cons (pe_bm0 PySem.F.plainAttrs_dict PySem.F.slot_dict_items PySem.F.type_dict_items L2.DX.mt_itemsT (pe_fld (pv 0) rfl)) pa_nil)))), ?_⟩
  obtain ⟨v, L, P, rfl, ⟨p, d, t, dx, B, tops, rfl, f⟩, k⟩ := h
  obtain ⟨ks, hd, rows⟩ := f.dic
  refine ⟨_, rfl, p, _, dx, _, _, rfl, f.at_, T.B.cl, T.bA, rfl, ?_⟩
  refine ⟨.inr (.inr (.inl ⟨rfl, .inr ⟨ks, hd⟩⟩)), d, ks, rfl, rfl, hd, fun w hw => ?_⟩
  have e1 : Ex H (upd H w (L2.DX.itemsO w d)) := Ex.new hw
  refine ⟨w, d, ks, rfl, upd_same, .inl (e1 _ _ hd), fun H' l as bs e2 hl kb pr => ?_⟩
  have e3 := e1.trans e2
  exact k l _ H' e3 hl (ents_of e2 e3 rows kb pr)

/-! ### the equality of blends -/


end Km
end

section
set_option Elab.async false
set_option linter.all false
set_option maxRecDepth 100000
namespace Km
open PySem PySem.Spec PyProof.Rows L2
/-! ### tables of products -/
def keysP (P : Poly) : List Ky := P.map (·.1)
def pget : Poly → Ky → Option Rat
  | [], _ => none
  | t :: P, c => if t.1 = c then some t.2 else pget P c
def pput (P : Poly) (c : Ky) (a : Rat) : Poly :=
  if (P.any fun t => decide (t.1 = c)) = true then P.map (fun t => if t.1 = c then (t.1, a) else t) else P ++ [(c, a)]
theorem pget_none {c : Ky} : ∀ {P : Poly}, c ∉ keysP P → pget P c = none
  | [], _ => rfl
  | t :: P, h => by
    have h1 : ¬ t.1 = c := fun e => h (by rw [← e]; exact List.mem_cons_self ..)
    rw [pget, if_neg h1]
    exact pget_none fun q => h (List.mem_cons_of_mem _ q)
theorem pget_some {c : Ky} {a : Rat} : ∀ {P : Poly}, (keysP P).Nodup → (c, a) ∈ P → pget P c = some a
  | [], _, h => by cases h
  | t :: P, n, h => by
    obtain ⟨n1, n2⟩ := List.nodup_cons.mp n
    rcases List.mem_cons.mp h with e | e
    · rw [← e, pget, if_pos rfl]
    · have : ¬ t.1 = c := fun q => n1 (List.mem_map.mpr ⟨(c, a), e, q.symm⟩)
      rw [pget, if_neg this]
      exact pget_some n2 e
theorem pget_mem {c : Ky} {a : Rat} : ∀ {P : Poly}, pget P c = some a → (c, a) ∈ P
  | [], h => by cases h
  | t :: P, h => by
    rw [pget] at h
    by_cases e : t.1 = c
    · rw [if_pos e] at h
      have e2 : t.2 = a := Option.some.inj h
      rw [← e, ← e2]
      exact List.mem_cons_self ..
    · rw [if_neg e] at h
      exact List.mem_cons_of_mem _ (pget_mem h)
theorem any_keys {P : Poly} {c : Ky} : (P.any fun t => decide (t.1 = c)) = true ↔ c ∈ keysP P := by
  rw [List.any_eq_true]
  constructor
  · rintro ⟨t, ht, e⟩
    exact List.mem_map.mpr ⟨t, ht, of_decide_eq_true e⟩
  · intro h
    obtain ⟨t, ht, e⟩ := List.mem_map.mp h
    exact ⟨t, ht, decide_eq_true e⟩
theorem pput_new {P : Poly} {c : Ky} {a : Rat} (h : c ∉ keysP P) : pput P c a = P ++ [(c, a)] := by
  unfold pput
  rw [if_neg fun e => h (any_keys.mp e)]
theorem pput_old {P : Poly} {c : Ky} {a : Rat} (h : c ∈ keysP P) : pput P c a = P.map (fun t => if t.1 = c then (t.1, a) else t) := by
  unfold pput
  rw [if_pos (any_keys.mpr h)]
theorem keys_pput (P : Poly) (c : Ky) (a : Rat) : keysP (pput P c a) = if c ∈ keysP P then keysP P else keysP P ++ [c] := by
  by_cases h : c ∈ keysP P
  · rw [pput_old h, if_pos h]
    unfold keysP
    rw [List.map_map]
    refine List.map_congr_left fun t _ => ?_
    show (if t.1 = c then (t.1, a) else t).1 = t.1
    split <;> rfl
  · rw [pput_new h, if_neg h]
    unfold keysP
    rw [List.map_append]
    rfl
theorem nodup_pput {P : Poly} {c : Ky} {a : Rat} (n : (keysP P).Nodup) : (keysP (pput P c a)).Nodup := by
  rw [keys_pput]
  split
  · exact n
  · rename_i h
    refine List.nodup_append.mpr ⟨n, List.nodup_cons.mpr ⟨(fun h => by cases h), List.Pairwise.nil⟩, fun x hx y hy e => ?_⟩
    rw [List.mem_singleton.mp hy] at e
    exact h (e ▸ hx)
theorem mem_pput {P : Poly} {c : Ky} {a : Rat} {t : Ky × Rat} (h : t ∈ pput P c a) : t = (c, a) ∨ (t ∈ P ∧ t.1 ≠ c) := by
  by_cases hc : c ∈ keysP P
  · rw [pput_old hc] at h
    obtain ⟨u, hu, e⟩ := List.mem_map.mp h
    by_cases q : u.1 = c
    · rw [if_pos q, q] at e
      exact .inl e.symm
    · rw [if_neg q] at e
      rw [← e]
      exact .inr ⟨hu, q⟩
  · rw [pput_new hc] at h
    rcases List.mem_append.mp h with h | h
    · exact .inr ⟨h, fun q => hc (List.mem_map.mpr ⟨t, h, q⟩)⟩
    · exact .inl (List.mem_singleton.mp h)
theorem len_pput (P : Poly) (c : Ky) (a : Rat) : (pput P c a).length ≤ P.length + 1 := by
  have e := congrArg List.length (keys_pput P c a)
  unfold keysP at e
  rw [List.length_map] at e
  rw [e]
  split
  · rw [List.length_map]; omega
  · rw [List.length_append, List.length_map]; exact Nat.le_refl _
theorem ev_repl (f : Ky → Rat) (c : Ky) (a : Rat) : ∀ {P : Poly}, (keysP P).Nodup → c ∈ keysP P → ev (P.map (fun t => if t.1 = c then (t.1, a) else t)) f = ev P f + (a - (pget P c).getD 0) * f c
  | [], _, h => by cases h
  | t :: P, n, h => by
    obtain ⟨n1, n2⟩ := List.nodup_cons.mp n
    rw [List.map_cons, ev_cons, ev_cons]
    by_cases q : t.1 = c
    · rw [if_pos q, pget, if_pos q]
      have same : P.map (fun t => if t.1 = c then (t.1, a) else t) = P := by
        have e : P.map (fun t => if t.1 = c then (t.1, a) else t) = P.map id := List.map_congr_left fun u hu => if_neg fun z : u.1 = c => n1 (List.mem_map.mpr ⟨u, hu, z.trans q.symm⟩)
        rw [e]
        exact List.map_id _
      rw [same, q]
      show a * f c + ev P f = t.2 * f c + ev P f + (a - t.2) * f c
      grind
    · have h2 : c ∈ keysP P := (List.mem_cons.mp h).resolve_left fun e => q e.symm
      rw [if_neg q, pget, if_neg q, ev_repl f c a n2 h2]
      grind
theorem ev_pput {P : Poly} (n : (keysP P).Nodup) (c : Ky) (a : Rat) (f : Ky → Rat) : ev (pput P c a) f = ev P f + (a - (pget P c).getD 0) * f c := by
  by_cases h : c ∈ keysP P
  · rw [pput_old h]
    exact ev_repl f c a n h
  · rw [pput_new h, ev_app, pget_none h, ev_cons, ev_nil]
    show ev P f + (a * f c + 0) = ev P f + (a - 0) * f c
    grind
/-- the dict's rows say it -/
theorem rows_any {Y : Yc} {H : Hp} {ks : List (List L2.Key × V)} {P : Poly} (h : Rows Y H ks P) (c : Ky) : (ks.any fun kv => decide (kv.1 = kk c)) = (P.any fun t => decide (t.1 = c)) := by
  unfold Rows at h
  induction h with
  | nil => rfl
  | @cons a b l m h t ih =>
    rw [List.any_cons, List.any_cons, ih, h.1]
    congr 1
    exact decide_eq_decide.mpr ⟨fun e => kk_inj e, fun e => by rw [e]⟩
theorem rows_map {Y : Yc} {H : Hp} {ks : List (List L2.Key × V)} {P : Poly} {v : V} {a : Rat} (c : Ky) (hv : RatV Y.CR H v a) (h : Rows Y H ks P) :
    Rows Y H (ks.map fun kv => if kv.1 = kk c then (kv.1, v) else kv) (P.map fun t => if t.1 = c then (t.1, a) else t) := by
  unfold Rows at h
  induction h with
  | nil => exact .nil
  | @cons x t l m h tl ih =>
    rw [List.map_cons, List.map_cons]
    refine .cons ?_ ih
    by_cases q : t.1 = c
    · rw [if_pos q, if_pos (by rw [h.1, q])]
      exact ⟨h.1, hv⟩
    · rw [if_neg q, if_neg fun z => q (kk_inj (h.1.symm.trans z))]
      exact h
theorem rows_put {Y : Yc} {H : Hp} {ks : List (List L2.Key × V)} {P : Poly} {v : V} {c : Ky} {a : Rat} (h : Rows Y H ks P) (hv : RatV Y.CR H v a) : Rows Y H (putK ks (kk c) v) (pput P c a) := by
  unfold putK pput
  rw [rows_any h c]
  split
  · exact rows_map c hv h
  · exact Paired.snoc h ⟨rfl, hv⟩
theorem rows_val {Y : Yc} {H : Hp} {c : Ky} : ∀ {ks : List (List L2.Key × V)} {P : Poly}, Rows Y H ks P → (∀ a, pget P c = some a → ∃ v, valV ks (kk c) = some v ∧ RatV Y.CR H v a) ∧ (pget P c = none → valV ks (kk c) = none)
  | [], [], _ => ⟨(fun a h => by cases h), fun _ => rfl⟩
  | k :: ks, t :: P, .cons r rows => by
    obtain ⟨h1, h2⟩ := rows_val (c := c) rows
    by_cases q : t.1 = c
    · rw [pget, if_pos q, valV_pos (r.1.trans (by rw [q]))]
      exact ⟨(fun a e => ⟨_, rfl, Option.some.inj e ▸ r.2⟩), (fun e => by cases e)⟩
    · rw [pget, if_neg q, valV_neg fun z => q (kk_inj (r.1.symm.trans z))]
      exact ⟨h1, h2⟩
/-! ### the sequence of keys and the codes of the sort -/
def intK (c : Ky) : List Int := c.map fun (n : Nat) => (n : Int)
theorem ints_inj : ∀ {a b : Ky}, intK a = intK b → a = b
  | [], [], _ => rfl
  | [], _ :: _, h => by cases h
  | _ :: _, [], h => by cases h
  | x :: a, y :: b, h => by
    obtain ⟨h1, h2⟩ := List.cons.inj (show (x : Int) :: intK a = (y : Int) :: intK b from h)
    rw [ints_inj h2, Int.ofNat.inj h1]
def Small (c : Ky) : Prop := ∀ n ∈ c, n < 64
theorem bd_ints {c : Ky} (h : Small c) : TS.Bd 64 (intK c) := by
  intro m hm
  obtain ⟨n, hn, rfl⟩ := List.mem_map.mp hm
  have := h n hn
  exact ⟨by omega, by omega⟩
theorem lex_code : ∀ {a b : Ky}, a.length = b.length → Small a → Small b → lexlt a b = true → TS.code 64 (intK a) < TS.code 64 (intK b)
  | [], [], _, _, _, h => by cases h
  | [], _ :: _, l, _, _, _ => by cases l
  | _ :: _, [], l, _, _, _ => by cases l
  | x :: a, y :: b, l, sa, sb, h => by
    have h : (decide (x < y) || (decide (x = y) && lexlt a b)) = true := h
    simp only [Bool.or_eq_true, Bool.and_eq_true, decide_eq_true_eq] at h
    have l' : a.length = b.length := Nat.succ.inj l
    have sa' : Small a := fun n hn => sa n (List.mem_cons_of_mem _ hn)
    have sb' : Small b := fun n hn => sb n (List.mem_cons_of_mem _ hn)
    rcases h with h | ⟨h1, h2⟩
    · exact TS.code_lt (by rw [List.length_map, List.length_map, l']) (bd_ints sa') (bd_ints sb') (show (x : Int) < (y : Int) by omega)
    · subst h1
      exact (TS.code_same (by rw [List.length_map, List.length_map, l'])).mpr (lex_code l' sa' sb' h2)
theorem code_lex2 {a b : Ky} (l : a.length = b.length) (sa : Small a) (sb : Small b) (ne : a ≠ b) (h : TS.code 64 (intK a) ≤ TS.code 64 (intK b)) : lexlt a b = true := by
  cases e : lexlt a b with
  | true => rfl
  | false =>
    cases e2 : lexlt b a with
    | true =>
      have := lex_code l.symm sb sa e2
      omega
    | false => exact absurd (lex_tri e e2) ne
/-- the table in the sequence of keys -/
def pick (P : Poly) (cs : List Ky) : Poly := cs.map fun c => (c, (pget P c).getD 0)
theorem pick_self : ∀ {P : Poly} (Q : Poly), (keysP Q).Nodup → (∀ t ∈ P, t ∈ Q) → pick Q (keysP P) = P
  | [], _, _, _ => rfl
  | t :: P, Q, n, h => by
    show (t.1, (pget Q t.1).getD 0) :: pick Q (keysP P) = t :: P
    rw [pick_self Q n fun u hu => h u (List.mem_cons_of_mem _ hu), pget_some (a := t.2) n (h t (List.mem_cons_self ..))]
    rfl
theorem pick_perm {P : Poly} {cs : List Ky} (n : (keysP P).Nodup) (h : cs.Perm (keysP P)) : (pick P cs).Perm P := by
  have z : (pick P cs).Perm (pick P (keysP P)) := h.map _
  rw [pick_self P n fun t ht => ht] at z
  exact z
theorem ev_perm {P Q : Poly} (h : P.Perm Q) (f : Ky → Rat) : ev P f = ev Q f := by
  induction h with
  | nil => rfl
  | cons t _ ih => rw [ev_cons, ev_cons, ih]
  | swap s t l => rw [ev_cons, ev_cons, ev_cons, ev_cons]; grind
  | trans _ _ a b => rw [a, b]
end Km
end

section
set_option Elab.async false
set_option linter.all false
set_option maxRecDepth 100000
namespace Km
open PySem PySem.Spec PyProof.Rows L2 Evl
open C8 (fn0 fnScope_by Cal Mak Met pe_c pe_mk pe_mt pe_mt0 pe_gc fnScope fnBody fnArgs)
variable {Y : Yc}
theorem hu2_of {k : Nat} {A : Around} (hr : Room k A) : A.units + 2 < cLine := Nat.lt_of_le_of_lt (Nat.add_le_add_left (by decide) _) hr.units
theorem hu4_of {k : Nat} {A : Around} (hr : Room k A) : A.units + 4 < cLine := Nat.lt_of_le_of_lt (Nat.add_le_add_left (by decide) _) hr.units


/-- equal blends -/
def sp_beq (Y : Yc) : Sp := fun vs H Q _ => ∃ a b L P, vs = [a, b] ∧ BlendV Y H a L P ∧ BlendV Y H b L P ∧ (keysP P).Nodup ∧ Q (.bl true) H

abbrev st_beq : Stmt := sub 55 10
theorem ok_beq {f : Addr} {fd : FuncData} (F : C8.Fun Y.K "__eq__" "Blend.__eq__" st_beq f fd) (T : TxtY Y)  (q_req : EqnY Y 1 Y.CR (sp_req Y)) : FnOk Y.P Y.w Y.K Y.mg Y.base C8.CX0 4 f fd ["self", "other"] (sp_beq Y) := by
  have S : FnScope ["self", "other"] ["self", "other"] (fnScope st_beq) := fnScope_by (by decide +kernel)
  have nd := S.nd
  refine fn0 F S (fun vs H Q E h => ?_) (fun cdv A outer s H vs Q E hr h => ?_)
  · obtain ⟨_, _, _, _, rfl, _⟩ := h; rfl
  refine ⟨_, (pss_cons (ps_if (pt_not (pt_val (pe_callB call_isi rfl T.n_isinstance boot_isinstance (pa_cons (pv 1) (pa_cons (pe_gc rfl T.k_Blend) pa_nil))))) (pss_one (ps_ret pe_bl)) pss_nil)
    (pss_one (ps_ret (pe_and (pe_cmpR op_eq (pe_fld (pv 0) rfl) (pe_fld (pv 1) rfl) (nomark _)) (pe_one (pe_cmpR (op_eqDT (hu2_of hr)) (pe_fld (pv 0) rfl) (pe_fld (pv 1) rfl) (nomark _))))))), ?_⟩
  obtain ⟨a, b, L, P, rfl, ⟨p1, d1, t1, dx1, B1, tops1, rfl, f1⟩, ⟨p2, d2, t2, dx2, B2, tops2, rfl, f2⟩, nd', k⟩ := h
  obtain ⟨ka, ha, ra⟩ := f1.dic
  obtain ⟨kb, hb, rb⟩ := f2.dic
  refine ⟨_, rfl, _, _, _, _, true, rfl, .own _, T.B.ty f2.at_, T.B.is, true, rfl, iteF ?_⟩
  refine ⟨_, rfl, p1, _, dx1, _, _, rfl, f1.at_, T.B.cl, T.bL, rfl, _, rfl, p2, _, dx2, _, _, rfl, f2.at_, T.B.cl, T.bL, rfl, rfl, _, rfl, iteDT rfl ?_⟩
  refine ⟨_, rfl, p1, _, dx1, _, _, rfl, f1.at_, T.B.cl, T.bA, rfl, _, rfl, p2, _, dx2, _, _, rfl, f2.at_, T.B.cl, T.bA, rfl, ?_⟩
  refine ⟨d1, d2, ka, kb, rfl, rfl, ha, hb, (Paired.length ra).trans (Paired.length rb).symm, fun HL hHL pins σ q hq => ?_, k⟩
  obtain ⟨i, hi⟩ := List.mem_iff_getElem?.mp hq
  obtain ⟨t, ht, e1, u, e2, dxu, hu1⟩ := pr_getL ra hi
  obtain ⟨v, hv1, w, e3, dxw, hw1⟩ := (rows_val (c := t.1) rb).1 t.2 (pget_some nd' (List.mem_of_getElem? ht))
  have e1 : q.1 = kk t.1 := e1
  have e2 : q.2 = .ref u := e2
  refine ⟨v, by rw [e1]; exact hv1, ?_⟩
  rw [e2, e3]
  obtain ⟨f', fd', ps', g1, g2, _, _, F', bd⟩ := q_req.ex
  exact eqN_own F' (Room.in1 (hr.mono (by decide))) rfl g1 g2 bd (hHL _ _ _ _ hu1) (hHL _ _ _ _ hw1)
    ⟨_, _, t.2, t.2, rfl, ⟨u, rfl, dxu, hHL _ _ _ _ hu1⟩, ⟨w, rfl, dxw, hHL _ _ _ _ hw1⟩, congrArg V.bl (decide_eq_true rfl), rfl⟩

def sp_want_blend (Y : Yc) : Sp := fun vs H Q _ => ∃ v L P, vs = [v] ∧ BlendV Y H v L P ∧ Q v H

abbrev st_want_blend : Stmt := top 61
theorem ok_want_blend {f : Addr} {fd : FuncData} (F : C8.Fun Y.K "want_blend" "want_blend" st_want_blend f fd) (T : TxtY Y)  : FnOk Y.P Y.w Y.K Y.mg Y.base C8.CX0 1 f fd ["value"] (sp_want_blend Y) := by
  have S : FnScope ["value"] ["value"] (fnScope st_want_blend) := fnScope_by (by decide +kernel)
  have nd := S.nd
  refine fn0 F S (fun vs H Q E h => ?_) (fun cdv A outer s H vs Q E hr h => ?_)
  · obtain ⟨_, _, _, rfl, _⟩ := h; rfl
  refine ⟨_, (pss_cons (ps_if (pt_not (pt_val (pe_callB call_isi rfl T.n_isinstance boot_isinstance (pa_cons (pv 0) (pa_cons (pe_gc rfl T.k_Blend) pa_nil))))) (pss_one ps_never) pss_nil)
    (pss_one (ps_ret (pv 0)))), ?_⟩
  obtain ⟨v, L, P, rfl, ⟨p, d, t, dx, B, tops, rfl, f⟩, k⟩ := h
  refine ⟨_, rfl, _, _, _, _, true, rfl, .own _, T.B.ty f.at_, T.B.is, true, rfl, iteF ?_⟩
  exact ⟨_, rfl, k⟩

/-- of one degree, or one of them is nought -/
def sp_want_alike (Y : Yc) : Sp := fun vs H Q _ => ∃ a b L P R, vs = [a, b, .bl true] ∧ BlendV Y H a L P ∧ BlendV Y H b L R ∧ (P ≠ [] → R ≠ [] → degV P = degV R) ∧ Q .non H
theorem degV_nn {P : Poly} (h : P ≠ []) : degV P ≠ .non := by
  cases P with
  | nil => exact absurd rfl h
  | cons t P => intro e; cases e
theorem degV_scal (P R : Poly) : scal (degV P) (degV R) = true := by
  cases P <;> cases R <;> rfl

abbrev st_want_alike : Stmt := top 62
theorem ok_want_alike {f : Addr} {fd : FuncData} (F : C8.Fun Y.K "want_alike" "want_alike" st_want_alike f fd) (T : TxtY Y)  : FnOk Y.P Y.w Y.K Y.mg Y.base C8.CX0 1 f fd ["blend", "other", "is_degree"] (sp_want_alike Y) := by
  have S : FnScope ["blend", "other", "is_degree"] ["blend", "other", "is_degree"] (fnScope st_want_alike) := fnScope_by (by decide +kernel)
  have nd := S.nd
  refine fn0 F S (fun vs H Q E h => ?_) (fun cdv A outer s H vs Q E hr h => ?_)
  · obtain ⟨_, _, _, _, _, rfl, _⟩ := h; rfl
  refine ⟨_, (pss_cons (ps_if (pt_cmpR op_ne (pe_fld (pv 0) rfl) (pe_fld (pv 1) rfl) (nomark _)) (pss_one ps_never) pss_nil)
    (pss_one (ps_if (PW.pt (pw_and (pt_val (pv 2)) (pw_and (pt_cmpR op_notN (pe_fld (pv 0) rfl) pe_non (nomark _)) (pw_and1 (pt_cmpR op_notN (pe_fld (pv 1) rfl) pe_non (nomark _)))))) (pss_one (ps_if (pt_cmpR op_ne (pe_fld (pv 0) rfl) (pe_fld (pv 1) rfl) (nomark _)) (pss_one ps_never) pss_nil)) pss_nil))), ?_⟩
  obtain ⟨a, b, L, P, R, rfl, ⟨p1, d1, t1, dx1, B1, tops1, rfl, f1⟩, ⟨p2, d2, t2, dx2, B2, tops2, rfl, f2⟩, dg, k⟩ := h
  refine ⟨_, rfl, p1, _, dx1, _, _, rfl, f1.at_, T.B.cl, T.bL, rfl, _, rfl, p2, _, dx2, _, _, rfl, f2.at_, T.B.cl, T.bL, rfl, rfl, _, rfl, iteNF rfl ?_⟩
  refine ⟨_, rfl, _, rfl, iteT ?_⟩
  refine ⟨_, rfl, p1, _, dx1, _, _, rfl, f1.at_, T.B.cl, T.bD, rfl, rfl, _, rfl, ?_⟩
  by_cases h1 : P = []
  · subst h1
    exact iteF (iteF k)
  · rw [decide_eq_false (degV_nn h1)]
    refine iteT ?_
    refine ⟨_, rfl, p2, _, dx2, _, _, rfl, f2.at_, T.B.cl, T.bD, rfl, rfl, _, rfl, ?_⟩
    by_cases h2 : R = []
    · subst h2
      exact iteF k
    · rw [decide_eq_false (degV_nn h2)]
      refine iteT ?_
      refine ⟨_, rfl, p1, _, dx1, _, _, rfl, f1.at_, T.B.cl, T.bD, rfl, _, rfl, p2, _, dx2, _, _, rfl, f2.at_, T.B.cl, T.bD, rfl, degV_scal P R, _, rfl, iteNF (dg h1 h2) k⟩

/-! ### which letters stand -/
def StandAt (P : Poly) (i : Nat) : Bool := P.any fun t => decide (0 < t.1.getD i 0)
def sp_stands (Y : Yc) : Sp := fun vs H Q _ => ∃ v L P, ∃ (i : Nat), vs = [v, .int (i : Int)] ∧ BlendV Y H v L P ∧ (∀ t ∈ P, i < t.1.length) ∧ P.length ≤ 1000 ∧ ∀ H', Ex H H' → Q (.bl (StandAt P i)) H'
theorem any_id {α : Type} (us : List α) (f : α → Bool) : (us.map f).any id = us.any f := by
  rw [List.any_map]
  rfl

abbrev st_stands : Stmt := top 59
theorem ok_stands {f : Addr} {fd : FuncData} (F : C8.Fun Y.K "stands" "stands" st_stands f fd) (T : TxtY Y)  : FnOk Y.P Y.w Y.K Y.mg Y.base C8.CX0 1 f fd ["blend", "at"] (sp_stands Y) := by
  have S : FnScope ["blend", "at", "counts"] ["blend", "at"] (fnScope st_stands) := fnScope_by (by decide +kernel)
  have nd := S.nd
  refine fn0 F S (fun vs H Q E h => ?_) (fun cdv A outer s H vs Q E hr h => ?_)
  · obtain ⟨_, _, _, _, rfl, _⟩ := h; rfl
  refine ⟨_, (pss_one (ps_ret (pe_callB (cr_any rfl) rfl T.n_any boot_any (pa_cons (pe_lock (pe_lc (own := [("counts", 2)]) (g := gName 2) (tt := tYes) rfl nd (pi_keys (pe_fld (pv 0) rfl)) (blkOk_by (N := ["blend", "at", "counts"]) (sc := (fnScope st_stands)) (by decide +kernel)) (fun _ _ _ _ _ => by exact (pg_name (i := 2) nd rfl (Or.inl rfl))) (fun _ _ _ _ _ => by exact pts_nil) (fun _ _ _ _ _ => by exact (pe_cmpR op_gt (pe_ix (ixtB Y.K) (pv 2) (pv 1) (fun _ _ => rfl)) pe_int (nomark _))))) pa_nil)))), ?_⟩
  obtain ⟨v, L, P, i, rfl, ⟨p, d, t, dx, B, tops, rfl, f⟩, hi, sz, k⟩ := h
  obtain ⟨ks, hd, rows⟩ := f.dic
  have lk := Paired.length rows
  refine ⟨d, .dT ks, hd, trivial, fun od => ?_⟩
  have eL : Ex H H := Ex.refl H
  have pne : p ≠ d := fun e => by have := f.at_; rw [e, hd] at this; cases this
  refine ⟨_, rfl, p, _, dx, _, _, rfl, (by rw [upd_ne pne]; exact f.at_), T.B.cl, T.bA, rfl, d, od, rfl, .inr ⟨ks, upd_same, fun D hD => ?_⟩⟩
  have wk := walk_keysT (d := d) (o := od) (kvs := ks)
  rw [lk] at wk
  have wk2 : Walk (Itkt d od ks) P.length (fun H' => H' d = some (.frz od (.dT ks))) _ := wk
  refine lc_map (us := P) wk2 (fun u y _ => y = .bl (decide (0 < u.1.getD i 0))) hD (by omega) (fun H2 e => e _ _ upd_same) (fun _ _ _ _ _ h => h) (fun _ _ _ _ _ _ h => h) ?_ gn_mono ?_
  · rintro j u x H2 H3 Kq hu e _ ⟨rfl, kx, vx, q, hk, rfl, hq⟩ hk2
    obtain ⟨t', ht, e1, _⟩ := pr_getL rows hk
    obtain rfl : t' = u := Option.some.inj (ht.symm.trans hu)
    have e1 : kx = kk t'.1 := e1
    rw [e1, kk_kV] at hq
    have li := hi t' (List.mem_of_getElem? hu)
    obtain ⟨n, hn⟩ := get_lt li
    have hx : (kvs t'.1)[i]? = some (.int (n : Int)) := by
      unfold kvs
      rw [List.getElem?_map, hn]
      rfl
    refine ⟨rfl, _, rfl, _, rfl, q, _, _, _, rfl, rfl, st_of hq, atI_nat hx, _, _, rfl, rfl, hk2 _ _ (Ex.refl _) ?_⟩
    rw [List.getD_eq_getElem?_getD, hn]
    exact congrArg V.bl (decide_eq_decide.mpr (by show (0 : Int) < (n : Int) ↔ 0 < n; omega))
  · intro ys H2 e hd2 pr
    obtain ⟨h1, h2⟩ := ex_unlock hd e
    rw [bls_of (f := fun u : Ky × Rat => decide (0 < u.1.getD i 0)) pr] at hd2
    have ne : D ≠ d := fun z => by rw [z, h1] at hd2; cases hd2
    refine ⟨h1, D, _, rfl, sq_of (by rw [upd_ne ne]; exact hd2), ?_⟩
    rw [any_id]
    exact k _ h2

def sp_standing (Y : Yc) : Sp := fun vs H Q _ => ∃ v cs P, vs = [v] ∧ BlendV Y H v (SX.S cs) P ∧ cs.length ≤ 1000 ∧ (∀ t ∈ P, t.1.length = cs.length) ∧ P.length ≤ 1000 ∧
  ∀ ds H', Ex H H' → (∀ c ∈ ds, ∃ i : Nat, cs[i]? = some c ∧ StandAt P i = true) → Q (.str (SX.S ds)) H'
theorem zip_get {cs : List Nat} {i : Nat} {u : Nat × Nat} (h : cs.zipIdx[i]? = some u) : cs[i]? = some u.1 ∧ u.2 = i := by
  rw [List.getElem?_zipIdx] at h
  cases e : cs[i]? with
  | none => rw [e] at h; cases h
  | some c =>
    rw [e] at h
    cases h
    exact ⟨rfl, Nat.zero_add i⟩
theorem signs_get {cs : List Nat} {i : Nat} {x : V} (h : (signs (SX.S cs))[i]? = some x) : ∃ c, cs[i]? = some c ∧ x = .str (SX.S [c]) := by
  unfold signs at h
  rw [List.getElem?_map] at h
  cases e : cs[i]? with
  | none =>
    have e2 : (SX.S cs).cps.toList[i]? = none := e
    rw [e2] at h
    cases h
  | some c =>
    have e2 : (SX.S cs).cps.toList[i]? = some c := e
    rw [e2] at h
    exact ⟨c, rfl, (Option.some.inj h).symm⟩
theorem signs_len (cs : List Nat) : (signs (SX.S cs)).length = cs.length := List.length_map ..
theorem join_nil (ys : List (List Nat)) : ∀ c ∈ TL.joinL [] ys, ∃ y ∈ ys, c ∈ y := by
  induction ys with
  | nil => intro c h; cases h
  | cons y ys ih =>
    intro c h
    cases ys with
    | nil => exact ⟨y, List.mem_cons_self .., h⟩
    | cons z ys =>
      have h : c ∈ y ++ ([] ++ TL.joinL [] (z :: ys)) := h
      rcases List.mem_append.mp h with h | h
      · exact ⟨y, List.mem_cons_self .., h⟩
      · obtain ⟨w, hw, hc⟩ := ih c h
        exact ⟨w, List.mem_cons_of_mem _ hw, hc⟩

abbrev st_standing : Stmt := top 60
theorem ok_standing {f : Addr} {fd : FuncData} (F : C8.Fun Y.K "standing" "standing" st_standing f fd) (T : TxtY Y) (c_stands : CalY Y 1 "stands" (sp_stands Y) []) : FnOk Y.P Y.w Y.K Y.mg Y.base C8.CX0 2 f fd ["blend"] (sp_standing Y) := by
  have S : FnScope ["blend", "at", "letter"] ["blend"] (fnScope st_standing) := fnScope_by (by decide +kernel)
  have nd := S.nd
  refine fn0 F S (fun vs H Q E h => ?_) (fun cdv A outer s H vs Q E hr h => ?_)
  · obtain ⟨_, _, _, rfl, _⟩ := h; rfl
  refine ⟨_, (pss_one (ps_ret (pe_join pe_str (pe_lc (own := [("at", 1), ("letter", 2)]) rfl nd (pi_enumA rfl T.n_enumerate (pa_cons (pe_fld (pv 0) rfl) pa_nil)) (blkOk_by (N := ["blend", "at", "letter"]) (sc := (fnScope st_standing)) (by decide +kernel)) (fun _ _ _ _ _ => by exact (pgtB (n := 2) Y.K rfl (pgs_cons (pg_name (i := 1) nd rfl (Or.inl rfl)) (pgs_cons (pg_name (i := 2) nd rfl (Or.inl rfl)) pgs_nil)))) (fun _ _ _ _ _ => by exact (pts_one (pt_val (pe_c c_stands hr (by decide) rfl (pa_cons (pv 0) (pa_cons (pv 1) pa_nil)))))) (fun _ _ _ _ _ => by exact (pv 2)))))), ?_⟩
  obtain ⟨v, cs, P, rfl, bv, sc, hl, sz, k⟩ := h
  obtain ⟨p, d, t, dx, B, tops, rfl, f⟩ := id bv
  refine ⟨⟨_, rfl⟩, _, rfl, p, _, dx, _, _, rfl, f.at_, T.B.cl, T.bL, rfl, .txt (SX.S cs), signs (SX.S cs), rfl, rfl, fun D hD => ?_⟩
  have we := walk_enumS (K := Y.K) (S := .txt (SX.S cs)) (xs := signs (SX.S cs))
  rw [signs_len, ← List.length_zipIdx (l := cs) (i := 0)] at we
  refine lc_of (us := cs.zipIdx) we (fun u => StandAt P u.2) (fun u y _ => y = .str (SX.S [u.1])) hD (by rw [List.length_zipIdx]; omega) (fun H2 e => rfl) (fun _ _ _ _ _ h => h) (fun _ _ _ _ _ _ h => h) ?_ ?_
  · rintro i u x H2 H3 Kq N hu e _ ⟨T0, x1, x2, rfl, hT, rfl, e1, e2⟩ hk hn
    obtain ⟨z1, z2⟩ := zip_get hu
    obtain rfl : x1 = .int ((i : Nat) : Int) := (Option.some.inj e1).symm
    obtain ⟨c, hc, rfl⟩ := signs_get e2
    obtain rfl : c = u.1 := Option.some.inj (hc.symm.trans z1)
    have e3 : Ex H2 (upd H2 T0 (.tup [.int (i : Nat), .str (SX.S [u.1])])) := Ex.new hT
    refine gt2 (st_of upd_same) ⟨rfl, ?_⟩
    have li : i < cs.length := (List.getElem?_eq_some_iff.mp z1).1
    refine ⟨_, rfl, _, rfl, _, _, P, i, rfl, bv.mono (e.trans e3), (fun t ht => by rw [hl t ht]; exact li), sz, fun H4 e4 => ⟨_, rfl, ?_⟩⟩
    cases q : StandAt P i with
    | true => exact iteT ⟨_, rfl, hk (by rw [z2]; exact q) _ _ (e3.trans e4) rfl⟩
    | false => exact iteF (hn (by rw [z2]; exact q) _ (e3.trans e4))
  · intro ys H2 e hd pr
    have ey : ys = ((cs.zipIdx.filter fun u => StandAt P u.2).map fun u => SX.S [u.1]).map V.str := by
      rw [List.map_map]
      exact pr_eq pr fun _ _ h => h
    rw [ey] at hd
    refine ⟨SX.S [], D, _, rfl, rfl, .inl (sq_of hd), ?_, ?_⟩
    · have l1 : ((cs.zipIdx.filter fun u => StandAt P u.2).map fun u => SX.S [u.1]).length ≤ 1000 := by
        rw [List.length_map]
        exact Nat.le_trans (List.length_filter_le _ _) (by rw [List.length_zipIdx]; exact sc)
      have l2 : (((cs.zipIdx.filter fun u => StandAt P u.2).map fun u => SX.S [u.1]).map (·.length)).sum = ((cs.zipIdx.filter fun u => StandAt P u.2)).length := by
        rw [List.map_map]
        clear ey hd pr l1
        generalize cs.zipIdx.filter (fun u => StandAt P u.2) = l
        induction l with
        | nil => rfl
        | cons a l ih => rw [List.map_cons, List.sum_cons, ih, List.length_cons]; exact Nat.add_comm 1 _
      rw [l2]
      rw [List.length_map] at l1 ⊢
      show _ + _ * 0 ≤ _
      omega
    · have e4 : ((cs.zipIdx.filter fun u => StandAt P u.2).map fun u => SX.S [u.1]) = ((cs.zipIdx.filter fun u => StandAt P u.2).map fun u => [u.1]).map SX.S := by rw [List.map_map]; rfl
      rw [e4, SX.join_S]
      refine k _ _ e fun c hc => ?_
      obtain ⟨y, hy, hcy⟩ := join_nil _ c hc
      obtain ⟨u, hu, rfl⟩ := List.mem_map.mp hy
      obtain ⟨h1, h2⟩ := List.mem_filter.mp hu
      obtain ⟨i, hi⟩ := List.mem_iff_getElem?.mp h1
      obtain ⟨z1, z2⟩ := zip_get hi
      rw [List.mem_singleton.mp hcy]
      exact ⟨i, z1, z2 ▸ h2⟩
abbrev st_bears : Stmt := sub 55 12
theorem ok_bears {f : Addr} {fd : FuncData} (F : C8.Fun Y.K "bears" "Blend.bears" st_bears f fd) (T : TxtY Y) (c_standing : CalY Y 2 "standing" (sp_standing Y) []) : FnOk Y.P Y.w Y.K Y.mg Y.base C8.CX0 3 f fd ["self"] (sp_standing Y) := by
  have S : FnScope ["self"] ["self"] (fnScope st_bears) := fnScope_by (by decide +kernel)
  have nd := S.nd
  refine fn0 F S (fun vs H Q E h => ?_) (fun cdv A outer s H vs Q E hr h => ?_)
  · obtain ⟨_, _, _, rfl, _⟩ := h; rfl
  refine ⟨_, (pss_one (ps_ret (pe_c c_standing hr (by decide) rfl (pa_cons (pv 0) pa_nil)))), ?_⟩
  obtain ⟨v, cs, P, rfl, bv, sc, hl, sz, k⟩ := h
  exact ⟨_, rfl, v, cs, P, rfl, bv, sc, hl, sz, k⟩

/-- a letter's place -/
def sp_want_letter (Y : Yc) : Sp := fun vs H Q _ => ∃ v cs P, ∃ (i c : Nat), vs = [v, .str (SX.S [c])] ∧ BlendV Y H v (SX.S cs) P ∧ LsOk cs ∧ cs[i]? = some c ∧ Q (.int (i : Int)) H
theorem ls_one {cs : List Nat} (ok : LsOk cs) : ∀ (d i : Nat) (a b : Nat), cs[i]? = some a → cs[i + d + 1]? = some b → a < b
  | 0, i, a, b, h1, h2 => ok.rise i a b h1 h2
  | d + 1, i, a, b, h1, h2 => by
    have l2 := (List.getElem?_eq_some_iff.mp h2).1
    obtain ⟨m, hm⟩ := get_lt (l := cs) (i := i + d + 1) (by omega)
    have z1 := ls_one ok d i a m h1 hm
    have z2 := ok.rise (i + d + 1) m b hm h2
    omega
theorem ls_inj {cs : List Nat} (ok : LsOk cs) {i j c : Nat} (h1 : cs[i]? = some c) (h2 : cs[j]? = some c) : i = j := by
  rcases Nat.lt_trichotomy i j with h | h | h
  · have := ls_one ok (j - i - 1) i c c h1 (by rw [show i + (j - i - 1) + 1 = j by omega]; exact h2)
    omega
  · exact h
  · have := ls_one ok (i - j - 1) j c c h2 (by rw [show j + (i - j - 1) + 1 = i by omega]; exact h1)
    omega
theorem idx_S {cs : List Nat} (ok : LsOk cs) {i c : Nat} (h : cs[i]? = some c) : ∃ rest, Builtin.Str.occurrences (SX.S cs) (SX.S [c]) 0 (SX.S cs).length 1 = i :: rest := by
  have z := SX.in_one cs c
  rw [decide_eq_true (List.mem_of_getElem? h)] at z
  cases e : Builtin.Str.occurrences (SX.S cs) (SX.S [c]) 0 (SX.S cs).length 1 with
  | nil => rw [e] at z; cases z
  | cons j rest =>
    refine ⟨rest, ?_⟩
    obtain ⟨w1, w2⟩ := StrLaws.occ_spec (SX.S cs) (SX.S [c]) 0 (SX.S cs).length 1 j (by rw [e]; exact List.mem_cons_self ..)
    have hj : cs[j]? = some c := (StrLaws.subAt_one (SX.S cs) c j).mp ⟨w1, w2⟩
    rw [ls_inj ok h hj]

abbrev st_want_letter : Stmt := top 63
theorem ok_want_letter {f : Addr} {fd : FuncData} (F : C8.Fun Y.K "want_letter" "want_letter" st_want_letter f fd) (T : TxtY Y) (c_is_small : CalY Y 1 "is_small" (sp_is_small Y) []) : FnOk Y.P Y.w Y.K Y.mg Y.base C8.CX0 2 f fd ["blend", "value"] (sp_want_letter Y) := by
  have S : FnScope ["blend", "value"] ["blend", "value"] (fnScope st_want_letter) := fnScope_by (by decide +kernel)
  have nd := S.nd
  refine fn0 F S (fun vs H Q E h => ?_) (fun cdv A outer s H vs Q E hr h => ?_)
  · obtain ⟨_, _, _, _, _, rfl, _⟩ := h; rfl
  refine ⟨_, (pss_cons (ps_if (PW.pt (pw_or (pt_not (pt_val (pe_c c_is_small hr (by decide) rfl (pa_cons (pv 1) pa_nil)))) (pw_or1 (pt_cmpR op_notIn_str (pv 1) (pe_fld (pv 0) rfl) (by with_unfolding_all rfl))))) (pss_one ps_never) pss_nil)
    (pss_one (ps_ret (pe_m1 PySem.F.slot_str_index PySem.F.type_str_index mt_sindex (pe_fld (pv 0) rfl) (pv 1))))), ?_⟩
  obtain ⟨v, cs, P, i, c, rfl, ⟨p, d, t, dx, B, tops, rfl, f⟩, ok, hi, k⟩ := h
  have lo := ok.lo c (List.mem_of_getElem? hi)
  refine ⟨_, rfl, c, rfl, lo.1, lo.2, _, rfl, iteF ?_⟩
  refine ⟨_, rfl, _, rfl, p, _, dx, _, _, rfl, f.at_, T.B.cl, T.bL, rfl, _, _, rfl, rfl, _, rfl, ?_⟩
  rw [SX.in_one, decide_eq_true (List.mem_of_getElem? hi)]
  refine iteF ?_
  obtain ⟨rest, e⟩ := idx_S ok hi
  exact ⟨_, rfl, p, _, dx, _, _, rfl, f.at_, T.B.cl, T.bL, rfl, ⟨_, rfl⟩, _, rfl, _, _, i, rest, rfl, rfl, e, k⟩

/-- numbers turned into ratios -/
def sp_told_list (Y : Yc) (fA fN : Addr) : Sp := fun vs H Q _ => ∃ (a : Addr) (xs : List V) (qs : List Rat) (m : Int) (f : Addr), vs = [.ref a, .int m, .ref f] ∧ H a = some (.lst xs) ∧ NumL Y H xs qs ∧ m = (qs.length : Int) ∧ qs.length ≤ 1000 ∧
  ((f = fA ∧ ∀ q ∈ qs, 0 < q) ∨ f = fN) ∧ ∀ l ys H', Ex H H' → H' l = some (.lst ys) → RatL Y H' ys qs → Q (.ref l) H'
abbrev CalAtY (Y : Yc) (k : Nat) (f : Addr) (sp : Sp) : Prop := C8.CalAt Y.P Y.w Y.K Y.mg Y.base k f sp

abbrev st_told_list : Stmt := top 65
theorem ok_told_list {f : Addr} {fd : FuncData} (F : C8.Fun Y.K "told_list" "told_list" st_told_list f fd) (T : TxtY Y) (c_is_list : CalY Y 1 "is_list" (sp_is_list Y) []) (c_ratio_of : CalY Y 4 "ratio_of" (sp_ratio_of Y) []) {fA fN : Addr} (cA : CalAtY Y 3 fA (sp_is_above Y)) (cN : CalAtY Y 2 fN (sp_is_number Y)) : FnOk Y.P Y.w Y.K Y.mg Y.base C8.CX0 5 f fd ["value", "many", "is_fine"] (sp_told_list Y fA fN) := by
  have S : FnScope ["value", "many", "is_fine", "number"] ["value", "many", "is_fine"] (fnScope st_told_list) := fnScope_by (by decide +kernel)
  have nd := S.nd
  refine fn0 F S (fun vs H Q E h => ?_) (fun cdv A outer s H vs Q E hr h => ?_)
  · obtain ⟨_, _, _, _, _, rfl, _⟩ := h; rfl
  refine ⟨_, (pss_cons (ps_if (PW.pt (pw_or (pt_not (pt_val (pe_c c_is_list hr (by decide) rfl (pa_cons (pv 0) pa_nil)))) (pw_or (pt_cmpR op_ne (pe_callB call_len rfl T.n_len boot_len (pa_cons (pv 0) pa_nil)) (pv 1) (nomark _)) (pw_or1 (pt_not (pt_val (pe_callB (cr_all rfl) rfl T.n_all boot_all (pa_cons (pe_lc (own := [("number", 3)]) (g := gName 3) (tt := tYes) rfl nd (pi_list (pv 0)) (blkOk_by (N := ["value", "many", "is_fine", "number"]) (sc := (fnScope st_told_list)) (by decide +kernel)) (fun _ _ _ _ _ => by exact (pg_name (i := 3) nd rfl (Or.inl rfl))) (fun _ _ _ _ _ => by exact pts_nil) (fun _ _ _ _ _ => by exact (C8.pe_cv (i := 2) cA cN hr (by decide) (by decide) rfl (by first | exact Or.inl rfl | exact Or.inr (Or.inl rfl) | exact Or.inr (Or.inr rfl)) (pa_cons (pv 3) pa_nil)))) pa_nil)))))))) (pss_one (ps_ret pe_non)) pss_nil)
    (pss_one (ps_ret (pe_lc (own := [("number", 3)]) (g := gName 3) (tt := tYes) rfl nd (pi_list (pv 0)) (blkOk_by (N := ["value", "many", "is_fine", "number"]) (sc := (fnScope st_told_list)) (by decide +kernel)) (fun _ _ _ _ _ => by exact (pg_name (i := 3) nd rfl (Or.inl rfl))) (fun _ _ _ _ _ => by exact pts_nil) (fun _ _ _ _ _ => by exact (pe_c c_ratio_of hr (by decide) rfl (pa_cons (pv 3) pa_nil))))))), ?_⟩
  obtain ⟨a, xs, qs, m, f0, rfl, ha, nl, rfl, sz, fine, k⟩ := h
  have lx : xs.length = qs.length := Paired.length nl
  have wl := walk_list (K := Y.K) (a := a) (xs := xs)
  rw [lx] at wl
  refine ⟨_, rfl, _, _, rfl, .inl ⟨a, rfl, .inl ha⟩, fun H1 e1 => ⟨true, rfl, iteF ?_⟩⟩
  have h1 := e1 _ _ ha
  refine ⟨_, rfl, _, _, rfl, .inl ⟨_, sq_of h1, rfl⟩, _, rfl, rfl, _, rfl, iteNF (by rw [lx]) ?_⟩
  refine ⟨_, rfl, a, rfl, ⟨_, sq_of h1⟩, fun D hD => ?_⟩
  refine lc_map (us := qs) wl (fun q y _ => y = .bl true) hD (by omega) (fun H2 e => ex_l e (sq_of h1)) (fun _ _ _ _ _ h => h) (fun _ _ _ _ _ _ h => h) ?_ gn_mono ?_
  · rintro i q x H2 H3 Kq hq e _ ⟨rfl, hx⟩ hk
    obtain ⟨q', hq', nv⟩ := pr_getL nl hx
    obtain rfl : q' = q := Option.some.inj (hq'.symm.trans hq)
    have nv2 := nv.mono (exsm (e1.trans e))
    refine ⟨rfl, ?_⟩
    rcases fine with ⟨rfl, ps⟩ | rfl
    · exact .inl ⟨rfl, _, rfl, _, _, rfl, nv2, hk _ _ (Ex.refl _) (congrArg V.bl (decide_eq_true (ps q' (List.mem_of_getElem? hq))))⟩
    · exact .inr ⟨rfl, _, rfl, _, _, rfl, nv2, hk _ _ (Ex.refl _) rfl⟩
  · intro ys H2 e hd pr
    rw [bls_of (f := fun _ => true) pr] at hd
    refine ⟨D, _, rfl, sq_of hd, _, rfl, ?_⟩
    rw [all_id fun _ _ => rfl]
    refine iteF ?_
    have e2 := e1.trans e
    refine ⟨_, rfl, a, rfl, ⟨_, sq_of (e2 _ _ ha)⟩, fun D2 hD2 => ?_⟩
    refine lc_map (us := qs) wl (fun q y H' => RatV Y.CR H' y q) hD2 (by omega) (fun H3 e3 => ex_l e3 (sq_of (e2 _ _ ha))) (fun _ _ _ _ e h => h.mono (exsm e)) (fun _ _ _ _ _ hD h => ratv_lst hD h) ?_ gn_mono ?_
    · rintro i q x H3 H4 Kq hq e3 _ ⟨rfl, hx⟩ hk
      obtain ⟨q', hq', nv⟩ := pr_getL nl hx
      obtain rfl : q' = q := Option.some.inj (hq'.symm.trans hq)
      exact ⟨rfl, _, rfl, _, _, rfl, nv.mono (exsm (e2.trans e3)), fun v' H' e4 r => hk _ _ e4 r⟩
    · intro ys2 H3 e3 hd2 pr2
      exact k _ _ _ (e2.trans e3) hd2 pr2

def sp_want_weights (Y : Yc) : Sp := fun vs H Q _ => ∃ v cs P, ∃ (a : Addr) (xs : List V) (qs : List Rat), vs = [v, .ref a] ∧ BlendV Y H v (SX.S cs) P ∧ cs.length ≤ 1000 ∧ H a = some (.lst xs) ∧ NumL Y H xs qs ∧ qs.length = cs.length ∧ (∀ q ∈ qs, 0 < q) ∧
  ∀ l ys H', Ex H H' → H' l = some (.lst ys) → RatL Y H' ys qs → Q (.ref l) H'
def sp_want_direction (Y : Yc) : Sp := fun vs H Q _ => ∃ v cs P, ∃ (a : Addr) (xs : List V) (qs : List Rat), vs = [v, .ref a] ∧ BlendV Y H v (SX.S cs) P ∧ cs.length ≤ 1000 ∧ H a = some (.lst xs) ∧ NumL Y H xs qs ∧ qs.length = cs.length ∧
  ∀ l ys H', Ex H H' → H' l = some (.lst ys) → RatL Y H' ys qs → Q (.ref l) H'
theorem sz_S {cs : List Nat} (h : cs.length ≤ 1000) : (SX.S cs).length ≤ sizeLine := sz_small h

abbrev st_want_weights : Stmt := top 66
theorem ok_want_weights {f : Addr} {fd : FuncData} (F : C8.Fun Y.K "want_weights" "want_weights" st_want_weights f fd) (T : TxtY Y)  {fA fN : Addr} (cT : CalY Y 5 "told_list" (sp_told_list Y fA fN) []) (gF : ∃ u, Y.mg "is_above" = some u ∧ RelV (.ref fA) u) : FnOk Y.P Y.w Y.K Y.mg Y.base C8.CX0 6 f fd ["blend", "value"] (sp_want_weights Y) := by
  have S : FnScope ["blend", "value", "found"] ["blend", "value"] (fnScope st_want_weights) := fnScope_by (by decide +kernel)
  have nd := S.nd
  refine fn0 F S (fun vs H Q E h => ?_) (fun cdv A outer s H vs Q E hr h => ?_)
  · obtain ⟨_, _, _, _, _, _, rfl, _⟩ := h; rfl
  refine ⟨_, (pss_cons (ps_set (i := 2) nd rfl (Or.inl rfl) (pe_c cT hr (by decide) rfl (pa_cons (pv 1) (pa_cons (pe_callB call_len rfl T.n_len boot_len (pa_cons (pe_fld (pv 0) rfl) pa_nil)) (pa_cons (pe_gc rfl gF) pa_nil)))))
    (pss_cons (ps_if (pt_cmpR op_isN (pv 2) pe_non (nomark _)) (pss_one ps_never) pss_nil)
    (pss_one (ps_ret (pv 2))))), ?_⟩
  obtain ⟨v, cs, P, a, xs, qs, rfl, ⟨p, d, t, dx, B, tops, rfl, f⟩, sc, ha, nl, lq, ps, k⟩ := h
  refine ⟨_, rfl, _, rfl, p, _, dx, _, _, rfl, f.at_, T.B.cl, T.bL, rfl, _, _, rfl, ⟨sz_S sc, rfl⟩, a, xs, qs, _, _, rfl, ha, nl, by rw [lq]; rfl, by rw [lq]; exact sc, .inl ⟨rfl, ps⟩, fun l ys H' e hl r => ?_⟩
  exact ⟨_, rfl, rfl, _, rfl, iteF ⟨_, rfl, k _ _ _ e hl r⟩⟩
abbrev st_want_direction : Stmt := top 67
theorem ok_want_direction {f : Addr} {fd : FuncData} (F : C8.Fun Y.K "want_direction" "want_direction" st_want_direction f fd) (T : TxtY Y)  {fA fN : Addr} (cT : CalY Y 5 "told_list" (sp_told_list Y fA fN) []) (gF : ∃ u, Y.mg "is_number" = some u ∧ RelV (.ref fN) u) : FnOk Y.P Y.w Y.K Y.mg Y.base C8.CX0 6 f fd ["blend", "value"] (sp_want_direction Y) := by
  have S : FnScope ["blend", "value", "found"] ["blend", "value"] (fnScope st_want_direction) := fnScope_by (by decide +kernel)
  have nd := S.nd
  refine fn0 F S (fun vs H Q E h => ?_) (fun cdv A outer s H vs Q E hr h => ?_)
  · obtain ⟨_, _, _, _, _, _, rfl, _⟩ := h; rfl
  refine ⟨_, (pss_cons (ps_set (i := 2) nd rfl (Or.inl rfl) (pe_c cT hr (by decide) rfl (pa_cons (pv 1) (pa_cons (pe_callB call_len rfl T.n_len boot_len (pa_cons (pe_fld (pv 0) rfl) pa_nil)) (pa_cons (pe_gc rfl gF) pa_nil)))))
    (pss_cons (ps_if (pt_cmpR op_isN (pv 2) pe_non (nomark _)) (pss_one ps_never) pss_nil)
    (pss_one (ps_ret (pv 2))))), ?_⟩
  obtain ⟨v, cs, P, a, xs, qs, rfl, ⟨p, d, t, dx, B, tops, rfl, f⟩, sc, ha, nl, lq, k⟩ := h
  refine ⟨_, rfl, _, rfl, p, _, dx, _, _, rfl, f.at_, T.B.cl, T.bL, rfl, _, _, rfl, ⟨sz_S sc, rfl⟩, a, xs, qs, _, _, rfl, ha, nl, by rw [lq]; rfl, by rw [lq]; exact sc, .inr rfl, fun l ys H' e hl r => ?_⟩
  exact ⟨_, rfl, rfl, _, rfl, iteF ⟨_, rfl, k _ _ _ e hl r⟩⟩

end Km
end

section
set_option Elab.async false
set_option linter.all false
set_option maxRecDepth 100000
namespace Km
open PySem PySem.Spec PyProof.Rows L2 Evl
open C8 (fn0 fnScope_by Cal Mak Met pe_c pe_mk pe_mt pe_mt0 pe_gc fnScope fnBody fnArgs)
variable {Y : Yc}


/-- what is no Ratio may change -/
theorem ratv_upd {C : Addr} {H : Hp} {v : V} {q : Rat} {D : Addr} {u o : HO} (hD : H D = some u) (hu : ∀ c d f, u ≠ .ins c d f) (h : RatV C H v q) : RatV C (upd H D o) v q := by
  obtain ⟨p, e, dx, hp⟩ := h
  refine ⟨p, e, dx, ?_⟩
  rw [upd_ne fun z => by subst z; rw [hp] at hD; exact hu _ _ _ (Option.some.inj hD).symm]
  exact hp
theorem rows_upd {H : Hp} {ks : List (List L2.Key × V)} {P : Poly} {D : Addr} {u o : HO} (hD : H D = some u) (hu : ∀ c d f, u ≠ .ins c d f) (h : Rows Y H ks P) : Rows Y (upd H D o) ks P :=
  Paired.mapP h fun _ _ z => ⟨z.1, ratv_upd hD hu z.2⟩
theorem dT_ins {k : List (List L2.Key × V)} : ∀ c d f, HO.dT k ≠ .ins c d f := fun _ _ _ e => by cases e
theorem keys_nodup_rows {H : Hp} {ks : List (List L2.Key × V)} {P : Poly} (h : Rows Y H ks P) (n : (keysP P).Nodup) : (ks.map (·.1)).Nodup := by
  rw [h.keys]
  have e : (P.map fun t => kk t.1) = (keysP P).map kk := by unfold keysP; rw [List.map_map]; rfl
  rw [e]
  unfold List.Nodup at n ⊢
  rw [List.pairwise_map]
  exact List.Pairwise.imp (fun h e => h (kk_inj e)) n
/-- keys of one length, small, few -/
structure KeyOk (n : Nat) (P : Poly) : Prop where
  nd : (keysP P).Nodup
  len : ∀ t ∈ P, t.1.length = n
  small : ∀ t ∈ P, Small t.1
  few : P.length < 64
  pos : 1 ≤ n
def sp_amounts_sorted (Y : Yc) : Sp := fun vs H Q _ => ∃ (d : Addr) (ks : List (List L2.Key × V)) (P : Poly) (n : Nat), vs = [.ref d] ∧ H d = some (.dT ks) ∧ Rows Y H ks P ∧ KeyOk n P ∧
  ∀ d' ks' P' H', Ex H H' → H' d' = some (.dT ks') → Rows Y H' ks' P' → P'.Perm P → Rise P' → Q (.ref d') H'
theorem kk_int (c : Ky) : kk c = (intK c).map Sum.inl := by
  unfold kk intK
  rw [List.map_map]
  rfl
theorem rise_pick {P : Poly} {cs : List Ky} {n : Nat} (ok : KeyOk n P) (hp : cs.Perm (keysP P)) (h : cs.Pairwise fun a b => TS.code 64 (intK a) ≤ TS.code 64 (intK b)) : Rise (pick P cs) := by
  unfold Rise pick
  rw [List.pairwise_map]
  have nd : cs.Nodup := hp.nodup_iff.mpr ok.nd
  have both := List.Pairwise.and h nd
  refine List.Pairwise.imp_of_mem (fun {a b} ha hb q => ?_) both
  obtain ⟨t, ht, rfl⟩ := List.mem_map.mp (hp.mem_iff.mp ha)
  obtain ⟨u, hu, rfl⟩ := List.mem_map.mp (hp.mem_iff.mp hb)
  exact code_lex2 ((ok.len t ht).trans (ok.len u hu).symm) (ok.small t ht) (ok.small u hu) q.2 q.1

abbrev st_amounts_sorted : Stmt := top 52
theorem ok_amounts_sorted {f : Addr} {fd : FuncData} (F : C8.Fun Y.K "amounts_sorted" "amounts_sorted" st_amounts_sorted f fd) (T : TxtY Y)  : FnOk Y.P Y.w Y.K Y.mg Y.base C8.CX0 1 f fd ["amounts"] (sp_amounts_sorted Y) := by
  have S : FnScope ["amounts", "found", "counts"] ["amounts"] (fnScope st_amounts_sorted) := fnScope_by (by decide +kernel)
  have nd := S.nd
  refine fn0 F S (fun vs H Q E h => ?_) (fun cdv A outer s H vs Q E hr h => ?_)
  · obtain ⟨_, _, _, _, rfl, _⟩ := h; rfl
  have hu := hu_of hr
  obtain ⟨d, ks, P, n, rfl, hd, rows, ok, k⟩ := h
  refine ⟨_, (pss_cons (ps_set (i := 1) nd rfl (Or.inl rfl) pe_dnewT)
    (pss_cons (ps_for PassesOwn.never rfl (pi_list (pe_callB (cr_sortD (dg := n) (B := 64) rfl ok.pos) rfl T.n_sorted boot_sorted (pa_cons (pv 0) pa_nil))) (pg_name (i := 2) nd rfl (Or.inl rfl))
    (pss_one (ps_dput hu (pv 1) (pv 2) (pe_dget hu (pv 0) (pv 2) (fun _ _ => rfl)) rfl)))
    (pss_one (ps_ret (pv 1))))), ?_⟩
  intro F hF
  have e1 : Ex H (upd H F (.dT [])) := Ex.new hF
  have lk : (keysP P).length = P.length := List.length_map ..
  refine ⟨_, rfl, d, ks, (keysP P).map intK, rfl, .inl (e1 _ _ hd), ?_, ?_, ?_, fun zs L pm pw ht hL => ?_⟩
  · rw [rows.keys]
    unfold keysP
    rw [List.map_map, List.map_map]
    exact List.map_congr_left fun t _ => kk_int t.1
  · rw [List.length_map, lk]
    exact ok.few
  · intro m hm
    obtain ⟨c, hc, rfl⟩ := List.mem_map.mp hm
    obtain ⟨t, ht, rfl⟩ := List.mem_map.mp hc
    exact ⟨by unfold intK; rw [List.length_map]; exact ok.len t ht, bd_ints (ok.small t ht)⟩
  obtain ⟨cs, p1, p2⟩ := perm_lift intK pm (keysP P) rfl
  have zl : zs.length = cs.length := by
    have e := congrArg List.length p2
    rwa [List.length_map, List.length_map, eq_comm] at e
  have nd1 : cs.Nodup := p1.nodup_iff.mpr ok.nd
  have hcode : cs.Pairwise fun a b => TS.code 64 (intK a) ≤ TS.code 64 (intK b) := by
    have q : (zs.map (·.2)).Pairwise fun x y => TS.code 64 x ≤ TS.code 64 y := by
      rw [List.pairwise_map]
      exact pw
    rw [← p2, List.pairwise_map] at q
    exact q
  have zget : ∀ {i : Nat} {z : Addr × List Int}, zs[i]? = some z → ∃ c, cs[i]? = some c ∧ H z.1 = some (.tup (kvs c)) := by
    intro i z hz
    have e : (zs.map (·.2))[i]? = some z.2 := by rw [List.getElem?_map, hz]; rfl
    rw [← p2, List.getElem?_map] at e
    cases hc : cs[i]? with
    | none => rw [hc] at e; cases e
    | some c =>
      rw [hc] at e
      have e2 : intK c = z.2 := Option.some.inj e
      have g := ht z (List.mem_of_getElem? hz)
      rw [← e2] at g
      have zF : z.1 ≠ F := fun q => by rw [q, upd_same] at g; cases g
      rw [upd_ne zF] at g
      refine ⟨c, rfl, ?_⟩
      rw [g, kvs_ints]
      rfl
  have FL : F ≠ L := fun q => by rw [q, upd_same] at hL; cases hL
  have e2 : Ex H (upd (upd H F (.dT [])) L (.lst (zs.map fun z => V.ref z.1))) := e1.trans (Ex.new hL)
  have xl : (zs.map fun z => V.ref z.1).length = cs.length := by rw [List.length_map, zl]
  have lc : cs.length < 64 := by rw [p1.length_eq, lk]; exact ok.few
  refine ⟨L, rfl, ⟨_, sq_of upd_same⟩, ?_⟩
  refine for_it (walk_list (xs := zs.map fun z => V.ref z.1)) (fun i σ H' => Ex H H' ∧ H' L = some (.lst (zs.map fun z => V.ref z.1)) ∧ (∃ kf, H' F = some (.dT kf) ∧ Rows Y H' kf (pick P (cs.take i))) ∧ ∃ o, σ = [some (.ref d), some (.ref F), o])
    ⟨e2, upd_same, ⟨[], by rw [upd_ne FL, upd_same], .nil⟩, none, rfl⟩ (fun i σ H' _ q => sq_of q.2.1) ?_ ?_
  · rintro i x σ H' H2 hi ⟨e, gL, ⟨kf, gF, rf⟩, o, rfl⟩ ⟨rfl, hx⟩
    rw [List.getElem?_map] at hx
    cases hz : zs[i]? with
    | none => rw [hz] at hx; cases hx
    | some z =>
      rw [hz] at hx
      obtain rfl : x = .ref z.1 := (Option.some.inj hx).symm
      obtain ⟨c, hc, gz⟩ := zget hz
      have gz2 := e _ _ gz
      rw [← kk_kV] at gz2
      have mc : c ∈ keysP P := p1.mem_iff.mp (List.mem_of_getElem? hc)
      obtain ⟨t, ht2, e3⟩ := List.mem_map.mp mc
      have gp : pget P c = some t.2 := pget_some ok.nd (by rw [← e3]; exact ht2)
      obtain ⟨v, hv, rv⟩ := (rows_val (c := c) rows).1 t.2 gp
      have rv2 := rv.mono (exsm e)
      have fresh : c ∉ keysP (pick P (cs.take i)) := by
        intro q
        have q : c ∈ ((cs.take i).map (fun c => (c, (pget P c).getD 0))).map (·.1) := q
        rw [List.map_map] at q
        obtain ⟨c', h1, h2⟩ := List.mem_map.mp q
        have h2 : c' = c := h2
        rw [h2] at h1
        obtain ⟨j, hj⟩ := List.mem_iff_getElem?.mp h1
        have lj : j < i := by
          have := (List.getElem?_eq_some_iff.mp hj).1
          rw [List.length_take] at this
          omega
        rw [List.getElem?_take_of_lt lj] at hj
        have := (List.getElem?_inj (List.getElem?_eq_some_iff.mp hj).1 nd1).mp (hj.trans hc.symm)
        omega
      have kl : kf.length < sizeLine := by
        have q := Paired.length rf
        rw [q]
        have : (pick P (cs.take i)).length ≤ cs.length := by
          unfold pick
          rw [List.length_map]
          exact List.length_take_le' ..
        exact Nat.lt_of_le_of_lt this (Nat.lt_trans lc (by decide))
      refine ⟨_, rfl, _, rfl, d, v, rfl, ?_, _, rfl, _, rfl, F, _, rfl, DPut.t gF gz2 kl, ?_⟩
      · have g := DGet.t (e _ _ hd) gz2
        rw [hv] at g
        exact g
      · refine ⟨e.mut hF, by rw [upd_ne (Ne.symm FL)]; exact gL, ⟨_, upd_same, ?_⟩, some (.ref z.1), rfl⟩
        have r3 := rows_upd (o := .dT (putK kf (kk c) v)) gF dT_ins (rows_put (c := c) rf rv2)
        rw [pput_new fresh] at r3
        rw [take_next hc]
        unfold pick at r3 ⊢
        rw [List.map_append]
        rw [show (List.map (fun c => (c, (pget P c).getD 0)) [c]) = [(c, t.2)] by rw [List.map_cons, gp]; rfl]
        exact r3
  · rintro σ H' ⟨e, gL, ⟨kf, gF, rf⟩, o, rfl⟩
    rw [xl, List.take_length] at rf
    exact ⟨_, rfl, k F kf _ H' e gF rf (pick_perm ok.nd p1) (rise_pick ok p1 hcode)⟩

/-- what a blend may be made of, and what comes out -/
inductive EntOk (Y : Yc) (H : Hp) (n : Nat) : V → (Poly → Prop) → Prop
  | amt {a d dx : Addr} {ks : List (List L2.Key × V)} {P : Poly} (ha : H a = some (.ins Y.CA dx [("own_dict", .ref d)])) (hd : H d = some (.dT ks)) (r : Rows Y H ks P) : EntOk Y H n (.ref a) (fun P' => P' = P)
  | seq {S : Src} {xs : List V} {U : Poly} {dg : Nat} (hS : S.C Y.K H xs) (hl : (∃ l, S = .lst l ∧ H l = some (.lst xs)) ∨ ∃ t o, S = .tup t ∧ Y.K.lookup t = some o ∧ o.cls = .type "tuple") (hx : Paired (EntAt Y H) xs U) (ok : KeyOk n U)
      (dgs : ∀ t ∈ U, deg t.1 = dg) (d8 : dg ≤ 8) (ps : ∀ t ∈ U, 0 < t.2) (n4 : n ≤ 1000) : EntOk Y H n S.v (fun P' => P'.Perm U ∧ Rise P')
def sp_told_amounts (Y : Yc) : Sp := fun vs H Q _ => ∃ (n : Nat) (e : V) (G : Poly → Prop), vs = [.int (n : Int), e] ∧ EntOk Y H n e G ∧ ∀ d' ks' P' H', Ex H H' → H' d' = some (.dT ks') → Rows Y H' ks' P' → G P' → Q (.ref d') H'
theorem src_mono {H H' : Hp} {S : Src} {xs : List V} (e : Ex H H') (h : S.C Y.K H xs) : S.C Y.K H' xs := by
  cases S with
  | lst a => exact ex_l e h
  | tup a => exact ex_t e h
  | txt z => exact h
theorem len_src {H : Hp} {S : Src} {xs : List V} (h : S.C Y.K H xs) (hl : (∃ l, S = .lst l ∧ H l = some (.lst xs)) ∨ ∃ t o, S = .tup t ∧ Y.K.lookup t = some o ∧ o.cls = .type "tuple") : LenV Y.K S.v H xs.length := by
  rcases hl with ⟨l, rfl, _⟩ | ⟨t, o, rfl, _, _⟩
  · exact .inl ⟨_, h, rfl⟩
  · exact .inr ⟨_, h, rfl⟩
theorem take_all {α : Type} (l : List α) {n : Nat} (h : l.length = n) : l.take n = l := by rw [← h, List.take_length]

abbrev st_told_amounts : Stmt := top 53
theorem ok_told_amounts {f : Addr} {fd : FuncData} (F : C8.Fun Y.K "told_amounts" "told_amounts" st_told_amounts f fd) (T : TxtY Y) (c_amounts_sorted : CalY Y 1 "amounts_sorted" (sp_amounts_sorted Y) []) (c_is_entry : CalY Y 4 "is_entry" (sp_is_entry Y) []) (c_is_list : CalY Y 1 "is_list" (sp_is_list Y) []) (c_ratio_of : CalY Y 4 "ratio_of" (sp_ratio_of Y) []) (c_want_at_most : CalY Y 1 "want_at_most" (sp_want_at_most Y) []) : FnOk Y.P Y.w Y.K Y.mg Y.base C8.CX0 5 f fd ["many", "entries"] (sp_told_amounts Y) := by
  have S : FnScope ["many", "entries", "found", "degree", "position", "entry", "counts"] ["many", "entries"] (fnScope st_told_amounts) := fnScope_by (by decide +kernel)
  have nd := S.nd
  refine fn0 F S (fun vs H Q E h => ?_) (fun cdv A outer s H vs Q E hr h => ?_)
  · obtain ⟨_, _, _, rfl, _⟩ := h; rfl
  have hu := hu_of hr
  refine ⟨_, (pss_cons (ps_if (pt_val (pe_callB call_isi rfl T.n_isinstance boot_isinstance (pa_cons (pv 1) (pa_cons (pe_gc rfl T.k_Amounts) pa_nil)))) (pss_one (ps_ret (pe_fld (pv 1) rfl))) pss_nil)
    (pss_cons (ps_if (pt_not (pt_val (pe_c c_is_list hr (by decide) rfl (pa_cons (pv 1) pa_nil)))) (pss_one ps_never) pss_nil)
    (pss_cons (ps_set (i := 2) nd rfl (Or.inl rfl) pe_dnewT)
    (pss_cons (ps_set (i := 3) nd rfl (Or.inl rfl) pe_non)
    (pss_cons (ps_for PassesOwn.never rfl (pi_enumA rfl T.n_enumerate (pa_cons (pv 1) pa_nil)) (pg_tup rfl (pgs_cons (pg_name (i := 4) nd rfl (Or.inl rfl)) (pgs_cons (pg_name (i := 5) nd rfl (Or.inl rfl)) pgs_nil)))
    (pss_cons (ps_if (pt_not (pt_val (pe_c c_is_entry hr (by decide) rfl (pa_cons (pv 5) (pa_cons (pv 0) pa_nil))))) (pss_one ps_never) pss_nil)
    (pss_cons (ps_set (i := 6) nd rfl (Or.inl rfl) (pe_callTy call_tuple_of rfl T.n_tuple boot_tuple (pa_cons (pe_ix ix_tup (pv 5) pe_int (fun _ _ => rfl)) pa_nil)))
    (pss_cons (ps_set (i := 3) nd rfl (Or.inl rfl) (pe_ifExp (pt_cmpR op_isN (pv 3) pe_non (nomark _)) (pe_callB (cr_sumT rfl) rfl T.n_sum boot_sum (pa_cons (pv 6) pa_nil)) (pv 3)))
    (pss_cons (ps_if (PW.pt (pw_or (pt_cmpR op_ne (pe_callB (cr_sumT rfl) rfl T.n_sum boot_sum (pa_cons (pv 6) pa_nil)) (pv 3) (nomark _)) (pw_or1 (pt_cmp (pc_din hu (pv 6) (pv 2)))))) (pss_one ps_never) pss_nil)
    (pss_one (ps_dput hu (pv 2) (pv 6) (pe_c c_ratio_of hr (by decide) rfl (pa_cons (pe_ix ix_tup (pv 5) pe_int (fun _ _ => rfl)) pa_nil)) rfl)))))))
    (pss_cons (ps_expr (pe_c c_want_at_most hr (by decide) rfl (pa_cons pe_str (pa_cons (pe_gc rfl T.c_MOST_ENTRIES_blends) (pa_cons (pe_callB call_len rfl T.n_len boot_len (pa_cons (pv 1) pa_nil)) pa_nil)))))
    (pss_one (ps_ret (pe_c c_amounts_sorted hr (by decide) rfl (pa_cons (pv 2) pa_nil)))))))))), ?_⟩
  obtain ⟨n, e0, G, rfl, ent, k⟩ := h
  cases ent with
  | @amt a d dx ks P ha hd r =>
    refine ⟨_, rfl, _, _, _, _, true, rfl, .own _, T.A.ty ha, T.A.is, true, rfl, iteT ?_⟩
    exact ⟨_, rfl, a, _, dx, _, _, rfl, ha, T.A.cl, T.aD, rfl, k d ks P H (Ex.refl H) hd r rfl⟩
  | @seq S xs U dg hS hl hx ok dgs d8 ps n4 =>
    have lx : xs.length = U.length := Paired.length hx
    have few := ok.few
    have sk : SeqK Y H S.v xs := by
      rcases hl with ⟨l, rfl, g⟩ | ⟨t, o, rfl, g, c⟩
      · exact .inl ⟨l, rfl, .inl g⟩
      · exact .inr ⟨t, o, rfl, g, c, hS⟩
    have kit : ∃ t, TyX Y.K H S.v t ∧ PySem.W.kitOne Y.K t (.ref Y.CA) = some false := by
      rcases hl with ⟨l, rfl, g⟩ | ⟨t, o, rfl, g, c⟩
      · exact ⟨_, .base (.lst g), T.A.iL⟩
      · exact ⟨_, .kTuple g c, T.A.iT⟩
    obtain ⟨ty, kt1, kt2⟩ := kit
    refine ⟨_, rfl, _, _, _, _, false, rfl, .own _, kt1, kt2, false, rfl, iteF ?_⟩
    refine ⟨_, rfl, _, _, rfl, sk, fun H1 e1 => ⟨true, rfl, iteF ?_⟩⟩
    intro F hF
    have e2 : Ex H (upd H1 F (.dT [])) := e1.trans (Ex.new hF)
    have hF0 : H F = none := fresh_back e1 hF
    refine ⟨_, rfl, S, xs, rfl, src_mono e2 hS, ?_⟩
    refine for_it (walk_enumS (K := Y.K) (S := S) (xs := xs)) (fun i σ H' => Ex H H' ∧ (∃ kf, H' F = some (.dT kf) ∧ Rows Y H' kf (U.take i)) ∧ ∃ dv a b c, (i = 0 ∧ dv = .non ∨ dv = .int (dg : Nat)) ∧ σ = [some (.int (n : Int)), some S.v, some (.ref F), some dv, a, b, c])
      ⟨e2, ⟨[], upd_same, .nil⟩, .non, none, none, none, .inl ⟨rfl, rfl⟩, rfl⟩ (fun i σ H' _ q => src_mono q.1 hS) ?_ ?_
    · rintro i x σ H' H2 hi ⟨e, ⟨kf, gF, rf⟩, dv, a, b, c, hdv, rfl⟩ ⟨T0, x1, x2, rfl, hT, rfl, g1, g2⟩
      obtain rfl : x1 = .int ((i : Nat) : Int) := (Option.some.inj g1).symm
      obtain ⟨t, ht, en⟩ := pr_getL hx g2
      have mt := List.mem_of_getElem? ht
      have e3 : Ex H (upd H' T0 (.tup [.int (i : Nat), x2])) := e.trans (Ex.new hT)
      refine gt2 (st_of upd_same) ?_
      refine ⟨_, rfl, _, rfl, _, t, _, rfl, en.mono e3, by rw [ok.len t mt], by rw [ok.len t mt]; exact n4, by rw [dgs t mt]; exact d8, ps t mt, fun H4 e4 => ⟨_, rfl, iteF ?_⟩⟩
      have e5 := e3.trans e4
      obtain ⟨p, l, y, rfl, hp, hl2, ny⟩ := en.mono e5
      refine ⟨_, rfl, p, _, 0, _, rfl, rfl, st_of hp, rfl, l, _, rfl, .inl ⟨sq_of hl2, fun q hq => ?_⟩⟩
      have e6 : Ex H (upd H4 q (.tup (kvs t.1))) := e5.trans (Ex.new hq)
      have gq : (upd H4 q (.tup (kvs t.1))) q = some (.tup ((t.1.map fun (n : Nat) => (n : Int)).map V.int)) := by rw [upd_same, kvs_ints]
      have hF4 : H4 F = some (.dT kf) := e4 _ _ (by rw [upd_ne (ne_of_none gF hT)]; exact gF)
      -- the degree
      have dgq : ((t.1.map fun (n : Nat) => (n : Int)).sum : Int) = (dg : Nat) := by rw [sum_ints, dgs t mt]
      have gq2 : (upd H4 q (.tup (kvs t.1))) q = some (.tup ((kk t.1).map kV)) := by rw [upd_same, kk_kV]
      have gF6 : (upd H4 q (.tup (kvs t.1))) F = some (.dT kf) := by rw [upd_ne (ne_of_none hF4 hq)]; exact hF4
      have fresh : t.1 ∉ keysP (U.take i) := by
        intro z
        obtain ⟨u, hu1, hu2⟩ := List.mem_map.mp z
        obtain ⟨j, hj⟩ := List.mem_iff_getElem?.mp hu1
        have lj : j < i := by
          have := (List.getElem?_eq_some_iff.mp hj).1
          rw [List.length_take] at this
          omega
        rw [List.getElem?_take_of_lt lj] at hj
        have h1 : (keysP U)[j]? = some t.1 := by unfold keysP; rw [List.getElem?_map, hj, ← hu2]; rfl
        have h2 : (keysP U)[i]? = some t.1 := by unfold keysP; rw [List.getElem?_map, ht]; rfl
        have := (List.getElem?_inj (List.getElem?_eq_some_iff.mp h1).1 ok.nd).mp (h1.trans h2.symm)
        omega
      have e36 : Ex H' (upd H4 q (.tup (kvs t.1))) := ((Ex.new hT).trans e4).trans (Ex.new hq)
      have vn : valV kf (kk t.1) = none := (rows_val rf).2 (pget_none fresh)
      have kl : kf.length < sizeLine := by
        have z := Paired.length rf
        rw [z]
        exact Nat.lt_of_le_of_lt (List.length_take_le' ..) (Nat.lt_trans few (by decide))
      have fin : ∀ v' H7, Ex (upd H4 q (.tup (kvs t.1))) H7 → RatV Y.CR H7 v' t.2 → Ex H (upd H7 F (.dT (putK kf (kk t.1) v'))) ∧ Rows Y (upd H7 F (.dT (putK kf (kk t.1) v'))) (putK kf (kk t.1) v') (U.take (i + 1)) := by
        intro v' H7 e7 rv
        refine ⟨(e6.trans e7).mut hF0, ?_⟩
        have r3 := rows_upd (o := .dT (putK kf (kk t.1) v')) (e7 _ _ gF6) dT_ins (rows_put (c := t.1) (rf.mono (exsm (e36.trans e7))) rv)
        rw [pput_new fresh] at r3
        rw [take_next ht]
        exact r3
      rcases hdv with ⟨_, rfl⟩ | rfl
      · refine ⟨_, rfl, rfl, _, rfl, iteT ⟨_, rfl, q, _, rfl, st_of gq, ?_⟩⟩
        rw [dgq]
        refine ⟨_, rfl, q, _, rfl, st_of gq, _, rfl, rfl, _, rfl, iteNF (congrArg V.int dgq) ?_⟩
        refine ⟨_, rfl, _, rfl, F, _, rfl, DGet.t gF6 gq2, _, rfl, ?_⟩
        rw [vn]
        refine iteF ?_
        refine ⟨_, rfl, p, _, 1, _, rfl, rfl, st_of (((Ex.new hq) _ _ hp)), rfl, _, t.2, rfl, ny.mono (exsm (Ex.new hq)), fun v' H7 e7 rv => ?_⟩
        obtain ⟨w1, w2⟩ := fin v' H7 e7 rv
        exact ⟨_, rfl, _, rfl, F, _, rfl, DPut.t (e7 _ _ gF6) (e7 _ _ gq2) kl, w1, ⟨_, upd_same, w2⟩, _, _, _, _, .inr rfl, rfl⟩
      · refine ⟨_, rfl, rfl, _, rfl, iteF ⟨_, rfl, ?_⟩⟩
        refine ⟨_, rfl, q, _, rfl, st_of gq, _, rfl, rfl, _, rfl, iteNF (congrArg V.int dgq) ?_⟩
        refine ⟨_, rfl, _, rfl, F, _, rfl, DGet.t gF6 gq2, _, rfl, ?_⟩
        rw [vn]
        refine iteF ?_
        refine ⟨_, rfl, p, _, 1, _, rfl, rfl, st_of (((Ex.new hq) _ _ hp)), rfl, _, t.2, rfl, ny.mono (exsm (Ex.new hq)), fun v' H7 e7 rv => ?_⟩
        obtain ⟨w1, w2⟩ := fin v' H7 e7 rv
        exact ⟨_, rfl, _, rfl, F, _, rfl, DPut.t (e7 _ _ gF6) (e7 _ _ gq2) kl, w1, ⟨_, upd_same, w2⟩, _, _, _, _, .inr rfl, rfl⟩
    · rintro σ H' ⟨e, ⟨kf, gF, rf⟩, dv, a, b, c, hdv, rfl⟩
      rw [lx, List.take_length] at rf
      refine ⟨_, rfl, _, _, rfl, len_src (src_mono e hS) (hl.imp (fun ⟨l, a, b⟩ => ⟨l, a, e _ _ b⟩) id), _, _, _, rfl, by rw [lx]; omega, ?_⟩
      refine ⟨_, rfl, F, kf, U, n, rfl, gF, rf, ok, fun d' ks' P' H2 e2 gd rr pm ri => ?_⟩
      exact k d' ks' P' H2 (e.trans e2) gd rr ⟨pm, ri⟩

/-! ### a new blend -/
def PFit (P : Poly) : Prop := P.length ≤ 1000 ∧ (keysP P).Nodup ∧ ∃ D, 0 < D ∧ D < 2 ^ 4000 ∧ FitL D (P.map (·.2))
/-- all but x stays -/
abbrev ExB (x : Addr) (H H' : Hp) : Prop := ∀ b o, b ≠ x → H b = some o → H' b = some o
theorem ExB.ex {x : Addr} {A B C : Hp} (h : ExB x A B) (e : Ex B C) : ExB x A C := fun b o n q => e b o (h b o n q)
theorem ExB.up {x : Addr} {A B : Hp} {o : HO} (h : ExB x A B) : ExB x A (upd B x o) := fun b u n q => by rw [upd_ne n]; exact h b u n q
def sp_Blend (Y : Yc) : Sp := fun vs H Q _ => ∃ (x dx : Addr) (cs : List Nat) (e : V) (G : Poly → Prop), vs = [.ref x, .str (SX.S cs), e] ∧ H x = some (.ins Y.CB dx []) ∧ LsOk cs ∧ (∀ H1, ExB x H H1 → EntOk Y H1 cs.length e G) ∧ (∀ P', G P' → PFit P') ∧
  ∀ P' H', ExB x H H' → BlendV Y H' (.ref x) (SX.S cs) P' → G P' → Q .non H'
theorem pr_map2 {α β γ : Type} {F : α → β → Prop} {f : γ → β} : ∀ {l : List α} {m : List γ}, Paired (fun a c => F a (f c)) l m → Paired F l (m.map f)
  | _, _, .nil => .nil
  | _, _, .cons h t => .cons h (pr_map2 t)
theorem dget_rd {H : Hp} {a b : Addr} {kvs : List (List L2.Key × V)} {k : List L2.Key} (e : Rd H a (.dT kvs)) (eb : H b = some (.tup (k.map kV))) : DGet H a (.ref b) (valV kvs k) := .inr ⟨kvs, k, b, e, rfl, eb, rfl⟩
theorem tops_of {H H0 H' : Hp} {B : Nat} (e0 : Ex H0 H') : ∀ {ks : List (List L2.Key × V)} {P : Poly} {as bs : List Addr}, Rows Y H ks P → IsKeys H0 ks bs → (∀ t ∈ P, t.2.den ∣ B) →
    Paired (fun (t : Addr) (q : V × V) => H' t = some (.tup [q.1, q.2])) as (List.zipWith (fun (b : Addr) (y : V) => (V.ref b, y)) bs ((P.map (·.2)).map fun q => V.int (upTo B q))) → Paired (TopAt H' B) (as.map V.ref) P
  | [], [], as, bs, _, kb, _, pr => by
    cases kb
    cases pr
    exact .nil
  | k :: ks, t :: P, as, bs, .cons r rows, kb, dv, pr => by
    cases kb with
    | cons hb kb =>
      cases pr with
      | cons h pr =>
        refine .cons ⟨_, _, _, rfl, .inl h, .inl ?_, upTo_rat (dv t (List.mem_cons_self ..))⟩ (tops_of e0 rows kb (fun u hu => dv u (List.mem_cons_of_mem _ hu)) pr)
        have z := e0 _ _ hb
        rw [r.1, kk_kV] at z
        exact z


theorem ratv_upx {C D : Addr} {H : Hp} {x dx : Addr} {w v : V} {r : List (Str × V)} {o : HO} {q : Rat} (hx : H x = some (.ins D dx (("own_letters", w) :: r))) (h : RatV C H v q) : RatV C (upd H x o) v q := by
  obtain ⟨p, e, dp, hp⟩ := h
  refine ⟨p, e, dp, ?_⟩
  rw [upd_ne fun z => by
    subst z
    rw [hx] at hp
    have e1 := Option.some.inj hp
    have e2 : (("own_letters" : Str), w) :: r = ratF q := by injection e1
    have e3 : ("own_letters" : Str) = "own_top" := congrArg Prod.fst (List.cons.inj e2).1
    exact absurd e3 (by decide)]
  exact hp
theorem rows_upx {D : Addr} {H : Hp} {x dx : Addr} {w : V} {r : List (Str × V)} {o : HO} {ks : List (List L2.Key × V)} {P : Poly} (hx : H x = some (.ins D dx (("own_letters", w) :: r))) (h : Rows Y H ks P) : Rows Y (upd H x o) ks P :=
  Paired.mapP h fun _ _ z => ⟨z.1, ratv_upx hx z.2⟩
theorem rd_upx {H : Hp} {x : Addr} {c dx : Addr} {f : List (Str × V)} {o : HO} {a : Addr} {t : List V} (hx : H x = some (.ins c dx f)) (h : Rd H a (.tup t)) : Rd (upd H x o) a (.tup t) := by
  have ne : a ≠ x := by
    rintro rfl
    rcases h with h | ⟨u, h⟩
    · rw [hx] at h; cases h
    · rw [hx] at h; cases h
  unfold Rd at h ⊢
  rw [upd_ne ne]
  exact h
theorem top_upx {H : Hp} {x : Addr} {c dx : Addr} {f : List (Str × V)} {o : HO} {B : Nat} {v : V} {t : Ky × Rat} (hx : H x = some (.ins c dx f)) (h : TopAt H B v t) : TopAt (upd H x o) B v t :=
  let ⟨a, q, z, h1, h2, h3, h4⟩ := h
  ⟨a, q, z, h1, rd_upx hx h2, rd_upx hx h3, h4⟩
theorem den_dvd {P : Poly} : ∀ t ∈ P, t.2.den ∣ lcms 1 (P.map (·.2)) := fun t ht => (lcms_self (P.map (·.2)) 1).2 t.2 (List.mem_map.mpr ⟨t, ht, rfl⟩)

abbrev st_Blend : Stmt := sub 55 0
theorem ok_Blend {f : Addr} {fd : FuncData} (F : C8.Fun Y.K "__init__" "Blend.__init__" st_Blend f fd) (T : TxtY Y) (c_degree_of : CalY Y 1 "degree_of" (sp_degree_of Y) []) (c_told_amounts : CalY Y 5 "told_amounts" (sp_told_amounts Y) []) (c_want_letters : CalY Y 3 "want_letters" (sp_want_letters Y) []) (c_wholes : CalY Y 2 "wholes" (sp_wholes Y) []) : FnOk Y.P Y.w Y.K Y.mg Y.base C8.CX0 6 f fd ["self", "letters", "entries"] (sp_Blend Y) := by
  have S : FnScope ["self", "letters", "entries", "bottom", "tops", "counts"] ["self", "letters", "entries"] (fnScope st_Blend) := fnScope_by (by decide +kernel)
  have nd := S.nd
  refine fn0 F S (fun vs H Q E h => ?_) (fun cdv A outer s H vs Q E hr h => ?_)
  · obtain ⟨_, _, _, _, _, rfl, _⟩ := h; rfl
  have hu := hu_of hr
  refine ⟨_, (pss_cons (ps_expr (pe_c c_want_letters hr (by decide) rfl (pa_cons (pv 1) pa_nil)))
    (pss_cons (ps_fld (pv 0) (pv 1) rfl)
    (pss_cons (ps_fld (pv 0) (pe_c c_told_amounts hr (by decide) rfl (pa_cons (pe_callB call_len rfl T.n_len boot_len (pa_cons (pv 1) pa_nil)) (pa_cons (pv 2) pa_nil))) rfl)
    (pss_cons (ps_fld (pv 0) (pe_c c_degree_of hr (by decide) rfl (pa_cons (pe_fld (pv 0) rfl) pa_nil)) rfl)
    (pss_cons (ps_asg (pe_c c_wholes hr (by decide) rfl (pa_cons (pe_lock (pe_lc (own := [("counts", 5)]) (g := gName 5) (tt := tYes) rfl nd (pi_keys (pe_fld (pv 0) rfl)) (blkOk_by (N := ["self", "letters", "entries", "bottom", "tops", "counts"]) (sc := (fnScope st_Blend)) (by decide +kernel)) (fun _ _ _ _ _ => by exact (pg_name (i := 5) nd rfl (Or.inl rfl))) (fun _ _ _ _ _ => by exact pts_nil) (fun _ _ _ _ _ => by exact (pe_dget hu (fldB Y.K (pv 0) rfl) (pv 5) (fun _ _ => rfl))))) pa_nil)) (pg_tup rfl (pgs_cons (pg_name (i := 3) nd rfl (Or.inl rfl)) (pgs_cons (pg_name (i := 4) nd rfl (Or.inl rfl)) pgs_nil))))
    (pss_cons (ps_fld (pv 0) (pv 3) rfl)
    (pss_one (ps_fld (pv 0) (pe_listZip rfl rfl T.n_list rfl T.n_zip (pa_cons (pe_fld (pv 0) rfl) (pa_cons (pv 4) pa_nil))) rfl)))))))), ?_⟩
  obtain ⟨x, dx, cs, e0, G, rfl, hx, lok, ent, fit, k⟩ := h
  have sl : (SX.S cs).length ≤ sizeLine := sz_small (Nat.le_trans lok.le (by decide))
  refine ⟨_, rfl, cs, rfl, lok, fun H1 e1 => ?_⟩
  have b1 : ExB x H H1 := fun b o _ q => e1 b o q
  refine ⟨_, rfl, _, rfl, x, _, dx, [], rfl, e1 _ _ hx, T.B.cl, T.bL, z0, ?_⟩
  refine ⟨_, rfl, _, _, rfl, ⟨sl, rfl⟩, _, rfl, cs.length, e0, G, rfl, ent _ b1.up, fun d ks P H3 e3 hd rows g => ?_⟩
  have b3 := (b1.up (o := .ins Y.CB dx (putF "own_letters" (.str (SX.S cs)) []))).ex e3
  have xd : x ≠ d := fun q => by have z := e3 _ _ (upd_same (H := H1) (a := x) (o := .ins Y.CB dx (putF "own_letters" (.str (SX.S cs)) []))); rw [q, hd] at z; cases z
  refine ⟨_, rfl, x, _, dx, _, rfl, e3 _ _ upd_same, T.B.cl, T.bA, z1, ?_⟩
  have gx3 : H3 x = some (.ins Y.CB dx [("own_letters", .str (SX.S cs))]) := e3 _ _ upd_same
  obtain ⟨H4, hH4⟩ : ∃ H4, H4 = upd H3 x (.ins Y.CB dx [("own_letters", .str (SX.S cs)), ("own_amounts", .ref d)]) := ⟨_, rfl⟩
  have gx4 : H4 x = some (.ins Y.CB dx [("own_letters", .str (SX.S cs)), ("own_amounts", .ref d)]) := by rw [hH4, upd_same]
  have hd4 : H4 d = some (.dT ks) := by rw [hH4, upd_ne (Ne.symm xd)]; exact hd
  have r4 : Rows Y H4 ks P := by rw [hH4]; exact rows_upx gx3 rows
  have b4 : ExB x H H4 := by rw [hH4]; exact b3.up
  show _
  have go4 : ∀ (R : Hp → Prop), R H4 → R (upd H3 x (.ins Y.CB dx (putF "own_amounts" (.ref d) [("own_letters", .str (SX.S cs))]))) := fun R q => by rw [hH4] at q; exact q
  refine go4 _ ?_
  refine ⟨_, rfl, x, _, dx, _, _, rfl, gx4, T.B.cl, T.bA, rfl, d, ks, P, rfl, hd4, r4, fun H5 e5 => ?_⟩
  refine ⟨_, rfl, x, _, dx, _, rfl, e5 _ _ gx4, T.B.cl, T.bD, z2, ?_⟩
  obtain ⟨H6, hH6⟩ : ∃ H6, H6 = upd H5 x (.ins Y.CB dx [("own_letters", .str (SX.S cs)), ("own_amounts", .ref d), ("own_degree", degV P)]) := ⟨_, rfl⟩
  have gx6 : H6 x = some (.ins Y.CB dx [("own_letters", .str (SX.S cs)), ("own_amounts", .ref d), ("own_degree", degV P)]) := by rw [hH6, upd_same]
  have hd6 : H6 d = some (.dT ks) := by rw [hH6, upd_ne (Ne.symm xd)]; exact e5 _ _ hd4
  have r6 : Rows Y H6 ks P := by rw [hH6]; exact rows_upx (e5 _ _ gx4) (r4.mono (exsm e5))
  have b6 : ExB x H H6 := by rw [hH6]; exact (b4.ex e5).up
  have go6 : ∀ (R : Hp → Prop), R H6 → R (upd H5 x (.ins Y.CB dx (putF "own_degree" (degV P) [("own_letters", .str (SX.S cs)), ("own_amounts", .ref d)]))) := fun R q => by rw [hH6] at q; exact q
  refine go6 _ ?_
  obtain ⟨pl, ndp, DD, dp, ds, df⟩ := fit P g
  have lk := Paired.length rows
  refine ⟨d, .dT ks, hd6, trivial, fun od => ?_⟩
  have gxl : (upd H6 d (.frz od (.dT ks))) x = some (.ins Y.CB dx [("own_letters", .str (SX.S cs)), ("own_amounts", .ref d), ("own_degree", degV P)]) := by rw [upd_ne xd]; exact gx6
  refine ⟨_, rfl, x, _, dx, _, _, rfl, gxl, T.B.cl, T.bA, rfl, d, od, rfl, .inr ⟨ks, upd_same, fun D hD => ?_⟩⟩
  have wk := walk_keysT (d := d) (o := od) (kvs := ks)
  rw [lk] at wk
  have wk2 : Walk (Itkt d od ks) P.length (fun H' => H' d = some (.frz od (.dT ks))) _ := wk
  refine lc_map (us := P) wk2 (fun u y H' => RatV Y.CR H' y u.2) hD (by omega) (fun H2 e => e _ _ upd_same) (fun _ _ _ _ e h => h.mono (exsm e)) (fun _ _ _ _ _ hD h => ratv_lst hD h) ?_ gn_mono ?_
  · rintro j u y H2 H3' Kq hu2 e _ ⟨rfl, kx, vx, q, hk, rfl, hq⟩ hk2
    obtain ⟨t', ht, e1', rv⟩ := pr_getL r6 hk
    obtain rfl : t' = u := Option.some.inj (ht.symm.trans hu2)
    have e1' : kx = kk t'.1 := e1'
    obtain ⟨v2, kn, rv2⟩ := (rows_val (c := t'.1) r6).1 t'.2 (pget_some ndp (List.mem_of_getElem? hu2))
    refine ⟨rfl, _, rfl, x, _, dx, _, _, rfl, e _ _ gxl, T.B.cl, T.bA, rfl, _, rfl, d, v2, rfl, ?_, hk2 _ _ (Ex.refl _) ?_⟩
    · have z := dget_rd (.inr ⟨od, e _ _ upd_same⟩) hq
      rw [e1', kn] at z
      exact z
    · exact rv2.mono ((Sm.lock od hd6).trans (exsm e))
  · intro ys H7 e hd7 pr
    obtain ⟨h1, h2⟩ := ex_unlock hd6 e
    obtain ⟨H8, hH8⟩ : ∃ H8, H8 = upd H7 d (.dT ks) := ⟨_, rfl⟩
    refine ⟨h1, ?_⟩
    rw [← hH8] at h2 ⊢
    have Dd : D ≠ d := fun z => by rw [z, h1] at hd7; cases hd7
    have hd8 : H8 D = some (.lst ys) := by rw [hH8, upd_ne Dd]; exact hd7
    have rl : RatL Y H8 ys (P.map (·.2)) := by
      rw [hH8]
      exact pr_map2 (Paired.mapP pr fun _ _ z => ratv_upd h1 (fun _ _ _ e => by cases e) z)
    refine ⟨D, ys, P.map (·.2), DD, rfl, sq_of hd8, rl, by rw [List.length_map]; exact pl, dp, ds, df, fun p t H9 e9 gp gt => gt2 (st_of gp) ?_⟩
    have e69 := h2.trans e9
    refine ⟨_, rfl, _, rfl, x, _, dx, _, rfl, e69 _ _ gx6, T.B.cl, T.bB, z3, ?_⟩
    obtain ⟨H10, hH10⟩ : ∃ H10, H10 = upd H9 x (.ins Y.CB dx [("own_letters", .str (SX.S cs)), ("own_amounts", .ref d), ("own_degree", degV P), ("own_bottom", .int (lcms 1 (P.map (·.2)) : Nat))]) := ⟨_, rfl⟩
    have go10 : ∀ (R : Hp → Prop), R H10 → R (upd H9 x (.ins Y.CB dx (putF "own_bottom" (.int (lcms 1 (P.map (·.2)) : Nat)) [("own_letters", .str (SX.S cs)), ("own_amounts", .ref d), ("own_degree", degV P)]))) := fun R q => by rw [hH10] at q; exact q
    refine go10 _ ?_
    have gx10 : H10 x = some (.ins Y.CB dx [("own_letters", .str (SX.S cs)), ("own_amounts", .ref d), ("own_degree", degV P), ("own_bottom", .int (lcms 1 (P.map (·.2)) : Nat))]) := by rw [hH10, upd_same]
    have hd10 : H10 d = some (.dT ks) := by rw [hH10, upd_ne (Ne.symm xd)]; exact e69 _ _ hd6
    have r10 : Rows Y H10 ks P := by rw [hH10]; exact rows_upx (e69 _ _ gx6) (r6.mono (exsm e69))
    have b10 : ExB x H H10 := by rw [hH10]; exact (b6.ex e69).up
    have xt : t ≠ x := fun z => by rw [z, e69 _ _ gx6] at gt; cases gt
    have gt10 : H10 t = some (.lst ((P.map (·.2)).map fun q => .int (upTo (lcms 1 (P.map (·.2))) q))) := by rw [hH10, upd_ne xt]; exact gt
    refine ⟨_, rfl, x, _, dx, _, _, rfl, gx10, T.B.cl, T.bA, rfl, _, rfl, d, t, ks, _, rfl, .inl hd10, sq_of gt10, by rw [List.length_map, List.length_map]; exact lk, fun H11 L as bs e11 gL kb prz => ?_⟩
    refine ⟨_, rfl, x, _, dx, _, rfl, e11 _ _ gx10, T.B.cl, T.bT, z4, ?_⟩
    refine k P _ ((b10.ex e11).up) ⟨x, d, L, dx, lcms 1 (P.map (·.2)), as.map V.ref, rfl, ?_⟩ g
    have xL : L ≠ x := fun z => by rw [z, e11 _ _ gx10] at gL; cases gL
    refine ⟨upd_same, ⟨ks, by rw [upd_ne (Ne.symm xd)]; exact e11 _ _ hd10, rows_upx (e11 _ _ gx10) (r10.mono (exsm e11))⟩, by rw [upd_ne xL]; exact gL, ?_, lcms_pos _ 1 (by decide), fun D2 hD2 => ?_⟩
    · exact Paired.mapP (tops_of e11 r10 kb den_dvd prz) fun _ _ z => top_upx (e11 _ _ gx10) z
    · refine lcms_dvd _ 1 (Nat.one_dvd _) fun q hq => ?_
      obtain ⟨u, hu3, rfl⟩ := List.mem_map.mp hq
      exact hD2 u hu3

theorem EntOk.mono {H H' : Hp} {n : Nat} {v : V} {G : Poly → Prop} (e : Ex H H') (h : EntOk Y H n v G) : EntOk Y H' n v G := by
  cases h with
  | amt ha hd r => exact .amt (e _ _ ha) (e _ _ hd) (r.mono (exsm e))
  | seq hS hl hx ok dgs d8 ps n4 => exact .seq (src_mono e hS) (hl.imp (fun ⟨l, a, b⟩ => ⟨l, a, e _ _ b⟩) id) (Paired.mapP hx fun _ _ z => z.mono e) ok dgs d8 ps n4
theorem new_blend {H : Hp} {x dx : Addr} {Q : VK} {cs : List Nat} {e0 : V} {G : Poly → Prop} (hx : H x = none) (hdx : H dx = none) (ne : dx ≠ x) (lok : LsOk cs) (ent : EntOk Y H cs.length e0 G) (fit : ∀ P', G P' → PFit P')
    (k : ∀ v P' H', Ex H H' → BlendV Y H' v (SX.S cs) P' → G P' → Q v H') : sp_Blend Y [.ref x, .str (SX.S cs), e0] (upd (upd H dx (.own x)) x (.ins Y.CB dx [])) (fun v H2 => v = .non ∧ Q (.ref x) H2) C8.E0 := by
  have up : ∀ H1, ExB x (upd (upd H dx (.own x)) x (.ins Y.CB dx [])) H1 → Ex H H1 := fun H1 b a o q => by
    have n1 : a ≠ x := fun z => by rw [z, hx] at q; cases q
    have n2 : a ≠ dx := fun z => by rw [z, hdx] at q; cases q
    exact b a o n1 (by rw [upd_ne n1, upd_ne n2]; exact q)
  exact ⟨x, dx, cs, e0, G, rfl, upd_same, lok, fun H1 b => ent.mono (up H1 b), fit, fun P' H' b bv g => ⟨rfl, k _ P' H' (up H' b) bv g⟩⟩
theorem PFit.perm {P R : Poly} (h : PFit R) (p : P.Perm R) : PFit P := by
  obtain ⟨a, n, D, b, c, d⟩ := h
  exact ⟨by rw [p.length_eq]; exact a, (List.Perm.map (fun t : Ky × Rat => t.1) p).nodup_iff.mpr n, D, b, c, fun q hq => d q ((p.map (·.2)).mem_iff.mp hq)⟩
def sp_blend_of (Y : Yc) : Sp := fun vs H Q _ => ∃ (cs : List Nat) (d : Addr) (ks : List (List L2.Key × V)) (P : Poly), vs = [.str (SX.S cs), .ref d] ∧ LsOk cs ∧ H d = some (.dT ks) ∧ Rows Y H ks P ∧ KeyOk cs.length P ∧ PFit P ∧
  ∀ v P' H', Ex H H' → BlendV Y H' v (SX.S cs) P' → P'.Perm P → Rise P' → Q v H'

abbrev st_blend_of : Stmt := top 56
theorem ok_blend_of {f : Addr} {fd : FuncData} (F : C8.Fun Y.K "blend_of" "blend_of" st_blend_of f fd) (T : TxtY Y) (c_amounts_sorted : CalY Y 1 "amounts_sorted" (sp_amounts_sorted Y) []) (m_Amounts1 : MakY Y 1 "Amounts" Y.CA (sp_Amounts Y) []) (m_Blend2 : MakY Y 6 "Blend" Y.CB (sp_Blend Y) []) : FnOk Y.P Y.w Y.K Y.mg Y.base C8.CX0 8 f fd ["letters", "amounts"] (sp_blend_of Y) := by
  have S : FnScope ["letters", "amounts"] ["letters", "amounts"] (fnScope st_blend_of) := fnScope_by (by decide +kernel)
  have nd := S.nd
  refine fn0 F S (fun vs H Q E h => ?_) (fun cdv A outer s H vs Q E hr h => ?_)
  · obtain ⟨_, _, _, _, rfl, _⟩ := h; rfl
  refine ⟨_, (pss_one (ps_ret (pe_mk m_Blend2 hr (by decide) rfl (pa_cons (pv 0) (pa_cons (pe_mk m_Amounts1 hr (by decide) rfl (pa_cons (pe_c c_amounts_sorted hr (by decide) rfl (pa_cons (pv 1) pa_nil)) pa_nil)) pa_nil))))), ?_⟩
  obtain ⟨cs, d, ks, P, rfl, lok, hd, rows, ok, fit, k⟩ := h
  refine ⟨_, rfl, _, rfl, d, ks, P, cs.length, rfl, hd, rows, ok, fun d' ks' P' H1 e1 hd1 rw1 pm ri => ?_⟩
  intro a da ha hda nea
  refine ⟨a, da, _, rfl, upd_same, rfl, ?_⟩
  rw [upd_upd]
  have e2 : Ex H1 (upd (upd H1 da (.own a)) a (.ins Y.CA da [("own_dict", .ref d')])) := (Ex.new hda).mut ha
  intro x dx hx hdx ne
  exact new_blend hx hdx ne lok (EntOk.amt (n := cs.length) upd_same (e2 _ _ hd1) (rw1.mono (exsm e2))) (fun P2 g => by rw [g]; exact fit.perm pm) fun v P2 H3 e3 bv g => by
    rw [g] at bv
    exact k v P' H3 ((e1.trans e2).trans e3) bv pm ri

abbrev hashY (Y : Yc) (c : Ky) : Int := tupleKeyHash (mixKind Y.P Y.w) (kk c)
def sp_blends_added (Y : Yc) : Sp := fun vs H Q _ => ∃ a b cs P R, vs = [a, b] ∧ BlendV Y H a (SX.S cs) P ∧ BlendV Y H b (SX.S cs) R ∧ LsOk cs ∧ KeyOk cs.length (P ++ R) ∧ PFit (P ++ R) ∧ ((keysP P).map (hashY Y)).Nodup ∧
  ∀ v P' H', Ex H H' → BlendV Y H' v (SX.S cs) P' → P'.Perm (P ++ R) → Rise P' → Q v H'

abbrev st_blends_added : Stmt := top 57
theorem ok_blends_added {f : Addr} {fd : FuncData} (F : C8.Fun Y.K "blends_added" "blends_added" st_blends_added f fd) (T : TxtY Y) (c_blend_of : CalY Y 8 "blend_of" (sp_blend_of Y) []) (c_pair_sum : CalY Y 4 "pair_sum" (sp_pair_sum Y) []) (c_want_at_most : CalY Y 1 "want_at_most" (sp_want_at_most Y) []) : FnOk Y.P Y.w Y.K Y.mg Y.base C8.CX0 9 f fd ["blend", "other"] (sp_blends_added Y) := by
  have S : FnScope ["blend", "other", "found", "counts", "amount"] ["blend", "other"] (fnScope st_blends_added) := fnScope_by (by decide +kernel)
  have nd := S.nd
  refine fn0 F S (fun vs H Q E h => ?_) (fun cdv A outer s H vs Q E hr h => ?_)
  · obtain ⟨_, _, _, _, _, rfl, _⟩ := h; rfl
  have hu := hu_of hr
  refine ⟨_, (pss_cons (ps_set (i := 2) nd rfl (Or.inl rfl) (pe_callTy (call_dictT rfl (hu4_of hr)) rfl T.n_dict boot_dict (pa_cons (pe_fld (pv 0) rfl) pa_nil)))
    (pss_cons (ps_lock (ps_for PassesOwn.never rfl (pi_keys (pe_fld (pv 1) rfl)) (pg_name (i := 3) nd rfl (Or.inl rfl))
    (pss_cons (ps_set (i := 4) nd rfl (Or.inl rfl) (pe_dget hu (pe_fld (pv 1) rfl) (pv 3) (fun _ _ => rfl)))
    (pss_one (ps_dput hu (pv 2) (pv 3) (pe_ifExp (pt_cmp (pc_din hu (pv 3) (pv 2))) (pe_c c_pair_sum hr (by decide) rfl (pa_cons (pe_dget hu (pv 2) (pv 3) (fun _ _ => rfl)) (pa_cons (pv 4) pa_nil))) (pv 4)) rfl)))))
    (pss_cons (ps_expr (pe_c c_want_at_most hr (by decide) rfl (pa_cons pe_str (pa_cons (pe_gc rfl T.c_MOST_ENTRIES_blends) (pa_cons (pe_callB call_len_dT rfl T.n_len boot_len (pa_cons (pv 2) pa_nil)) pa_nil)))))
    (pss_one (ps_ret (pe_c c_blend_of hr (by decide) rfl (pa_cons (pe_fld (pv 0) rfl) (pa_cons (pv 2) pa_nil)))))))), ?_⟩
  obtain ⟨a, b, cs, P, R, rfl, ⟨p1, d1, t1, dx1, B1, tops1, rfl, f1⟩, ⟨p2, d2, t2, dx2, B2, tops2, rfl, f2⟩, lok, ok, fit, hs, k⟩ := h
  obtain ⟨k1, hd1, r1⟩ := f1.dic
  obtain ⟨k2, hd2, r2⟩ := f2.dic
  have r1 : Rows Y H k1 P := r1
  have r2 : Rows Y H k2 R := r2
  have l1 := Paired.length r1
  have l2 := Paired.length r2
  have few := ok.few
  rw [List.length_append] at few
  have ndx := ok.nd
  unfold keysP at ndx
  rw [List.map_append] at ndx
  obtain ⟨nd1, nd2, dis⟩ := List.nodup_append.mp ndx
  refine ⟨_, rfl, p1, _, dx1, _, _, rfl, f1.at_, T.B.cl, T.bA, rfl, d1, k1, rfl, .inl hd1, ?_, fun F hF => ?_⟩
  · rw [r1.keys, List.map_map]
    unfold keysP at hs
    rw [List.map_map] at hs
    exact hs
  have e1 : Ex H (upd H F (.dT k1)) := Ex.new hF
  have Fd : d2 ≠ F := ne_of_none hd2 hF
  have Fp : p2 ≠ F := ne_of_none f2.at_ hF
  have pd : p2 ≠ d2 := fun z => by have := f2.at_; rw [z, hd2] at this; cases this
  refine ⟨d2, .dT k2, e1 _ _ hd2, trivial, fun od => ?_⟩
  obtain ⟨HL, hHL⟩ : ∃ HL, HL = upd (upd H F (.dT k1)) d2 (.frz od (.dT k2)) := ⟨_, rfl⟩
  have gp2 : HL p2 = H p2 := by rw [hHL, upd_ne pd, upd_ne Fp]
  have gd2 : HL d2 = some (.frz od (.dT k2)) := by rw [hHL, upd_same]
  have gF : HL F = some (.dT k1) := by rw [hHL, upd_ne (Ne.symm Fd), upd_same]
  have sm : Sm H HL := by rw [hHL]; exact (exsm e1).trans (Sm.lock od (e1 _ _ hd2))
  rw [← hHL]
  refine ⟨_, rfl, p2, _, dx2, _, _, rfl, gp2.trans f2.at_, T.B.cl, T.bA, rfl, d2, od, rfl, .inr ⟨k2, gd2, ?_⟩⟩
  have wk := walk_keysT (d := d2) (o := od) (kvs := k2)
  refine for_it wk (fun i σ H' => (∀ b o, b ≠ F → HL b = some o → H' b = some o) ∧ (∃ kf, H' F = some (.dT kf) ∧ Rows Y H' kf (P ++ R.take i)) ∧ ∃ o1 o2, σ = [some (.ref p1), some (.ref p2), some (.ref F), o1, o2])
    ⟨fun _ _ _ q => q, ⟨k1, gF, by rw [List.take_zero, List.append_nil]; exact r1.mono sm⟩, none, none, rfl⟩ (fun i σ H' _ q => q.1 _ _ Fd gd2) ?_ ?_
  · rintro i x σ H' H2 hi ⟨e, ⟨kf, gF', rf⟩, o1, o2, rfl⟩ ⟨rfl, kx, vx, q, hk, rfl, hq⟩
    obtain ⟨t, ht, e1', rv⟩ := pr_getL r2 hk
    have e1' : kx = kk t.1 := e1'
    have mt := List.mem_of_getElem? ht
    obtain ⟨v2, kn, rv2⟩ := (rows_val (c := t.1) r2).1 t.2 (pget_some nd2 mt)
    have rv3 : RatV Y.CR HL v2 t.2 := rv2.mono sm
    have rv4 : RatV Y.CR H2 v2 t.2 := by
      obtain ⟨p, ep, dp, hp⟩ := rv3
      exact ⟨p, ep, dp, e p _ (fun z => by rw [z, gF] at hp; cases hp) hp⟩
    refine ⟨_, rfl, p2, _, dx2, _, _, rfl, e _ _ Fp (gp2.trans f2.at_), T.B.cl, T.bA, rfl, _, rfl, d2, v2, rfl, ?_, ?_⟩
    · have z := dget_rd (.inr ⟨od, e _ _ Fd gd2⟩) hq
      rw [e1', kn] at z
      exact z
    rw [e1'] at hq
    have fresh : t.1 ∉ keysP (P ++ R.take i) := by
      intro z
      unfold keysP at z
      rw [List.map_append] at z
      rcases List.mem_append.mp z with z | z
      · exact dis _ z _ (List.mem_map.mpr ⟨t, mt, rfl⟩) rfl
      · obtain ⟨u, hu1, hu2⟩ := List.mem_map.mp z
        obtain ⟨j, hj⟩ := List.mem_iff_getElem?.mp hu1
        have lj : j < i := by
          have := (List.getElem?_eq_some_iff.mp hj).1
          rw [List.length_take] at this
          omega
        rw [List.getElem?_take_of_lt lj] at hj
        have h1 : (R.map (·.1))[j]? = some t.1 := by rw [List.getElem?_map, hj, ← hu2]; rfl
        have h2 : (R.map (·.1))[i]? = some t.1 := by rw [List.getElem?_map, ht]; rfl
        have := (List.getElem?_inj (List.getElem?_eq_some_iff.mp h1).1 nd2).mp (h1.trans h2.symm)
        omega
    have vn : valV kf (kk t.1) = none := (rows_val rf).2 (pget_none fresh)
    have kl : kf.length < sizeLine := by
      have z := Paired.length rf
      rw [z, List.length_append]
      have := List.length_take_le' i R
      exact Nat.lt_of_le_of_lt (show P.length + (R.take i).length ≤ 64 by omega) (by decide)
    refine ⟨_, rfl, _, rfl, F, _, rfl, DGet.t gF' hq, _, rfl, ?_⟩
    rw [vn]
    refine iteF ⟨_, rfl, ?_⟩
    refine ⟨_, rfl, _, rfl, F, _, rfl, DPut.t gF' hq kl, fun b o n g => by rw [upd_ne n]; exact e b o n g, ⟨_, upd_same, ?_⟩, _, _, rfl⟩
    have r3 := rows_upd (o := .dT (putK kf (kk t.1) v2)) gF' dT_ins (rows_put (c := t.1) rf rv4)
    rw [pput_new fresh] at r3
    rw [take_next ht, ← List.append_assoc]
    exact r3
  · rintro σ H' ⟨e, ⟨kf, gF', rf⟩, o1, o2, rfl⟩
    rw [l2, List.take_length] at rf
    have g2 := e _ _ Fd gd2
    refine ⟨g2, ?_⟩
    have eU : Ex H (upd H' d2 (.dT k2)) := by
      intro b o q
      by_cases h2 : b = d2
      · rw [h2, hd2] at q
        cases q
        rw [h2, upd_same]
      · have bF : b ≠ F := fun z => by rw [z, hF] at q; cases q
        rw [upd_ne h2]
        refine e b o bF ?_
        rw [hHL, upd_ne h2, upd_ne bF]
        exact q
    have gF2 : (upd H' d2 (.dT k2)) F = some (.dT kf) := by rw [upd_ne (Ne.symm Fd)]; exact gF'
    have rf2 : Rows Y (upd H' d2 (.dT k2)) kf (P ++ R) := rows_upd g2 (fun _ _ _ z => by cases z) rf
    have lf := Paired.length rf2
    rw [List.length_append] at lf
    refine ⟨_, rfl, F, kf, rfl, gF2, _, _, _, rfl, by omega, ?_⟩
    refine ⟨_, rfl, p1, _, dx1, _, _, rfl, eU _ _ f1.at_, T.B.cl, T.bL, rfl, _, rfl, cs, F, kf, P ++ R, rfl, lok, gF2, rf2, ok, fit, fun v P' H3 e3 bv pm ri => ?_⟩
    exact k v P' H3 (eU.trans e3) bv pm ri

def sp_badd (Y : Yc) : Sp := fun vs H Q _ => ∃ a b cs P R, vs = [a, b] ∧ BlendV Y H a (SX.S cs) P ∧ BlendV Y H b (SX.S cs) R ∧ LsOk cs ∧ KeyOk cs.length (P ++ R) ∧ PFit (P ++ R) ∧ ((keysP P).map (hashY Y)).Nodup ∧ (P ≠ [] → R ≠ [] → degV P = degV R) ∧
  ∀ v P' H', Ex H H' → BlendV Y H' v (SX.S cs) P' → P'.Perm (P ++ R) → Rise P' → Q v H'

abbrev st_badd : Stmt := sub 55 7
theorem ok_badd {f : Addr} {fd : FuncData} (F : C8.Fun Y.K "__add__" "Blend.__add__" st_badd f fd) (T : TxtY Y) (c_blends_added : CalY Y 9 "blends_added" (sp_blends_added Y) []) (c_want_alike : CalY Y 1 "want_alike" (sp_want_alike Y) []) (c_want_blend : CalY Y 1 "want_blend" (sp_want_blend Y) []) : FnOk Y.P Y.w Y.K Y.mg Y.base C8.CX0 10 f fd ["self", "other"] (sp_badd Y) := by
  have S : FnScope ["self", "other"] ["self", "other"] (fnScope st_badd) := fnScope_by (by decide +kernel)
  have nd := S.nd
  refine fn0 F S (fun vs H Q E h => ?_) (fun cdv A outer s H vs Q E hr h => ?_)
  · obtain ⟨_, _, _, _, _, rfl, _⟩ := h; rfl
  refine ⟨_, (pss_cons (ps_expr (pe_c c_want_alike hr (by decide) rfl (pa_cons (pv 0) (pa_cons (pe_c c_want_blend hr (by decide) rfl (pa_cons (pv 1) pa_nil)) (pa_cons pe_bl pa_nil)))))
    (pss_one (ps_ret (pe_c c_blends_added hr (by decide) rfl (pa_cons (pv 0) (pa_cons (pv 1) pa_nil)))))), ?_⟩
  obtain ⟨a, b, cs, P, R, rfl, b1, b2, lok, ok, fit, hs, dg, k⟩ := h
  refine ⟨_, rfl, _, rfl, b, _, R, rfl, b2, a, b, _, P, R, rfl, b1, b2, dg, ?_⟩
  exact ⟨_, rfl, _, rfl, a, b, cs, P, R, rfl, b1, b2, lok, ok, fit, hs, k⟩

end Km
end

section
set_option Elab.async false
set_option linter.all false
set_option maxRecDepth 100000
namespace Km
open PySem PySem.Spec PyProof.Rows L2 Evl
open C8 (fn0 fnScope_by Cal Mak Met pe_c pe_mk pe_mt pe_mt0 pe_gc fnScope fnBody fnArgs)
variable {Y : Yc}
/-! ### a letter taken out once -/
def unitK (n i : Nat) : Ky := (List.range n).map fun j => if j = i then 1 else 0
def decAt : Nat → Ky → Ky
  | 0, c :: k => (c - 1) :: k
  | i + 1, c :: k => c :: decAt i k
  | _, [] => []
theorem dec_len : ∀ (i : Nat) (k : Ky), (decAt i k).length = k.length
  | 0, [] => rfl
  | 0, _ :: _ => rfl
  | _ + 1, [] => rfl
  | i + 1, c :: k => congrArg Nat.succ (dec_len i k)
theorem dec_get : ∀ (i : Nat) (k : Ky) (j : Nat), (decAt i k)[j]? = (k[j]?).map fun x => if j = i then x - 1 else x
  | 0, [], j => by simp [decAt]
  | 0, c :: k, 0 => by simp [decAt]
  | 0, c :: k, j + 1 => by simp [decAt]
  | i + 1, [], j => by simp [decAt]
  | i + 1, c :: k, 0 => by simp [decAt]
  | i + 1, c :: k, j + 1 => by
    show (decAt i k)[j]? = _
    rw [dec_get i k j]
    simp
theorem unit_get {n i j : Nat} (h : j < n) : (unitK n i)[j]? = some (if j = i then 1 else 0) := by
  unfold unitK
  rw [List.getElem?_map, List.getElem?_range h]
  rfl
theorem unit_len (n i : Nat) : (unitK n i).length = n := by unfold unitK; rw [List.length_map, List.length_range]
theorem kvs_at {c : Ky} {j n : Nat} (h : c[j]? = some n) : (kvs c)[j]? = some (.int (n : Int)) := by
  unfold kvs
  rw [List.getElem?_map, h]
  rfl
/-- the products of the letter i, one of it out -/
def outP (P : Poly) (i : Nat) : Poly := (P.filter fun t => decide (0 < t.1.getD i 0)).map fun t => (decAt i t.1, t.2 * (t.1.getD i 0 : Nat))


def sp_is_way_of (Y : Yc) : Sp := fun vs H Q _ => ∃ v cs P, ∃ w : Nat, vs = [v, .str (SX.S [w])] ∧ BlendV Y H v (SX.S cs) P ∧ w ∈ cs ∧ ∀ H', Ex H H' → Q (.bl true) H'

abbrev st_is_way_of : Stmt := top 70
theorem ok_is_way_of {f : Addr} {fd : FuncData} (F : C8.Fun Y.K "is_way_of" "is_way_of" st_is_way_of f fd) (T : TxtY Y)  : FnOk Y.P Y.w Y.K Y.mg Y.base C8.CX0 1 f fd ["blend", "value"] (sp_is_way_of Y) := by
  have S : FnScope ["blend", "value", "sign", "at"] ["blend", "value"] (fnScope st_is_way_of) := fnScope_by (by decide +kernel)
  have nd := S.nd
  refine fn0 F S (fun vs H Q E h => ?_) (fun cdv A outer s H vs Q E hr h => ?_)
  · obtain ⟨_, _, _, _, rfl, _⟩ := h; rfl
  refine ⟨_, (pss_cons (ps_if (PW.pt (pw_or (pt_not (pt_val (pe_callB call_isi rfl T.n_isinstance boot_isinstance (pa_cons (pv 1) (pa_cons (pe_bltn (v := .ty "str") rfl T.n_str boot_str rfl) pa_nil))))) (pw_or1 (pt_cmpR op_gt (pe_callB call_len rfl T.n_len boot_len (pa_cons (pv 1) pa_nil)) (pe_gc rfl T.c_MOST_WAY) (nomark _))))) (pss_one (ps_ret pe_bl)) pss_nil)
    (pss_cons (ps_if (pt_not (pt_val (pe_callB (cr_all rfl) rfl T.n_all boot_all (pa_cons (pe_lc (own := [("sign", 2)]) (g := gName 2) (tt := tYes) rfl nd (pi_str (pv 1)) (blkOk_by (N := ["blend", "value", "sign", "at"]) (sc := (fnScope st_is_way_of)) (by decide +kernel)) (fun _ _ _ _ _ => by exact (pg_name (i := 2) nd rfl (Or.inl rfl))) (fun _ _ _ _ _ => by exact pts_nil) (fun _ _ _ _ _ => by exact (pe_cmpR op_in_str (pv 2) (fldB Y.K (pv 0) rfl) (by with_unfolding_all rfl)))) pa_nil)))) (pss_one (ps_ret pe_bl)) pss_nil)
    (pss_one (ps_ret (pe_callB (cr_all rfl) rfl T.n_all boot_all (pa_cons (pe_lc (own := [("at", 3)]) (g := gName 3) (tt := tYes) rfl nd (pi_range1 rfl T.n_range (pa_cons (pe_op op_sub (pe_callB call_len rfl T.n_len boot_len (pa_cons (pv 1) pa_nil)) pe_int) pa_nil)) (blkOk_by (N := ["blend", "value", "sign", "at"]) (sc := (fnScope st_is_way_of)) (by decide +kernel)) (fun _ _ _ _ _ => by exact (pg_name (i := 3) nd rfl (Or.inl rfl))) (fun _ _ _ _ _ => by exact pts_nil) (fun _ _ _ _ _ => by exact (pe_cmpR op_le (pe_ix ix_str (pv 1) (pv 3) (fun _ _ => rfl)) (pe_ix ix_str (pv 1) (pe_op op_add (pv 3) pe_int) (fun _ _ => rfl)) (nomark _)))) pa_nil)))))), ?_⟩
  obtain ⟨v, cs, P, w, rfl, ⟨p, d, t, dx, B, tops, rfl, f⟩, hw, k⟩ := h
  refine ⟨_, rfl, _, _, _, _, true, rfl, .ty "str", .base (.str _), kit_ty (by decide +kernel), true, rfl, iteF ?_⟩
  refine ⟨_, rfl, _, _, rfl, ⟨l1, rfl⟩, _, _, rfl, rfl, _, rfl, iteDF (show ¬ (8 : Int) < ((1 : Nat) : Int) by decide) ?_⟩
  refine ⟨_, rfl, _, rfl, fun D hD => ?_⟩
  refine lc_map (us := [w]) (walk_str (z := SX.S [w])) (fun c y _ => y = .bl true) hD (show (1 : Nat) ≤ 100000 by decide) (fun _ _ => trivial) (fun _ _ _ _ _ h => h) (fun _ _ _ _ _ _ h => h) ?_ gn_mono ?_
  · rintro i c x H2 H3 Kq hc e _ ⟨rfl, c', hc', rfl⟩ hk
    have e1 : c' = c := Option.some.inj ((List.getElem?_toArray ▸ hc').symm.trans hc)
    subst e1
    have hcw : c' = w := List.mem_singleton.mp (List.mem_of_getElem? hc)
    refine ⟨rfl, _, rfl, _, rfl, p, _, dx, _, _, rfl, e _ _ f.at_, T.B.cl, T.bL, rfl, _, _, rfl, rfl, hk _ _ (Ex.refl _) ?_⟩
    have e2 : (⟨#[c']⟩ : Str) = SX.S [c'] := rfl
    rw [e2, SX.in_one, hcw]
    exact congrArg V.bl (decide_eq_true hw)
  · intro ys H2 e hd pr
    rw [bls_of (f := fun _ => true) pr] at hd
    refine ⟨D, _, rfl, sq_of hd, _, rfl, ?_⟩
    rw [all_id fun _ _ => rfl]
    refine iteF ?_
    refine ⟨_, rfl, _, _, rfl, ⟨l1, rfl⟩, _, _, rfl, rfl, _, rfl, (show -(2 ^ 62) ≤ ((1 : Nat) : Int) - 1 by decide), (show ((1 : Nat) : Int) - 1 < 2 ^ 62 by decide), fun D2 hD2 => ?_⟩
    refine lc_map (us := ([] : List Nat)) (walk_range (lo := 0) (n := 0)) (fun c y _ => y = .bl true) hD2 (by decide) (fun _ _ => trivial) (fun _ _ _ _ _ h => h) (fun _ _ _ _ _ _ h => h) ?_ gn_mono ?_
    · intro i c x H3 H4 Kq hc
      cases hc
    · intro ys2 H4 e4 hd4 pr4
      rw [bls_of (f := fun _ => true) pr4] at hd4
      refine ⟨D2, _, rfl, sq_of hd4, ?_⟩
      exact k _ (e.trans e4)

def sp_want_way (Y : Yc) : Sp := fun vs H Q _ => ∃ v cs P, ∃ w : Nat, vs = [v, .str (SX.S [w])] ∧ BlendV Y H v (SX.S cs) P ∧ w ∈ cs ∧ ∀ H', Ex H H' → Q .non H'

abbrev st_want_way : Stmt := top 71
theorem ok_want_way {f : Addr} {fd : FuncData} (F : C8.Fun Y.K "want_way" "want_way" st_want_way f fd) (T : TxtY Y) (c_is_way_of : CalY Y 1 "is_way_of" (sp_is_way_of Y) []) : FnOk Y.P Y.w Y.K Y.mg Y.base C8.CX0 2 f fd ["blend", "value"] (sp_want_way Y) := by
  have S : FnScope ["blend", "value"] ["blend", "value"] (fnScope st_want_way) := fnScope_by (by decide +kernel)
  have nd := S.nd
  refine fn0 F S (fun vs H Q E h => ?_) (fun cdv A outer s H vs Q E hr h => ?_)
  · obtain ⟨_, _, _, _, rfl, _⟩ := h; rfl
  refine ⟨_, (pss_one (ps_if (pt_not (pt_val (pe_c c_is_way_of hr (by decide) rfl (pa_cons (pv 0) (pa_cons (pv 1) pa_nil))))) (pss_one ps_never) pss_nil)), ?_⟩
  obtain ⟨v, cs, P, w, rfl, b, hw, k⟩ := h
  refine ⟨_, rfl, _, rfl, v, cs, P, w, rfl, b, hw, fun H' e => ⟨_, rfl, iteF (k _ e)⟩⟩

theorem count_one (w c : Nat) : Txt.count (SX.S [w]) (SX.S [c]) = if w = c then 1 else 0 := by
  have s0 : Builtin.Str.subAt (SX.S [w]) (SX.S [c]) 0 = decide (w = c) := by
    rw [StrLaws.subAt_eq]
    show ([w] == [c]) = decide (w = c)
    by_cases h : w = c <;> simp [h]
  have s1 : Builtin.Str.subAt (SX.S [w]) (SX.S [c]) 1 = false := by
    rw [StrLaws.subAt_eq]
    rfl
  unfold Txt.count Builtin.Str.occurrences
  show (((Id.run _ : List Nat).length : Nat) : Int) = _
  have l0 : (SX.S [w]).length = 1 := rfl
  have l1 : (SX.S [c]).length = 1 := rfl
  rw [l0, l1]
  simp only [Std.Legacy.Range.forIn_eq_forIn_range', Std.Legacy.Range.size]
  simp [List.range', s0, s1]
  by_cases h : w = c <;> simp [h]
def sp_counts_of (Y : Yc) : Sp := fun vs H Q _ => ∃ v cs P, ∃ (i w : Nat), vs = [v, .str (SX.S [w])] ∧ BlendV Y H v (SX.S cs) P ∧ LsOk cs ∧ cs[i]? = some w ∧ ∀ l H', Ex H H' → H' l = some (.lst (kvs (unitK cs.length i))) → Q (.ref l) H'

abbrev st_counts_of : Stmt := top 72
theorem ok_counts_of {f : Addr} {fd : FuncData} (F : C8.Fun Y.K "counts_of" "counts_of" st_counts_of f fd) (T : TxtY Y)  : FnOk Y.P Y.w Y.K Y.mg Y.base C8.CX0 1 f fd ["blend", "way"] (sp_counts_of Y) := by
  have S : FnScope ["blend", "way", "letter"] ["blend", "way"] (fnScope st_counts_of) := fnScope_by (by decide +kernel)
  have nd := S.nd
  refine fn0 F S (fun vs H Q E h => ?_) (fun cdv A outer s H vs Q E hr h => ?_)
  · obtain ⟨_, _, _, _, _, rfl, _⟩ := h; rfl
  refine ⟨_, (pss_one (ps_ret (pe_lc (own := [("letter", 2)]) (g := gName 2) (tt := tYes) rfl nd (pi_str (pe_fld (pv 0) rfl)) (blkOk_by (N := ["blend", "way", "letter"]) (sc := (fnScope st_counts_of)) (by decide +kernel)) (fun _ _ _ _ _ => by exact (pg_name (i := 2) nd rfl (Or.inl rfl))) (fun _ _ _ _ _ => by exact pts_nil) (fun _ _ _ _ _ => by exact (pe_m1 PySem.F.slot_str_count PySem.F.type_str_count mt_count (pv 1) (pv 2)))))), ?_⟩
  obtain ⟨v, cs, P, i, w, rfl, ⟨p, d, t, dx, B, tops, rfl, f⟩, lok, hi, k⟩ := h
  have le := lok.le
  refine ⟨_, rfl, p, _, dx, _, _, rfl, f.at_, T.B.cl, T.bL, rfl, _, rfl, fun D hD => ?_⟩
  refine lc_map (us := cs) (walk_str (z := SX.S cs)) (fun c y _ => y = .int (if w = c then 1 else 0)) hD (by omega) (fun _ _ => trivial) (fun _ _ _ _ _ h => h) (fun _ _ _ _ _ _ h => h) ?_ gn_mono ?_
  · rintro j c x H2 H3 Kq hc e _ ⟨rfl, c', hc', rfl⟩ hk
    have e1 : c' = c := Option.some.inj ((List.getElem?_toArray ▸ hc').symm.trans hc)
    subst e1
    refine ⟨rfl, _, rfl, ⟨_, rfl⟩, _, rfl, _, _, rfl, rfl, hk _ _ (Ex.refl _) ?_⟩
    have e2 : (⟨#[c']⟩ : Str) = SX.S [c'] := rfl
    rw [e2, count_one]
  · intro ys H2 e hd pr
    have ey := pr_eq (f := fun c => V.int (if w = c then 1 else 0)) pr fun _ _ h => h
    have e3 : (cs.map fun c => V.int (if w = c then 1 else 0)) = kvs (unitK cs.length i) := by
      apply List.ext_getElem?
      intro j
      by_cases hj : j < cs.length
      · obtain ⟨c, hc⟩ := get_lt hj
        rw [List.getElem?_map, hc, kvs_at (unit_get hj)]
        by_cases q : j = i
        · rw [if_pos q]
          have : w = c := Option.some.inj (hi.symm.trans (q ▸ hc))
          show some (V.int (if w = c then 1 else 0)) = _
          rw [if_pos this]
          rfl
        · rw [if_neg q]
          have : ¬ w = c := fun z => q (ls_inj lok (z ▸ hc) hi)
          show some (V.int (if w = c then 1 else 0)) = _
          rw [if_neg this]
          rfl
      · rw [List.getElem?_eq_none (by rw [List.length_map]; omega), List.getElem?_eq_none (by rw [kvs_len, unit_len]; omega)]
    rw [ey, e3] at hd
    exact k _ _ e hd

def sp_holds (Y : Yc) : Sp := fun vs H Q _ => ∃ (q l : Addr) (c m : Ky), vs = [.ref q, .ref l] ∧ H q = some (.tup (kvs c)) ∧ H l = some (.lst (kvs m)) ∧ c.length = m.length ∧ c.length ≤ 1000 ∧ ∀ H', Ex H H' → Q (.bl ((c.zip m).all fun u => decide (u.2 ≤ u.1))) H'

abbrev st_holds : Stmt := top 73
theorem ok_holds {f : Addr} {fd : FuncData} (F : C8.Fun Y.K "holds" "holds" st_holds f fd) (T : TxtY Y)  : FnOk Y.P Y.w Y.K Y.mg Y.base C8.CX0 1 f fd ["counts", "many"] (sp_holds Y) := by
  have S : FnScope ["counts", "many", "has", "out"] ["counts", "many"] (fnScope st_holds) := fnScope_by (by decide +kernel)
  have nd := S.nd
  refine fn0 F S (fun vs H Q E h => ?_) (fun cdv A outer s H vs Q E hr h => ?_)
  · obtain ⟨_, _, _, _, rfl, _⟩ := h; rfl
  refine ⟨_, (pss_one (ps_ret (pe_callB (cr_all rfl) rfl T.n_all boot_all (pa_cons (pe_lc (own := [("has", 2), ("out", 3)]) (tt := tYes) rfl nd (pi_zipM rfl T.n_zip (pa_cons (pv 0) (pa_cons (pv 1) pa_nil))) (blkOk_by (N := ["counts", "many", "has", "out"]) (sc := (fnScope st_holds)) (by decide +kernel)) (fun _ _ _ _ _ => by exact (pgtB (n := 2) Y.K rfl (pgs_cons (pg_name (i := 2) nd rfl (Or.inl rfl)) (pgs_cons (pg_name (i := 3) nd rfl (Or.inl rfl)) pgs_nil)))) (fun _ _ _ _ _ => by exact pts_nil) (fun _ _ _ _ _ => by exact (pe_cmpR op_ge (pv 2) (pv 3) (nomark _)))) pa_nil)))), ?_⟩
  obtain ⟨q, l, c, m, rfl, hq, hl, lm, sz, k⟩ := h
  refine ⟨_, rfl, _, rfl, .tup q, .lst l, kvs c, kvs m, rfl, st_of hq, sq_of hl, fun D hD => ?_⟩
  have wz := walk_zipS (K := Y.K) (S1 := .tup q) (S2 := .lst l) (xs := kvs c) (ys := kvs m) (by rw [kvs_len, kvs_len, lm])
  have zl : (kvs c).length = (c.zip m).length := by rw [kvs_len, List.length_zip, ← lm, Nat.min_self]
  rw [zl] at wz
  refine lc_map (us := c.zip m) wz (fun u y _ => y = .bl (decide (u.2 ≤ u.1))) hD (by rw [List.length_zip]; omega) (fun H2 e => ⟨src_mono e (show Src.C Y.K H (kvs c) (.tup q) from st_of hq), src_mono e (show Src.C Y.K H (kvs m) (.lst l) from sq_of hl)⟩) (fun _ _ _ _ _ h => h) (fun _ _ _ _ _ _ h => h) ?_ gt2_mono ?_
  · rintro j u x H2 H3 Kq hu e _ ⟨T0, x1, x2, rfl, hT, rfl, g1, g2⟩ hk
    obtain ⟨n1, hn1, rfl⟩ := kvs_get g1
    obtain ⟨n2, hn2, rfl⟩ := kvs_get g2
    have hu' := List.getElem?_zip_eq_some.mp hu
    have e1 : n1 = u.1 := Option.some.inj (hn1.symm.trans hu'.1)
    have e2 : n2 = u.2 := Option.some.inj (hn2.symm.trans hu'.2)
    subst e1 e2
    refine gt2 (st_of upd_same) ⟨rfl, _, rfl, _, rfl, _, _, rfl, rfl, hk _ _ (Ex.new hT) ?_⟩
    exact congrArg V.bl (decide_eq_decide.mpr (by omega))
  · intro ys H2 e hd pr
    rw [bls_of (f := fun u : Nat × Nat => decide (u.2 ≤ u.1)) pr] at hd
    refine ⟨D, _, rfl, sq_of hd, ?_⟩
    refine cv (congrArg V.bl ?_) (k _ e)
    rw [List.all_map]
    rfl

def sp_falling (Y : Yc) : Sp := fun vs H Q _ => ∃ (a b : Nat), vs = [.int (a : Int), .int (b : Int)] ∧ b ≤ 1 ∧ a < 64 ∧ Q (.int ((if b = 0 then 1 else a : Nat) : Int)) H
theorem cmul_small {a b : Int} (h1 : a.natAbs < 2 ^ 4000) (h2 : b.natAbs < 2 ^ 4000) : CMulW a b := cm h1 h2
theorem lt_p {n : Nat} (h : n < 1000) : n < 2 ^ 4000 := Nat.lt_of_lt_of_le h (Nat.le_trans (by decide : (1000 : Nat) ≤ 2 ^ 10) (Nat.pow_le_pow_right (by decide) (by decide)))

abbrev st_falling : Stmt := top 74
theorem ok_falling {f : Addr} {fd : FuncData} (F : C8.Fun Y.K "falling" "falling" st_falling f fd) (T : TxtY Y)  : FnOk Y.P Y.w Y.K Y.mg Y.base C8.CX0 1 f fd ["has", "out"] (sp_falling Y) := by
  have S : FnScope ["has", "out", "found", "turn"] ["has", "out"] (fnScope st_falling) := fnScope_by (by decide +kernel)
  have nd := S.nd
  refine fn0 F S (fun vs H Q E h => ?_) (fun cdv A outer s H vs Q E hr h => ?_)
  · obtain ⟨_, _, rfl, _⟩ := h; rfl
  refine ⟨_, (pss_cons (ps_set (i := 2) nd rfl (Or.inl rfl) pe_int)
    (pss_cons (ps_for PassesOwn.never rfl (pi_range1 rfl T.n_range (pa_cons (pv 1) pa_nil)) (pg_name (i := 3) nd rfl (Or.inl rfl))
    (pss_one (ps_set (i := 2) nd rfl (Or.inl rfl) (pe_op op_mulW (pv 2) (pe_op op_sub (pv 0) (pv 3))))))
    (pss_one (ps_ret (pv 2))))), ?_⟩
  obtain ⟨a, b, rfl, hb, ha, k⟩ := h
  refine ⟨_, rfl, _, rfl, by omega, by omega, ?_⟩
  refine for_it (walk_range (lo := 0) (n := ((b : Int)).toNat)) (fun i σ H' => H' = H ∧ ∃ o, σ = [some (.int (a : Int)), some (.int (b : Int)), some (.int ((if i = 0 then 1 else a : Nat) : Int)), o]) ⟨rfl, _, rfl⟩ (fun _ _ _ _ _ => trivial) ?_ ?_
  · rintro i x σ H' H2 hi ⟨rfl, o, rfl⟩ ⟨rfl, rfl⟩
    have hi0 : i = 0 := by omega
    subst hi0
    refine ⟨_, rfl, _, rfl, _, rfl, _, _, rfl, rfl, _, _, rfl, rfl, cm ?_ ?_, ⟨rfl, some (.int (0 + ((0 : Nat) : Int))), ?_⟩⟩
    · show (1 : Int).natAbs < _
      exact lt_p (by decide)
    · show ((a : Int) - (0 + ((0 : Nat) : Int))).natAbs < _
      exact lt_p (by omega)
    · show [some (V.int (a : Int)), some (V.int (b : Int)), some (V.int ((((if 0 = 0 then 1 else a : Nat)) : Int) * ((a : Int) - (0 + ((0 : Nat) : Int))))), some (V.int (0 + ((0 : Nat) : Int)))] = _
      rw [if_pos rfl, if_neg (by decide)]
      have : ((1 : Nat) : Int) * ((a : Int) - (0 + ((0 : Nat) : Int))) = (a : Int) := by omega
      rw [this]
  · rintro σ H' ⟨rfl, o, rfl⟩
    refine ⟨_, rfl, ?_⟩
    rw [Int.toNat_natCast]
    exact k

theorem out_app (P R : Poly) (i : Nat) : outP (P ++ R) i = outP P i ++ outP R i := by
  unfold outP
  rw [List.filter_append, List.map_append]
theorem out_one {t : Ky × Rat} {i : Nat} (h : 0 < t.1.getD i 0) : outP [t] i = [(decAt i t.1, t.2 * (t.1.getD i 0 : Nat))] := by
  unfold outP
  rw [List.filter_cons, if_pos (decide_eq_true h)]
  rfl
theorem out_no {t : Ky × Rat} {i : Nat} (h : ¬ 0 < t.1.getD i 0) : outP [t] i = [] := by
  unfold outP
  rw [List.filter_cons, if_neg (by simpa using h)]
  rfl
theorem dec_small {i : Nat} {c : Ky} (h : Small c) : Small (decAt i c) := by
  intro n hn
  obtain ⟨j, hj⟩ := List.mem_iff_getElem?.mp hn
  rw [dec_get] at hj
  cases e : c[j]? with
  | none => rw [e] at hj; cases hj
  | some x =>
    rw [e] at hj
    have hx := h x (List.mem_of_getElem? e)
    have e2 : (if j = i then x - 1 else x) = n := Option.some.inj hj
    split at e2 <;> omega
theorem keyok_out {n i : Nat} {P : Poly} (ok : KeyOk n P) (nd : (keysP (outP P i)).Nodup) : KeyOk n (outP P i) := by
  refine ⟨nd, fun t ht => ?_, fun t ht => ?_, ?_, ok.pos⟩
  · obtain ⟨u, hu, rfl⟩ := List.mem_map.mp ht
    rw [dec_len]
    exact ok.len u (List.mem_filter.mp hu).1
  · obtain ⟨u, hu, rfl⟩ := List.mem_map.mp ht
    exact dec_small (ok.small u (List.mem_filter.mp hu).1)
  · unfold outP
    rw [List.length_map]
    exact Nat.lt_of_le_of_lt (List.length_filter_le _ _) ok.few
theorem holds_unit {c : Ky} {n i : Nat} (hl : c.length = n) (hi : i < n) : ((c.zip (unitK n i)).all fun u => decide (u.2 ≤ u.1)) = decide (0 < c.getD i 0) := by
  rw [Bool.eq_iff_iff, List.all_eq_true, decide_eq_true_eq]
  constructor
  · intro h
    obtain ⟨x, hx⟩ := get_lt (l := c) (i := i) (by omega)
    have z := h (x, 1) (List.mem_of_getElem? (i := i) (List.getElem?_zip_eq_some.mpr ⟨hx, by rw [unit_get hi, if_pos rfl]⟩))
    have z := of_decide_eq_true z
    rw [List.getD_eq_getElem?_getD, hx]
    exact z
  · intro h u hu
    obtain ⟨j, hj⟩ := List.mem_iff_getElem?.mp hu
    obtain ⟨h1, h2⟩ := List.getElem?_zip_eq_some.mp hj
    have lj : j < n := by rw [← hl]; exact (List.getElem?_eq_some_iff.mp h1).1
    rw [unit_get lj] at h2
    refine decide_eq_true ?_
    by_cases q : j = i
    · rw [if_pos q] at h2
      rw [← Option.some.inj h2]
      rw [List.getD_eq_getElem?_getD, ← q, h1] at h
      exact h
    · rw [if_neg q] at h2
      rw [← Option.some.inj h2]
      exact Nat.zero_le _
theorem sz_nat {n : Nat} (h : n < 1000) : Sz ((n : Nat) : Rat) := ⟨by rw [Rat.num_natCast, Int.natAbs_natCast]; exact lt_p h, by rw [Rat.den_natCast]; exact lt_p (by decide)⟩
theorem zip_map2 {us : List (Nat × Nat)} {ys : List V} {c : Ky} (h : Paired (fun (y : V) (u : Nat × Nat) => y = V.int ((u.1 : Int) - (u.2 : Int))) ys us) (hc : c.length = us.length) (e : ∀ (j : Nat) (u : Nat × Nat) (n : Nat), us[j]? = some u → c[j]? = some n → (u.1 : Int) - (u.2 : Int) = (n : Int)) : ys = kvs c := by
  have l := Paired.length h
  apply List.ext_getElem?
  intro j
  by_cases hj : j < ys.length
  · obtain ⟨y, hy⟩ := get_lt hj
    obtain ⟨u, hu, rfl⟩ := pr_getL h hy
    obtain ⟨n, hn⟩ := get_lt (l := c) (i := j) (by omega)
    rw [hy, kvs_at hn, e j u n hu hn]
  · rw [List.getElem?_eq_none (by omega), List.getElem?_eq_none (by rw [kvs_len]; omega)]
def sp_left_by (Y : Yc) : Sp := fun vs H Q _ => ∃ v cs P, ∃ (i w : Nat), vs = [v, .str (SX.S [w])] ∧ BlendV Y H v (SX.S cs) P ∧ LsOk cs ∧ cs[i]? = some w ∧ KeyOk cs.length P ∧ (∀ t ∈ P, Sz t.2) ∧ PFit (outP P i) ∧
  ∀ v' P' H', Ex H H' → BlendV Y H' v' (SX.S cs) P' → P'.Perm (outP P i) → Rise P' → Q v' H'

abbrev st_left_by : Stmt := top 75
theorem ok_left_by {f : Addr} {fd : FuncData} (F : C8.Fun Y.K "left_by" "left_by" st_left_by f fd) (T : TxtY Y) (c_blend_of : CalY Y 8 "blend_of" (sp_blend_of Y) []) (c_counts_of : CalY Y 1 "counts_of" (sp_counts_of Y) []) (c_falling : CalY Y 1 "falling" (sp_falling Y) []) (c_holds : CalY Y 1 "holds" (sp_holds Y) []) (o_rmul : OpnY Y 4 Y.CR "mul" (sp_rmul Y)) : FnOk Y.P Y.w Y.K Y.mg Y.base C8.CX0 9 f fd ["blend", "way"] (sp_left_by Y) := by
  have S : FnScope ["blend", "way", "many", "found", "counts", "factor", "has", "out"] ["blend", "way"] (fnScope st_left_by) := fnScope_by (by decide +kernel)
  have nd := S.nd
  refine fn0 F S (fun vs H Q E h => ?_) (fun cdv A outer s H vs Q E hr h => ?_)
  · obtain ⟨_, _, _, _, _, rfl, _⟩ := h; rfl
  have hu := hu_of hr
  refine ⟨_, (pss_cons (ps_par (i := 2) (j := 3) rfl nd rfl rfl (by decide) rfl rfl (pa_cons (pe_c c_counts_of hr (by decide) rfl (pa_cons (pv 0) (pa_cons (pv 1) pa_nil))) (pa_cons pe_dnewT pa_nil)) (by rfl))
    (pss_cons (ps_lock (ps_for PassesOwn.never rfl (pi_keys (pe_fld (pv 0) rfl)) (pg_name (i := 4) nd rfl (Or.inl rfl))
    (pss_one (ps_if (pt_val (pe_c c_holds hr (by decide) rfl (pa_cons (pv 4) (pa_cons (pv 2) pa_nil)))) (pss_cons (ps_set (i := 5) nd rfl (Or.inl rfl) pe_int)
    (pss_cons (ps_for PassesOwn.never rfl (pi_zipM rfl T.n_zip (pa_cons (pv 4) (pa_cons (pv 2) pa_nil))) (pg_tup rfl (pgs_cons (pg_name (i := 6) nd rfl (Or.inl rfl)) (pgs_cons (pg_name (i := 7) nd rfl (Or.inl rfl)) pgs_nil)))
    (pss_one (ps_set (i := 5) nd rfl (Or.inl rfl) (pe_op op_mulW (pv 5) (pe_c c_falling hr (by decide) rfl (pa_cons (pv 6) (pa_cons (pv 7) pa_nil)))))))
    (pss_one (ps_dput hu (pv 3) (pe_callTy call_tuple_of rfl T.n_tuple boot_tuple (pa_cons (pe_lc (own := [("has", 6), ("out", 7)]) (tt := tYes) rfl nd (pi_zipM rfl T.n_zip (pa_cons (pv 4) (pa_cons (pv 2) pa_nil))) (blkOk_by (N := ["blend", "way", "many", "found", "counts", "factor", "has", "out"]) (sc := (fnScope st_left_by)) (by decide +kernel)) (fun _ _ _ _ _ => by exact (pgtB (n := 2) Y.K rfl (pgs_cons (pg_name (i := 6) nd rfl (Or.inl rfl)) (pgs_cons (pg_name (i := 7) nd rfl (Or.inl rfl)) pgs_nil)))) (fun _ _ _ _ _ => by exact pts_nil) (fun _ _ _ _ _ => by exact (pe_op op_sub (pv 6) (pv 7)))) pa_nil)) (pe_op (Opn.r (op := .Mult) o_rmul hr (by decide)) (pe_dget hu (pe_fld (pv 0) rfl) (pv 4) (fun _ _ => rfl)) (pv 5)) rfl)))) pss_nil))))
    (pss_one (ps_ret (pe_c c_blend_of hr (by decide) rfl (pa_cons (pe_fld (pv 0) rfl) (pa_cons (pv 3) pa_nil))))))), ?_⟩
  obtain ⟨v, cs, P, i, w, rfl, bv, lok, hi, ok, szs, fit, k⟩ := h
  obtain ⟨p, d, t, dx, B, tops, rfl, f⟩ := id bv
  obtain ⟨ks, hd, rows⟩ := f.dic
  have rows : Rows Y H ks P := rows
  have lk := Paired.length rows
  have few := ok.few
  have le := lok.le
  have hin : i < cs.length := (List.getElem?_eq_some_iff.mp hi).1
  refine ⟨_, rfl, _, rfl, _, cs, P, i, w, rfl, bv, lok, hi, fun l H1 e1 gl F hF => ⟨_, _, rfl, ?_⟩⟩
  have e2 : Ex H (upd H1 F (.dT [])) := e1.trans (Ex.new hF)
  have hF0 : H F = none := fresh_back e1 hF
  have Fd : d ≠ F := ne_of_none hd hF0
  have Fp : p ≠ F := ne_of_none f.at_ hF0
  have Fl : l ≠ F := ne_of_none gl hF
  have pd : p ≠ d := fun z => by have := f.at_; rw [z, hd] at this; cases this
  refine ⟨d, .dT ks, e2 _ _ hd, trivial, fun od => ?_⟩
  obtain ⟨HL, hHL⟩ : ∃ HL, HL = upd (upd H1 F (.dT [])) d (.frz od (.dT ks)) := ⟨_, rfl⟩
  have gd : HL d = some (.frz od (.dT ks)) := by rw [hHL, upd_same]
  have gp0 : HL p = H1 p := by rw [hHL, upd_ne pd, upd_ne Fp]
  have gp := gp0.trans (e1 _ _ f.at_)
  have ld : l ≠ d := fun z => by rw [z, e1 _ _ hd] at gl; cases gl
  have gll : HL l = some (.lst (kvs (unitK cs.length i))) := by rw [hHL, upd_ne ld, upd_ne Fl]; exact gl
  have gF : HL F = some (.dT []) := by rw [hHL, upd_ne (Ne.symm Fd), upd_same]
  have sm : Sm H HL := by rw [hHL]; exact (exsm e2).trans (Sm.lock od (e2 _ _ hd))
  rw [← hHL]
  refine ⟨_, rfl, p, _, dx, _, _, rfl, gp, T.B.cl, T.bA, rfl, d, od, rfl, .inr ⟨ks, gd, ?_⟩⟩
  refine for_it (walk_keysT (d := d) (o := od) (kvs := ks)) (fun j σ H' => ExB F HL H' ∧ (∃ kf, H' F = some (.dT kf) ∧ Rows Y H' kf (outP (P.take j) i)) ∧ ∃ o1 o2 o3 o4, σ = [some (.ref p), some (.str (SX.S [w])), some (.ref l), some (.ref F), o1, o2, o3, o4])
    ⟨fun _ _ _ q => q, ⟨[], gF, .nil⟩, _, _, _, _, rfl⟩ (fun j σ H' _ q => q.1 _ _ Fd gd) ?_ ?_
  · rintro j x σ H' H2 hj ⟨e, ⟨kf, gF', rf⟩, o1, o2, o3, o4, rfl⟩ ⟨rfl, kx, vx, q, hk, rfl, hq⟩
    obtain ⟨t, ht, e1', _⟩ := pr_getL rows hk
    have e1' : kx = kk t.1 := e1'
    have mt := List.mem_of_getElem? ht
    have lt1 := ok.len t mt
    rw [e1'] at hq
    have hq2 := hq
    rw [kk_kV] at hq2
    obtain ⟨v2, kn, rv2⟩ := (rows_val (c := t.1) rows).1 t.2 (pget_some ok.nd mt)
    have rv3 : RatV Y.CR H2 v2 t.2 := by
      obtain ⟨a, ea, da, ha⟩ := rv2.mono sm
      exact ⟨a, ea, da, e a _ (fun z => by rw [z, gF] at ha; cases ha) ha⟩
    have glj := e _ _ Fl gll
    refine ⟨_, rfl, _, rfl, q, l, t.1, unitK cs.length i, rfl, hq2, glj, by rw [unit_len, lt1], by omega, fun H3 e3 => ⟨_, rfl, ?_⟩⟩
    rw [holds_unit lt1 hin]
    have tk : P.take (j + 1) = P.take j ++ [t] := take_next ht
    by_cases hpos : 0 < t.1.getD i 0
    · rw [decide_eq_true hpos]
      refine iteT ?_
      have wz := walk_zipS (K := Y.K) (S1 := .tup q) (S2 := .lst l) (xs := kvs t.1) (ys := kvs (unitK cs.length i)) (by rw [kvs_len, kvs_len, unit_len, lt1])
      have zl : (kvs t.1).length = (t.1.zip (unitK cs.length i)).length := by rw [kvs_len, List.length_zip, unit_len, ← lt1, Nat.min_self]
      rw [zl] at wz
      have zl2 : (t.1.zip (unitK cs.length i)).length = cs.length := by rw [← zl, kvs_len, lt1]
      refine ⟨_, rfl, _, rfl, .tup q, .lst l, kvs t.1, kvs (unitK cs.length i), rfl, st_of (e3 _ _ hq2), sq_of (e3 _ _ glj), ?_⟩
      refine for_it wz (fun jj σ H' => Ex H3 H' ∧ ∃ o5 o6, σ = [some (.ref p), some (.str (SX.S [w])), some (.ref l), some (.ref F), some (.ref q), some (.int ((if i < jj then t.1.getD i 0 else 1 : Nat) : Int)), o5, o6])
        ⟨Ex.refl _, _, _, rfl⟩ (fun jj σ H' _ z => ⟨src_mono z.1 (show Src.C Y.K H3 (kvs t.1) (.tup q) from st_of (e3 _ _ hq2)), src_mono z.1 (show Src.C Y.K H3 _ (.lst l) from sq_of (e3 _ _ glj))⟩) ?_ ?_
      · rintro jj x σ H' H4 hjj ⟨ee, o5, o6, rfl⟩ ⟨T0, x1, x2, rfl, hT, rfl, g1, g2⟩
        rw [zl2] at hjj
        obtain ⟨n1, hn1, rfl⟩ := kvs_get g1
        obtain ⟨n2, hn2, rfl⟩ := kvs_get g2
        rw [unit_get hjj] at hn2
        have hn1s := ok.small t mt n1 (List.mem_of_getElem? hn1)
        have n2le : n2 ≤ 1 := by
          have := Option.some.inj hn2
          split at this <;> omega
        have gis : t.1.getD i 0 < 64 := by
          rw [List.getD_eq_getElem?_getD]
          cases q2 : t.1[i]? with
          | none => decide
          | some x => exact ok.small t mt x (List.mem_of_getElem? q2)
        refine gt2 (st_of upd_same) ?_
        refine ⟨_, rfl, _, rfl, _, rfl, n1, n2, rfl, n2le, hn1s, _, _, rfl, rfl, cm ?_ ?_, ⟨ee.trans (Ex.new hT), some (.int (n1 : Int)), some (.int (n2 : Int)), ?_⟩⟩
        · rw [Int.natAbs_natCast]
          exact lt_p (by split <;> omega)
        · rw [Int.natAbs_natCast]
          exact lt_p (by split <;> omega)
        · have ev : ((if i < jj then t.1.getD i 0 else 1 : Nat) : Int) * ((if n2 = 0 then 1 else n1 : Nat) : Int) = ((if i < jj + 1 then t.1.getD i 0 else 1 : Nat) : Int) := by
            have hh := Option.some.inj hn2
            by_cases q1 : jj = i
            · rw [if_pos q1] at hh
              have e7 : t.1.getD i 0 = n1 := by rw [List.getD_eq_getElem?_getD, ← q1, hn1]; rfl
              rw [if_neg (show ¬ i < jj by omega), if_neg (show ¬ n2 = 0 by omega), if_pos (show i < jj + 1 by omega), e7]
              omega
            · rw [if_neg q1] at hh
              rw [if_pos hh.symm]
              by_cases q2 : i < jj
              · rw [if_pos q2, if_pos (show i < jj + 1 by omega)]
                omega
              · rw [if_neg q2, if_neg (show ¬ i < jj + 1 by omega)]
                rfl
          show [some (V.ref p), _, _, _, _, some (V.int (((if i < jj then t.1.getD i 0 else 1 : Nat) : Int) * ((if n2 = 0 then 1 else n1 : Nat) : Int))), _, _] = _
          rw [ev]
      · rintro σ H' ⟨ee, o5, o6, rfl⟩
        rw [zl2, if_pos hin]
        have e3e := e3.trans ee
        have gis : t.1.getD i 0 < 64 := by
          rw [List.getD_eq_getElem?_getD]
          cases q2 : t.1[i]? with
          | none => decide
          | some x => exact ok.small t mt x (List.mem_of_getElem? q2)
        have gD : DGet H' d (.ref q) (some v2) := by
          have z := dget_rd (.inr ⟨od, e3e _ _ (e _ _ Fd gd)⟩) (e3e _ _ hq)
          rw [kn] at z
          exact z
        obtain ⟨a2, rfl, da2, ha2⟩ := rv3
        refine ⟨_, rfl, p, _, dx, _, _, rfl, e3e _ _ (e _ _ Fp gp), T.B.cl, T.bA, rfl, _, rfl, d, _, rfl, gD, _, rfl, ?_⟩
        refine ⟨a2, da2, _, rfl, e3e _ _ ha2, .inr ⟨_, rfl⟩, _, _, t.2, ((t.1.getD i 0 : Nat) : Rat), rfl, ⟨a2, rfl, da2, e3e _ _ ha2⟩, .inl ⟨_, rfl, rfl⟩, szs t mt, sz_nat (by omega), fun v4 H5 e5 rv4 => ?_⟩
        have e35 := e3e.trans e5
        refine ⟨_, rfl, _, rfl, _, rfl, .tup q, .lst l, kvs t.1, kvs (unitK cs.length i), rfl, st_of (e35 _ _ hq2), sq_of (e35 _ _ glj), fun D hD => ?_⟩
        refine lc_map (us := t.1.zip (unitK cs.length i)) wz (fun u y _ => y = .int ((u.1 : Int) - (u.2 : Int))) hD (by omega) (fun H6 z => ⟨src_mono z (show Src.C Y.K H5 (kvs t.1) (.tup q) from st_of (e35 _ _ hq2)), src_mono z (show Src.C Y.K H5 _ (.lst l) from sq_of (e35 _ _ glj))⟩) (fun _ _ _ _ _ h => h) (fun _ _ _ _ _ _ h => h) ?_ gt2_mono ?_
        · rintro jj u x H6 H7 Kq hu ez _ ⟨T0, x1, x2, rfl, hT, rfl, g1, g2⟩ hk4
          obtain ⟨n1, hn1, rfl⟩ := kvs_get g1
          obtain ⟨n2, hn2, rfl⟩ := kvs_get g2
          have hu' := List.getElem?_zip_eq_some.mp hu
          have z1 : n1 = u.1 := Option.some.inj (hn1.symm.trans hu'.1)
          have z2 : n2 = u.2 := Option.some.inj (hn2.symm.trans hu'.2)
          subst z1 z2
          exact gt2 (st_of upd_same) ⟨rfl, _, rfl, _, rfl, _, _, rfl, rfl, hk4 _ _ (Ex.new hT) rfl⟩
        · intro ys H6 e6 hd6 pr
          have ey : ys = kvs (decAt i t.1) := by
            refine zip_map2 pr (by rw [dec_len, zl2, lt1]) fun jj u n hu hn => ?_
            obtain ⟨h1, h2⟩ := List.getElem?_zip_eq_some.mp hu
            have lj : jj < cs.length := by rw [← lt1]; exact (List.getElem?_eq_some_iff.mp h1).1
            rw [unit_get lj] at h2
            rw [dec_get, h1] at hn
            have hn : (if jj = i then u.1 - 1 else u.1) = n := Option.some.inj hn
            have h2 := Option.some.inj h2
            by_cases q1 : jj = i
            · rw [if_pos q1] at hn h2
              rw [List.getD_eq_getElem?_getD, ← q1, h1] at hpos
              have hpos : 0 < u.1 := hpos
              omega
            · rw [if_neg q1] at hn h2
              omega
          rw [ey] at hd6
          refine ⟨D, _, rfl, .inl ⟨sq_of hd6, fun q2 hq2n => ?_⟩⟩
          have e36 : Ex H2 (upd H6 q2 (.tup (kvs (decAt i t.1)))) := (e35.trans e6).trans (Ex.new hq2n)
          have gF6 := e36 _ _ gF'
          have gq6 : (upd H6 q2 (.tup (kvs (decAt i t.1)))) q2 = some (.tup ((kk (decAt i t.1)).map kV)) := by rw [upd_same, kk_kV]
          have lf := Paired.length rf
          have lo : (outP (P.take j) i).length ≤ P.length := by
            unfold outP
            rw [List.length_map]
            exact Nat.le_trans (List.length_filter_le _ _) (List.length_take_le' ..)
          have kl : kf.length < sizeLine := Nat.lt_of_le_of_lt (show kf.length ≤ 64 by omega) (by decide)
          have fresh : decAt i t.1 ∉ keysP (outP (P.take j) i) := by
            have nd2 := fit.2.1
            rw [← List.take_append_drop (j + 1) P, tk, out_app, out_app, out_one hpos] at nd2
            unfold keysP at nd2
            rw [List.map_append, List.map_append] at nd2
            have nd3 := (List.nodup_append.mp nd2).1
            intro z
            exact (List.nodup_append.mp nd3).2.2 _ z _ (List.mem_singleton.mpr rfl) rfl
          refine ⟨F, _, rfl, DPut.t gF6 gq6 kl, fun b o n g => by rw [upd_ne n]; exact e36 _ _ (e b o n g), ⟨_, upd_same, ?_⟩, _, _, _, _, rfl⟩
          have r3 := rows_upd (o := .dT (putK kf (kk (decAt i t.1)) v4)) gF6 dT_ins (rows_put (c := decAt i t.1) (rf.mono (exsm e36)) (rv4.mono (exsm (e6.trans (Ex.new hq2n)))))
          rw [pput_new fresh] at r3
          rw [tk, out_app, out_one hpos]
          exact r3
    · rw [decide_eq_false hpos]
      refine iteF ⟨fun b o n g => e3 _ _ (e b o n g), ⟨kf, e3 _ _ gF', ?_⟩, _, _, _, _, rfl⟩
      rw [tk, out_app, out_no hpos, List.append_nil]
      exact rf.mono (exsm e3)
  · rintro σ H' ⟨e, ⟨kf, gF', rf⟩, o1, o2, o3, o4, rfl⟩
    rw [lk, List.take_length] at rf
    have g2 := e _ _ Fd gd
    refine ⟨g2, ?_⟩
    have eU : Ex H (upd H' d (.dT ks)) := by
      intro b o q
      by_cases h2 : b = d
      · rw [h2, hd] at q
        cases q
        rw [h2, upd_same]
      · have bF : b ≠ F := fun z => by rw [z, hF0] at q; cases q
        rw [upd_ne h2]
        refine e b o bF ?_
        rw [hHL, upd_ne h2, upd_ne bF]
        exact e1 _ _ q
    have gF2 : (upd H' d (.dT ks)) F = some (.dT kf) := by rw [upd_ne (Ne.symm Fd)]; exact gF'
    have rf2 : Rows Y (upd H' d (.dT ks)) kf (outP P i) := rows_upd g2 (fun _ _ _ z => by cases z) rf
    refine ⟨_, rfl, p, _, dx, _, _, rfl, eU _ _ f.at_, T.B.cl, T.bL, rfl, _, rfl, cs, F, kf, outP P i, rfl, lok, gF2, rf2, keyok_out ok fit.2.1, fit, fun v' P' H3 e3 bv' pm ri => ?_⟩
    exact k v' P' H3 (eU.trans e3) bv' pm ri

def sp_out_once (Y : Yc) : Sp := fun vs H Q _ => ∃ v cs P, ∃ (i : Nat), vs = [v, .int (i : Int)] ∧ BlendV Y H v (SX.S cs) P ∧ LsOk cs ∧ i < cs.length ∧ KeyOk cs.length P ∧ (∀ t ∈ P, Sz t.2) ∧ PFit (outP P i) ∧
  ∀ v' P' H', Ex H H' → BlendV Y H' v' (SX.S cs) P' → P'.Perm (outP P i) → Rise P' → Q v' H'

abbrev st_out_once : Stmt := top 76
theorem ok_out_once {f : Addr} {fd : FuncData} (F : C8.Fun Y.K "out_once" "out_once" st_out_once f fd) (T : TxtY Y) (c_left_by : CalY Y 9 "left_by" (sp_left_by Y) []) : FnOk Y.P Y.w Y.K Y.mg Y.base C8.CX0 10 f fd ["blend", "at"] (sp_out_once Y) := by
  have S : FnScope ["blend", "at"] ["blend", "at"] (fnScope st_out_once) := fnScope_by (by decide +kernel)
  have nd := S.nd
  refine fn0 F S (fun vs H Q E h => ?_) (fun cdv A outer s H vs Q E hr h => ?_)
  · obtain ⟨_, _, _, _, rfl, _⟩ := h; rfl
  refine ⟨_, (pss_one (ps_ret (pe_c c_left_by hr (by decide) rfl (pa_cons (pv 0) (pa_cons (pe_ix ix_str (pe_fld (pv 0) rfl) (pv 1) (fun _ _ => rfl)) pa_nil))))), ?_⟩
  obtain ⟨v, cs, P, i, rfl, bv, lok, hi, ok, szs, fit, k⟩ := h
  obtain ⟨p, d, t, dx, B, tops, rfl, f⟩ := id bv
  obtain ⟨w, hw⟩ := get_lt hi
  have sl : (SX.S cs).length ≤ sizeLine := sz_small (Nat.le_trans lok.le (by decide))
  exact ⟨_, rfl, _, rfl, p, _, dx, _, _, rfl, f.at_, T.B.cl, T.bL, rfl, _, rfl, _, _, w, rfl, rfl, sl, atI_nat hw, _, cs, P, i, w, rfl, bv, lok, hw, ok, szs, fit, k⟩
abbrev st_taken : Stmt := top 77
theorem ok_taken {f : Addr} {fd : FuncData} (F : C8.Fun Y.K "taken" "taken" st_taken f fd) (T : TxtY Y) (c_left_by : CalY Y 9 "left_by" (sp_left_by Y) []) (c_want_blend : CalY Y 1 "want_blend" (sp_want_blend Y) []) (c_want_way : CalY Y 2 "want_way" (sp_want_way Y) []) : FnOk Y.P Y.w Y.K Y.mg Y.base C8.CX0 10 f fd ["blend", "way"] (sp_left_by Y) := by
  have S : FnScope ["blend", "way"] ["blend", "way"] (fnScope st_taken) := fnScope_by (by decide +kernel)
  have nd := S.nd
  refine fn0 F S (fun vs H Q E h => ?_) (fun cdv A outer s H vs Q E hr h => ?_)
  · obtain ⟨_, _, _, _, _, rfl, _⟩ := h; rfl
  refine ⟨_, (pss_cons (ps_expr (pe_c c_want_blend hr (by decide) rfl (pa_cons (pv 0) pa_nil)))
    (pss_cons (ps_expr (pe_c c_want_way hr (by decide) rfl (pa_cons (pv 0) (pa_cons (pv 1) pa_nil))))
    (pss_one (ps_ret (pe_c c_left_by hr (by decide) rfl (pa_cons (pv 0) (pa_cons (pv 1) pa_nil))))))), ?_⟩
  obtain ⟨v, cs, P, i, w, rfl, bv, lok, hi, ok, szs, fit, k⟩ := h
  refine ⟨_, rfl, v, _, P, rfl, bv, ?_⟩
  refine ⟨_, rfl, _, rfl, v, cs, P, w, rfl, bv, List.mem_of_getElem? hi, fun H1 e1 => ?_⟩
  exact ⟨_, rfl, _, rfl, v, cs, P, i, w, rfl, bv.mono e1, lok, hi, ok, szs, fit, fun v' P' H2 e2 bv' pm ri => k v' P' H2 (e1.trans e2) bv' pm ri⟩

end Km
end

section
set_option Elab.async false
set_option linter.all false
set_option maxRecDepth 100000
namespace Km
/-! ### sizes -/
def Fit (D M : Nat) (q : Rat) : Prop := ∃ z : Int, q * (D : Rat) = (z : Rat) ∧ z.natAbs ≤ M
theorem Fit.mono {D M N : Nat} {q : Rat} (h : Fit D M q) (l : M ≤ N) : Fit D N q :=
  let ⟨z, e, b⟩ := h
  ⟨z, e, Nat.le_trans b l⟩
theorem fit_zero (D : Nat) : Fit D 0 0 := ⟨0, by rw [Rat.zero_mul]; rfl, Nat.le_refl _⟩
theorem fit_add {D A B : Nat} {q r : Rat} (h : Fit D A q) (g : Fit D B r) : Fit D (A + B) (q + r) := by
  obtain ⟨z, e, b⟩ := h
  obtain ⟨w, f, c⟩ := g
  refine ⟨z + w, ?_, ?_⟩
  · rw [Rat.add_mul, e, f]
    push_cast
    rfl
  · have := Int.natAbs_add_le z w
    omega
theorem fit_mul {D E A B : Nat} {q r : Rat} (h : Fit D A q) (g : Fit E B r) : Fit (D * E) (A * B) (q * r) := by
  obtain ⟨z, e, b⟩ := h
  obtain ⟨w, f, c⟩ := g
  refine ⟨z * w, ?_, ?_⟩
  · push_cast
    rw [← e, ← f]
    grind
  · rw [Int.natAbs_mul]
    exact Nat.mul_le_mul b c
theorem fit_nat {D A : Nat} {q : Rat} (n : Nat) (h : Fit D A q) : Fit D (A * n) (q * (n : Rat)) := by
  obtain ⟨z, e, b⟩ := h
  refine ⟨z * n, ?_, ?_⟩
  · push_cast
    rw [← e]
    grind
  · rw [Int.natAbs_mul, Int.natAbs_natCast]
    exact Nat.mul_le_mul b (Nat.le_refl _)
theorem fit_int (n : Nat) : Fit 1 n (n : Rat) := ⟨n, by rw [show ((1 : Nat) : Rat) = 1 from rfl, Rat.mul_one]; rfl, by rw [Int.natAbs_natCast]; exact Nat.le_refl _⟩
theorem fit_mkRat {t : Nat} {d D : Nat} (hd : 0 < d) (h : d ∣ D) : Fit D (t * D) (mkRat (t : Int) d) := by
  obtain ⟨c, rfl⟩ := h
  refine ⟨(t * c : Nat), ?_, ?_⟩
  · rw [Rat.mkRat_eq_div]
    have h0 : ((d : Nat) : Rat) ≠ 0 := fun e => by have := Rat.natCast_eq_zero_iff.mp e; omega
    have z := Rat.div_mul_cancel (a := ((t : Nat) : Rat)) h0
    have e0 : (((t : Nat) : Int) : Rat) = ((t : Nat) : Rat) := rfl
    rw [e0]
    push_cast
    have e : (((t : Nat) : Rat) / (d : Rat)) * ((d : Rat) * (c : Rat)) = (((t : Nat) : Rat) / (d : Rat) * (d : Rat)) * (c : Rat) := by grind
    rw [e, z]
  · rw [Int.natAbs_natCast]
    exact Nat.mul_le_mul (Nat.le_refl _) (Nat.le_mul_of_pos_left _ hd)
theorem fit_up {D E A : Nat} {q : Rat} (h : Fit D A q) : Fit (D * E) (A * E) q := by
  obtain ⟨z, e, b⟩ := h
  refine ⟨z * E, ?_, ?_⟩
  · push_cast
    rw [← e]
    grind
  · rw [Int.natAbs_mul, Int.natAbs_natCast]
    exact Nat.mul_le_mul b (Nat.le_refl _)
theorem fit_den {D M : Nat} {q : Rat} (hD : 0 < D) (h : Fit D M q) : q.den ∣ D ∧ q.num.natAbs ≤ M := by
  obtain ⟨z, e, b⟩ := h
  have e1 : q.num * (D : Int) = z * (q.den : Int) := by
    have h1 := mul_den q
    have h2 : ((q.num * (D : Int) : Int) : Rat) = ((z * (q.den : Int) : Int) : Rat) := by
      push_cast
      rw [← h1, ← e]
      grind
    exact Rat.intCast_inj.mp h2
  have e2 : q.num.natAbs * D = z.natAbs * q.den := by
    have := congrArg Int.natAbs e1
    rwa [Int.natAbs_mul, Int.natAbs_mul, Int.natAbs_natCast, Int.natAbs_natCast] at this
  have d1 : q.den ∣ D := Nat.Coprime.dvd_of_dvd_mul_left (Nat.Coprime.symm q.reduced) ⟨z.natAbs, by rw [e2, Nat.mul_comm]⟩
  refine ⟨d1, ?_⟩
  obtain ⟨c, rfl⟩ := d1
  have cp : 0 < c := Nat.pos_of_mul_pos_left hD
  have e3 : q.num.natAbs * c = z.natAbs := by
    have : q.den * (q.num.natAbs * c) = q.den * z.natAbs := by
      rw [Nat.mul_comm q.den z.natAbs, ← e2]
      rw [← Nat.mul_assoc, Nat.mul_comm q.den, Nat.mul_assoc]
    exact Nat.eq_of_mul_eq_mul_left q.den_pos this
  exact Nat.le_trans (Nat.le_mul_of_pos_right _ cp) (by rw [e3]; exact b)
theorem sz_fit {D M : Nat} {q : Rat} (hD : 0 < D) (sD : D < 2 ^ 4000) (sM : M < 2 ^ 4000) (h : Fit D M q) : Sz q := by
  obtain ⟨a, b⟩ := fit_den hD h
  exact ⟨Nat.lt_of_le_of_lt b sM, Nat.lt_of_le_of_lt (Nat.le_of_dvd hD a) sD⟩
theorem fit_ev {D M : Nat} (k : Ky) : ∀ {L : Poly}, (∀ t ∈ L, Fit D M t.2) → Fit D (L.length * M) (ev L (ind k))
  | [], _ => by
    rw [List.length_nil, Nat.zero_mul]
    exact fit_zero D
  | t :: L, h => by
    have ih := fit_ev k (L := L) fun u hu => h u (List.mem_cons_of_mem _ hu)
    rw [ev_cons, List.length_cons, Nat.succ_mul, Nat.add_comm]
    refine fit_add ?_ ih
    unfold ind
    split
    · rw [Rat.mul_one]
      exact h t (List.mem_cons_self ..)
    · rw [Rat.mul_zero]
      exact (fit_zero D).mono (Nat.zero_le _)
theorem ev_nn (k : Ky) : ∀ {L : Poly}, (∀ t ∈ L, 0 ≤ t.2) → 0 ≤ ev L (ind k)
  | [], _ => Rat.le_refl
  | t :: L, h => by
    rw [ev_cons]
    refine Rat.add_nonneg (Rat.mul_nonneg (h t (List.mem_cons_self ..)) ?_) (ev_nn k fun u hu => h u (List.mem_cons_of_mem _ hu))
    unfold ind
    split <;> decide
/-! ### all keys of a length and a degree -/
def allK : Nat → Nat → List Ky
  | 0, 0 => [[]]
  | 0, _ + 1 => []
  | n + 1, d => (List.range (d + 1)).flatMap fun a => (allK n (d - a)).map (a :: ·)
theorem mem_allK : ∀ (k : Ky), k ∈ allK k.length (deg k)
  | [] => List.mem_singleton.mpr rfl
  | c :: k => by
    show c :: k ∈ (List.range (c + deg k + 1)).flatMap fun a => (allK k.length (c + deg k - a)).map (a :: ·)
    refine List.mem_flatMap.mpr ⟨c, List.mem_range.mpr (by omega), List.mem_map.mpr ⟨k, ?_, rfl⟩⟩
    rw [Nat.add_sub_cancel_left]
    exact mem_allK k
theorem len_allK : ∀ n, n ≤ 4 → ∀ d, d ≤ 5 → (allK n d).length < 64 := by decide +kernel
theorem nodup_le {α : Type} [DecidableEq α] : ∀ {l U : List α}, l.Nodup → (∀ x ∈ l, x ∈ U) → l.length ≤ U.length
  | [], _, _, _ => Nat.zero_le _
  | x :: l, U, n, h => by
    obtain ⟨n1, n2⟩ := List.nodup_cons.mp n
    have hx := h x (List.mem_cons_self ..)
    have z := nodup_le (U := U.erase x) n2 fun y hy => (List.mem_erase_of_ne fun e => n1 (by rw [← e]; exact hy)).mpr (h y (List.mem_cons_of_mem _ hy))
    rw [List.length_erase_of_mem hx] at z
    have := List.length_pos_of_mem hx
    rw [List.length_cons]
    omega
theorem deg_dec : ∀ (i : Nat) (k : Ky), 0 < k.getD i 0 → deg (decAt i k) + 1 = deg k
  | 0, [], h => by simp at h
  | 0, c :: k, h => by
    have h : 0 < c := h
    show (c - 1) + deg k + 1 = c + deg k
    omega
  | i + 1, [], h => by simp at h
  | i + 1, c :: k, h => by
    show c + deg (decAt i k) + 1 = c + deg k
    have := deg_dec i k (by simpa using h)
    omega
theorem deg_small {k : Ky} {d : Nat} (h : deg k ≤ d) (hd : d < 64) : Small k := by
  have key : ∀ k : Ky, ∀ n ∈ k, n ≤ deg k := by
    intro k
    induction k with
    | nil => intro n h; cases h
    | cons c k ih =>
      intro n hn
      show n ≤ c + deg k
      rcases List.mem_cons.mp hn with e | e
      · omega
      · have := ih n e
        omega
  intro n hn
  have := key k n hn
  omega
/-! ### the change along numbers, letter by letter -/
theorem ev_out (P : Poly) (i : Nat) (f : Ky → Rat) : ev (outP P i) f = ev P fun k => ((k.getD i 0 : Nat) : Rat) * f (decAt i k) := by
  unfold outP
  rw [ev_map (fun k => decAt i k) (fun k => ((k.getD i 0 : Nat) : Rat)) f, ev_filter (fun k => decide (0 < k.getD i 0))]
  refine ev_congr fun t _ => ?_
  by_cases h : 0 < t.1.getD i 0
  · rw [if_pos (decide_eq_true h)]
  · rw [if_neg (by simpa using h)]
    have : t.1.getD i 0 = 0 := by omega
    rw [this]
    simp
def linP (P : Poly) : Nat → List Rat → Poly
  | _, [] => []
  | i, x :: n => (outP P i).map (fun t => (t.1, t.2 * x)) ++ linP P (i + 1) n
def dzF (f : Ky → Rat) (k : Ky) : Nat → List Rat → Rat
  | _, [] => 0
  | i, x :: n => x * ((k.getD i 0 : Nat) : Rat) * f (decAt i k) + dzF f k (i + 1) n
theorem ev_lin (P : Poly) (f : Ky → Rat) : ∀ (n : List Rat) (i : Nat), ev (linP P i n) f = ev P fun k => dzF f k i n
  | [], i => by
    show ev [] f = ev P fun _ => 0
    rw [ev_zero P fun _ _ => rfl]
    rfl
  | x :: n, i => by
    show ev ((outP P i).map (fun t => (t.1, t.2 * x)) ++ linP P (i + 1) n) f = ev P fun k => x * ((k.getD i 0 : Nat) : Rat) * f (decAt i k) + dzF f k (i + 1) n
    rw [ev_app, ev_scale, ev_out, ev_lin P f n (i + 1), ev_add, ← ev_smul]
    congr 1
    exact ev_congr fun t _ => by grind
theorem dzF_cons (f : Ky → Rat) (c : Nat) (k : Ky) : ∀ (n : List Rat) (i : Nat), dzF f (c :: k) (i + 1) n = dzF (fun j => f (c :: j)) k i n
  | [], _ => rfl
  | x :: n, i => by
    show x * (((c :: k).getD (i + 1) 0 : Nat) : Rat) * f (decAt (i + 1) (c :: k)) + dzF f (c :: k) (i + 1 + 1) n = _
    rw [dzF_cons f c k n (i + 1)]
    rfl
theorem dzF_dz : ∀ (n : List Rat) (f : Ky → Rat) (k : Ky), n.length = k.length → dzF f k 0 n = dz n f k
  | [], _, [], _ => rfl
  | [], _, _ :: _, h => by cases h
  | _ :: _, _, [], h => by cases h
  | x :: n, f, c :: k, h => by
    show x * ((c : Nat) : Rat) * f ((c - 1) :: k) + dzF f (c :: k) 1 n = x * (c : Rat) * f ((c - 1) :: k) + dz n (fun j => f (c :: j)) k
    rw [dzF_cons f c k n 0, dzF_dz n _ k (Nat.succ.inj h)]
/-- the pairs of a change along numbers: their sums are the change's -/
theorem ev_linP {P : Poly} {n : List Rat} {m : Nat} (hl : ∀ t ∈ P, t.1.length = m) (hn : n.length = m) (f : Ky → Rat) : ev (linP P 0 n) f = ev P (dz n f) := by
  rw [ev_lin]
  exact ev_congr fun t ht => dzF_dz n f t.1 (hn.trans (hl t ht).symm)
end Km
end

section
set_option Elab.async false
set_option linter.all false
set_option maxRecDepth 100000
namespace Km
open PySem PySem.Spec PyProof.Rows L2 Evl
open C8 (fn0 fnScope_by Cal Mak Met pe_c pe_mk pe_mt pe_mt0 pe_gc fnScope fnBody fnArgs)
/-- a list or a tuple is walked -/
def iSeq (K : PySem.W.Frag) (tl : TE) : TI := fun σ H R => tl σ H fun x H1 => ∃ a, x = .ref a ∧ (((∃ xs, SqL K H1 a xs) ∧ R (Itl K a) H1) ∨ ((∃ xs, SqT K H1 a xs) ∧ R (Itt K a) H1))
theorem pi_seq {X : Cx} {tg l : Expr} {tl : TE} (hl : PE X l tl) : PI X tg l (iSeq X.K tl) := by
  refine ⟨fun pins s σ H R I h => ?_⟩
  refine thn (hl.run pins s σ H _ I h) fun v s1 ⟨x, H1, I1, r1, q1⟩ => ?_
  obtain ⟨a, e, q⟩ := q1
  subst e
  cases r1
  rcases q with ⟨⟨xs, hq⟩, q⟩ | ⟨⟨xs, hq⟩, q⟩
  · obtain ⟨its, rv, p, hz⟩ := I1.list hq
    refine wpAny_pyIter_list p.isList ?_
    refine ⟨s1.heap.objs.size, [s1.heap.objs.size], _, _, H1, rfl, I1.kept (t' := s1.toks) fun b o e => Heap.get?_push_of_some _ e, turn_list a _, ⟨_, Heap.get?_push_size _ rfl, rfl, rfl⟩, fun b hb => ?_, q⟩
    rw [List.mem_singleton.mp hb]
    exact I1.fpOk (Nat.le_refl _) (I1.hok.fresh (Nat.le_refl _))
  · obtain ⟨its, rv, p, hz⟩ := I1.tuple hq
    refine wpAny_pyIter_tuple (show s1.heap.IsTuple a its.toArray from p) ?_
    refine ⟨s1.heap.objs.size, [s1.heap.objs.size], _, _, H1, rfl, I1.kept (t' := s1.toks) fun b o e => Heap.get?_push_of_some _ e, turn_tuple a _, ⟨_, Heap.get?_push_size _ rfl, rfl, rfl⟩, fun b hb => ?_, q⟩
    rw [List.mem_singleton.mp hb]
    exact I1.fpOk (Nat.le_refl _) (I1.hok.fresh (Nat.le_refl _))
variable {Y : Yc}


/-- pairs of a key and an amount, and what of them may be gathered -/
structure LinOk (n : Nat) (L : Poly) (D M : Nat) (U : List Ky) : Prop where
  len : ∀ t ∈ L, t.1.length = n
  small : ∀ t ∈ L, Small t.1
  mem : ∀ t ∈ L, t.1 ∈ U
  few : U.length < 64
  pos : 1 ≤ n
  nn : ∀ t ∈ L, 0 ≤ t.2
  fit : ∀ t ∈ L, Fit D M t.2
  dp : 0 < D
  ds : D < 2 ^ 4000
  ms : (L.length + 1) * M < 2 ^ 4000
  sz : L.length ≤ 1000
structure Out (n : Nat) (L P : Poly) (D M : Nat) : Prop where
  g : Gath L P
  ok : KeyOk n P
  fit : ∀ t ∈ P, Fit D (L.length * M) t.2
  pf : PFit P
def sp_gathered (Y : Yc) : Sp := fun vs H Q _ => ∃ (cs : List Nat) (l : Addr) (xs : List V) (L : Poly) (D M : Nat) (U : List Ky), vs = [.str (SX.S cs), .ref l] ∧ LsOk cs ∧ H l = some (.lst xs) ∧ Paired (PairAt2 Y H) xs L ∧ LinOk cs.length L D M U ∧
  ∀ v P H', Ex H H' → BlendV Y H' v (SX.S cs) P → Out cs.length L P D M → Q v H'
theorem take_sub {L : Poly} {i : Nat} {t : Ky × Rat} (h : t ∈ L.take i) : t ∈ L := List.mem_of_mem_take h
/-- the sums so far -/
structure Sums (L S : Poly) (i : Nat) : Prop where
  nd : (keysP S).Nodup
  ev : ∀ f, ev S f = ev (L.take i) f
  key : ∀ c ∈ keysP S, ∃ t ∈ L.take i, t.1 = c
theorem Sums.val {L S : Poly} {i : Nat} (h : Sums L S i) {t : Ky × Rat} (ht : t ∈ S) : t.2 = Km.ev (L.take i) (ind t.1) := by
  rw [← h.ev]
  exact (ev_ind_in (k := t.1) (a := t.2) h.nd ht).symm
theorem Sums.get {L S : Poly} {i : Nat} (h : Sums L S i) (c : Ky) : (pget S c).getD 0 = Km.ev (L.take i) (ind c) := by
  by_cases hc : c ∈ keysP S
  · obtain ⟨t, ht, rfl⟩ := List.mem_map.mp hc
    rw [pget_some (a := t.2) h.nd ht]
    exact h.val ht
  · rw [pget_none hc, ← h.ev, ev_ind_out hc]
    rfl
theorem Sums.next {L S : Poly} {i : Nat} (h : Sums L S i) {t : Ky × Rat} (ht : L[i]? = some t) : Sums L (pput S t.1 (t.2 + (pget S t.1).getD 0)) (i + 1) := by
  refine ⟨nodup_pput h.nd, fun f => ?_, fun c hc => ?_⟩
  · rw [ev_pput h.nd, h.ev, take_next ht, ev_app, ev_cons, ev_nil]
    grind
  · rw [keys_pput] at hc
    rw [take_next ht]
    split at hc
    · obtain ⟨u, h1, h2⟩ := h.key c hc
      exact ⟨u, List.mem_append_left _ h1, h2⟩
    · rcases List.mem_append.mp hc with hc | hc
      · obtain ⟨u, h1, h2⟩ := h.key c hc
        exact ⟨u, List.mem_append_left _ h1, h2⟩
      · exact ⟨t, List.mem_append_right _ (List.mem_singleton.mpr rfl), (List.mem_singleton.mp hc).symm⟩
theorem Sums.ok {n : Nat} {L S : Poly} {i D M : Nat} {U : List Ky} (h : Sums L S i) (o : LinOk n L D M U) : KeyOk n S := by
  have sub : ∀ t ∈ S, ∃ u ∈ L, u.1 = t.1 := fun t ht => by
    obtain ⟨u, h1, h2⟩ := h.key t.1 (List.mem_map.mpr ⟨t, ht, rfl⟩)
    exact ⟨u, take_sub h1, h2⟩
  refine ⟨h.nd, fun t ht => ?_, fun t ht => ?_, ?_, o.pos⟩
  · obtain ⟨u, h1, h2⟩ := sub t ht
    rw [← h2]
    exact o.len u h1
  · obtain ⟨u, h1, h2⟩ := sub t ht
    rw [← h2]
    exact o.small u h1
  · have z : (keysP S).length ≤ U.length := nodup_le h.nd fun c hc => by
      obtain ⟨u, h1, h2⟩ := h.key c hc
      rw [← h2]
      exact o.mem u (take_sub h1)
    unfold keysP at z
    rw [List.length_map] at z
    have := o.few
    omega
theorem fit_take {L : Poly} {D M i : Nat} (hi : i ≤ L.length) (h : ∀ t ∈ L, Fit D M t.2) (k : Ky) : Fit D (i * M) (Km.ev (L.take i) (ind k)) := by
  have z := fit_ev (D := D) (M := M) k (L := L.take i) fun t ht => h t (take_sub ht)
  rwa [List.length_take_of_le hi] at z
theorem rise_perm {P R : Poly} (hp : P.Perm R) (h1 : Rise P) (h2 : Rise R) : P = R := by
  refine hp.eq_of_pairwise (le := fun s t => lexlt s.1 t.1 = true ∨ s = t) (fun a b _ _ x y => ?_) (List.Pairwise.imp .inl h1) (List.Pairwise.imp .inl h2)
  rcases x with x | x
  · rcases y with y | y
    · have z := lex_trans x y
      rw [lex_irr] at z
      cases z
    · exact y.symm
  · exact x

abbrev st_gathered : Stmt := top 80
theorem ok_gathered {f : Addr} {fd : FuncData} (F : C8.Fun Y.K "gathered" "gathered" st_gathered f fd) (T : TxtY Y) (c_blend_of : CalY Y 8 "blend_of" (sp_blend_of Y) []) (c_want_at_most : CalY Y 1 "want_at_most" (sp_want_at_most Y) []) (o_radd : OpnY Y 4 Y.CR "add" (sp_radd Y)) (p_sign : PrpY Y 1 Y.CR "sign" (sp_rsign Y)) : FnOk Y.P Y.w Y.K Y.mg Y.base C8.CX0 9 f fd ["letters", "pairs"] (sp_gathered Y) := by
  have S : FnScope ["letters", "pairs", "sums", "counts", "amount", "amounts"] ["letters", "pairs"] (fnScope st_gathered) := fnScope_by (by decide +kernel)
  have nd := S.nd
  refine fn0 F S (fun vs H Q E h => ?_) (fun cdv A outer s H vs Q E hr h => ?_)
  · obtain ⟨_, _, _, _, _, _, _, rfl, _⟩ := h; rfl
  have hu := hu_of hr
  obtain ⟨cs, l, xs, L, Dn, M, U, rfl, lok, hl, hx, lo, k⟩ := h
  refine ⟨_, (pss_cons (ps_set (i := 2) nd rfl (Or.inl rfl) pe_dnewT)
    (pss_cons (ps_for PassesOwn.never rfl (pi_list (pv 1)) (pg_tup rfl (pgs_cons (pg_name (i := 3) nd rfl (Or.inl rfl)) (pgs_cons (pg_name (i := 4) nd rfl (Or.inl rfl)) pgs_nil)))
    (pss_one (ps_dput hu (pv 2) (pv 3) (pe_op (Opn.r (op := .Add) o_radd hr (by decide)) (pv 4) (pe_dget2 hu (pv 2) (pv 3) pe_int ⟨rfl, rfl, rfl, rfl⟩)) rfl)))
    (pss_cons (ps_set (i := 5) nd rfl (Or.inl rfl) pe_dnewT)
    (pss_cons (ps_for PassesOwn.never rfl (pi_list (pe_callB (cr_sortD (dg := cs.length) (B := 64) rfl lo.pos) rfl T.n_sorted boot_sorted (pa_cons (pv 2) pa_nil))) (pg_name (i := 3) nd rfl (Or.inl rfl))
    (pss_one (ps_if (pt_cmpR op_gt (pe_pr p_sign hr (by decide) (pe_dget hu (pv 2) (pv 3) (fun _ _ => rfl)) rfl) pe_int (nomark _)) (pss_one (ps_dput hu (pv 5) (pv 3) (pe_dget hu (pv 2) (pv 3) (fun _ _ => rfl)) rfl)) pss_nil)))
    (pss_cons (ps_expr (pe_c c_want_at_most hr (by decide) rfl (pa_cons pe_str (pa_cons (pe_gc rfl T.c_MOST_ENTRIES_changes) (pa_cons (pe_callB call_len_dT rfl T.n_len boot_len (pa_cons (pv 5) pa_nil)) pa_nil)))))
    (pss_one (ps_ret (pe_c c_blend_of hr (by decide) rfl (pa_cons (pv 0) (pa_cons (pv 5) pa_nil)))))))))), ?_⟩
  intro F hF
  have e1 : Ex H (upd H F (.dT [])) := Ex.new hF
  have lx : xs.length = L.length := Paired.length hx
  have Fl : l ≠ F := ne_of_none hl hF
  have msz : ∀ i, i ≤ L.length → i * M < 2 ^ 4000 := fun i hi => Nat.lt_of_le_of_lt (Nat.mul_le_mul (show i ≤ L.length + 1 by omega) (Nat.le_refl _)) lo.ms
  have m1 : M < 2 ^ 4000 := Nat.lt_of_le_of_lt (Nat.le_mul_of_pos_left M (Nat.succ_pos _)) lo.ms
  refine ⟨_, rfl, l, rfl, ⟨_, sq_of (e1 _ _ hl)⟩, ?_⟩
  refine for_it (walk_list (a := l) (xs := xs)) (fun i σ H' => Ex H H' ∧ (∃ kf S, H' F = some (.dT kf) ∧ Rows Y H' kf S ∧ Sums L S i) ∧ ∃ o1 o2 o3, σ = [some (.str (SX.S cs)), some (.ref l), some (.ref F), o1, o2, o3])
    ⟨e1, ⟨[], [], upd_same, .nil, List.nodup_nil, fun _ => rfl, fun _ h => by cases h⟩, _, _, _, rfl⟩ (fun i σ H' _ q => sq_of (q.1 _ _ hl)) ?_ ?_
  · rintro i x σ H' H2 hi ⟨e, ⟨kf, S, gF, rf, sm⟩, o1, o2, o3, rfl⟩ ⟨rfl, hxi⟩
    obtain ⟨t, ht, p, q, y, rfl, hp, hq, ry⟩ := pr_getL hx hxi
    have mt := List.mem_of_getElem? ht
    have li : i ≤ L.length := by omega
    refine gt2 (st_of (e _ _ hp)) ?_
    have hq2 := e _ _ hq
    have hqk : H2 q = some (.tup ((kk t.1).map kV)) := by rw [hq2, kk_kV]
    obtain ⟨a1, rfl, d1, h1⟩ := ry
    have fits := fit_take li lo.fit t.1
    have szo : Sz ((pget S t.1).getD 0) := by
      rw [sm.get]
      exact sz_fit lo.dp lo.ds (msz i li) fits
    have kl : kf.length < sizeLine := by
      have z := Paired.length rf
      have := (sm.ok lo).few
      exact Nat.lt_of_le_of_lt (show kf.length ≤ 64 by omega) (by decide)
    refine ⟨_, rfl, _, rfl, F, rfl, .inr ⟨kf, .inl gF⟩, _, rfl, valV kf (kk t.1), DGet.t gF hqk, ?_⟩
    have fin : ∀ v H4, Ex H2 H4 → RatV Y.CR H4 v (t.2 + (pget S t.1).getD 0) → Ex H (upd H4 F (.dT (putK kf (kk t.1) v))) ∧ Rows Y (upd H4 F (.dT (putK kf (kk t.1) v))) (putK kf (kk t.1) v) (pput S t.1 (t.2 + (pget S t.1).getD 0)) := by
      intro v H4 e4 rv
      exact ⟨(e.trans e4).mut hF, rows_upd (e4 _ _ gF) dT_ins (rows_put (c := t.1) (rf.mono (exsm e4)) rv)⟩
    have key : ∀ z, NumV Y.CR H2 z ((pget S t.1).getD 0) → ((∃ b dy gs, z = .ref b ∧ H2 b = some (.ins Y.CR dy gs)) ∨ ∃ n, z = .int n) → rOwnOpI Y.CR (sp_radd Y) (.ref a1) z H2 (fun v H4 => ∃ (a : Addr) (H5 : Hp), True ∧ H4 F = some (.dT kf) ∧ H4 q = some (.tup ((kk t.1).map kV)) ∧ Ex H2 H4 ∧ RatV Y.CR H4 v (t.2 + (pget S t.1).getD 0)) := fun z nz sh =>
      ⟨a1, d1, _, rfl, e _ _ h1, sh.imp id id, _, _, t.2, _, rfl, ⟨a1, rfl, d1, e _ _ h1⟩, nz, sz_fit lo.dp lo.ds m1 (lo.fit t mt), szo, fun v H4 e4 rv => ⟨a1, H4, trivial, e4 _ _ gF, e4 _ _ hqk, e4, rv⟩⟩
    cases hv : pget S t.1 with
    | none =>
      rw [(rows_val rf).2 hv]
      refine ⟨a1, d1, _, rfl, e _ _ h1, .inr ⟨0, rfl⟩, _, _, t.2, 0, rfl, ⟨a1, rfl, d1, e _ _ h1⟩, .inl ⟨0, rfl, rfl⟩, sz_fit lo.dp lo.ds m1 (lo.fit t mt), by rw [hv] at szo; exact szo, fun v H4 e4 rv => ?_⟩
      rw [hv] at fin
      obtain ⟨w1, w2⟩ := fin v H4 e4 rv
      have sn := sm.next ht
      rw [hv] at sn
      exact ⟨_, rfl, _, rfl, F, _, rfl, DPut.t (e4 _ _ gF) (e4 _ _ hqk) kl, w1, ⟨_, _, upd_same, w2, sn⟩, _, _, _, rfl⟩
    | some r =>
      obtain ⟨z, hz, a2, rfl, d2, h2⟩ := (rows_val rf).1 r hv
      rw [hz]
      refine ⟨a1, d1, _, rfl, e _ _ h1, .inl ⟨a2, d2, _, rfl, h2⟩, _, _, t.2, r, rfl, ⟨a1, rfl, d1, e _ _ h1⟩, .inr ⟨a2, rfl, d2, h2⟩, sz_fit lo.dp lo.ds m1 (lo.fit t mt), by rw [hv] at szo; exact szo, fun v H4 e4 rv => ?_⟩
      rw [hv] at fin
      obtain ⟨w1, w2⟩ := fin v H4 e4 rv
      have sn := sm.next ht
      rw [hv] at sn
      exact ⟨_, rfl, _, rfl, F, _, rfl, DPut.t (e4 _ _ gF) (e4 _ _ hqk) kl, w1, ⟨_, _, upd_same, w2, sn⟩, _, _, _, rfl⟩
  · rintro σ H1 ⟨e, ⟨kf, S, gF, rf, sm⟩, o1, o2, o3, rfl⟩
    rw [lx] at sm
    have okS := sm.ok lo
    have lS : (keysP S).length = S.length := List.length_map ..
    intro G hG
    have e2 : Ex H1 (upd H1 G (.dT [])) := Ex.new hG
    have hG0 : H G = none := fresh_back e hG
    have GF : F ≠ G := ne_of_none gF hG
    refine ⟨_, rfl, F, kf, (keysP S).map intK, rfl, .inl (e2 _ _ gF), ?_, ?_, ?_, fun zs Z pm pw htz hZ => ?_⟩
    · rw [rf.keys]
      unfold keysP
      rw [List.map_map, List.map_map]
      exact List.map_congr_left fun t _ => kk_int t.1
    · rw [List.length_map, lS]
      exact okS.few
    · intro m hm
      obtain ⟨c, hc, rfl⟩ := List.mem_map.mp hm
      obtain ⟨t, ht, rfl⟩ := List.mem_map.mp hc
      exact ⟨by unfold intK; rw [List.length_map]; exact okS.len t ht, bd_ints (okS.small t ht)⟩
    obtain ⟨ds, p1, p2⟩ := perm_lift intK pm (keysP S) rfl
    have zl : zs.length = ds.length := by
      have e := congrArg List.length p2
      rwa [List.length_map, List.length_map, eq_comm] at e
    have nd1 : ds.Nodup := p1.nodup_iff.mpr okS.nd
    have hcode : ds.Pairwise fun a b => TS.code 64 (intK a) ≤ TS.code 64 (intK b) := by
      have q : (zs.map (·.2)).Pairwise fun x y => TS.code 64 x ≤ TS.code 64 y := by
        rw [List.pairwise_map]
        exact pw
      rw [← p2, List.pairwise_map] at q
      exact q
    have zget : ∀ {i : Nat} {z : Addr × List Int}, zs[i]? = some z → ∃ c, ds[i]? = some c ∧ H1 z.1 = some (.tup (kvs c)) := by
      intro i z hz
      have e : (zs.map (·.2))[i]? = some z.2 := by rw [List.getElem?_map, hz]; rfl
      rw [← p2, List.getElem?_map] at e
      cases hc : ds[i]? with
      | none => rw [hc] at e; cases e
      | some c =>
        rw [hc] at e
        have e2 : intK c = z.2 := Option.some.inj e
        have g := htz z (List.mem_of_getElem? hz)
        rw [← e2] at g
        have zF : z.1 ≠ G := fun q => by rw [q, upd_same] at g; cases g
        rw [upd_ne zF] at g
        refine ⟨c, rfl, ?_⟩
        rw [g, kvs_ints]
        rfl
    have GZ : G ≠ Z := fun q => by rw [q, upd_same] at hZ; cases hZ
    have e3 : Ex H1 (upd (upd H1 G (.dT [])) Z (.lst (zs.map fun z => V.ref z.1))) := e2.trans (Ex.new hZ)
    have xl : (zs.map fun z => V.ref z.1).length = ds.length := by rw [List.length_map, zl]
    have ld : ds.length < 64 := by rw [p1.length_eq, lS]; exact okS.few
    have keep : ∀ cs' : List Ky, (pick S cs').filter (fun t => decide (0 < t.2)) = (pick S cs').filter (fun t => decide (0 < t.2)) := fun _ => rfl
    refine ⟨Z, rfl, ⟨_, sq_of upd_same⟩, ?_⟩
    refine for_it (walk_list (xs := zs.map fun z => V.ref z.1)) (fun i σ H' => Ex H1 H' ∧ H' Z = some (.lst (zs.map fun z => V.ref z.1)) ∧ (∃ kg, H' G = some (.dT kg) ∧ Rows Y H' kg ((pick S (ds.take i)).filter fun t => decide (0 < t.2))) ∧ ∃ o1 o2, σ = [some (.str (SX.S cs)), some (.ref l), some (.ref F), o1, o2, some (.ref G)])
      ⟨e3, upd_same, ⟨[], by rw [upd_ne GZ, upd_same], .nil⟩, _, _, rfl⟩ (fun i σ H' _ q => sq_of q.2.1) ?_ ?_
    · rintro i x σ H' H2 hi ⟨ee, gZ, ⟨kg, gG, rg⟩, o1, o2, rfl⟩ ⟨rfl, hxz⟩
      rw [List.getElem?_map] at hxz
      cases hz : zs[i]? with
      | none => rw [hz] at hxz; cases hxz
      | some z =>
        rw [hz] at hxz
        obtain rfl : x = .ref z.1 := (Option.some.inj hxz).symm
        obtain ⟨c, hc, gz⟩ := zget hz
        have gz2 := ee _ _ gz
        rw [← kk_kV] at gz2
        have mc : c ∈ keysP S := p1.mem_iff.mp (List.mem_of_getElem? hc)
        obtain ⟨t, ht2, et⟩ := List.mem_map.mp mc
        have gp : pget S c = some t.2 := pget_some okS.nd (by rw [← et]; exact ht2)
        obtain ⟨v, hv, rv⟩ := (rows_val (c := c) rf).1 t.2 gp
        have gD : DGet H2 F (.ref z.1) (some v) := by
          have g := DGet.t (ee _ _ gF) gz2
          rw [hv] at g
          exact g
        obtain ⟨a1, rfl, d1, h1⟩ := rv
        have pk : pick S (ds.take (i + 1)) = pick S (ds.take i) ++ [(c, t.2)] := by
          rw [take_next hc]
          unfold pick
          rw [List.map_append, List.map_cons, gp]
          rfl
        refine ⟨_, rfl, _, rfl, F, _, rfl, gD, a1, d1, _, rfl, ee _ _ h1, _, t.2, rfl, ⟨a1, rfl, d1, ee _ _ h1⟩, _, _, rfl, rfl, _, rfl, ?_⟩
        by_cases pos : 0 < t.2
        · have sg : (0 : Int) < t.2.num.sign := by
            have h0 : 0 < t.2.num := by
              have z1 := Rat.num_nonneg.mpr (Rat.le_of_lt pos)
              have z2 : t.2.num ≠ 0 := fun q => Rat.ne_of_gt pos (Rat.num_eq_zero.mp q)
              omega
            rw [Int.sign_eq_one_of_pos h0]
            decide
          rw [decide_eq_true sg]
          refine iteT ?_
          have fresh : c ∉ keysP ((pick S (ds.take i)).filter fun t => decide (0 < t.2)) := by
            intro q
            obtain ⟨u, hu1, hu2⟩ := List.mem_map.mp q
            have hu1 := (List.mem_filter.mp hu1).1
            obtain ⟨c', h1', h2'⟩ := List.mem_map.mp hu1
            have h3' : c' = c := by rw [← h2'] at hu2; exact hu2
            rw [h3'] at h1'
            obtain ⟨j, hj⟩ := List.mem_iff_getElem?.mp h1'
            have lj : j < i := by
              have := (List.getElem?_eq_some_iff.mp hj).1
              rw [List.length_take] at this
              omega
            rw [List.getElem?_take_of_lt lj] at hj
            have := (List.getElem?_inj (List.getElem?_eq_some_iff.mp hj).1 nd1).mp (hj.trans hc.symm)
            omega
          have kl : kg.length < sizeLine := by
            have q := Paired.length rg
            have q2 := List.length_filter_le (fun t : Ky × Rat => decide (0 < t.2)) (pick S (ds.take i))
            have q3 : (pick S (ds.take i)).length ≤ ds.length := by
              unfold pick
              rw [List.length_map]
              exact List.length_take_le' ..
            exact Nat.lt_of_le_of_lt (show kg.length ≤ 64 by omega) (by decide)
          refine ⟨_, rfl, _, rfl, F, _, rfl, gD, _, rfl, _, rfl, G, _, rfl, DPut.t gG gz2 kl, ?_⟩
          refine ⟨ee.mut hG, by rw [upd_ne (Ne.symm GZ)]; exact gZ, ⟨_, upd_same, ?_⟩, _, _, rfl⟩
          have r3 := rows_upd (o := .dT (putK kg (kk c) (.ref a1))) gG dT_ins (rows_put (c := c) rg (show RatV Y.CR H2 (.ref a1) t.2 from ⟨a1, rfl, d1, ee _ _ h1⟩))
          rw [pput_new fresh] at r3
          rw [pk, List.filter_append, List.filter_cons, if_pos (decide_eq_true pos)]
          exact r3
        · have sg : ¬ (0 : Int) < t.2.num.sign := by
            intro q
            apply pos
            have h0 : 0 < t.2.num := by
              rcases Int.lt_trichotomy t.2.num 0 with z1 | z1 | z1
              · rw [Int.sign_eq_neg_one_of_neg z1] at q
                cases q
              · rw [z1] at q
                cases q
              · exact z1
            have z1 := Rat.num_nonneg.mp (Int.le_of_lt h0)
            exact Rat.lt_of_le_of_ne z1 fun q2 => by rw [← q2] at h0; cases h0
          rw [decide_eq_false sg]
          refine iteF ⟨ee, gZ, ⟨kg, gG, ?_⟩, _, _, rfl⟩
          rw [pk, List.filter_append, List.filter_cons, if_neg (by simpa using pos), List.filter_nil, List.append_nil]
          exact rg
    · rintro σ H' ⟨ee, gZ, ⟨kg, gG, rg⟩, o1, o2, rfl⟩
      rw [xl, List.take_length] at rg
      obtain ⟨A, hA⟩ : ∃ A, A = (pick S ds).filter fun t => decide (0 < t.2) := ⟨_, rfl⟩
      rw [← hA] at rg
      have pp := pick_perm okS.nd p1
      have rA : Rise A := by rw [hA]; exact (rise_pick okS p1 hcode).filter _
      have sub : ∀ t ∈ A, t ∈ S ∧ 0 < t.2 := fun t ht => by
        rw [hA] at ht
        obtain ⟨h1, h2⟩ := List.mem_filter.mp ht
        exact ⟨pp.mem_iff.mp h1, of_decide_eq_true h2⟩
      have lA := Paired.length rg
      have l64 : A.length ≤ S.length := by
        rw [hA]
        exact Nat.le_trans (List.length_filter_le _ _) (Nat.le_of_eq pp.length_eq)
      have fS := okS.few
      have gA : Gath L A := by
        refine ⟨rA, fun t ht => (sub t ht).2, fun f => ?_, fun t ht => ?_⟩
        · have z1 : ev A f = ev (pick S ds) f := by
            rw [hA]
            have : ∀ R : Poly, (∀ t ∈ R, 0 ≤ t.2) → ev (R.filter fun t => decide (0 < t.2)) f = ev R f := by
              intro R
              induction R with
              | nil => intro _; rfl
              | cons t R ih =>
                intro h
                rw [List.filter_cons]
                by_cases q : 0 < t.2
                · rw [if_pos (decide_eq_true q), ev_cons, ev_cons, ih fun u hu => h u (List.mem_cons_of_mem _ hu)]
                · rw [if_neg (by simpa using q), ih fun u hu => h u (List.mem_cons_of_mem _ hu), ev_cons]
                  have z := Rat.le_antisymm (Rat.not_lt.mp q) (h t (List.mem_cons_self ..))
                  rw [z]
                  grind
            refine this _ fun t ht => ?_
            have ht := pp.mem_iff.mp ht
            rw [sm.val ht]
            exact ev_nn _ fun u hu => lo.nn u (take_sub hu)
          rw [z1, ev_perm pp, sm.ev, List.take_length]
        · obtain ⟨u, h1, h2⟩ := sm.key t.1 (List.mem_map.mpr ⟨t, (sub t ht).1, rfl⟩)
          exact ⟨u, take_sub h1, h2⟩
      have fA : ∀ t ∈ A, Fit Dn (L.length * M) t.2 := fun t ht => by
        rw [sm.val (sub t ht).1]
        exact fit_take (Nat.le_refl _) lo.fit t.1
      have okA : KeyOk cs.length A := ⟨rA.nodup, fun t ht => okS.len t (sub t ht).1, fun t ht => okS.small t (sub t ht).1, by omega, lo.pos⟩
      have pfA : PFit A := by
        refine ⟨by omega, rA.nodup, Dn, lo.dp, lo.ds, fun q hq => ?_⟩
        obtain ⟨t, ht, rfl⟩ := List.mem_map.mp hq
        obtain ⟨a, b⟩ := fit_den lo.dp (fA t ht)
        exact ⟨a, Nat.lt_of_le_of_lt b (msz L.length (Nat.le_refl _))⟩
      refine ⟨_, rfl, G, kg, rfl, gG, _, _, _, rfl, by omega, ?_⟩
      refine ⟨_, rfl, _, rfl, cs, G, kg, A, rfl, lok, gG, rg, okA, pfA, fun v P' H3 e3' bv pm' ri => ?_⟩
      have eq := rise_perm pm' ri rA
      rw [eq] at bv
      exact k v A H3 ((e.trans ee).trans e3') bv ⟨gA, okA, fA, pfA⟩

/-- numbers of a list or a tuple -/
def NumS (Y : Yc) (H : Hp) (v : V) (xs : List V) (qs : List Rat) : Prop := ∃ a, v = .ref a ∧ (H a = some (.lst xs) ∨ H a = some (.tup xs)) ∧ NumL Y H xs qs
theorem NumS.mono {H H' : Hp} {v : V} {xs : List V} {qs : List Rat} (e : Ex H H') (h : NumS Y H v xs qs) : NumS Y H' v xs qs :=
  let ⟨a, z, q, n⟩ := h
  ⟨a, z, q.imp (fun q => e _ _ q) fun q => e _ _ q, n.mono (exsm e)⟩
theorem seq_len {H : Hp} {a : Addr} {xs : List V} (h : H a = some (.lst xs) ∨ H a = some (.tup xs)) : LenV Y.K (.ref a) H xs.length := h.elim (fun h => .inl ⟨_, sq_of h, rfl⟩) fun h => .inr ⟨_, st_of h, rfl⟩
def sp_is_lead (Y : Yc) : Sp := fun vs H Q _ => ∃ (v : V) (xs : List V) (qs : List Rat) (m : Int), vs = [v, .int m] ∧ NumS Y H v xs qs ∧ m = (qs.length : Int) ∧ qs.length ≤ 1000 ∧ (∀ q ∈ qs, 0 ≤ q) ∧ ∀ H', Ex H H' → Q (.bl true) H'

abbrev st_is_lead : Stmt := top 81
theorem ok_is_lead {f : Addr} {fd : FuncData} (F : C8.Fun Y.K "is_lead" "is_lead" st_is_lead f fd) (T : TxtY Y) (c_is_from_nought : CalY Y 3 "is_from_nought" (sp_is_from_nought Y) []) (c_is_list : CalY Y 1 "is_list" (sp_is_list Y) []) : FnOk Y.P Y.w Y.K Y.mg Y.base C8.CX0 4 f fd ["value", "many"] (sp_is_lead Y) := by
  have S : FnScope ["value", "many", "number"] ["value", "many"] (fnScope st_is_lead) := fnScope_by (by decide +kernel)
  have nd := S.nd
  refine fn0 F S (fun vs H Q E h => ?_) (fun cdv A outer s H vs Q E hr h => ?_)
  · obtain ⟨_, _, _, _, rfl, _⟩ := h; rfl
  refine ⟨_, (pss_one (ps_ret (pe_and (pe_c c_is_list hr (by decide) rfl (pa_cons (pv 0) pa_nil)) (pe_and (pe_cmpR op_eq (pe_callB call_len rfl T.n_len boot_len (pa_cons (pv 0) pa_nil)) (pv 1) (nomark _)) (pe_one (pe_callB (cr_all rfl) rfl T.n_all boot_all (pa_cons (pe_lc (own := [("number", 2)]) (g := gName 2) (tt := tYes) rfl nd (pi_seq (pv 0)) (blkOk_by (N := ["value", "many", "number"]) (sc := (fnScope st_is_lead)) (by decide +kernel)) (fun _ _ _ _ _ => by exact (pg_name (i := 2) nd rfl (Or.inl rfl))) (fun _ _ _ _ _ => by exact pts_nil) (fun _ _ _ _ _ => by exact (pe_c c_is_from_nought hr (by decide) rfl (pa_cons (pv 2) pa_nil)))) pa_nil))))))), ?_⟩
  obtain ⟨v, xs, qs, m, rfl, ns, rfl, sz, nn, k⟩ := h
  obtain ⟨a, rfl, sq, nl⟩ := ns
  have lx : xs.length = qs.length := Paired.length nl
  refine ⟨_, rfl, _, xs, rfl, .inl ⟨a, rfl, sq⟩, fun H1 e1 => ⟨true, rfl, iteT ?_⟩⟩
  have sq1 := sq.imp (fun q => e1 _ _ q) fun q => e1 _ _ q
  refine ⟨_, rfl, _, _, rfl, seq_len sq1, _, rfl, rfl, _, rfl, iteDT (by rw [lx]) ?_⟩
  have step : ∀ (i : Nat) (q : Rat) (x : V) (H2 : Hp) (Kq : VK), qs[i]? = some q → Ex H1 H2 → xs[i]? = some x → (∀ y H4, Ex H2 H4 → y = .bl true → Kq y H4) → sp_is_from_nought Y [x] H2 Kq C8.E0 := by
    intro i q x H2 Kq hq e hx hk
    obtain ⟨q', hq', nv⟩ := pr_getL nl hx
    obtain rfl : q' = q := Option.some.inj (hq'.symm.trans hq)
    exact ⟨_, _, rfl, nv.mono (exsm (e1.trans e)), hk _ _ (Ex.refl _) (congrArg V.bl (decide_eq_true (nn q' (List.mem_of_getElem? hq))))⟩
  have fin : ∀ (D : Addr) (ys : List V) (H2 : Hp), Ex H1 H2 → H2 D = some (.lst ys) → Paired (fun (y : V) (_ : Rat) => y = .bl true) ys qs → rAll Y.K [.ref D] H2 Q := by
    intro D ys H2 e hd pr
    rw [bls_of (f := fun _ => true) pr] at hd
    refine ⟨D, _, rfl, sq_of hd, ?_⟩
    rw [all_id fun _ _ => rfl]
    exact k _ (e1.trans e)
  rcases sq1 with sq1 | sq1
  · have wl := walk_list (K := Y.K) (a := a) (xs := xs)
    rw [lx] at wl
    refine ⟨_, rfl, a, rfl, .inl ⟨⟨_, sq_of sq1⟩, fun D hD => ?_⟩⟩
    refine lc_map (us := qs) wl (fun q y _ => y = .bl true) hD (by omega) (fun H2 e => ex_l e (sq_of sq1)) (fun _ _ _ _ _ h => h) (fun _ _ _ _ _ _ h => h) ?_ gn_mono (fun ys H2 e hd pr => fin D ys H2 e hd pr)
    rintro i q x H2 H3 Kq hq e _ ⟨rfl, hx⟩ hk
    exact ⟨rfl, _, rfl, step i q x _ Kq hq e hx hk⟩
  · have wl := walk_tup (K := Y.K) (a := a) (xs := xs)
    rw [lx] at wl
    refine ⟨_, rfl, a, rfl, .inr ⟨⟨_, st_of sq1⟩, fun D hD => ?_⟩⟩
    refine lc_map (us := qs) wl (fun q y _ => y = .bl true) hD (by omega) (fun H2 e => ex_t e (st_of sq1)) (fun _ _ _ _ _ h => h) (fun _ _ _ _ _ _ h => h) ?_ gn_mono (fun ys H2 e hd pr => fin D ys H2 e hd pr)
    rintro i q x H2 H3 Kq hq e _ ⟨rfl, hx⟩ hk
    exact ⟨rfl, _, rfl, step i q x _ Kq hq e hx hk⟩

/-- each amount times a number -/
def byN (P : Poly) (r : Rat) : Poly := P.map fun t => (t.1, t.2 * r)
def sp_times_number (Y : Yc) : Sp := fun vs H Q _ => ∃ a b cs P r, vs = [a, b] ∧ BlendV Y H a (SX.S cs) P ∧ RatV Y.CR H b r ∧ P.length ≤ 1000 ∧ (∀ t ∈ P, Sz t.2) ∧ Sz r ∧ ∀ l ys H', Ex H H' → H' l = some (.lst ys) → Paired (PairAt2 Y H') ys (byN P r) → Q (.ref l) H'
theorem pair_upd {H : Hp} {D : Addr} {ys zs : List V} {x : V} {t : Ky × Rat} (hD : H D = some (.lst ys)) (h : PairAt2 Y H x t) : PairAt2 Y (upd H D (.lst zs)) x t := by
  obtain ⟨p, q, y, e, h1, h2, h3⟩ := h
  refine ⟨p, q, y, e, ?_, ?_, ratv_lst hD h3⟩
  · rw [upd_ne fun z => by rw [z, hD] at h1; cases h1]
    exact h1
  · rw [upd_ne fun z => by rw [z, hD] at h2; cases h2]
    exact h2

abbrev st_times_number : Stmt := top 82
theorem ok_times_number {f : Addr} {fd : FuncData} (F : C8.Fun Y.K "times_number" "times_number" st_times_number f fd) (T : TxtY Y) (o_rmul : OpnY Y 4 Y.CR "mul" (sp_rmul Y)) (t_entries : MetY Y 1 Y.CB "entries" (sp_entries Y)) : FnOk Y.P Y.w Y.K Y.mg Y.base C8.CX0 5 f fd ["blend", "number"] (sp_times_number Y) := by
  have S : FnScope ["blend", "number", "counts", "amount"] ["blend", "number"] (fnScope st_times_number) := fnScope_by (by decide +kernel)
  have nd := S.nd
  refine fn0 F S (fun vs H Q E h => ?_) (fun cdv A outer s H vs Q E hr h => ?_)
  · obtain ⟨_, _, _, _, _, rfl, _⟩ := h; rfl
  refine ⟨_, (pss_one (ps_ret (pe_lc (own := [("counts", 2), ("amount", 3)]) (tt := tYes) rfl nd (pi_list (pe_mt0 t_entries hr (by decide) (pv 0))) (blkOk_by (N := ["blend", "number", "counts", "amount"]) (sc := (fnScope st_times_number)) (by decide +kernel)) (fun _ _ _ _ _ => by exact (pgtB (n := 2) Y.K rfl (pgs_cons (pg_name (i := 2) nd rfl (Or.inl rfl)) (pgs_cons (pg_name (i := 3) nd rfl (Or.inl rfl)) pgs_nil)))) (fun _ _ _ _ _ => by exact pts_nil) (fun _ _ _ _ _ => by exact (pe_tup (pa_cons (pv 2) (pa_cons (pe_op (Opn.r (op := .Mult) o_rmul hr (by decide)) (pv 3) (pv 1)) pa_nil))))))), ?_⟩
  obtain ⟨a, b, cs, P, r, rfl, bv, rb, sz, szs, szr, k⟩ := h
  obtain ⟨p, d, t, dx, B, tops, rfl, f⟩ := id bv
  refine ⟨_, rfl, p, dx, _, rfl, f.at_, rfl, _, _, P, rfl, bv, fun l xs H1 e1 hl pr => ?_⟩
  have lx : xs.length = P.length := Paired.length pr
  have wl := walk_list (K := Y.K) (a := l) (xs := xs)
  rw [lx] at wl
  refine ⟨l, rfl, ⟨_, sq_of hl⟩, fun D hD => ?_⟩
  refine lc_map (us := P) wl (fun u y H' => PairAt2 Y H' y (u.1, u.2 * r)) hD (by omega) (fun H2 e => ex_l e (sq_of hl)) (fun _ _ _ _ e h => h.mono e) (fun _ _ _ _ _ hD h => pair_upd hD h) ?_ gt2_mono ?_
  · rintro i u x H2 H3 Kq hu e _ ⟨rfl, hx⟩ hk
    obtain ⟨u', hu', w, q, y, rfl, h1, h2, h3⟩ := pr_getL pr hx
    obtain rfl : u' = u := Option.some.inj (hu'.symm.trans hu)
    have mu := List.mem_of_getElem? hu
    obtain ⟨a3, rfl, d3, h3⟩ := h3
    obtain ⟨b3, rfl, e3, h4⟩ := rb.mono (exsm (e1.trans e))
    refine gt2 (st_of (e _ _ h1)) ⟨rfl, _, rfl, _, rfl, _, rfl, a3, d3, _, rfl, e _ _ h3, .inl ⟨b3, e3, _, rfl, h4⟩, _, _, u'.2, r, rfl, ⟨a3, rfl, d3, e _ _ h3⟩, .inr ⟨b3, rfl, e3, h4⟩, szs u' mu, szr, fun v H4 e4 rv => ?_⟩
    refine ⟨l2, fun T0 hT => hk _ _ (e4.trans (Ex.new hT)) ⟨T0, q, v, rfl, upd_same, ?_, rv.mono (exsm (Ex.new hT))⟩⟩
    exact (Ex.new hT) _ _ (e4 _ _ (e _ _ h2))
  · intro ys H2 e hd pr2
    exact k D ys H2 (e1.trans e) hd (pr_map2 (f := fun u : Ky × Rat => (u.1, u.2 * r)) pr2)

theorem dec_inj : ∀ (i : Nat) (a b : Ky), 0 < a.getD i 0 → 0 < b.getD i 0 → decAt i a = decAt i b → a = b
  | 0, [], _, h, _, _ => by simp at h
  | 0, _ :: _, [], _, h, _ => by simp at h
  | 0, x :: a, y :: b, h1, h2, e => by
    have h1 : 0 < x := h1
    have h2 : 0 < y := h2
    obtain ⟨e1, e2⟩ := List.cons.inj (show (x - 1) :: a = (y - 1) :: b from e)
    rw [e2]
    congr 1
    omega
  | i + 1, [], _, h, _, _ => by simp at h
  | i + 1, _ :: _, [], _, h, _ => by simp at h
  | i + 1, x :: a, y :: b, h1, h2, e => by
    obtain ⟨e1, e2⟩ := List.cons.inj (show x :: decAt i a = y :: decAt i b from e)
    rw [e1, dec_inj i a b (by simpa using h1) (by simpa using h2) e2]
/-- a blend's products, as the law's blends are -/
structure PolyOk (n dg : Nat) (P : Poly) (D M : Nat) : Prop where
  ok : KeyOk n P
  deg : ∀ t ∈ P, deg t.1 = dg
  d5 : dg ≤ 5
  n4 : n ≤ 4
  pos : ∀ t ∈ P, 0 < t.2
  fit : ∀ t ∈ P, Fit D M t.2
  dp : 0 < D
  ds : D < 2 ^ 4000
  ms : M * 5 < 2 ^ 4000
theorem PolyOk.sz {n dg : Nat} {P : Poly} {D M : Nat} (h : PolyOk n dg P D M) : ∀ t ∈ P, Sz t.2 := fun t ht => sz_fit h.dp h.ds (Nat.lt_of_le_of_lt (Nat.le_mul_of_pos_right M (by decide)) h.ms) (h.fit t ht)
theorem get_deg : ∀ (i : Nat) (k : Ky), k.getD i 0 ≤ Km.deg k
  | _, [] => by simp
  | 0, c :: k => Nat.le_add_right c _
  | i + 1, c :: k => by
    have := get_deg i k
    show (c :: k).getD (i + 1) 0 ≤ c + Km.deg k
    simp only [List.getD_cons_succ]
    omega
theorem PolyOk.out {n dg : Nat} {P : Poly} {D M : Nat} (h : PolyOk n dg P D M) (i : Nat) : ∀ t ∈ outP P i, t.1.length = n ∧ Km.deg t.1 + 1 = dg ∧ 0 < t.2 ∧ Fit D (M * 5) t.2 := by
  intro t ht
  obtain ⟨u, hu, rfl⟩ := List.mem_map.mp ht
  obtain ⟨hu, hp⟩ := List.mem_filter.mp hu
  have hp := of_decide_eq_true hp
  refine ⟨by rw [dec_len]; exact h.ok.len u hu, by rw [deg_dec i u.1 hp]; exact h.deg u hu, Rat.mul_pos (h.pos u hu) ?_, ?_⟩
  · have : ((0 : Nat) : Rat) < ((u.1.getD i 0 : Nat) : Rat) := by
      rw [Rat.lt_iff]
      simp
      simpa using hp
    exact this
  · refine (fit_nat _ (h.fit u hu)).mono (Nat.mul_le_mul (Nat.le_refl M) ?_)
    have := get_deg i u.1
    rw [h.deg u hu] at this
    exact Nat.le_trans this h.d5
theorem PolyOk.nd {n dg : Nat} {P : Poly} {D M : Nat} (h : PolyOk n dg P D M) (i : Nat) : (keysP (outP P i)).Nodup := by
  unfold keysP outP
  rw [List.map_map]
  have nd := h.ok.nd
  unfold keysP at nd
  unfold List.Nodup at nd ⊢
  rw [List.pairwise_map] at nd ⊢
  have nd2 := List.Pairwise.filter (fun t : Ky × Rat => decide (0 < t.1.getD i 0)) nd
  refine List.Pairwise.imp_of_mem (fun {a b} ha hb ne e => ?_) nd2
  exact ne (dec_inj i a.1 b.1 (of_decide_eq_true (List.mem_filter.mp ha).2) (of_decide_eq_true (List.mem_filter.mp hb).2) e)
theorem PolyOk.pfit {n dg : Nat} {P : Poly} {D M : Nat} (h : PolyOk n dg P D M) (i : Nat) : PFit (outP P i) := by
  refine ⟨?_, h.nd i, D, h.dp, h.ds, fun q hq => ?_⟩
  · unfold outP
    rw [List.length_map]
    have := List.length_filter_le (fun t : Ky × Rat => decide (0 < t.1.getD i 0)) P
    have := h.ok.few
    omega
  · obtain ⟨t, ht, rfl⟩ := List.mem_map.mp hq
    obtain ⟨a, b⟩ := fit_den h.dp (h.out i t ht).2.2.2
    exact ⟨a, Nat.lt_of_le_of_lt b h.ms⟩
theorem lin_snoc (P : Poly) (x : Rat) : ∀ (l : List Rat) (i : Nat), linP P i (l ++ [x]) = linP P i l ++ byN (outP P (i + l.length)) x
  | [], i => by
    show byN (outP P i) x ++ [] = [] ++ byN (outP P (i + 0)) x
    rw [List.append_nil, List.nil_append, Nat.add_zero]
  | y :: l, i => by
    show byN (outP P i) y ++ linP P (i + 1) (l ++ [x]) = (byN (outP P i) y ++ linP P (i + 1) l) ++ byN (outP P (i + (l.length + 1))) x
    rw [lin_snoc P x l (i + 1), List.append_assoc, show i + (l.length + 1) = i + 1 + l.length by omega]
/-- what comes out of a change along numbers -/
structure AlongOut (n dg : Nat) (P : Poly) (qs : List Rat) (R : Poly) (D M : Nat) : Prop where
  rise : Rise R
  pos : ∀ t ∈ R, 0 < t.2
  sum : ∀ f, ev R f = ev P (dz qs f)
  deg : ∀ t ∈ R, Km.deg t.1 + 1 = dg
  ok : KeyOk n R
  fit : ∀ t ∈ R, Fit D M t.2
  pf : PFit R
theorem pr_app {α β : Type} {F : α → β → Prop} : ∀ {l l2 : List α} {m m2 : List β}, Paired F l m → Paired F l2 m2 → Paired F (l ++ l2) (m ++ m2)
  | _, _, _, _, .nil, h => h
  | _, _, _, _, .cons a t, h => .cons a (pr_app t h)
def sp_along_numbers (Y : Yc) : Sp := fun vs H Q _ => ∃ (v e : V) (cs : List Nat) (P : Poly) (xs : List V) (qs : List Rat) (dg D M E N : Nat), vs = [v, e] ∧ BlendV Y H v (SX.S cs) P ∧ LsOk cs ∧ NumS Y H e xs qs ∧ qs.length = cs.length ∧ (∀ q ∈ qs, 0 ≤ q ∧ Fit E N q) ∧
  PolyOk cs.length dg P D M ∧ 0 < E ∧ E < 2 ^ 4000 ∧ N < 2 ^ 4000 ∧ D * E < 2 ^ 4000 ∧ 257 * (M * 5 * N) < 2 ^ 4000 ∧
  ∀ v' R H', Ex H H' → BlendV Y H' v' (SX.S cs) R → AlongOut cs.length dg P qs R (D * E) (256 * (M * 5 * N)) → Q v' H'

abbrev st_along_numbers : Stmt := top 83
theorem ok_along_numbers {f : Addr} {fd : FuncData} (F : C8.Fun Y.K "along_numbers" "along_numbers" st_along_numbers f fd) (T : TxtY Y) (c_gathered : CalY Y 9 "gathered" (sp_gathered Y) []) (c_is_lead : CalY Y 4 "is_lead" (sp_is_lead Y) []) (c_out_once : CalY Y 10 "out_once" (sp_out_once Y) []) (c_ratio_of : CalY Y 4 "ratio_of" (sp_ratio_of Y) []) (c_times_number : CalY Y 5 "times_number" (sp_times_number Y) []) (c_want_blend : CalY Y 1 "want_blend" (sp_want_blend Y) []) (p_letters : PrpY Y 1 Y.CB "letters" (sp_letters Y)) : FnOk Y.P Y.w Y.K Y.mg Y.base C8.CX0 11 f fd ["blend", "numbers"] (sp_along_numbers Y) := by
  have S : FnScope ["blend", "numbers", "pairs", "at", "number"] ["blend", "numbers"] (fnScope st_along_numbers) := fnScope_by (by decide +kernel)
  have nd := S.nd
  refine fn0 F S (fun vs H Q E h => ?_) (fun cdv A outer s H vs Q E hr h => ?_)
  · obtain ⟨_, _, _, _, _, _, _, _, _, _, _, rfl, _⟩ := h; rfl
  refine ⟨_, (pss_cons (ps_expr (pe_c c_want_blend hr (by decide) rfl (pa_cons (pv 0) pa_nil)))
    (pss_cons (ps_if (pt_not (pt_val (pe_c c_is_lead hr (by decide) rfl (pa_cons (pv 1) (pa_cons (pe_callB call_len rfl T.n_len boot_len (pa_cons (pe_pr p_letters hr (by decide) (pv 0) rfl) pa_nil)) pa_nil))))) (pss_one ps_never) pss_nil)
    (pss_cons (ps_set (i := 2) nd rfl (Or.inl rfl) (pe_lst pa_nil))
    (pss_cons (ps_for PassesOwn.never rfl (pi_enumA rfl T.n_enumerate (pa_cons (pv 1) pa_nil)) (pg_tup rfl (pgs_cons (pg_name (i := 3) nd rfl (Or.inl rfl)) (pgs_cons (pg_name (i := 4) nd rfl (Or.inl rfl)) pgs_nil)))
    (pss_one (ps_expr (pe_bm PySem.F.plainAttrs_list PySem.F.slot_list_extend PySem.F.type_list_extend mt_extend (pv 2) (pa_cons (pe_c c_times_number hr (by decide) rfl (pa_cons (pe_c c_out_once hr (by decide) rfl (pa_cons (pv 0) (pa_cons (pv 3) pa_nil))) (pa_cons (pe_c c_ratio_of hr (by decide) rfl (pa_cons (pv 4) pa_nil)) pa_nil))) pa_nil)))))
    (pss_one (ps_ret (pe_c c_gathered hr (by decide) rfl (pa_cons (pe_pr p_letters hr (by decide) (pv 0) rfl) (pa_cons (pv 2) pa_nil))))))))), ?_⟩
  obtain ⟨v, e0, cs, P, xs, qs, dg, Dn, M, En, N, rfl, bv, lok, ns, lq, hq, po, ep, es, ns2, dse, mse, k⟩ := h
  obtain ⟨p, d, t, dx, B, tops, rfl, f⟩ := id bv
  have le := lok.le
  have sl : (SX.S cs).length ≤ sizeLine := sz_small (Nat.le_trans lok.le (by decide))
  refine ⟨_, rfl, _, _, P, rfl, bv, ?_⟩
  refine ⟨_, rfl, _, rfl, p, dx, _, rfl, f.at_, _, _, P, rfl, bv, _, _, rfl, ⟨sl, rfl⟩, ?_⟩
  refine ⟨_, xs, qs, _, rfl, ns, by rw [lq]; rfl, by omega, fun q hq' => (hq q hq').1, fun H1 e1 => ⟨_, rfl, iteF ?_⟩⟩
  refine ⟨l0, fun Lp hLp => ?_⟩
  have hL0 : H Lp = none := fresh_back e1 hLp
  have e2 : Ex H (upd H1 Lp (.lst [])) := e1.trans (Ex.new hLp)
  obtain ⟨a, rfl, sq, nl⟩ := ns
  have lx : xs.length = qs.length := Paired.length nl
  obtain ⟨S, hS, hSv⟩ : ∃ S : Src, S.v = .ref a ∧ ∀ H', Ex H H' → S.C Y.K H' xs := by
    rcases sq with sq | sq
    · exact ⟨.lst a, rfl, fun H' e => sq_of (e _ _ sq)⟩
    · exact ⟨.tup a, rfl, fun H' e => st_of (e _ _ sq)⟩
  refine ⟨_, rfl, S, xs, by rw [hS], hSv _ e2, ?_⟩
  refine for_it (walk_enumS (K := Y.K) (S := S) (xs := xs)) (fun i σ H' => Ex H H' ∧ (∃ ys L, H' Lp = some (.lst ys) ∧ Paired (PairAt2 Y H') ys L ∧ (∀ f, ev L f = ev (linP P 0 (qs.take i)) f) ∧ L.length ≤ i * 64 ∧
      ∀ t ∈ L, t.1.length = cs.length ∧ deg t.1 + 1 = dg ∧ 0 ≤ t.2 ∧ Fit (Dn * En) (M * 5 * N) t.2) ∧ ∃ o1 o2, σ = [some (.ref p), some (.ref a), some (.ref Lp), o1, o2])
    ⟨e2, ⟨[], [], upd_same, .nil, fun _ => rfl, Nat.le_refl _, fun _ h => by cases h⟩, _, _, rfl⟩ (fun i σ H' _ q => hSv _ q.1) ?_ ?_
  · rintro i x σ H' H2 hi ⟨e, ⟨ys, L, gL, pl, sm, ll, all⟩, o1, o2, rfl⟩ ⟨T0, x1, x2, rfl, hT, rfl, g1, g2⟩
    obtain rfl : x1 = .int ((i : Nat) : Int) := (Option.some.inj g1).symm
    obtain ⟨q, hqi, nv⟩ := pr_getL nl g2
    have mq := List.mem_of_getElem? hqi
    have e3 : Ex H (upd H' T0 (.tup [.int (i : Nat), x2])) := e.trans (Ex.new hT)
    refine gt2 (st_of upd_same) ?_
    have iq : i < cs.length := by rw [← lq]; exact (List.getElem?_eq_some_iff.mp hqi).1
    have Mle : M ≤ M * 5 := Nat.le_mul_of_pos_right M (by decide)
    have few := po.ok.few
    refine ⟨_, rfl, .inl ⟨rfl, _, sq_of ((Ex.new hT) _ _ gL)⟩, ?_⟩
    refine ⟨_, rfl, _, rfl, _, cs, P, i, rfl, bv.mono e3, lok, iq, po.ok, po.sz, po.pfit i, fun v' P' H4 e4 bv' pm ri => ?_⟩
    have out : ∀ t ∈ P', t.1.length = cs.length ∧ deg t.1 + 1 = dg ∧ 0 < t.2 ∧ Fit Dn (M * 5) t.2 := fun t ht => po.out i t (pm.mem_iff.mp ht)
    have l1 : (outP P i).length ≤ P.length := by
      unfold outP
      rw [List.length_map]
      exact List.length_filter_le _ _
    have lP' : P'.length ≤ 64 := by rw [pm.length_eq]; omega
    refine ⟨_, rfl, _, q, rfl, nv.mono (exsm (e3.trans e4)), fun v5 H5 e5 rv => ?_⟩
    refine ⟨_, _, cs, P', q, rfl, bv'.mono e5, rv, by omega, fun t ht => sz_fit po.dp po.ds po.ms (out t ht).2.2.2, sz_fit ep es ns2 (hq q mq).2, fun l2 ys2 H6 e6 hl2 pr2 => ?_⟩
    have e26 : Ex H' H6 := (((Ex.new hT).trans e4).trans e5).trans e6
    have gL6 := e26 _ _ gL
    have lys := Paired.length pl
    have lys2 := Paired.length pr2
    have lby : (byN P' q).length = P'.length := List.length_map ..
    refine ⟨Lp, l2, ys, ys2, rfl, rfl, gL6, hl2, sz_small (show ys.length + ys2.length ≤ 1000 by omega), ?_⟩
    refine ⟨(e.trans e26).mut hL0, ⟨ys ++ ys2, L ++ byN P' q, upd_same, ?_, fun f => ?_, ?_, fun t ht => ?_⟩, _, _, rfl⟩
    · exact pr_app (Paired.mapP (Paired.mapP pl fun _ _ z => z.mono e26) fun _ _ z => pair_upd gL6 z) (Paired.mapP pr2 fun _ _ z => pair_upd gL6 z)
    · rw [take_next hqi, lin_snoc, ev_app, ev_app, sm]
      congr 1
      unfold byN
      rw [ev_scale, ev_scale, ev_perm pm]
      have : 0 + (qs.take i).length = i := by rw [List.length_take_of_le (by omega)]; omega
      rw [this]
    · rw [List.length_append, lby]
      omega
    · rcases List.mem_append.mp ht with ht | ht
      · exact all t ht
      · obtain ⟨u, hu, rfl⟩ := List.mem_map.mp ht
        obtain ⟨a1, a2, a3, a4⟩ := out u hu
        exact ⟨a1, a2, Rat.mul_nonneg (Rat.le_of_lt a3) (hq q mq).1, fit_mul a4 (hq q mq).2⟩
  · rintro σ H' ⟨e, ⟨ys, L, gL, pl, sm, ll, all⟩, o1, o2, rfl⟩
    rw [lx, List.take_length] at sm
    rw [lx, lq] at ll
    have l256 : L.length ≤ 256 := by omega
    have lin : LinOk cs.length L (Dn * En) (M * 5 * N) (allK cs.length (dg - 1)) := by
      refine ⟨fun t ht => (all t ht).1, fun t ht => ?_, fun t ht => ?_, len_allK _ le _ (by have := po.d5; omega), lok.pos, fun t ht => (all t ht).2.2.1, fun t ht => (all t ht).2.2.2, Nat.mul_pos po.dp ep, dse, ?_, by omega⟩
      · have := (all t ht).2.1
        have := po.d5
        exact deg_small (d := 5) (by omega) (by decide)
      · have z := mem_allK t.1
        rw [(all t ht).1, show deg t.1 = dg - 1 by have := (all t ht).2.1; omega] at z
        exact z
      · exact Nat.lt_of_le_of_lt (Nat.mul_le_mul (show L.length + 1 ≤ 257 by omega) (Nat.le_refl _)) mse
    refine ⟨_, rfl, p, dx, _, rfl, e _ _ f.at_, _, _, P, rfl, bv.mono e, _, rfl, ?_⟩
    refine ⟨cs, Lp, ys, L, Dn * En, M * 5 * N, _, rfl, lok, gL, pl, lin, fun v' R H3 e3 bv' o => ?_⟩
    refine k v' R H3 (e.trans e3) bv' ⟨o.g.rise, o.g.pos, fun f => ?_, fun t ht => ?_, o.ok, fun t ht => (o.fit t ht).mono (Nat.mul_le_mul l256 (Nat.le_refl _)), o.pf⟩
    · rw [o.g.sum, sm, ev_linP po.ok.len lq]
    · obtain ⟨s, hs, e5⟩ := o.g.key t ht
      rw [← e5]
      exact (all s hs).2.1

/-- the products with at most so many of a letter -/
def cutP (P : Poly) (i m : Nat) : Poly := P.filter fun t => decide (t.1.getD i 0 ≤ m)
def sp_cut (Y : Yc) : Sp := fun vs H Q _ => ∃ (v : V) (cs : List Nat) (P : Poly) (i c m dg D M : Nat), vs = [v, .str (SX.S [c]), .int (m : Int)] ∧ BlendV Y H v (SX.S cs) P ∧ LsOk cs ∧ cs[i]? = some c ∧ Rise P ∧ PolyOk cs.length dg P D M ∧ 65 * M < 2 ^ 4000 ∧
  ∀ v' H', Ex H H' → BlendV Y H' v' (SX.S cs) (cutP P i m) → Q v' H'
theorem PolyOk.cut {n dg : Nat} {P : Poly} {D M : Nat} (h : PolyOk n dg P D M) (i m : Nat) : PolyOk n dg (cutP P i m) D M := by
  have sub : ∀ t ∈ cutP P i m, t ∈ P := fun t ht => (List.mem_filter.mp ht).1
  refine ⟨⟨?_, fun t ht => h.ok.len t (sub t ht), fun t ht => h.ok.small t (sub t ht), Nat.lt_of_le_of_lt (List.length_filter_le _ _) h.ok.few, h.ok.pos⟩, fun t ht => h.deg t (sub t ht), h.d5, h.n4, fun t ht => h.pos t (sub t ht), fun t ht => h.fit t (sub t ht), h.dp, h.ds, h.ms⟩
  have nd := h.ok.nd
  unfold keysP at nd ⊢
  exact List.Sublist.nodup (List.Sublist.map _ List.filter_sublist) nd

abbrev st_cut : Stmt := top 84
theorem ok_cut {f : Addr} {fd : FuncData} (F : C8.Fun Y.K "cut" "cut" st_cut f fd) (T : TxtY Y) (c_gathered : CalY Y 9 "gathered" (sp_gathered Y) []) (c_want_blend : CalY Y 1 "want_blend" (sp_want_blend Y) []) (c_want_letter : CalY Y 2 "want_letter" (sp_want_letter Y) []) (c_want_many : CalY Y 3 "want_many" (sp_want_many Y) [.non]) (p_letters : PrpY Y 1 Y.CB "letters" (sp_letters Y)) (t_entries : MetY Y 1 Y.CB "entries" (sp_entries Y)) : FnOk Y.P Y.w Y.K Y.mg Y.base C8.CX0 10 f fd ["blend", "letter", "many"] (sp_cut Y) := by
  have S : FnScope ["blend", "letter", "many", "at", "counts", "amount"] ["blend", "letter", "many"] (fnScope st_cut) := fnScope_by (by decide +kernel)
  have nd := S.nd
  refine fn0 F S (fun vs H Q E h => ?_) (fun cdv A outer s H vs Q E hr h => ?_)
  · obtain ⟨_, _, _, _, _, _, _, _, _, rfl, _⟩ := h; rfl
  refine ⟨_, (pss_cons (ps_expr (pe_c c_want_blend hr (by decide) rfl (pa_cons (pv 0) pa_nil)))
    (pss_cons (ps_set (i := 3) nd rfl (Or.inr rfl) (pe_c c_want_letter hr (by decide) rfl (pa_cons (pv 0) (pa_cons (pv 1) pa_nil))))
    (pss_cons (ps_expr (pe_c c_want_many hr (by decide) rfl (pa_cons (pv 2) pa_nil)))
    (pss_one (ps_ret (pe_c c_gathered hr (by decide) rfl (pa_cons (pe_pr p_letters hr (by decide) (pv 0) rfl) (pa_cons (pe_lc (own := [("counts", 4), ("amount", 5)]) rfl nd (pi_list (pe_mt0 t_entries hr (by decide) (pv 0))) (blkOk_by (N := ["blend", "letter", "many", "at", "counts", "amount"]) (sc := (fnScope st_cut)) (by decide +kernel)) (fun _ _ _ _ _ => by exact (pgtB (n := 2) Y.K rfl (pgs_cons (pg_name (i := 4) nd rfl (Or.inl rfl)) (pgs_cons (pg_name (i := 5) nd rfl (Or.inl rfl)) pgs_nil)))) (fun _ _ _ _ _ => by exact (pts_one (pt_cmpR op_le (pe_ix (ixtB Y.K) (pv 4) (pv 3) (fun _ _ => rfl)) (pv 2) (nomark _)))) (fun _ _ _ _ _ => by exact (pe_tup (pa_cons (pv 4) (pa_cons (pv 5) pa_nil))))) pa_nil)))))))), ?_⟩
  obtain ⟨v, cs, P, i, c, m, dg, Dn, M, rfl, bv, lok, hi, ri, po, ms, k⟩ := h
  obtain ⟨p, d, t, dx, B, tops, rfl, f⟩ := id bv
  have le := lok.le
  have few := po.ok.few
  have iq : i < cs.length := (List.getElem?_eq_some_iff.mp hi).1
  refine ⟨_, rfl, _, _, P, rfl, bv, ?_⟩
  refine ⟨_, rfl, _, rfl, _, cs, P, i, c, rfl, bv, lok, hi, ?_⟩
  refine ⟨_, rfl, m, rfl, ?_⟩
  refine ⟨_, rfl, p, dx, _, rfl, f.at_, _, _, P, rfl, bv, _, rfl, p, dx, _, rfl, f.at_, rfl, _, _, P, rfl, bv, fun l xs H1 e1 hl pr => ?_⟩
  have lx : xs.length = P.length := Paired.length pr
  have wl := walk_list (K := Y.K) (a := l) (xs := xs)
  rw [lx] at wl
  refine ⟨l, rfl, ⟨_, sq_of hl⟩, fun D hD => ?_⟩
  refine lc_of (us := P) wl (fun u => decide (u.1.getD i 0 ≤ m)) (fun u y H' => PairAt2 Y H' y u) hD (by omega) (fun H2 e => ex_l e (sq_of hl)) (fun _ _ _ _ e h => h.mono e) (fun _ _ _ _ _ hD h => pair_upd hD h) ?_ ?_
  · rintro j u x H2 H3 Kq N hu e _ ⟨rfl, hx⟩ hk hn
    obtain ⟨u', hu', w, q, y, rfl, h1, h2, h3⟩ := pr_getL pr hx
    obtain rfl : u' = u := Option.some.inj (hu'.symm.trans hu)
    have mu := List.mem_of_getElem? hu
    have h2e := e _ _ h2
    obtain ⟨n, hn2⟩ := get_lt (l := u'.1) (i := i) (by rw [po.ok.len u' mu]; exact iq)
    have gd : u'.1.getD i 0 = n := by rw [List.getD_eq_getElem?_getD, hn2]; rfl
    refine gt2 (st_of (e _ _ h1)) ⟨rfl, ?_⟩
    refine ⟨_, rfl, _, rfl, q, _, _, _, rfl, rfl, st_of h2e, atI_nat (kvs_at hn2), _, rfl, _, _, rfl, rfl, _, rfl, ?_⟩
    by_cases hc : n ≤ m
    · refine iteDT (show (n : Int) ≤ (m : Int) by omega) ?_
      refine ⟨_, rfl, _, rfl, l2, fun T0 hT => hk (decide_eq_true (by rw [gd]; exact hc)) _ _ (Ex.new hT) ⟨T0, q, y, rfl, upd_same, (Ex.new hT) _ _ h2e, h3.mono (exsm (e.trans (Ex.new hT)))⟩⟩
    · exact iteDF (show ¬ (n : Int) ≤ (m : Int) by omega) (hn (decide_eq_false (by rw [gd]; exact hc)) _ (Ex.refl _))
  · intro ys H2 e hd pr2
    have pc := po.cut i m
    have fc := pc.ok.few
    have e2 := e1.trans e
    have lin : LinOk cs.length (cutP P i m) Dn M (allK cs.length dg) := by
      refine ⟨pc.ok.len, pc.ok.small, fun t ht => ?_, len_allK _ le _ po.d5, lok.pos, fun t ht => Rat.le_of_lt (pc.pos t ht), pc.fit, po.dp, po.ds, ?_, by omega⟩
      · have z := mem_allK t.1
        rw [pc.ok.len t ht, pc.deg t ht] at z
        exact z
      · exact Nat.lt_of_le_of_lt (Nat.mul_le_mul (show (cutP P i m).length + 1 ≤ 65 by omega) (Nat.le_refl _)) ms
    refine ⟨cs, D, ys, cutP P i m, Dn, M, _, rfl, lok, hd, pr2, lin, fun v' R H3 e3 bv' o => ?_⟩
    have eq : R = cutP P i m := o.g.one (Gath.self (ri.filter _) pc.pos) fun _ => rfl
    rw [eq] at bv'
    exact k v' H3 (e2.trans e3) bv'

end Km
end

section
set_option Elab.async false
set_option linter.all false
set_option maxRecDepth 100000
namespace Km
/-! ### worths over one bottom -/
theorem fit_top {D M B : Nat} {q : Rat} {z : Int} (hB : B ∣ D) (hD : 0 < D) (h : Fit D M q) (e : (z : Rat) = q * (B : Rat)) : z.natAbs ≤ M := by
  obtain ⟨w, e1, b⟩ := h
  obtain ⟨c, rfl⟩ := hB
  have e2 : ((z * c : Int) : Rat) = (w : Rat) := by
    rw [← e1]
    push_cast
    rw [e]
    grind
  have e3 : z * c = w := Rat.intCast_inj.mp e2
  have cp : 0 < c := Nat.pos_of_mul_pos_left hD
  have e4 : z.natAbs * c = w.natAbs := by rw [← e3, Int.natAbs_mul, Int.natAbs_natCast]
  have := Nat.le_mul_of_pos_right z.natAbs cp
  omega
def scaleL (c : Rat) (w : List Rat) : List Rat := w.map fun x => x * c
theorem pow_addR (c : Rat) (a b : Nat) : c ^ (a + b) = c ^ a * c ^ b := by
  induction b with
  | zero => simp
  | succ n ih => rw [← Nat.add_assoc, Rat.pow_succ, Rat.pow_succ, ih]; grind
theorem mul_powR (x c : Rat) (d : Nat) : (x * c) ^ d = x ^ d * c ^ d := by
  induction d with
  | zero => simp
  | succ d ih => rw [Rat.pow_succ, Rat.pow_succ, Rat.pow_succ, ih]; grind
theorem mono_scale (c : Rat) : ∀ (w : List Rat) (k : Ky), w.length = k.length → mono (scaleL c w) k = c ^ deg k * mono w k
  | [], [], _ => by simp [scaleL, mono, deg]
  | [], _ :: _, h => by cases h
  | _ :: _, [], h => by cases h
  | x :: w, d :: k, h => by
    show (x * c) ^ d * mono (scaleL c w) k = c ^ (d + deg k) * (x ^ d * mono w k)
    rw [mono_scale c w k (Nat.succ.inj h)]
    have e1 := mul_powR x c d
    have e2 := pow_addR c d (deg k)
    rw [e1, e2]
    grind
theorem dz_congr {f g : Ky → Rat} : ∀ (n : List Rat) (k : Ky), (∀ j : Ky, j.length = k.length → f j = g j) → dz n f k = dz n g k
  | [], _, _ => rfl
  | _ :: _, [], _ => rfl
  | x :: n, c :: k, h => by
    show x * (c : Rat) * f ((c - 1) :: k) + dz n (fun j => f (c :: j)) k = x * (c : Rat) * g ((c - 1) :: k) + dz n (fun j => g (c :: j)) k
    rw [h ((c - 1) :: k) rfl, dz_congr n k fun j hj => h (c :: j) (congrArg Nat.succ hj)]
theorem dz_hom (c : Rat) : ∀ (v : List Rat) (f : Ky → Rat) (k : Ky), dz (scaleL c v) (fun j => c ^ deg j * f j) k = c ^ deg k * dz v f k
  | [], f, k => by
    show (0 : Rat) = c ^ deg k * 0
    rw [Rat.mul_zero]
  | _ :: _, _, [] => by
    show (0 : Rat) = c ^ deg [] * 0
    rw [Rat.mul_zero]
  | x :: v, f, d :: k => by
    show (x * c) * (d : Rat) * (c ^ deg ((d - 1) :: k) * f ((d - 1) :: k)) + dz (scaleL c v) (fun j => c ^ deg (d :: j) * f (d :: j)) k = c ^ deg (d :: k) * (x * (d : Rat) * f ((d - 1) :: k) + dz v (fun j => f (d :: j)) k)
    have e1 : dz (scaleL c v) (fun j => c ^ deg (d :: j) * f (d :: j)) k = c ^ deg (d :: k) * dz v (fun j => f (d :: j)) k := by
      have e2 : (fun j => c ^ deg (d :: j) * f (d :: j)) = fun j => c ^ deg j * (c ^ d * f (d :: j)) := by
        funext j
        show c ^ (d + deg j) * _ = _
        rw [pow_addR]
        grind
      rw [e2, dz_hom c v (fun j => c ^ d * f (d :: j)) k, dz_smul]
      show _ = c ^ (d + deg k) * _
      rw [pow_addR]
      grind
    rw [e1]
    cases d with
    | zero =>
      have : ((0 : Nat) : Rat) = 0 := rfl
      rw [this]
      grind
    | succ d =>
      show (x * c) * ((d + 1 : Nat) : Rat) * (c ^ (d + deg k) * f (d :: k)) + _ = c ^ (d + 1 + deg k) * (x * ((d + 1 : Nat) : Rat) * f (d :: k) + _)
      have e3 : c ^ (d + 1 + deg k) = c * c ^ (d + deg k) := by
        rw [show d + 1 + deg k = (d + deg k) + 1 by omega, Rat.pow_succ]
        grind
      show _ + c ^ (d + 1 + deg k) * _ = _
      rw [e3]
      grind
theorem scale_len (c : Rat) (w : List Rat) : (scaleL c w).length = w.length := List.length_map ..
theorem dz_mono (c : Rat) {w v : List Rat} {k : Ky} (hw : w.length = k.length) : dz (scaleL c v) (mono (scaleL c w)) k = c ^ deg k * dz v (mono w) k := by
  rw [← dz_hom c v (mono w) k]
  exact dz_congr _ _ fun j hj => mono_scale c w j (hw.trans hj.symm)
theorem dz_mono2 (c : Rat) {w v : List Rat} {k : Ky} (hw : w.length = k.length) : dz (scaleL c v) (dz (scaleL c v) (mono (scaleL c w))) k = c ^ deg k * dz v (dz v (mono w)) k := by
  rw [← dz_hom c v (dz v (mono w)) k]
  exact dz_congr _ _ fun j hj => dz_mono c (hw.trans hj.symm)
/-! ### rows of ints -/
abbrev TriZ := Int × Int × Int
def stepZ (x y : Int) (r : TriZ) : TriZ := (r.1 * x, r.2.1 * x + r.1 * y, r.2.2 * x + r.2.1 * y)
def stepNZ (x y : Int) : Nat → TriZ → TriZ
  | 0, r => r
  | c + 1, r => stepNZ x y c (stepZ x y r)
def lineZ : List Int → List Int → Ky → TriZ → TriZ
  | x :: w, y :: v, c :: k, r => lineZ w v k (stepNZ x y c r)
  | _, _, _, r => r
def toR (r : TriZ) : Tri := ((r.1 : Rat), (r.2.1 : Rat), (r.2.2 : Rat))
theorem step_R (x y : Int) (r : TriZ) : toR (stepZ x y r) = step3 (x : Rat) (y : Rat) (toR r) := by
  unfold toR stepZ step3
  push_cast
  rfl
theorem stepN_R (x y : Int) : ∀ (c : Nat) (r : TriZ), toR (stepNZ x y c r) = stepN (x : Rat) (y : Rat) c (toR r)
  | 0, _ => rfl
  | c + 1, r => by
    show toR (stepNZ x y c (stepZ x y r)) = stepN (x : Rat) (y : Rat) c (step3 (x : Rat) (y : Rat) (toR r))
    rw [stepN_R, step_R]
theorem line_R : ∀ (w v : List Int) (k : Ky) (r : TriZ), toR (lineZ w v k r) = line3 (w.map fun (x : Int) => (x : Rat)) (v.map fun (x : Int) => (x : Rat)) k (toR r)
  | [], _, _, _ => rfl
  | _ :: _, [], _, _ => rfl
  | _ :: _, _ :: _, [], _ => rfl
  | x :: w, y :: v, c :: k, r => by
    show toR (lineZ w v k (stepNZ x y c r)) = line3 _ _ k (stepN (x : Rat) (y : Rat) c (toR r))
    rw [line_R w v k, stepN_R]
theorem stepNZ_succ (x y : Int) : ∀ (c : Nat) (r : TriZ), stepNZ x y (c + 1) r = stepZ x y (stepNZ x y c r)
  | 0, _ => rfl
  | c + 1, r => by
    show stepNZ x y (c + 1) (stepZ x y r) = stepZ x y (stepNZ x y c (stepZ x y r))
    rw [stepNZ_succ x y c]
theorem lineZ_snoc (x y : Int) (c : Nat) : ∀ (w v : List Int) (k : Ky) (r : TriZ), w.length = k.length → v.length = k.length → lineZ (w ++ [x]) (v ++ [y]) (k ++ [c]) r = stepNZ x y c (lineZ w v k r)
  | [], [], [], _, _, _ => rfl
  | [], _ :: _, [], _, _, h => by cases h
  | [], _, _ :: _, _, h, _ => by cases h
  | _ :: _, _, [], _, h, _ => by cases h
  | _ :: _, [], _ :: _, _, _, h => by cases h
  | a :: w, b :: v, d :: k, r, h1, h2 => lineZ_snoc x y c w v k (stepNZ a b d r) (Nat.succ.inj h1) (Nat.succ.inj h2)
def BigZ (b : Nat) (r : TriZ) : Prop := r.1.natAbs < 2 ^ b ∧ r.2.1.natAbs < 2 ^ b ∧ r.2.2.natAbs < 2 ^ b
theorem big_step {b c : Nat} {x y : Int} {r : TriZ} (h : BigZ b r) (hx : x.natAbs < 2 ^ c) (hy : y.natAbs < 2 ^ c) : BigZ (b + c + 1) (stepZ x y r) := by
  obtain ⟨h1, h2, h3⟩ := h
  have m : ∀ {p q : Int}, p.natAbs < 2 ^ b → q.natAbs < 2 ^ c → (p * q).natAbs < 2 ^ (b + c) := fun hp hq => by
    rw [Int.natAbs_mul, Nat.pow_add]
    exact Nat.mul_lt_mul'' hp hq
  have e : 2 ^ (b + c + 1) = 2 ^ (b + c) + 2 ^ (b + c) := by rw [Nat.pow_succ]; omega
  refine ⟨?_, ?_, ?_⟩
  · have := m h1 hx
    show (r.1 * x).natAbs < _
    omega
  · have a1 := m h2 hx
    have a2 := m h1 hy
    have := Int.natAbs_add_le (r.2.1 * x) (r.1 * y)
    show (r.2.1 * x + r.1 * y).natAbs < _
    omega
  · have a1 := m h3 hx
    have a2 := m h2 hy
    have := Int.natAbs_add_le (r.2.2 * x) (r.2.1 * y)
    show (r.2.2 * x + r.2.1 * y).natAbs < _
    omega
theorem BigZ.mono {b c : Nat} {r : TriZ} (h : BigZ b r) (l : b ≤ c) : BigZ c r :=
  have p : 2 ^ b ≤ 2 ^ c := Nat.pow_le_pow_right (by decide) l
  ⟨Nat.lt_of_lt_of_le h.1 p, Nat.lt_of_lt_of_le h.2.1 p, Nat.lt_of_lt_of_le h.2.2 p⟩
theorem big_stepN {b : Nat} {x y : Int} (hx : x.natAbs < 2 ^ 300) (hy : y.natAbs < 2 ^ 300) : ∀ (c : Nat) (r : TriZ), BigZ b r → BigZ (b + 301 * c) (stepNZ x y c r)
  | 0, _, h => h
  | c + 1, r, h => by
    rw [stepNZ_succ]
    exact (big_step (big_stepN hx hy c r h) hx hy).mono (by omega)
theorem big_line : ∀ (w v : List Int) (k : Ky) (b : Nat) (r : TriZ), (∀ x ∈ w, x.natAbs < 2 ^ 300) → (∀ x ∈ v, x.natAbs < 2 ^ 300) → BigZ b r → BigZ (b + 301 * deg k) (lineZ w v k r)
  | [], _, k, b, r, _, _, h => h.mono (Nat.le_add_right _ _)
  | _ :: _, [], k, b, r, _, _, h => h.mono (Nat.le_add_right _ _)
  | _ :: _, _ :: _, [], b, r, _, _, h => h
  | x :: w, y :: v, c :: k, b, r, hw, hv, h => by
    have z := big_line w v k (b + 301 * c) (stepNZ x y c r) (fun u hu => hw u (List.mem_cons_of_mem _ hu)) (fun u hu => hv u (List.mem_cons_of_mem _ hu)) (big_stepN (hw x (List.mem_cons_self ..)) (hv y (List.mem_cons_self ..)) c r h)
    refine z.mono ?_
    show b + 301 * c + 301 * deg k ≤ b + 301 * (c + deg k)
    omega
/-- the sums over the products, as ints -/
def sumZ (w v : List Int) : List (Ky × Int) → TriZ
  | [] => (0, 0, 0)
  | t :: l => let a := lineZ w v t.1 (t.2, 0, 0); let b := sumZ w v l; (b.1 + a.1, b.2.1 + a.2.1, b.2.2 + a.2.2)
def addZ (a b : TriZ) : TriZ := (a.1 + b.1, a.2.1 + b.2.1, a.2.2 + b.2.2)
theorem sumZ_snoc (w v : List Int) (t : Ky × Int) : ∀ l : List (Ky × Int), sumZ w v (l ++ [t]) = addZ (sumZ w v l) (lineZ w v t.1 (t.2, 0, 0))
  | [] => by
    show ((0 : Int) + _, (0 : Int) + _, (0 : Int) + _) = ((0 : Int) + _, (0 : Int) + _, (0 : Int) + _)
    rfl
  | s :: l => by
    show ((sumZ w v (l ++ [t])).1 + _, (sumZ w v (l ++ [t])).2.1 + _, (sumZ w v (l ++ [t])).2.2 + _) = (((sumZ w v l).1 + _) + _, ((sumZ w v l).2.1 + _) + _, ((sumZ w v l).2.2 + _) + _)
    rw [sumZ_snoc w v t l]
    unfold addZ
    refine Prod.ext ?_ (Prod.ext ?_ ?_)
    · show _ + _ + _ = _ + _ + _
      omega
    · show _ + _ + _ = _ + _ + _
      omega
    · show _ + _ + _ = _ + _ + _
      omega
/-- the top of a number over the bottom B, when it has one -/
def topZ (B : Nat) (t : Ky × Rat) : Ky × Int := (t.1, (t.2 * (B : Rat)).num)
theorem topZ_of {B : Nat} {t : Ky × Rat} {z : Int} (h : (z : Rat) = t.2 * (B : Rat)) : (topZ B t).2 = z := by
  show (t.2 * (B : Rat)).num = z
  rw [← h]
  exact Rat.num_intCast z
theorem line_one {ws vs : List Rat} {w v : List Int} {c b : Rat} {k : Ky} {z : Int} {q : Rat} (hw : w.map (fun (x : Int) => (x : Rat)) = scaleL c ws) (hv : v.map (fun (x : Int) => (x : Rat)) = scaleL c vs)
    (lw : ws.length = k.length) (lv : vs.length = k.length) (hz : (z : Rat) = q * b) :
    toR (lineZ w v k (z, 0, 0)) = (b * c ^ deg k * (q * mono ws k), b * c ^ deg k * (q * dz vs (mono ws) k), b * c ^ deg k * (q * (dz vs (dz vs (mono ws)) k / 2))) := by
  rw [line_R, hw, hv, line3_eq _ _ _ _ (by rw [scale_len]; exact lw) (by rw [scale_len]; exact lv), mono_scale c ws k lw, dz_mono c lw, dz_mono2 c lw]
  show (((z : Int) : Rat) * _, ((0 : Int) : Rat) * _ + ((z : Int) : Rat) * _, ((0 : Int) : Rat) * _ + ((0 : Int) : Rat) * _ + ((z : Int) : Rat) * _) = _
  rw [hz, show ((0 : Int) : Rat) = 0 from rfl]
  refine Prod.ext ?_ (Prod.ext ?_ ?_)
  · show _ = _
    grind
  · show _ = _
    grind
  · show _ = _
    grind
theorem sum_all {ws vs : List Rat} {w v : List Int} {c : Rat} {B dg : Nat} (hw : w.map (fun (x : Int) => (x : Rat)) = scaleL c ws) (hv : v.map (fun (x : Int) => (x : Rat)) = scaleL c vs) : ∀ P : Poly, (∀ t ∈ P, ws.length = t.1.length ∧ vs.length = t.1.length ∧ deg t.1 = dg ∧ (((topZ B t).2 : Int) : Rat) = t.2 * (B : Rat)) →
    toR (sumZ w v (P.map (topZ B))) = ((B : Rat) * c ^ dg * ev P (mono ws), (B : Rat) * c ^ dg * ev P (dz vs (mono ws)), (B : Rat) * c ^ dg * (ev P (dz vs (dz vs (mono ws))) / 2))
  | [], _ => by
    show (((0 : Int) : Rat), ((0 : Int) : Rat), ((0 : Int) : Rat)) = _
    rw [ev_nil, ev_nil, ev_nil, show ((0 : Int) : Rat) = 0 from rfl]
    refine Prod.ext ?_ (Prod.ext ?_ ?_)
    · show (0 : Rat) = _
      grind
    · show (0 : Rat) = _
      grind
    · show (0 : Rat) = _
      grind
  | t :: P, h => by
    have ih := sum_all hw hv P fun u hu => h u (List.mem_cons_of_mem _ hu)
    obtain ⟨h1, h2, h3, h4⟩ := h t (List.mem_cons_self ..)
    have one := line_one (k := t.1) (q := t.2) hw hv h1 h2 h4
    rw [h3] at one
    show ((((sumZ w v (P.map (topZ B))).1 + (lineZ w v t.1 ((topZ B t).2, 0, 0)).1 : Int) : Rat), (((sumZ w v (P.map (topZ B))).2.1 + (lineZ w v t.1 ((topZ B t).2, 0, 0)).2.1 : Int) : Rat), (((sumZ w v (P.map (topZ B))).2.2 + (lineZ w v t.1 ((topZ B t).2, 0, 0)).2.2 : Int) : Rat)) = _
    obtain ⟨i1, i⟩ := Prod.mk.inj ih
    obtain ⟨i2, i3⟩ := Prod.mk.inj i
    obtain ⟨o1, o⟩ := Prod.mk.inj one
    obtain ⟨o2, o3⟩ := Prod.mk.inj o
    rw [Rat.intCast_add, Rat.intCast_add, Rat.intCast_add, i1, i2, i3, o1, o2, o3, ev_cons, ev_cons, ev_cons]
    refine Prod.ext ?_ (Prod.ext ?_ ?_)
    · show _ = _
      grind
    · show _ = _
      grind
    · show _ = _
      grind
/-- a row of powers of t, cut at m -/
def rowT (m : Nat) (r : TriZ) : List Int := [r.1, r.2.1, r.2.2].take m
theorem row_next {m i : Nat} {r : TriZ} {x y u : Int} (hm : m = 2 ∨ m = 3) (hu : ((rowT m (stepZ x y r)).drop 1)[i]? = some u) : ∃ a b, (rowT m r)[i + 1]? = some a ∧ (rowT m r)[i]? = some b ∧ u = a * x + b * y := by
  rcases hm with rfl | rfl
  · match i, hu with
    | 0, hu => exact ⟨_, _, rfl, rfl, (Option.some.inj hu).symm⟩
    | _ + 1, hu => cases hu
  · match i, hu with
    | 0, hu => exact ⟨_, _, rfl, rfl, (Option.some.inj hu).symm⟩
    | 1, hu => exact ⟨_, _, rfl, rfl, (Option.some.inj hu).symm⟩
    | _ + 2, hu => cases hu
theorem row_big {m i b : Nat} {r : TriZ} {a : Int} (h : BigZ b r) (ha : (rowT m r)[i]? = some a) : a.natAbs < 2 ^ b := by
  have ma := List.mem_of_mem_take (List.mem_of_getElem? ha)
  obtain ⟨h1, h2, h3⟩ := h
  rcases List.mem_cons.mp ma with rfl | ma
  · exact h1
  rcases List.mem_cons.mp ma with rfl | ma
  · exact h2
  rw [List.mem_singleton.mp ma]
  exact h3
theorem row_len {m : Nat} (r : TriZ) (hm : m = 2 ∨ m = 3) : (rowT m r).length = m := by
  rcases hm with rfl | rfl <;> rfl
theorem row_head {m : Nat} (r : TriZ) (hm : m = 2 ∨ m = 3) : rowT m r = r.1 :: (rowT m r).drop 1 := by
  rcases hm with rfl | rfl <;> rfl
theorem row_add {m : Nat} (a b : TriZ) (hm : m = 2 ∨ m = 3) : List.zipWith (fun x y => x + y) (rowT m a) (rowT m b) = rowT m (addZ a b) := by
  rcases hm with rfl | rfl <;> rfl
def topsLe (n : Nat) (r : TriZ) : Prop := r.1.natAbs ≤ n ∧ r.2.1.natAbs ≤ n ∧ r.2.2.natAbs ≤ n
theorem sum_le {w v : List Int} {b : Nat} : ∀ l : List (Ky × Int), (∀ t ∈ l, BigZ b (lineZ w v t.1 (t.2, 0, 0))) → topsLe (l.length * 2 ^ b) (sumZ w v l)
  | [], _ => ⟨Nat.zero_le _, Nat.zero_le _, Nat.zero_le _⟩
  | t :: l, h => by
    obtain ⟨h1, h2, h3⟩ := sum_le l fun u hu => h u (List.mem_cons_of_mem _ hu)
    obtain ⟨a1, a2, a3⟩ := h t (List.mem_cons_self ..)
    have e : (t :: l).length * 2 ^ b = l.length * 2 ^ b + 2 ^ b := Nat.succ_mul _ _
    refine ⟨?_, ?_, ?_⟩
    · rw [e]
      have := Int.natAbs_add_le (sumZ w v l).1 (lineZ w v t.1 (t.2, 0, 0)).1
      show ((sumZ w v l).1 + (lineZ w v t.1 (t.2, 0, 0)).1).natAbs ≤ _
      omega
    · rw [e]
      have := Int.natAbs_add_le (sumZ w v l).2.1 (lineZ w v t.1 (t.2, 0, 0)).2.1
      show ((sumZ w v l).2.1 + (lineZ w v t.1 (t.2, 0, 0)).2.1).natAbs ≤ _
      omega
    · rw [e]
      have := Int.natAbs_add_le (sumZ w v l).2.2 (lineZ w v t.1 (t.2, 0, 0)).2.2
      show ((sumZ w v l).2.2 + (lineZ w v t.1 (t.2, 0, 0)).2.2).natAbs ≤ _
      omega
theorem sum_big {w v : List Int} {b : Nat} (hb : b + 6 < 4000) {l : List (Ky × Int)} (hl : l.length < 64) (h : ∀ t ∈ l, BigZ b (lineZ w v t.1 (t.2, 0, 0))) : BigZ 4000 (sumZ w v l) := by
  obtain ⟨h1, h2, h3⟩ := sum_le l h
  have e1 : l.length * 2 ^ b ≤ 2 ^ 6 * 2 ^ b := Nat.mul_le_mul (by omega) (Nat.le_refl _)
  rw [← Nat.pow_add] at e1
  have e2 : 2 ^ (6 + b) < 2 ^ 4000 := Nat.pow_lt_pow_right (by decide) (by omega)
  exact ⟨by omega, by omega, by omega⟩
/-- a product of powers -/
def prodZ : List Int → Ky → Int → Int
  | x :: w, c :: k, r => prodZ w k (r * x ^ c)
  | _, _, r => r
theorem prodZ_snoc (x : Int) (c : Nat) : ∀ (w : List Int) (k : Ky) (r : Int), w.length = k.length → prodZ (w ++ [x]) (k ++ [c]) r = prodZ w k r * x ^ c
  | [], [], _, _ => rfl
  | [], _ :: _, _, h => by cases h
  | _ :: _, [], _, h => by cases h
  | _ :: w, _ :: k, _, h => prodZ_snoc x c w k _ (Nat.succ.inj h)
theorem intpow_rat (x : Int) (c : Nat) : ((x ^ c : Int) : Rat) = (x : Rat) ^ c := by
  induction c with
  | zero => rw [Int.pow_zero, Rat.pow_zero]; rfl
  | succ n ih => rw [Int.pow_succ, Rat.pow_succ, Rat.intCast_mul, ih]
theorem prodZ_rat : ∀ (w : List Int) (k : Ky) (r : Int), w.length = k.length → ((prodZ w k r : Int) : Rat) = (r : Rat) * mono (w.map fun (x : Int) => (x : Rat)) k
  | [], [], r, _ => by
    show (r : Rat) = (r : Rat) * 1
    rw [Rat.mul_one]
  | [], _ :: _, _, h => by cases h
  | _ :: _, [], _, h => by cases h
  | x :: w, c :: k, r, h => by
    show ((prodZ w k (r * x ^ c) : Int) : Rat) = (r : Rat) * ((x : Rat) ^ c * mono _ k)
    rw [prodZ_rat w k _ (Nat.succ.inj h), Rat.intCast_mul, intpow_rat, Rat.mul_assoc]
def sumP (w : List Int) : List (Ky × Int) → Int
  | [] => 0
  | t :: l => sumP w l + prodZ w t.1 t.2
theorem sumP_snoc (w : List Int) (t : Ky × Int) : ∀ l, sumP w (l ++ [t]) = sumP w l + prodZ w t.1 t.2
  | [] => rfl
  | s :: l => by
    show sumP w (l ++ [t]) + _ = sumP w l + _ + _
    rw [sumP_snoc w t l]
    omega
theorem sumP_rat {ws : List Rat} {w : List Int} {c : Rat} {B dg : Nat} (hw : w.map (fun (x : Int) => (x : Rat)) = scaleL c ws) : ∀ P : Poly, (∀ t ∈ P, ws.length = t.1.length ∧ deg t.1 = dg ∧ (((topZ B t).2 : Int) : Rat) = t.2 * (B : Rat)) →
    ((sumP w (P.map (topZ B)) : Int) : Rat) = (B : Rat) * c ^ dg * ev P (mono ws)
  | [], _ => by
    show ((0 : Int) : Rat) = _
    rw [ev_nil, Rat.mul_zero]
    rfl
  | t :: P, h => by
    obtain ⟨h1, h2, h3⟩ := h t (List.mem_cons_self ..)
    have lw : w.length = t.1.length := by
      have := congrArg List.length hw
      rw [List.length_map, scale_len] at this
      omega
    show ((sumP w (P.map (topZ B)) + prodZ w t.1 (topZ B t).2 : Int) : Rat) = _
    rw [Rat.intCast_add, sumP_rat hw P fun u hu => h u (List.mem_cons_of_mem _ hu), prodZ_rat _ _ _ lw, hw, mono_scale c ws t.1 h1, h2, h3, ev_cons]
    grind
end Km
end

section
set_option Elab.async false
set_option linter.all false
set_option maxRecDepth 100000
namespace Km
open PySem PySem.Spec PyProof.Rows L2 Evl
open C8 (fn0 fnScope_by Cal Mak Met pe_c pe_mk pe_mt pe_mt0 pe_gc fnScope fnBody fnArgs)
variable {Y : Yc}


def sp_power_of (Y : Yc) : Sp := fun vs H Q _ => ∃ (x : Int) (n : Nat), vs = [.int x, .int (n : Int)] ∧ x.natAbs < 2 ^ 4000 ∧ n ≤ 5 ∧ Q (.int (x ^ n)) H
theorem pow_big {x : Int} {n : Nat} (hx : x.natAbs < 2 ^ 4000) (hn : n ≤ 5) : (x ^ n).natAbs < 2 ^ 20001 := by
  rw [Int.natAbs_pow]
  have h1 : x.natAbs ^ n ≤ (2 ^ 4000) ^ n := Nat.pow_le_pow_left (Nat.le_of_lt hx) n
  rw [← Nat.pow_mul] at h1
  have h2 : 2 ^ (4000 * n) ≤ 2 ^ 20000 := Nat.pow_le_pow_right (by decide) (by omega)
  have h3 : 2 ^ 20000 < 2 ^ 20001 := Nat.pow_lt_pow_right (by decide) (by omega)
  exact Nat.lt_of_le_of_lt (Nat.le_trans h1 h2) h3

abbrev st_power_of : Stmt := top 86
theorem ok_power_of {f : Addr} {fd : FuncData} (F : C8.Fun Y.K "power_of" "power_of" st_power_of f fd) (T : TxtY Y)  : FnOk Y.P Y.w Y.K Y.mg Y.base C8.CX0 1 f fd ["number", "many"] (sp_power_of Y) := by
  have S : FnScope ["number", "many", "found", "turn"] ["number", "many"] (fnScope st_power_of) := fnScope_by (by decide +kernel)
  have nd := S.nd
  refine fn0 F S (fun vs H Q E h => ?_) (fun cdv A outer s H vs Q E hr h => ?_)
  · obtain ⟨_, _, rfl, _⟩ := h; rfl
  refine ⟨_, (pss_cons (ps_set (i := 2) nd rfl (Or.inl rfl) pe_int)
    (pss_cons (ps_for PassesOwn.never rfl (pi_range1 rfl T.n_range (pa_cons (pv 1) pa_nil)) (pg_name (i := 3) nd rfl (Or.inl rfl))
    (pss_one (ps_set (i := 2) nd rfl (Or.inl rfl) (pe_op op_mulW (pv 2) (pv 0)))))
    (pss_one (ps_ret (pv 2))))), ?_⟩
  obtain ⟨x, n, rfl, hx, hn, k⟩ := h
  refine ⟨_, rfl, _, rfl, by omega, by omega, ?_⟩
  refine for_it walk_range (fun i σ H' => H' = H ∧ ∃ o, σ = [some (.int x), some (.int n), some (.int (x ^ i)), o]) ⟨rfl, none, by rw [Int.pow_zero]; rfl⟩ (fun _ _ _ _ _ => trivial) ?_ ?_
  · rintro i v σ H' H2 hi ⟨rfl, o, rfl⟩ ⟨rfl, rfl⟩
    rw [Int.toNat_natCast] at hi
    exact ⟨_, rfl, _, rfl, _, _, rfl, rfl, wide_mul (pow_big hx (Nat.le_trans (Nat.le_of_lt hi) hn)) hx (by decide) (by decide) (by decide), rfl, _, by rw [Int.pow_succ]; rfl⟩
  · rintro σ H' ⟨rfl, o, rfl⟩
    rw [Int.toNat_natCast]
    exact ⟨_, rfl, k⟩

def sp_with_factor (Y : Yc) : Sp := fun vs H Q _ => ∃ (l : Addr) (m : Nat) (r : TriZ) (x y : Int), vs = [.ref l, .int x, .int y] ∧ (m = 2 ∨ m = 3) ∧ H l = some (.lst ((rowT m r).map V.int)) ∧ BigZ 4000 r ∧ x.natAbs < 2 ^ 300 ∧ y.natAbs < 2 ^ 300 ∧
  ∀ l' H', Ex H H' → H' l' = some (.lst ((rowT m (stepZ x y r)).map V.int)) → Q (.ref l') H'
theorem int_paired : ∀ {us : List Int} {ys : List V}, Paired (fun y u => y = V.int u) ys us → ys = us.map V.int
  | _, _, .nil => rfl
  | _, _, .cons h t => by rw [h, int_paired t]; rfl
theorem lt300 {x : Int} (h : x.natAbs < 2 ^ 300) : x.natAbs < 2 ^ 4000 := Nat.lt_trans h (Nat.pow_lt_pow_right (by decide) (by decide))

abbrev st_with_factor : Stmt := top 87
theorem ok_with_factor {f : Addr} {fd : FuncData} (F : C8.Fun Y.K "with_factor" "with_factor" st_with_factor f fd) (T : TxtY Y)  : FnOk Y.P Y.w Y.K Y.mg Y.base C8.CX0 1 f fd ["row", "one", "other"] (sp_with_factor Y) := by
  have S : FnScope ["row", "one", "other", "at"] ["row", "one", "other"] (fnScope st_with_factor) := fnScope_by (by decide +kernel)
  have nd := S.nd
  refine fn0 F S (fun vs H Q E h => ?_) (fun cdv A outer s H vs Q E hr h => ?_)
  · obtain ⟨_, _, _, _, _, rfl, _⟩ := h; rfl
  refine ⟨_, (pss_one (ps_ret (pe_op op_cat (pe_lst (pa_cons (pe_op op_mulW (pe_ix ix_list (pv 0) pe_int (fun _ _ => rfl)) (pv 1)) pa_nil)) (pe_lc (own := [("at", 3)]) (g := gName 3) (tt := tYes) rfl nd (pi_range2 rfl T.n_range (pa_cons pe_int (pa_cons (pe_callB call_len rfl T.n_len boot_len (pa_cons (pv 0) pa_nil)) pa_nil))) (blkOk_by (N := ["row", "one", "other", "at"]) (sc := (fnScope st_with_factor)) (by decide +kernel)) (fun _ _ _ _ _ => by exact (pg_name (i := 3) nd rfl (Or.inl rfl))) (fun _ _ _ _ _ => by exact pts_nil) (fun _ _ _ _ _ => by exact (pe_op op_add (pe_op op_mulW (pe_ix (ixlB Y.K) (pv 0) (pv 3) (fun _ _ => rfl)) (pv 1)) (pe_op op_mulW (pe_ix (ixlB Y.K) (pv 0) (pe_op op_sub (pv 3) pe_int) (fun _ _ => rfl)) (pv 2)))))))), ?_⟩
  obtain ⟨l, m, r, x, y, rfl, hm, hl, br, hx, hy, k⟩ := h
  have ln := row_len r hm
  have lm : ((rowT m r).map V.int).length = m := by rw [List.length_map, ln]
  have at_ : ∀ {i : Nat} {a : Int}, (rowT m r)[i]? = some a → atI ((rowT m r).map V.int) (i : Nat) = some (.int a) := fun h => atI_nat (by rw [List.getElem?_map, h]; rfl)
  refine ⟨_, rfl, l, _, 0, _, rfl, rfl, sq_of hl, at_ (i := 0) (a := r.1) (by rw [row_head r hm]; rfl), _, rfl, _, _, rfl, rfl, cm (row_big (i := 0) br (by rw [row_head r hm]; rfl)) (lt300 hx), l1, fun A hA => ?_⟩
  have e1 : Ex H (upd H A (.lst [.int (r.1 * x)])) := Ex.new hA
  have gA : (upd H A (.lst [.int (r.1 * x)])) A = some (.lst [.int (r.1 * x)]) := upd_same
  have lm2 : m = ((rowT m r).map V.int).length := lm.symm
  refine ⟨_, rfl, _, _, rfl, .inl ⟨_, sq_of (e1 _ _ hl), lm2⟩, 1, (m : Int), rfl, ⟨by decide, by decide, by omega, by omega⟩, fun D hD => ?_⟩
  obtain ⟨us, hus⟩ : ∃ us, us = (rowT m (stepZ x y r)).drop 1 := ⟨_, rfl⟩
  have lu : us.length = m - 1 := by rw [hus, List.length_drop, row_len _ hm]
  have en : ((m : Int) - 1).toNat = us.length := by omega
  rw [en]
  refine lc_map (us := us) (walk_range (lo := 1) (n := us.length)) (fun u y _ => y = V.int u) hD (by omega) (fun _ _ => trivial) (fun _ _ _ _ _ h => h) (fun _ _ _ _ _ _ h => h) ?_ gn_mono ?_
  · rintro i u z H2 H3 Kq hu e _ ⟨rfl, rfl⟩ hk
    rw [hus] at hu
    obtain ⟨a, b, ha, hb, rfl⟩ := row_next hm hu
    have hl2 := (e1.trans e) _ _ hl
    have i1 : atI ((rowT m r).map V.int) (1 + (i : Int)) = some (.int a) := by
      have := at_ ha
      rwa [show (((i + 1 : Nat) : Int)) = 1 + (i : Int) by omega] at this
    have i2 : atI ((rowT m r).map V.int) (1 + (i : Int) - 1) = some (.int b) := by
      have := at_ hb
      rwa [show ((i : Nat) : Int) = 1 + (i : Int) - 1 by omega] at this
    exact ⟨rfl, _, rfl, _, rfl, l, _, _, _, rfl, rfl, sq_of hl2, i1, _, rfl, _, _, rfl, rfl, cm (row_big br ha) (lt300 hx), _, rfl, _, rfl, _, _, rfl, rfl, l, _, _, _, rfl, rfl, sq_of hl2, i2, _, rfl, _, _, rfl, rfl, cm (row_big br hb) (lt300 hy), _, _, rfl, rfl, hk _ _ (Ex.refl _) rfl⟩
  · intro ys H2 e hd pr2
    have ey := int_paired pr2
    subst ey
    refine ⟨A, D, _, _, rfl, rfl, e _ _ gA, hd, sz_small (show 1 + (us.map V.int).length ≤ 1000 by rw [List.length_map]; omega), fun p hp => k p _ ((e1.trans e).trans (Ex.new hp)) ?_⟩
    rw [upd_same, row_head _ hm, hus]
    rfl

/-- a list of ratios that fit -/
structure LineOk (Y : Yc) (H : Hp) (a : Addr) (ws : List Rat) (E N n : Nat) : Prop where
  lst : ∃ xs, H a = some (.lst xs) ∧ RatL Y H xs ws
  len : ws.length = n
  fit : ∀ q ∈ ws, Fit E N q
theorem LineOk.mono {H H' : Hp} {a : Addr} {ws : List Rat} {E N n : Nat} (h : LineOk Y H a ws E N n) (e : Ex H H') : LineOk Y H' a ws E N n :=
  let ⟨xs, h1, h2⟩ := h.lst
  ⟨⟨xs, e _ _ h1, h2.mono (exsm e)⟩, h.len, h.fit⟩
structure SumsOk (P : Poly) (ws vs : List Rat) (b : Nat) (r : TriZ) : Prop where
  pos : 0 < b
  sz : b < 2 ^ 4000
  big : BigZ 4000 r
  one : (r.1 : Rat) = (b : Rat) * ev P (mono ws)
  two : (r.2.1 : Rat) = (b : Rat) * ev P (dz vs (mono ws))
  three : (r.2.2 : Rat) = (b : Rat) * (ev P (dz vs (dz vs (mono ws))) / 2)
theorem sums_nil (ws vs : List Rat) : SumsOk [] ws vs 1 (0, 0, 0) := by
  refine ⟨by decide, Nat.one_lt_two_pow (by decide), ⟨Nat.two_pow_pos 4000, Nat.two_pow_pos 4000, Nat.two_pow_pos 4000⟩, ?_, ?_, ?_⟩
  · show ((0 : Int) : Rat) = _
    rw [ev_nil, Rat.mul_zero]; rfl
  · show ((0 : Int) : Rat) = _
    rw [ev_nil, Rat.mul_zero]; rfl
  · show ((0 : Int) : Rat) = _
    rw [ev_nil]
    have : ((0 : Int) : Rat) = 0 := rfl
    rw [this]
    grind
theorem deg_take : ∀ (k : Ky) (j c : Nat), k[j]? = some c → deg (k.take j) + c ≤ deg k
  | [], _, _, h => by cases h
  | d :: k, 0, c, h => by
    obtain rfl : d = c := Option.some.inj h
    show 0 + d ≤ d + deg k
    omega
  | d :: k, j + 1, c, h => by
    have := deg_take k j c h
    show d + deg (k.take j) + c ≤ d + deg k
    omega
theorem up_small {C En N : Nat} {ws : List Rat} (hC : C ∣ En) (ep : 0 < En) (hN : N < 2 ^ 300) (hd : ∀ q ∈ ws, q.den ∣ C) (hf : ∀ q ∈ ws, Fit En N q) : ∀ x ∈ ws.map fun q => upTo C q, x.natAbs < 2 ^ 300 := by
  intro x hx
  obtain ⟨q, hq, rfl⟩ := List.mem_map.mp hx
  exact Nat.lt_of_le_of_lt (fit_top hC ep (hf q hq) (upTo_rat (hd q hq))) hN
theorem big_bot {B C D En dg : Nat} (hB : B ≤ D) (hC : C ≤ En) (ep : 0 < En) (h5 : dg ≤ 5) (h : D * En ^ 5 < 2 ^ 4000) : B * C ^ dg < 2 ^ 4000 := by
  have h1 : C ^ dg ≤ En ^ dg := Nat.pow_le_pow_left hC dg
  have h2 : En ^ dg ≤ En ^ 5 := Nat.pow_le_pow_right ep h5
  exact Nat.lt_of_le_of_lt (Nat.mul_le_mul hB (Nat.le_trans h1 h2)) h
theorem topZ_keys (B : Nat) : ∀ {H : Hp} {P : Poly} {xs : List V}, Paired (TopAt H B) xs P → ∀ t ∈ P, (((topZ B t).2 : Int) : Rat) = t.2 * (B : Rat)
  | _, _, _, .cons (b := u) ⟨a, q, z, _, _, _, hz⟩ r, t, ht => by
    rcases List.mem_cons.mp ht with rfl | ht
    · rw [topZ_of hz]; exact hz
    · exact topZ_keys B r t ht
def sp_whole_along (Y : Yc) : Sp := fun vs H Q _ => ∃ (v : V) (cs : List Nat) (P : Poly) (a1 a2 : Addr) (ws us : List Rat) (m dg D M En N : Nat), vs = [v, .ref a1, .ref a2, .int (m : Int)] ∧ (m = 1 ∨ m = 2) ∧ BlendV Y H v (SX.S cs) P ∧ LineOk Y H a1 ws En N cs.length ∧ LineOk Y H a2 us En N cs.length ∧
  PolyOk cs.length dg P D M ∧ M < 2 ^ 500 ∧ N < 2 ^ 300 ∧ 0 < En ∧ En < 2 ^ 4000 ∧ D * En ^ 5 < 2 ^ 4000 ∧
  ∀ p s b r H', Ex H H' → H' p = some (.tup [.int (b : Nat), .ref s]) → H' s = some (.lst ((rowT (m + 1) r).map V.int)) → SumsOk P ws us b r → Q (.ref p) H'
theorem rep_zero {m : Nat} (hm : m = 1 ∨ m = 2) : (List.replicate (((m : Nat) : Int) + 1).toNat [V.int 0]).flatten = (rowT (m + 1) (0, 0, 0)).map V.int := by
  rcases hm with rfl | rfl <;> rfl
theorem rep_top {m : Nat} (z : Int) (hm : m = 1 ∨ m = 2) : [V.int z] ++ (List.replicate (((m : Nat) : Int)).toNat [V.int 0]).flatten = (rowT (m + 1) (z, 0, 0)).map V.int := by
  rcases hm with rfl | rfl <;> rfl
theorem cut_pre (xs ys : List V) : cutV (xs ++ ys) none (some (xs.length : Nat)) = xs := by
  unfold cutV
  rw [HT.sIx_none, HT.sIx_nat, List.drop_zero, List.length_append, Nat.sub_zero, Nat.min_eq_left (Nat.le_add_right _ _), List.take_left']
  rfl
theorem cut_post (xs ys : List V) : cutV (xs ++ ys) (some (xs.length : Nat)) none = ys := by
  unfold cutV
  rw [HT.sIx_none, HT.sIx_nat, List.length_append, Nat.min_eq_left (Nat.le_add_right _ _), List.drop_left', Nat.add_sub_cancel_left, List.take_length]
  rfl
theorem rat_app {H : Hp} : ∀ {xs ys : List V} {p q : List Rat}, RatL Y H xs p → RatL Y H ys q → RatL Y H (xs ++ ys) (p ++ q) := fun h1 h2 => pr_app h1 h2
theorem up_scale {C E : Nat} {ws : List Rat} (_ : C ∣ E) (hd : ∀ q ∈ ws, q.den ∣ C) : (ws.map fun q => upTo C q).map (fun (x : Int) => (x : Rat)) = scaleL (C : Rat) ws := by
  unfold scaleL
  rw [List.map_map]
  exact List.map_congr_left fun q hq => upTo_rat (hd q hq)
theorem lcms_all {D : Nat} : ∀ (l : List Rat) (B : Nat), B ∣ lcms B l ∧ ∀ q ∈ l, q.den ∣ lcms B l
  | [], B => ⟨Nat.dvd_refl B, fun _ h => by cases h⟩
  | x :: l, B => by
    obtain ⟨h1, h2⟩ := lcms_all (D := D) l (Nat.lcm B x.den)
    refine ⟨Nat.dvd_trans (Nat.dvd_lcm_left _ _) h1, fun q hq => ?_⟩
    rcases List.mem_cons.mp hq with rfl | hq
    · exact Nat.dvd_trans (Nat.dvd_lcm_right _ _) h1
    · exact h2 q hq

abbrev st_whole_along : Stmt := top 88
theorem ok_whole_along {f : Addr} {fd : FuncData} (F : C8.Fun Y.K "whole_along" "whole_along" st_whole_along f fd) (T : TxtY Y) (c_power_of : CalY Y 1 "power_of" (sp_power_of Y) []) (c_wholes : CalY Y 2 "wholes" (sp_wholes Y) []) (c_with_factor : CalY Y 1 "with_factor" (sp_with_factor Y) []) : FnOk Y.P Y.w Y.K Y.mg Y.base C8.CX0 3 f fd ["blend", "weights", "direction", "most"] (sp_whole_along Y) := by
  have S : FnScope ["blend", "weights", "direction", "most", "sums", "common", "told", "here", "there", "counts", "top", "row", "at", "count", "turn", "one", "more"] ["blend", "weights", "direction", "most"] (fnScope st_whole_along) := fnScope_by (by decide +kernel)
  have nd := S.nd
  refine fn0 F S (fun vs H Q E h => ?_) (fun cdv A outer s H vs Q E hr h => ?_)
  · obtain ⟨_, _, _, _, _, _, _, _, _, _, _, _, _, rfl, _⟩ := h; rfl
  refine ⟨_, (pss_cons (ps_set (i := 4) nd rfl (Or.inl rfl) (pe_op op_rep (pe_lst (pa_cons pe_int pa_nil)) (pe_op op_add (pv 3) pe_int)))
    (pss_cons (ps_if (pt_cmpR op_isN (pe_fld (pv 0) rfl) pe_non (nomark _)) (pss_one (ps_ret (pe_tup (pa_cons pe_int (pa_cons (pv 4) pa_nil))))) pss_nil)
    (pss_cons (ps_asg (pe_c c_wholes hr (by decide) rfl (pa_cons (pe_op op_cat (pv 1) (pv 2)) pa_nil)) (pg_tup rfl (pgs_cons (pg_name (i := 5) nd rfl (Or.inl rfl)) (pgs_cons (pg_name (i := 6) nd rfl (Or.inl rfl)) pgs_nil))))
    (pss_cons (ps_par (i := 7) (j := 8) rfl nd rfl rfl (by decide) rfl rfl (pa_cons (pe_slice sl_list (pv 6) po_none (po_some (pe_callB call_len rfl T.n_len boot_len (pa_cons (pv 1) pa_nil)))) (pa_cons (pe_slice sl_list (pv 6) (po_some (pe_callB call_len rfl T.n_len boot_len (pa_cons (pv 1) pa_nil))) po_none) pa_nil)) (by rfl))
    (pss_cons (ps_for PassesOwn.never rfl (pi_list (pe_fld (pv 0) rfl)) (pg_tup rfl (pgs_cons (pg_name (i := 9) nd rfl (Or.inl rfl)) (pgs_cons (pg_name (i := 10) nd rfl (Or.inl rfl)) pgs_nil)))
    (pss_cons (ps_set (i := 11) nd rfl (Or.inl rfl) (pe_op op_cat (pe_lst (pa_cons (pv 10) pa_nil)) (pe_op op_rep (pe_lst (pa_cons pe_int pa_nil)) (pv 3))))
    (pss_cons (ps_for PassesOwn.never rfl (pi_enumA rfl T.n_enumerate (pa_cons (pv 9) pa_nil)) (pg_tup rfl (pgs_cons (pg_name (i := 12) nd rfl (Or.inl rfl)) (pgs_cons (pg_name (i := 13) nd rfl (Or.inl rfl)) pgs_nil)))
    (pss_one (ps_for PassesOwn.never rfl (pi_range1 rfl T.n_range (pa_cons (pv 13) pa_nil)) (pg_name (i := 14) nd rfl (Or.inl rfl))
    (pss_one (ps_set (i := 11) nd rfl (Or.inl rfl) (pe_c c_with_factor hr (by decide) rfl (pa_cons (pv 11) (pa_cons (pe_ix ix_list (pv 7) (pv 12) (fun _ _ => rfl)) (pa_cons (pe_ix ix_list (pv 8) (pv 12) (fun _ _ => rfl)) pa_nil)))))))))
    (pss_one (ps_setLc (i := 4) (own := [("one", 15), ("more", 16)]) (tt := tYes) rfl nd rfl rfl (sw_true rfl rfl rfl (by decide +kernel)) (pi_zipM rfl T.n_zip (pa_cons (pv 4) (pa_cons (pv 11) pa_nil))) (blkOk_by (N := ["blend", "weights", "direction", "most", "sums", "common", "told", "here", "there", "counts", "top", "row", "at", "count", "turn", "one", "more"]) (sc := (fnScope st_whole_along)) (by decide +kernel)) (fun _ _ _ _ _ => by exact (pgtB (n := 2) Y.K rfl (pgs_cons (pg_name (i := 15) nd rfl (Or.inl rfl)) (pgs_cons (pg_name (i := 16) nd rfl (Or.inl rfl)) pgs_nil)))) (fun _ _ _ _ _ => by exact pts_nil) (fun _ _ _ _ _ => by exact (pe_op op_add (pv 15) (pv 16))))))))
    (pss_one (ps_ret (pe_tup (pa_cons (pe_op op_mulW (pe_fld (pv 0) rfl) (pe_c c_power_of hr (by decide) rfl (pa_cons (pv 5) (pa_cons (pe_fld (pv 0) rfl) pa_nil)))) (pa_cons (pv 4) pa_nil)))))))))), ?_⟩
  obtain ⟨v, cs, P, a1, a2, ws, us, m, dg, Dn, M, En, N, rfl, hm, bv, w1, w2, po, hM, hN, ep, es, des, k⟩ := h
  obtain ⟨p, d, t, dx, B, tops, rfl, f⟩ := id bv
  have n4 := po.n4
  refine ⟨l1, fun A hA => ⟨_, rfl, _, _, rfl, rfl, A, _, [V.int 0], rfl, rfl, upd_same, by omega, by omega, sz_small (show 1 * ((m : Int) + 1).toNat ≤ 1000 by omega), fun s0 hs0 => ?_⟩⟩
  rw [rep_zero hm]
  have e1 : Ex H (upd (upd H A (.lst [.int 0])) s0 (.lst ((rowT (m + 1) (0, 0, 0)).map V.int))) := (Ex.new hA).trans (Ex.new hs0)
  have g0 : (upd (upd H A (.lst [.int 0])) s0 (.lst ((rowT (m + 1) (0, 0, 0)).map V.int))) s0 = some (.lst ((rowT (m + 1) (0, 0, 0)).map V.int)) := upd_same
  obtain ⟨H1, hH1⟩ : ∃ H1, H1 = upd (upd H A (.lst [.int 0])) s0 (.lst ((rowT (m + 1) (0, 0, 0)).map V.int)) := ⟨_, rfl⟩
  rw [← hH1] at e1 g0 ⊢
  refine ⟨_, rfl, p, _, dx, _, _, rfl, e1 _ _ f.at_, T.B.cl, T.bD, rfl, rfl, _, rfl, ?_⟩
  cases hP : P with
  | nil =>
    refine iteDT rfl ⟨_, rfl, l2, fun T0 hT => ?_⟩
    exact k T0 s0 1 (0, 0, 0) _ (e1.trans (Ex.new hT)) upd_same ((Ex.new hT) _ _ g0) (by rw [hP]; exact sums_nil ws us)
  | cons t0 P0 =>
  refine iteDF (by intro q; cases q) ?_
  have m0 : t0 ∈ P := by rw [hP]; exact List.mem_cons_self ..
  have d0 : deg t0.1 = dg := po.deg t0 m0
  obtain ⟨xs1, g1, r1⟩ := w1.lst
  obtain ⟨xs2, g2, r2⟩ := w2.lst
  have lx1 : xs1.length = ws.length := Paired.length r1
  have lx2 : xs2.length = us.length := Paired.length r2
  have lw := w1.len
  have lu := w2.len
  obtain ⟨C, hCd⟩ : ∃ C, C = lcms 1 (ws ++ us) := ⟨_, rfl⟩
  have fitE : ∀ q ∈ ws ++ us, Fit En N q := fun q hq => (List.mem_append.mp hq).elim (w1.fit q) (w2.fit q)
  have fitl : FitL En (ws ++ us) := fun q hq => by
    obtain ⟨h1, h2⟩ := fit_den ep (fitE q hq)
    exact ⟨h1, Nat.lt_trans (Nat.lt_of_le_of_lt h2 hN) (Nat.pow_lt_pow_right (by decide) (by decide))⟩
  have hC : C ∣ En := by rw [hCd]; exact lcms_dvd _ 1 (Nat.one_dvd En) fun q hq => (fitl q hq).1
  have dC : ∀ q ∈ ws ++ us, q.den ∣ C := by rw [hCd]; exact (lcms_all (D := 1) _ 1).2
  have Cp : 0 < C := by rw [hCd]; exact lcms_pos _ 1 (by decide)
  have CE : C ≤ En := Nat.le_of_dvd ep hC
  have bd : B ∣ Dn := f.fit Dn fun u hu => (fit_den po.dp (po.fit u hu)).1
  have bD : B ≤ Dn := Nat.le_of_dvd po.dp bd
  obtain ⟨hr', hhr⟩ : ∃ l, l = ws.map fun q => upTo C q := ⟨_, rfl⟩
  obtain ⟨th, hth⟩ : ∃ l, l = us.map fun q => upTo C q := ⟨_, rfl⟩
  have lhr : hr'.length = cs.length := by rw [hhr, List.length_map, lw]
  have lth : th.length = cs.length := by rw [hth, List.length_map, lu]
  have shr : ∀ x ∈ hr', x.natAbs < 2 ^ 300 := by rw [hhr]; exact up_small hC ep hN (fun q hq => dC q (List.mem_append_left _ hq)) w1.fit
  have sth : ∀ x ∈ th, x.natAbs < 2 ^ 300 := by rw [hth]; exact up_small hC ep hN (fun q hq => dC q (List.mem_append_right _ hq)) w2.fit
  have told : ((ws ++ us).map fun q => V.int (upTo C q)) = hr'.map V.int ++ th.map V.int := by
    rw [hhr, hth, List.map_append, List.map_map, List.map_map]; rfl
  refine ⟨_, rfl, _, rfl, a1, a2, xs1, xs2, rfl, rfl, e1 _ _ g1, e1 _ _ g2, sz_small (show xs1.length + xs2.length ≤ 1000 by omega), fun L hL => ?_⟩
  have e2 : Ex H (upd H1 L (.lst (xs1 ++ xs2))) := e1.trans (Ex.new hL)
  have g02 := (Ex.new (o := HO.lst (xs1 ++ xs2)) hL) _ _ g0
  refine ⟨L, xs1 ++ xs2, ws ++ us, En, rfl, sq_of upd_same, rat_app (r1.mono (exsm e2)) (r2.mono (exsm e2)), by rw [List.length_append]; omega, ep, es, fitl, fun p' t' H3 e3 hp' ht' => ?_⟩
  rw [← hCd] at hp' ht'
  rw [told] at ht'
  have e4 := e2.trans e3
  have lc1 : (hr'.map V.int).length = xs1.length := by rw [List.length_map]; omega
  refine gt2 (st_of hp') ?_
  refine ⟨_, rfl, _, rfl, _, (hr'.map V.int).length, rfl, .inl ⟨xs1, sq_of (e4 _ _ g1), lc1⟩, _, rfl, t', _, rfl, sq_of ht', fun Lh hLh => ?_⟩
  rw [cut_pre]
  have x1 := Ex.new (o := HO.lst (hr'.map V.int)) hLh
  refine ⟨_, rfl, _, rfl, _, (hr'.map V.int).length, rfl, .inl ⟨xs1, sq_of (x1 _ _ (e4 _ _ g1)), lc1⟩, _, rfl, t', _, rfl, sq_of (x1 _ _ ht'), fun Lt hLt => ?_⟩
  rw [cut_post]
  have x2 := Ex.new (o := HO.lst (th.map V.int)) hLt
  have gh0 : (upd (upd H3 Lh (.lst (hr'.map V.int))) Lt (.lst (th.map V.int))) Lh = some (.lst (hr'.map V.int)) := x2 _ _ upd_same
  have gt0 : (upd (upd H3 Lh (.lst (hr'.map V.int))) Lt (.lst (th.map V.int))) Lt = some (.lst (th.map V.int)) := upd_same
  have e5 := (e4.trans x1).trans x2
  have gs0 := x2 _ _ (x1 _ _ (e3 _ _ g02))
  obtain ⟨Hb, hHb⟩ : ∃ Hb, Hb = upd (upd H3 Lh (.lst (hr'.map V.int))) Lt (.lst (th.map V.int)) := ⟨_, rfl⟩
  rw [← hHb] at gh0 gt0 e5 gs0 ⊢
  refine ⟨_, _, rfl, _, rfl, p, _, dx, _, _, rfl, e5 _ _ f.at_, T.B.cl, T.bT, rfl, t, rfl, ⟨tops, sq_of (e5 _ _ f.tps)⟩, ?_⟩
  have ltops : tops.length = P.length := Paired.length f.top
  refine for_it (walk_list (a := t) (xs := tops)) (fun i σ H' => Ex Hb H' ∧ ∃ s, H' s = some (.lst ((rowT (m + 1) (sumZ hr' th ((P.map (topZ B)).take i))).map V.int)) ∧ ∃ o9 o10 o11 o12 o13 o14 o15 o16, σ = [some (.ref p), some (.ref a1), some (.ref a2), some (.int (m : Int)), some (.ref s), some (.int (C : Nat)), some (.ref t'), some (.ref Lh), some (.ref Lt), o9, o10, o11, o12, o13, o14, o15, o16])
    ⟨Ex.refl _, s0, gs0, _, _, _, _, _, _, _, _, rfl⟩ (fun i σ H' _ q => sq_of (q.1 _ _ (e5 _ _ f.tps))) ?_ ?_
  · rintro i x σ H' H2 hi ⟨e, s, gs, o9, o10, o11, o12, o13, o14, o15, o16, rfl⟩ ⟨rfl, hxi⟩
    obtain ⟨u, hu, a, q, z, rfl, ra, rq, hz⟩ := pr_getL f.top hxi
    have mu := List.mem_of_getElem? hu
    have ea := e5.trans e
    have ra2 := (exsm ea).rd _ _ nf_tup ra
    have rq2 := (exsm ea).rd _ _ nf_tup rq
    have lk : u.1.length = cs.length := po.ok.len u mu
    have dk : deg u.1 ≤ 5 := by rw [po.deg u mu]; exact po.d5
    have zb : z.natAbs < 2 ^ 500 := Nat.lt_of_le_of_lt (fit_top bd po.dp (po.fit u mu) hz) hM
    have tz : topZ B u = (u.1, z) := Prod.ext rfl (topZ_of hz)
    refine gt2 (.inl ra2) ?_
    refine ⟨_, rfl, l1, fun A2 hA2 => ⟨l1, fun A3 hA3 => ⟨_, rfl, A3, (m : Int), [V.int 0], rfl, rfl, upd_same, by omega, by omega, sz_small (show 1 * (m : Int).toNat ≤ 1000 by omega), fun A4 hA4 => ?_⟩⟩⟩
    have y2 := Ex.new (o := HO.lst [V.int z]) hA2
    have y3 := Ex.new (o := HO.lst [V.int 0]) hA3
    have y4 := Ex.new (o := HO.lst ((List.replicate (m : Int).toNat [V.int 0]).flatten)) hA4
    have z4 := rep_top z hm
    have gA2 := y4 _ _ (y3 _ _ ((upd_same : (upd H2 A2 (HO.lst [V.int z])) A2 = some (.lst [V.int z]))))
    refine ⟨A2, A4, _, _, rfl, rfl, gA2, upd_same, ?_, fun r0 hr0 => ?_⟩
    · have q := congrArg List.length z4
      rw [List.length_append, List.length_map, row_len _ (by omega)] at q
      rw [q]
      exact sz_small (by omega)
    have y5 := Ex.new (o := HO.lst ([V.int z] ++ (List.replicate (m : Int).toNat [V.int 0]).flatten)) hr0
    have yy := ((y2.trans y3).trans y4).trans y5
    rw [z4] at yy ⊢
    obtain ⟨Hc, hHc⟩ : ∃ Hc, Hc = upd (upd (upd (upd H2 A2 (HO.lst [V.int z])) A3 (HO.lst [V.int 0])) A4 (HO.lst ((List.replicate (m : Int).toNat [V.int 0]).flatten))) r0 (HO.lst ((rowT (m + 1) (z, 0, 0)).map V.int)) := ⟨_, rfl⟩
    have gr0 : Hc r0 = some (.lst ((rowT (m + 1) (z, 0, 0)).map V.int)) := by rw [hHc, upd_same]
    rw [← hHc] at yy ⊢
    have m3 : m + 1 = 2 ∨ m + 1 = 3 := by omega
    have lkv : (kvs u.1).length = u.1.length := by unfold kvs; rw [List.length_map]
    have cq : (Src.tup q).C Y.K Hc (kvs u.1) := .inl ((exsm yy).rd _ _ nf_tup rq2)
    refine ⟨_, rfl, .tup q, kvs u.1, rfl, cq, ?_⟩
    refine for_it (walk_enumS (K := Y.K) (S := .tup q) (xs := kvs u.1)) (fun j σ H' => Ex Hc H' ∧ (∃ r, H' r = some (.lst ((rowT (m + 1) (lineZ (hr'.take j) (th.take j) (u.1.take j) (z, 0, 0))).map V.int)) ∧ ∃ o12 o13 o14 o15 o16, σ = [some (.ref p), some (.ref a1), some (.ref a2), some (.int (m : Int)), some (.ref s), some (.int (C : Nat)), some (.ref t'), some (.ref Lh), some (.ref Lt), some (.ref q), some (.int z), some (.ref r), o12, o13, o14, o15, o16]))
      ⟨Ex.refl _, r0, gr0, _, _, _, _, _, rfl⟩ (fun j σ H' _ w => .inl ((exsm (yy.trans w.1)).rd _ _ nf_tup rq2)) ?_ ?_
    · rintro j x σ H' H3 hj ⟨ej, r, gr, o12, o13, o14, o15, o16, rfl⟩ ⟨T0, x1, x2, rfl, hT, rfl, k1, k2⟩
      obtain rfl : x1 = .int ((j : Nat) : Int) := (Option.some.inj k1).symm
      obtain ⟨c, hc⟩ := get_lt (l := u.1) (i := j) (by rw [← lkv]; exact hj)
      obtain rfl : x2 = .int (c : Nat) := (Option.some.inj ((kvs_at hc).symm.trans k2)).symm
      refine gt2 (st_of upd_same) ?_
      have dt := deg_take u.1 j c hc
      have jn : j < cs.length := by rw [← lk]; exact (List.getElem?_eq_some_iff.mp hc).1
      obtain ⟨xh, hxh⟩ := get_lt (l := hr') (i := j) (by omega)
      obtain ⟨xt, hxt⟩ := get_lt (l := th) (i := j) (by omega)
      have bh := shr xh (List.mem_of_getElem? hxh)
      have bt := sth xt (List.mem_of_getElem? hxt)
      have yT := Ex.new (o := HO.tup [V.int ((j : Nat) : Int), V.int ((c : Nat) : Int)]) hT
      obtain ⟨Hd, hHd⟩ : ∃ Hd, Hd = upd H' T0 (HO.tup [V.int ((j : Nat) : Int), V.int ((c : Nat) : Int)]) := ⟨_, rfl⟩
      rw [← hHd] at yT ⊢
      have grd := yT _ _ gr
      have ed := ej.trans yT
      have line0 : BigZ (500 + 301 * deg (u.1.take j)) (lineZ (hr'.take j) (th.take j) (u.1.take j) (z, 0, 0)) := big_line _ _ _ 500 _ (fun x hx => shr x (List.mem_of_mem_take hx)) (fun x hx => sth x (List.mem_of_mem_take hx)) ⟨zb, by show (0 : Nat) < 2 ^ 500; exact Nat.two_pow_pos 500, by show (0 : Nat) < 2 ^ 500; exact Nat.two_pow_pos 500⟩
      refine ⟨_, rfl, _, rfl, by omega, by omega, ?_⟩
      refine for_it walk_range (fun h σ H' => Ex Hd H' ∧ (∃ r, H' r = some (.lst ((rowT (m + 1) (stepNZ xh xt h (lineZ (hr'.take j) (th.take j) (u.1.take j) (z, 0, 0)))).map V.int)) ∧ ∃ o14 o15 o16, σ = [some (.ref p), some (.ref a1), some (.ref a2), some (.int (m : Int)), some (.ref s), some (.int (C : Nat)), some (.ref t'), some (.ref Lh), some (.ref Lt), some (.ref q), some (.int z), some (.ref r), some (.int ((j : Nat) : Int)), some (.int ((c : Nat) : Int)), o14, o15, o16]))
        ⟨Ex.refl _, r, grd, _, _, _, rfl⟩ (fun _ _ _ _ _ => trivial) ?_ ?_
      · rintro h v σ H' H3 hh ⟨eh, r1, gr1, o14, o15, o16, rfl⟩ ⟨rfl, rfl⟩
        rw [Int.toNat_natCast] at hh
        have ee := ((e.trans yy).trans ed).trans eh
        have gh := ee _ _ gh0
        have gt := ee _ _ gt0
        have big : BigZ 4000 (stepNZ xh xt h (lineZ (hr'.take j) (th.take j) (u.1.take j) (z, 0, 0))) := (big_stepN bh bt h _ line0).mono (by omega)
        refine ⟨_, rfl, _, rfl, _, rfl, Lh, _, _, _, rfl, rfl, sq_of gh, atI_nat (i := j) (x := V.int xh) (by rw [List.getElem?_map, hxh]; rfl), _, rfl, _, rfl, Lt, _, _, _, rfl, rfl, sq_of gt, atI_nat (i := j) (x := V.int xt) (by rw [List.getElem?_map, hxt]; rfl), ?_⟩
        refine ⟨r1, m + 1, _, xh, xt, rfl, m3, gr1, big, bh, bt, fun l' H4 e4 g4 => ?_⟩
        exact ⟨eh.trans e4, l', by rw [stepNZ_succ]; exact g4, _, _, _, rfl⟩
      · rintro σ H' ⟨eh, r1, gr1, o14, o15, o16, rfl⟩
        rw [Int.toNat_natCast] at gr1
        refine ⟨ed.trans eh, r1, ?_, _, _, _, _, _, rfl⟩
        rw [take_next hxh, take_next hxt, take_next hc, lineZ_snoc _ _ _ _ _ _ _ (by rw [List.length_take, List.length_take]; omega) (by rw [List.length_take, List.length_take]; omega)]
        exact gr1
    · rintro σ H' ⟨ej, r, gr, o12, o13, o14, o15, o16, rfl⟩
      rw [lkv, List.take_of_length_le (show hr'.length ≤ u.1.length by omega), List.take_of_length_le (show th.length ≤ u.1.length by omega), List.take_length] at gr
      have gs3 := ej _ _ (yy _ _ gs)
      obtain ⟨Sz', hSz⟩ : ∃ S', S' = sumZ hr' th ((P.map (topZ B)).take i) := ⟨_, rfl⟩
      rw [← hSz] at gs3
      obtain ⟨Ln, hLn⟩ : ∃ S', S' = lineZ hr' th u.1 (z, 0, 0) := ⟨_, rfl⟩
      rw [← hLn] at gr
      have nx : sumZ hr' th ((P.map (topZ B)).take (i + 1)) = addZ Sz' Ln := by
        rw [take_next (x := (u.1, z)) (by rw [List.getElem?_map, hu, Option.map_some, tz]), sumZ_snoc, hSz, hLn]
      have len1 : ((rowT (m + 1) Sz').map V.int).length = m + 1 := by rw [List.length_map, row_len _ m3]
      have len2 : ((rowT (m + 1) Ln).map V.int).length = m + 1 := by rw [List.length_map, row_len _ m3]
      have wl := walk_zipS (K := Y.K) (S1 := .lst s) (S2 := .lst r) (xs := (rowT (m + 1) Sz').map V.int) (ys := (rowT (m + 1) Ln).map V.int) (by rw [len1, len2])
      rw [show ((rowT (m + 1) Sz').map V.int).length = (rowT (m + 1) (addZ Sz' Ln)).length by rw [len1, row_len _ m3]] at wl
      refine ⟨_, rfl, _, rfl, .lst s, .lst r, _, _, rfl, sq_of gs3, sq_of gr, fun D hD => ?_⟩
      refine lc_map (us := rowT (m + 1) (addZ Sz' Ln)) wl (fun u y _ => y = V.int u) hD (by rw [row_len _ m3]; omega) (fun H2 e => ⟨sq_of (e _ _ gs3), sq_of (e _ _ gr)⟩) (fun _ _ _ _ _ h => h) (fun _ _ _ _ _ _ h => h) ?_ gt2_mono ?_
      · rintro i u' y H2 H3 Kq hu' e' _ ⟨T0, x1, x2, rfl, hT, rfl, k1, k2⟩ hk
        have k1 : ((rowT (m + 1) Sz').map V.int)[i]? = some x1 := k1
        have k2 : ((rowT (m + 1) Ln).map V.int)[i]? = some x2 := k2
        rw [List.getElem?_map] at k1 k2
        rw [← row_add _ _ m3, List.getElem?_zipWith] at hu'
        cases h1 : (rowT (m + 1) Sz')[i]? with
        | none => rw [h1] at k1; cases k1
        | some c1 =>
          cases h2 : (rowT (m + 1) Ln)[i]? with
          | none => rw [h2] at k2; cases k2
          | some c2 =>
            rw [h1] at k1 hu'
            rw [h2] at k2 hu'
            obtain rfl : x1 = .int c1 := (Option.some.inj k1).symm
            obtain rfl : x2 = .int c2 := (Option.some.inj k2).symm
            obtain rfl : c1 + c2 = u' := Option.some.inj hu'
            exact gt2 (st_of upd_same) ⟨rfl, _, rfl, _, rfl, _, _, rfl, rfl, hk _ _ (Ex.new hT) rfl⟩
      · intro ys H2 e' hd pr2
        have ey := int_paired pr2
        subst ey
        exact ⟨((e.trans yy).trans ej).trans e', D, by rw [nx]; exact hd, _, _, _, _, _, _, _, _, rfl⟩
  · rintro σ H' ⟨e, s, gs, o9, o10, o11, o12, o13, o14, o15, o16, rfl⟩
    rw [ltops, show P.length = (P.map (topZ B)).length from (List.length_map ..).symm, List.take_length] at gs
    have at2 := (e5.trans e) _ _ f.at_
    have dv : degV P = .int (dg : Nat) := by rw [hP, ← d0]; rfl
    refine ⟨_, rfl, p, _, dx, _, _, rfl, at2, T.B.cl, T.bB, rfl, _, rfl, _, rfl, p, _, dx, _, _, rfl, at2, T.B.cl, T.bD, rfl, C, dg, by rw [dv]; rfl, ?_, po.d5, ?_⟩
    · rw [Int.natAbs_natCast]
      exact Nat.lt_of_le_of_lt CE es
    refine ⟨_, _, rfl, rfl, wide_mul (a := 4000) (b := 20001) (by rw [Int.natAbs_natCast]; exact Nat.lt_of_le_of_lt bD po.ds) (pow_big (by rw [Int.natAbs_natCast]; exact Nat.lt_of_le_of_lt CE es) po.d5) (by decide) (by decide) (by decide), _, rfl, l2, fun T0 hT => ?_⟩
    have bc : (B : Int) * (C : Int) ^ dg = ((B * C ^ dg : Nat) : Int) := by push_cast; rfl
    have all := sum_all (ws := ws) (vs := us) (w := hr') (v := th) (dg := dg) (B := B) (c := (C : Rat)) (by rw [hhr]; exact up_scale hC fun q hq => dC q (List.mem_append_left _ hq)) (by rw [hth]; exact up_scale hC fun q hq => dC q (List.mem_append_right _ hq)) P fun u hu => ⟨by rw [lw, po.ok.len u hu], by rw [lu, po.ok.len u hu], po.deg u hu, topZ_keys B f.top u hu⟩
    obtain ⟨i1, ii⟩ := Prod.mk.inj all
    obtain ⟨i2, i3⟩ := Prod.mk.inj ii
    have bq : ((B * C ^ dg : Nat) : Rat) = (B : Rat) * (C : Rat) ^ dg := by push_cast; rfl
    refine k T0 s (B * C ^ dg) _ _ ((e5.trans e).trans (Ex.new hT)) ?_ ((Ex.new hT) _ _ gs) ⟨Nat.mul_pos f.pos (Nat.pow_pos Cp), big_bot bD CE ep po.d5 des, ?_, ?_, ?_, ?_⟩
    · rw [upd_same, ← bc]
    · refine sum_big (b := 500 + 301 * 5) (by decide) (by rw [List.length_map]; exact po.ok.few) fun t ht => ?_
      obtain ⟨u, hu, rfl⟩ := List.mem_map.mp ht
      have zb : (topZ B u).2.natAbs < 2 ^ 500 := Nat.lt_of_le_of_lt (fit_top bd po.dp (po.fit u hu) (topZ_keys B f.top u hu)) hM
      have := po.deg u hu
      have := po.d5
      have z0 : BigZ 500 ((topZ B u).2, 0, 0) := ⟨zb, Nat.two_pow_pos 500, Nat.two_pow_pos 500⟩
      exact (big_line _ _ _ 500 _ shr sth z0).mono (by show 500 + 301 * deg u.1 ≤ _; omega)
    · rw [bq]; exact i1
    · rw [bq]; exact i2
    · rw [bq]; exact i3

theorem mk_val {z : Int} {b : Nat} {q : Rat} (hb : 0 < b) (h : (z : Rat) = (b : Rat) * q) : mkRat z b = q := by
  rw [Rat.mkRat_eq_div]
  have h0 : ((b : Nat) : Rat) ≠ 0 := fun e => by have := Rat.natCast_eq_zero_iff.mp e; omega
  rw [h, Rat.mul_comm, Rat.mul_div_cancel h0]
theorem sz_val {z : Int} {b : Nat} {q : Rat} (hb : 0 < b) (sb : b < 2 ^ 4000) (sz : z.natAbs < 2 ^ 4000) (h : (z : Rat) = (b : Rat) * q) : Sz q :=
  sz_fit hb sb sz ⟨z, by rw [h, Rat.mul_comm], Nat.le_refl _⟩
/-- the worth, the slope and half the bend -/
def valR (P : Poly) (ws us : List Rat) : List Rat := [ev P (mono ws), ev P (dz us (mono ws)), ev P (dz us (dz us (mono ws))) / 2]
theorem val_at {m i b : Nat} {r : TriZ} {P : Poly} {ws us : List Rat} {q : Rat} (h : SumsOk P ws us b r) (hm : m = 2 ∨ m = 3) (hq : ((valR P ws us).take m)[i]? = some q) : ∃ z, (rowT m r)[i]? = some z ∧ mkRat z b = q ∧ Sz q := by
  have g1 := mk_val h.pos h.one
  have g2 := mk_val h.pos h.two
  have g3 := mk_val h.pos h.three
  have s1 := sz_val h.pos h.sz h.big.1 h.one
  have s2 := sz_val h.pos h.sz h.big.2.1 h.two
  have s3 := sz_val h.pos h.sz h.big.2.2 h.three
  rcases hm with rfl | rfl
  · match i, hq with
    | 0, hq => exact ⟨_, rfl, g1.trans (Option.some.inj hq), (Option.some.inj hq) ▸ s1⟩
    | 1, hq => exact ⟨_, rfl, g2.trans (Option.some.inj hq), (Option.some.inj hq) ▸ s2⟩
    | _ + 2, hq => cases hq
  · match i, hq with
    | 0, hq => exact ⟨_, rfl, g1.trans (Option.some.inj hq), (Option.some.inj hq) ▸ s1⟩
    | 1, hq => exact ⟨_, rfl, g2.trans (Option.some.inj hq), (Option.some.inj hq) ▸ s2⟩
    | 2, hq => exact ⟨_, rfl, g3.trans (Option.some.inj hq), (Option.some.inj hq) ▸ s3⟩
    | _ + 3, hq => cases hq
theorem val_len {m : Nat} {P : Poly} {ws us : List Rat} (hm : m = 2 ∨ m = 3) : ((valR P ws us).take m).length = m := by
  rcases hm with rfl | rfl <;> rfl
/-- how great what a line asks for may be -/
structure SzL (D M En N : Nat) : Prop where
  m : M < 2 ^ 500
  n : N < 2 ^ 300
  ep : 0 < En
  es : En < 2 ^ 4000
  de : D * En ^ 5 < 2 ^ 4000
def sp_along_at (Y : Yc) : Sp := fun vs H Q _ => ∃ (v : V) (cs : List Nat) (P : Poly) (a1 a2 : Addr) (ws us : List Rat) (m dg D M En N : Nat), vs = [v, .ref a1, .ref a2, .int (m : Int)] ∧ (m = 1 ∨ m = 2) ∧ BlendV Y H v (SX.S cs) P ∧ LineOk Y H a1 ws En N cs.length ∧ LineOk Y H a2 us En N cs.length ∧
  PolyOk cs.length dg P D M ∧ SzL D M En N ∧
  ∀ l ys H', Ex H H' → H' l = some (.lst ys) → RatL Y H' ys ((valR P ws us).take (m + 1)) → (∀ q ∈ (valR P ws us).take (m + 1), Sz q) → Q (.ref l) H'

abbrev st_along_at : Stmt := top 90
theorem ok_along_at {f : Addr} {fd : FuncData} (F : C8.Fun Y.K "along_at" "along_at" st_along_at f fd) (T : TxtY Y) (c_whole_along : CalY Y 3 "whole_along" (sp_whole_along Y) []) (m_Ratio2 : MakY Y 2 "Ratio" Y.CR (sp_Ratio Y) []) : FnOk Y.P Y.w Y.K Y.mg Y.base C8.CX0 4 f fd ["blend", "weights", "direction", "most"] (sp_along_at Y) := by
  have S : FnScope ["blend", "weights", "direction", "most", "bottom", "sums", "top"] ["blend", "weights", "direction", "most"] (fnScope st_along_at) := fnScope_by (by decide +kernel)
  have nd := S.nd
  refine fn0 F S (fun vs H Q E h => ?_) (fun cdv A outer s H vs Q E hr h => ?_)
  · obtain ⟨_, _, _, _, _, _, _, _, _, _, _, _, _, rfl, _⟩ := h; rfl
  refine ⟨_, (pss_cons (ps_asg (pe_c c_whole_along hr (by decide) rfl (pa_cons (pv 0) (pa_cons (pv 1) (pa_cons (pv 2) (pa_cons (pv 3) pa_nil))))) (pg_tup rfl (pgs_cons (pg_name (i := 4) nd rfl (Or.inr rfl)) (pgs_cons (pg_name (i := 5) nd rfl (Or.inl rfl)) pgs_nil))))
    (pss_one (ps_ret (pe_lc (own := [("top", 6)]) (g := gName 6) (tt := tYes) rfl nd (pi_list (pv 5)) (blkOk_by (N := ["blend", "weights", "direction", "most", "bottom", "sums", "top"]) (sc := (fnScope st_along_at)) (by decide +kernel)) (fun _ _ _ _ _ => by exact (pg_name (i := 6) nd rfl (Or.inl rfl))) (fun _ _ _ _ _ => by exact pts_nil) (fun _ _ _ _ _ => by exact (pe_mk m_Ratio2 hr (by decide) rfl (pa_cons (pv 6) (pa_cons (pv 4) pa_nil)))))))), ?_⟩
  obtain ⟨v, cs, P, a1, a2, ws, us, m, dg, Dn, M, En, N, rfl, hm, bv, w1, w2, po, sz, k⟩ := h
  have m3 : m + 1 = 2 ∨ m + 1 = 3 := by omega
  refine ⟨_, rfl, _, rfl, _, rfl, _, rfl, v, cs, P, a1, a2, ws, us, m, dg, Dn, M, En, N, rfl, hm, bv, w1, w2, po, sz.m, sz.n, sz.ep, sz.es, sz.de, fun p s b r H1 e1 hp hs so => ?_⟩
  refine gt2 (st_of hp) ?_
  have lr : ((rowT (m + 1) r).map V.int).length = ((valR P ws us).take (m + 1)).length := by rw [List.length_map, row_len _ m3, val_len m3]
  have wl := walk_list (K := Y.K) (a := s) (xs := (rowT (m + 1) r).map V.int)
  rw [lr] at wl
  refine ⟨_, rfl, s, rfl, ⟨_, sq_of hs⟩, fun D hD => ?_⟩
  refine lc_map (us := (valR P ws us).take (m + 1)) wl (fun u y H' => RatV Y.CR H' y u) hD (by rw [val_len m3]; omega) (fun H2 e => sq_of (e _ _ hs)) (fun _ _ _ _ e h => h.mono (exsm e)) (fun u y H ys zs hD h => ratv_lst hD h) ?_ gn_mono ?_
  · rintro i u x H2 H3 Kq hu e _ ⟨rfl, hx⟩ hk
    obtain ⟨z, hz, ez, _⟩ := val_at so m3 hu
    rw [List.getElem?_map, hz] at hx
    obtain rfl : x = .int z := (Option.some.inj hx).symm
    refine ⟨rfl, _, rfl, _, rfl, ?_⟩
    intro x dx hx hdx ne
    refine new_rat hx hdx ne (b := b) rfl so.pos (Nat.lt_trans so.sz (Nat.pow_lt_pow_right (by decide) (by decide))) fun v H' e hv => hk v H' e ?_
    rwa [ez] at hv
  · intro ys H2 e hd pr
    exact k D ys H2 (e1.trans e) hd pr fun q hq => by
      obtain ⟨i, hi⟩ := List.mem_iff_getElem?.mp hq
      exact (val_at so m3 hi).choose_spec.2.2

theorem prod_big : ∀ (w : List Int) (k : Ky) (b : Nat) (r : Int), (∀ x ∈ w, x.natAbs < 2 ^ 300) → r.natAbs < 2 ^ b → (prodZ w k r).natAbs < 2 ^ (b + 300 * deg k)
  | [], k, b, r, _, h => Nat.lt_of_lt_of_le h (Nat.pow_le_pow_right (by decide) (Nat.le_add_right _ _))
  | _ :: _, [], b, r, _, h => h
  | x :: w, c :: k, b, r, hw, h => by
    have h1 : (x ^ c).natAbs ≤ 2 ^ (300 * c) := by
      rw [Int.natAbs_pow, Nat.pow_mul]
      exact Nat.pow_le_pow_left (Nat.le_of_lt (hw x (List.mem_cons_self ..))) c
    have h2 : (r * x ^ c).natAbs < 2 ^ (b + 300 * c) := by
      rw [Int.natAbs_mul, Nat.pow_add]
      exact Nat.lt_of_le_of_lt (Nat.mul_le_mul (Nat.le_refl _) h1) (Nat.mul_lt_mul_of_pos_right h (Nat.two_pow_pos _))
    have z := prod_big w k (b + 300 * c) _ (fun u hu => hw u (List.mem_cons_of_mem _ hu)) h2
    show (prodZ w k (r * x ^ c)).natAbs < 2 ^ (b + 300 * (c + deg k))
    rwa [show b + 300 * (c + deg k) = b + 300 * c + 300 * deg k by omega]
def sp_worth_at (Y : Yc) : Sp := fun vs H Q _ => ∃ (v : V) (cs : List Nat) (P : Poly) (a : Addr) (ws : List Rat) (dg D M En N : Nat), vs = [v, .ref a] ∧ BlendV Y H v (SX.S cs) P ∧ LineOk Y H a ws En N cs.length ∧
  PolyOk cs.length dg P D M ∧ SzL D M En N ∧ ∀ v' H', Ex H H' → RatV Y.CR H' v' (ev P (mono ws)) → Sz (ev P (mono ws)) → Q v' H'

abbrev st_worth_at : Stmt := top 89
theorem ok_worth_at {f : Addr} {fd : FuncData} (F : C8.Fun Y.K "worth_at" "worth_at" st_worth_at f fd) (T : TxtY Y) (c_power_of : CalY Y 1 "power_of" (sp_power_of Y) []) (c_wholes : CalY Y 2 "wholes" (sp_wholes Y) []) (m_Ratio1 : MakY Y 2 "Ratio" Y.CR (sp_Ratio Y) [.int 1]) (m_Ratio2 : MakY Y 2 "Ratio" Y.CR (sp_Ratio Y) []) : FnOk Y.P Y.w Y.K Y.mg Y.base C8.CX0 4 f fd ["blend", "weights"] (sp_worth_at Y) := by
  have S : FnScope ["blend", "weights", "common", "here", "total", "counts", "top", "at", "count"] ["blend", "weights"] (fnScope st_worth_at) := fnScope_by (by decide +kernel)
  have nd := S.nd
  refine fn0 F S (fun vs H Q E h => ?_) (fun cdv A outer s H vs Q E hr h => ?_)
  · obtain ⟨_, _, _, _, _, _, _, _, _, _, rfl, _⟩ := h; rfl
  refine ⟨_, (pss_cons (ps_if (pt_cmpR op_isN (pe_fld (pv 0) rfl) pe_non (nomark _)) (pss_one (ps_ret (pe_mk m_Ratio1 hr (by decide) rfl (pa_cons pe_int pa_nil)))) pss_nil)
    (pss_cons (ps_asg (pe_c c_wholes hr (by decide) rfl (pa_cons (pv 1) pa_nil)) (pg_tup rfl (pgs_cons (pg_name (i := 2) nd rfl (Or.inl rfl)) (pgs_cons (pg_name (i := 3) nd rfl (Or.inl rfl)) pgs_nil))))
    (pss_cons (ps_set (i := 4) nd rfl (Or.inl rfl) pe_int)
    (pss_cons (ps_for PassesOwn.never rfl (pi_list (pe_fld (pv 0) rfl)) (pg_tup rfl (pgs_cons (pg_name (i := 5) nd rfl (Or.inl rfl)) (pgs_cons (pg_name (i := 6) nd rfl (Or.inl rfl)) pgs_nil)))
    (pss_cons (ps_for PassesOwn.never rfl (pi_enumA rfl T.n_enumerate (pa_cons (pv 5) pa_nil)) (pg_tup rfl (pgs_cons (pg_name (i := 7) nd rfl (Or.inl rfl)) (pgs_cons (pg_name (i := 8) nd rfl (Or.inl rfl)) pgs_nil)))
    (pss_one (ps_set (i := 6) nd rfl (Or.inl rfl) (pe_op op_mulW (pv 6) (pe_c c_power_of hr (by decide) rfl (pa_cons (pe_ix ix_list (pv 3) (pv 7) (fun _ _ => rfl)) (pa_cons (pv 8) pa_nil)))))))
    (pss_one (ps_set (i := 4) nd rfl (Or.inl rfl) (pe_op op_add (pv 4) (pv 6))))))
    (pss_one (ps_ret (pe_mk m_Ratio2 hr (by decide) rfl (pa_cons (pv 4) (pa_cons (pe_op op_mulW (pe_fld (pv 0) rfl) (pe_c c_power_of hr (by decide) rfl (pa_cons (pv 2) (pa_cons (pe_fld (pv 0) rfl) pa_nil)))) pa_nil))))))))), ?_⟩
  obtain ⟨v, cs, P, a, ws, dg, Dn, M, En, N, rfl, bv, w1, po, sz, k⟩ := h
  obtain ⟨p, d, t, dx, B, tops, rfl, f⟩ := id bv
  have n4 := po.n4
  have ep := sz.ep
  have es := sz.es
  refine ⟨_, rfl, p, _, dx, _, _, rfl, f.at_, T.B.cl, T.bD, rfl, rfl, _, rfl, ?_⟩
  cases hP : P with
  | nil =>
    refine iteDT rfl ?_
    intro x dx hx hdx ne
    refine new_rat hx hdx ne (b := 1) rfl (by decide) (Nat.one_lt_two_pow (by decide)) fun v H' e hv => ?_
    rw [mk_one] at hv
    refine k v H' e ?_ ?_
    · rw [hP]; exact hv
    · rw [hP]; exact ⟨Nat.two_pow_pos 4000, Nat.one_lt_two_pow (by decide)⟩
  | cons t0 P0 =>
  refine iteDF (by intro q; cases q) ?_
  have m0 : t0 ∈ P := by rw [hP]; exact List.mem_cons_self ..
  have d0 : deg t0.1 = dg := po.deg t0 m0
  obtain ⟨xs1, g1, r1⟩ := w1.lst
  have lx1 : xs1.length = ws.length := Paired.length r1
  have lw := w1.len
  obtain ⟨C, hCd⟩ : ∃ C, C = lcms 1 ws := ⟨_, rfl⟩
  have fitl : FitL En ws := fun q hq => by
    obtain ⟨h1, h2⟩ := fit_den ep (w1.fit q hq)
    exact ⟨h1, Nat.lt_trans (Nat.lt_of_le_of_lt h2 sz.n) (Nat.pow_lt_pow_right (by decide) (by decide))⟩
  have hC : C ∣ En := by rw [hCd]; exact lcms_dvd _ 1 (Nat.one_dvd En) fun q hq => (fitl q hq).1
  have dC : ∀ q ∈ ws, q.den ∣ C := by rw [hCd]; exact (lcms_all (D := 1) _ 1).2
  have Cp : 0 < C := by rw [hCd]; exact lcms_pos _ 1 (by decide)
  have CE : C ≤ En := Nat.le_of_dvd ep hC
  have bd : B ∣ Dn := f.fit Dn fun u hu => (fit_den po.dp (po.fit u hu)).1
  have bD : B ≤ Dn := Nat.le_of_dvd po.dp bd
  obtain ⟨hr', hhr⟩ : ∃ l, l = ws.map fun q => upTo C q := ⟨_, rfl⟩
  have lhr : hr'.length = cs.length := by rw [hhr, List.length_map, lw]
  have shr : ∀ x ∈ hr', x.natAbs < 2 ^ 300 := by rw [hhr]; exact up_small hC ep sz.n dC w1.fit
  have told : (ws.map fun q => V.int (upTo C q)) = hr'.map V.int := by
    rw [hhr, List.map_map]; rfl
  refine ⟨_, rfl, a, xs1, ws, En, rfl, sq_of g1, r1, by omega, ep, es, fitl, fun p' t' Hb e5 hp' ht' => ?_⟩
  rw [← hCd] at hp' ht'
  rw [told] at ht'
  refine gt2 (st_of hp') ?_
  refine ⟨_, rfl, p, _, dx, _, _, rfl, e5 _ _ f.at_, T.B.cl, T.bT, rfl, t, rfl, ⟨tops, sq_of (e5 _ _ f.tps)⟩, ?_⟩
  have ltops : tops.length = P.length := Paired.length f.top
  refine for_it (walk_list (a := t) (xs := tops)) (fun i σ H' => Ex Hb H' ∧ ∃ o5 o6 o7 o8, σ = [some (.ref p), some (.ref a), some (.int (C : Nat)), some (.ref t'), some (.int (sumP hr' ((P.map (topZ B)).take i))), o5, o6, o7, o8])
    ⟨Ex.refl _, _, _, _, _, rfl⟩ (fun i σ H' _ q => sq_of (q.1 _ _ (e5 _ _ f.tps))) ?_ ?_
  · rintro i x σ H' H2 hi ⟨e, o5, o6, o7, o8, rfl⟩ ⟨rfl, hxi⟩
    obtain ⟨u, hu, a', q, z, rfl, ra, rq, hz⟩ := pr_getL f.top hxi
    have mu := List.mem_of_getElem? hu
    have ea := e5.trans e
    have ra2 := (exsm ea).rd _ _ nf_tup ra
    have rq2 := (exsm ea).rd _ _ nf_tup rq
    have lk : u.1.length = cs.length := po.ok.len u mu
    have dk : deg u.1 ≤ 5 := by rw [po.deg u mu]; exact po.d5
    have zb : z.natAbs < 2 ^ 500 := Nat.lt_of_le_of_lt (fit_top bd po.dp (po.fit u mu) hz) sz.m
    have tz : topZ B u = (u.1, z) := Prod.ext rfl (topZ_of hz)
    refine gt2 (.inl ra2) ?_
    have lkv : (kvs u.1).length = u.1.length := by unfold kvs; rw [List.length_map]
    have cq : (Src.tup q).C Y.K H2 (kvs u.1) := .inl rq2
    refine ⟨_, rfl, .tup q, kvs u.1, rfl, cq, ?_⟩
    refine for_it (walk_enumS (K := Y.K) (S := .tup q) (xs := kvs u.1)) (fun j σ H' => Ex H2 H' ∧ (∃ o7 o8, σ = [some (.ref p), some (.ref a), some (.int (C : Nat)), some (.ref t'), some (.int (sumP hr' ((P.map (topZ B)).take i))), some (.ref q), some (.int (prodZ (hr'.take j) (u.1.take j) z)), o7, o8]))
      ⟨Ex.refl _, _, _, rfl⟩ (fun j σ H' _ w => .inl ((exsm w.1).rd _ _ nf_tup rq2)) ?_ ?_
    · rintro j x σ H' H3 hj ⟨ej, o7, o8, rfl⟩ ⟨T0, x1, x2, rfl, hT, rfl, k1, k2⟩
      obtain rfl : x1 = .int ((j : Nat) : Int) := (Option.some.inj k1).symm
      obtain ⟨c, hc⟩ := get_lt (l := u.1) (i := j) (by rw [← lkv]; exact hj)
      obtain rfl : x2 = .int (c : Nat) := (Option.some.inj ((kvs_at hc).symm.trans k2)).symm
      refine gt2 (st_of upd_same) ?_
      have dt := deg_take u.1 j c hc
      have jn : j < cs.length := by rw [← lk]; exact (List.getElem?_eq_some_iff.mp hc).1
      obtain ⟨xh, hxh⟩ := get_lt (l := hr') (i := j) (by omega)
      have bh := shr xh (List.mem_of_getElem? hxh)
      have yT := Ex.new (o := HO.tup [V.int ((j : Nat) : Int), V.int ((c : Nat) : Int)]) hT
      have gh := yT _ _ (ej _ _ (e _ _ ht'))
      have pb := prod_big (hr'.take j) (u.1.take j) 500 z (fun x hx => shr x (List.mem_of_mem_take hx)) zb
      refine ⟨_, rfl, _, rfl, _, rfl, t', _, _, _, rfl, rfl, sq_of gh, atI_nat (i := j) (x := V.int xh) (by rw [List.getElem?_map, hxh]; rfl), _, rfl, xh, c, rfl, lt300 bh, by omega, ?_⟩
      refine ⟨_, _, rfl, rfl, wide_mul pb (pow_big (lt300 bh) (show c ≤ 5 by omega)) (by omega) (by decide) (by omega), ej.trans yT, some (.int ((j : Nat) : Int)), some (.int ((c : Nat) : Int)), ?_⟩
      rw [take_next hxh, take_next hc, prodZ_snoc _ _ _ _ _ (by rw [List.length_take, List.length_take]; omega)]
      rfl
    · rintro σ H' ⟨ej, o7, o8, rfl⟩
      rw [lkv, List.take_of_length_le (show hr'.length ≤ u.1.length by omega), List.take_length]
      refine ⟨_, rfl, _, rfl, _, _, rfl, rfl, e.trans ej, some (.ref q), some (.int (prodZ hr' u.1 z)), o7, o8, ?_⟩
      rw [take_next (x := (u.1, z)) (by rw [List.getElem?_map, hu, Option.map_some, tz]), sumP_snoc]
      rfl
  · rintro σ H' ⟨e, o5, o6, o7, o8, rfl⟩
    rw [ltops, show P.length = (P.map (topZ B)).length from (List.length_map ..).symm, List.take_length]
    have at2 := (e5.trans e) _ _ f.at_
    have dv : degV P = .int (dg : Nat) := by rw [hP, ← d0]; rfl
    refine ⟨_, rfl, _, rfl, p, _, dx, _, _, rfl, at2, T.B.cl, T.bB, rfl, _, rfl, _, rfl, p, _, dx, _, _, rfl, at2, T.B.cl, T.bD, rfl, C, dg, by rw [dv]; rfl, ?_, po.d5, ?_⟩
    · rw [Int.natAbs_natCast]
      exact Nat.lt_of_le_of_lt CE es
    refine ⟨_, _, rfl, rfl, wide_mul (a := 4000) (b := 20001) (by rw [Int.natAbs_natCast]; exact Nat.lt_of_le_of_lt bD po.ds) (pow_big (by rw [Int.natAbs_natCast]; exact Nat.lt_of_le_of_lt CE es) po.d5) (by decide) (by decide) (by decide), ?_⟩
    have bc : (B : Int) * (C : Int) ^ dg = ((B * C ^ dg : Nat) : Int) := by push_cast; rfl
    have hw : hr'.map (fun (x : Int) => (x : Rat)) = scaleL (C : Rat) ws := by rw [hhr]; exact up_scale hC dC
    have one := sumP_rat (ws := ws) (w := hr') (dg := dg) (B := B) (c := (C : Rat)) hw P fun u hu => ⟨by rw [lw, po.ok.len u hu], po.deg u hu, topZ_keys B f.top u hu⟩
    have all := sum_all (ws := ws) (vs := ws) (w := hr') (v := hr') (dg := dg) (B := B) (c := (C : Rat)) hw hw P fun u hu => ⟨by rw [lw, po.ok.len u hu], by rw [lw, po.ok.len u hu], po.deg u hu, topZ_keys B f.top u hu⟩
    obtain ⟨i1, _⟩ := Prod.mk.inj all
    have same : sumP hr' (P.map (topZ B)) = (sumZ hr' hr' (P.map (topZ B))).1 := Rat.intCast_inj.mp (one.trans i1.symm)
    have bq : ((B * C ^ dg : Nat) : Rat) = (B : Rat) * (C : Rat) ^ dg := by push_cast; rfl
    have big : BigZ 4000 (sumZ hr' hr' (P.map (topZ B))) := by
      refine sum_big (b := 500 + 301 * 5) (by decide) (by rw [List.length_map]; exact po.ok.few) fun t ht => ?_
      obtain ⟨u, hu, rfl⟩ := List.mem_map.mp ht
      have zb : (topZ B u).2.natAbs < 2 ^ 500 := Nat.lt_of_le_of_lt (fit_top bd po.dp (po.fit u hu) (topZ_keys B f.top u hu)) sz.m
      have := po.deg u hu
      have := po.d5
      have z0 : BigZ 500 ((topZ B u).2, 0, 0) := ⟨zb, Nat.two_pow_pos 500, Nat.two_pow_pos 500⟩
      exact (big_line _ _ _ 500 _ shr shr z0).mono (by show 500 + 301 * deg u.1 ≤ _; omega)
    have bp : 0 < B * C ^ dg := Nat.mul_pos f.pos (Nat.pow_pos Cp)
    have bs := big_bot bD CE ep po.d5 sz.de
    have one' := one
    rw [← bq] at one'
    intro x dx hx hdx ne
    refine new_rat hx hdx ne (b := B * C ^ dg) bc bp (Nat.lt_trans bs (Nat.pow_lt_pow_right (by decide) (by decide))) fun v H' e' hv => k v H' ((e5.trans e).trans e') ?_ ?_
    · rwa [mk_val bp one'] at hv
    · exact sz_val bp bs (by rw [same]; exact big.1) one'

def sp_worth (Y : Yc) : Sp := fun vs H Q _ => ∃ (v : V) (cs : List Nat) (P : Poly) (a : Addr) (xs : List V) (ws : List Rat) (dg D M En N : Nat), vs = [v, .ref a] ∧ BlendV Y H v (SX.S cs) P ∧ H a = some (.lst xs) ∧ NumL Y H xs ws ∧ ws.length = cs.length ∧ (∀ q ∈ ws, 0 < q ∧ Fit En N q) ∧
  PolyOk cs.length dg P D M ∧ SzL D M En N ∧ ∀ v' H', Ex H H' → RatV Y.CR H' v' (ev P (mono ws)) → Sz (ev P (mono ws)) → Q v' H'
/-- a blend, weights and a direction from outside -/
structure LineIn (Y : Yc) (H : Hp) (v : V) (cs : List Nat) (P : Poly) (a1 a2 : Addr) (ws us : List Rat) : Prop where
  bl : BlendV Y H v (SX.S cs) P
  w : ∃ xs, H a1 = some (.lst xs) ∧ NumL Y H xs ws
  d : ∃ xs, H a2 = some (.lst xs) ∧ NumL Y H xs us
  wl : ws.length = cs.length
  dl : us.length = cs.length
  pos : ∀ q ∈ ws, 0 < q
  few : cs.length ≤ 1000
def sp_line_of (Y : Yc) : Sp := fun vs H Q _ => ∃ (v : V) (cs : List Nat) (P : Poly) (a1 a2 : Addr) (ws us : List Rat), vs = [v, .ref a1, .ref a2] ∧ LineIn Y H v cs P a1 a2 ws us ∧
  ∀ p l1 l2 y1 y2 H', Ex H H' → H' p = some (.tup [.ref l1, .ref l2]) → H' l1 = some (.lst y1) → RatL Y H' y1 ws → H' l2 = some (.lst y2) → RatL Y H' y2 us → Q (.ref p) H'
structure LineFit (n dg : Nat) (P : Poly) (ws us : List Rat) (D M En N : Nat) : Prop where
  po : PolyOk n dg P D M
  sz : SzL D M En N
  wf : ∀ q ∈ ws, Fit En N q
  uf : ∀ q ∈ us, Fit En N q
def sp_slope (Y : Yc) : Sp := fun vs H Q _ => ∃ (v : V) (cs : List Nat) (P : Poly) (a1 a2 : Addr) (ws us : List Rat) (dg D M En N : Nat), vs = [v, .ref a1, .ref a2] ∧ LineIn Y H v cs P a1 a2 ws us ∧ LineFit cs.length dg P ws us D M En N ∧
  ∀ v' H', Ex H H' → RatV Y.CR H' v' (ev P (dz us (mono ws))) → Q v' H'
def sp_bend (Y : Yc) : Sp := fun vs H Q _ => ∃ (v : V) (cs : List Nat) (P : Poly) (a1 a2 : Addr) (ws us : List Rat) (dg D M En N : Nat), vs = [v, .ref a1, .ref a2] ∧ LineIn Y H v cs P a1 a2 ws us ∧ LineFit cs.length dg P ws us D M En N ∧
  ∀ v' H', Ex H H' → RatV Y.CR H' v' (ev P (dz us (dz us (mono ws)))) → Q v' H'
theorem numL_mono {H H' : Hp} {xs : List V} {qs : List Rat} (e : Ex H H') (h : NumL Y H xs qs) : NumL Y H' xs qs := NumL.mono (exsm e) h
theorem sz_two : Sz (((2 : Int)) : Rat) := ⟨by show (2 : Nat) < 2 ^ 4000; exact Nat.lt_of_lt_of_le (by decide) (Nat.pow_le_pow_right (n := 2) (by decide) (show 2 ≤ 4000 by decide)), Nat.one_lt_two_pow (by decide)⟩

abbrev st_worth : Stmt := top 91
theorem ok_worth {f : Addr} {fd : FuncData} (F : C8.Fun Y.K "worth" "worth" st_worth f fd) (T : TxtY Y) (c_want_blend : CalY Y 1 "want_blend" (sp_want_blend Y) []) (c_want_weights : CalY Y 6 "want_weights" (sp_want_weights Y) []) (c_worth_at : CalY Y 4 "worth_at" (sp_worth_at Y) []) : FnOk Y.P Y.w Y.K Y.mg Y.base C8.CX0 7 f fd ["blend", "weights"] (sp_worth Y) := by
  have S : FnScope ["blend", "weights"] ["blend", "weights"] (fnScope st_worth) := fnScope_by (by decide +kernel)
  have nd := S.nd
  refine fn0 F S (fun vs H Q E h => ?_) (fun cdv A outer s H vs Q E hr h => ?_)
  · obtain ⟨_, _, _, _, _, _, _, _, _, _, _, rfl, _⟩ := h; rfl
  refine ⟨_, (pss_cons (ps_expr (pe_c c_want_blend hr (by decide) rfl (pa_cons (pv 0) pa_nil)))
    (pss_one (ps_ret (pe_c c_worth_at hr (by decide) rfl (pa_cons (pv 0) (pa_cons (pe_c c_want_weights hr (by decide) rfl (pa_cons (pv 0) (pa_cons (pv 1) pa_nil))) pa_nil)))))), ?_⟩
  obtain ⟨v, cs, P, a, xs, ws, dg, Dn, M, En, N, rfl, bv, ha, nl, lw, hw, po, sz, k⟩ := h
  have n4 := po.n4
  refine ⟨_, rfl, v, _, P, rfl, bv, ?_⟩
  refine ⟨_, rfl, _, rfl, _, rfl, v, cs, P, a, xs, ws, rfl, bv, by omega, ha, nl, lw, fun q hq => (hw q hq).1, fun l ys H1 e1 hl rl => ?_⟩
  exact ⟨v, cs, P, l, ws, dg, Dn, M, En, N, rfl, bv.mono e1, ⟨⟨ys, hl, rl⟩, lw, fun q hq => (hw q hq).2⟩, po, sz, fun v' H' e' rv s => k v' H' (e1.trans e') rv s⟩
abbrev st_line_of : Stmt := top 92
theorem ok_line_of {f : Addr} {fd : FuncData} (F : C8.Fun Y.K "line_of" "line_of" st_line_of f fd) (T : TxtY Y) (c_want_blend : CalY Y 1 "want_blend" (sp_want_blend Y) []) (c_want_direction : CalY Y 6 "want_direction" (sp_want_direction Y) []) (c_want_weights : CalY Y 6 "want_weights" (sp_want_weights Y) []) : FnOk Y.P Y.w Y.K Y.mg Y.base C8.CX0 7 f fd ["blend", "weights", "direction"] (sp_line_of Y) := by
  have S : FnScope ["blend", "weights", "direction"] ["blend", "weights", "direction"] (fnScope st_line_of) := fnScope_by (by decide +kernel)
  have nd := S.nd
  refine fn0 F S (fun vs H Q E h => ?_) (fun cdv A outer s H vs Q E hr h => ?_)
  · obtain ⟨_, _, _, _, _, _, _, rfl, _⟩ := h; rfl
  refine ⟨_, (pss_cons (ps_expr (pe_c c_want_blend hr (by decide) rfl (pa_cons (pv 0) pa_nil)))
    (pss_one (ps_ret (pe_tup (pa_cons (pe_c c_want_weights hr (by decide) rfl (pa_cons (pv 0) (pa_cons (pv 1) pa_nil))) (pa_cons (pe_c c_want_direction hr (by decide) rfl (pa_cons (pv 0) (pa_cons (pv 2) pa_nil))) pa_nil)))))), ?_⟩
  obtain ⟨v, cs, P, a1, a2, ws, us, rfl, li, k⟩ := h
  obtain ⟨xs1, g1, n1⟩ := li.w
  obtain ⟨xs2, g2, n2⟩ := li.d
  refine ⟨_, rfl, v, _, P, rfl, li.bl, ?_⟩
  refine ⟨_, rfl, _, rfl, v, cs, P, a1, xs1, ws, rfl, li.bl, li.few, g1, n1, li.wl, li.pos, fun l ys H1 e1 hl rl => ?_⟩
  refine ⟨_, rfl, _, rfl, v, cs, P, a2, xs2, us, rfl, li.bl.mono e1, li.few, e1 _ _ g2, numL_mono e1 n2, li.dl, fun l2' ys2 H2 e2 hl2 rl2 => ?_⟩
  refine ⟨l2, fun T0 hT => ?_⟩
  have e3 := Ex.new (o := HO.tup [V.ref l, V.ref l2']) hT
  exact k T0 l l2' ys ys2 _ ((e1.trans e2).trans e3) upd_same (e3 _ _ (e2 _ _ hl)) ((rl.mono (exsm e2)).mono (exsm e3)) (e3 _ _ hl2) (rl2.mono (exsm e3))
abbrev st_slope : Stmt := top 93
theorem ok_slope {f : Addr} {fd : FuncData} (F : C8.Fun Y.K "slope" "slope" st_slope f fd) (T : TxtY Y) (c_along_at : CalY Y 4 "along_at" (sp_along_at Y) []) (c_line_of : CalY Y 7 "line_of" (sp_line_of Y) []) : FnOk Y.P Y.w Y.K Y.mg Y.base C8.CX0 8 f fd ["blend", "weights", "direction"] (sp_slope Y) := by
  have S : FnScope ["blend", "weights", "direction", "here", "there"] ["blend", "weights", "direction"] (fnScope st_slope) := fnScope_by (by decide +kernel)
  have nd := S.nd
  refine fn0 F S (fun vs H Q E h => ?_) (fun cdv A outer s H vs Q E hr h => ?_)
  · obtain ⟨_, _, _, _, _, _, _, _, _, _, _, _, rfl, _⟩ := h; rfl
  refine ⟨_, (pss_cons (ps_asg (pe_c c_line_of hr (by decide) rfl (pa_cons (pv 0) (pa_cons (pv 1) (pa_cons (pv 2) pa_nil)))) (pg_tup rfl (pgs_cons (pg_name (i := 3) nd rfl (Or.inl rfl)) (pgs_cons (pg_name (i := 4) nd rfl (Or.inl rfl)) pgs_nil))))
    (pss_one (ps_ret (pe_ix ix_list (pe_c c_along_at hr (by decide) rfl (pa_cons (pv 0) (pa_cons (pv 3) (pa_cons (pv 4) (pa_cons pe_int pa_nil))))) pe_int (fun _ _ => rfl))))), ?_⟩
  obtain ⟨v, cs, P, a1, a2, ws, us, dg, Dn, M, En, N, rfl, li, lf, k⟩ := h
  refine ⟨_, rfl, _, rfl, _, rfl, v, cs, P, a1, a2, ws, us, rfl, li, fun p l1 l2 y1 y2 H1 e1 hp h1 r1 h2 r2 => ?_⟩
  refine gt2 (st_of hp) ?_
  refine ⟨_, rfl, _, rfl, _, rfl, v, cs, P, l1, l2, ws, us, 1, dg, Dn, M, En, N, rfl, .inl rfl, li.bl.mono e1, ⟨⟨y1, h1, r1⟩, li.wl, lf.wf⟩, ⟨⟨y2, h2, r2⟩, li.dl, lf.uf⟩, lf.po, lf.sz, fun l ys H2 e2 hl rl szs => ?_⟩
  obtain ⟨y, hy, ry⟩ := pr_get rl (i := 1) (b := ev P (dz us (mono ws))) rfl
  exact ⟨l, ys, 1, y, rfl, rfl, sq_of hl, atI_nat hy, k y H2 (e1.trans e2) ry⟩
abbrev st_bend : Stmt := top 94
theorem ok_bend {f : Addr} {fd : FuncData} (F : C8.Fun Y.K "bend" "bend" st_bend f fd) (T : TxtY Y) (c_along_at : CalY Y 4 "along_at" (sp_along_at Y) []) (c_line_of : CalY Y 7 "line_of" (sp_line_of Y) []) (o_rmul : OpnY Y 4 Y.CR "mul" (sp_rmul Y)) : FnOk Y.P Y.w Y.K Y.mg Y.base C8.CX0 8 f fd ["blend", "weights", "direction"] (sp_bend Y) := by
  have S : FnScope ["blend", "weights", "direction", "here", "there"] ["blend", "weights", "direction"] (fnScope st_bend) := fnScope_by (by decide +kernel)
  have nd := S.nd
  refine fn0 F S (fun vs H Q E h => ?_) (fun cdv A outer s H vs Q E hr h => ?_)
  · obtain ⟨_, _, _, _, _, _, _, _, _, _, _, _, rfl, _⟩ := h; rfl
  refine ⟨_, (pss_cons (ps_asg (pe_c c_line_of hr (by decide) rfl (pa_cons (pv 0) (pa_cons (pv 1) (pa_cons (pv 2) pa_nil)))) (pg_tup rfl (pgs_cons (pg_name (i := 3) nd rfl (Or.inl rfl)) (pgs_cons (pg_name (i := 4) nd rfl (Or.inl rfl)) pgs_nil))))
    (pss_one (ps_ret (pe_op (Opn.r (op := .Mult) o_rmul hr (by decide)) (pe_ix ix_list (pe_c c_along_at hr (by decide) rfl (pa_cons (pv 0) (pa_cons (pv 3) (pa_cons (pv 4) (pa_cons pe_int pa_nil))))) pe_int (fun _ _ => rfl)) pe_int)))), ?_⟩
  obtain ⟨v, cs, P, a1, a2, ws, us, dg, Dn, M, En, N, rfl, li, lf, k⟩ := h
  refine ⟨_, rfl, _, rfl, _, rfl, v, cs, P, a1, a2, ws, us, rfl, li, fun p l1 l2 y1 y2 H1 e1 hp h1 r1 h2 r2 => ?_⟩
  refine gt2 (st_of hp) ?_
  refine ⟨_, rfl, _, rfl, _, rfl, v, cs, P, l1, l2, ws, us, 2, dg, Dn, M, En, N, rfl, .inr rfl, li.bl.mono e1, ⟨⟨y1, h1, r1⟩, li.wl, lf.wf⟩, ⟨⟨y2, h2, r2⟩, li.dl, lf.uf⟩, lf.po, lf.sz, fun l ys H2 e2 hl rl szs => ?_⟩
  obtain ⟨y, hy, ry⟩ := pr_get rl (i := 2) (b := ev P (dz us (dz us (mono ws))) / 2) rfl
  have sq := szs (ev P (dz us (dz us (mono ws))) / 2) (by show _ ∈ [_, _, _]; exact List.mem_cons_of_mem _ (List.mem_cons_of_mem _ (List.mem_cons_self ..)))
  refine ⟨l, ys, 2, y, rfl, rfl, sq_of hl, atI_nat hy, ?_⟩
  obtain ⟨b3, rfl, e3, h3⟩ := ry
  refine ⟨b3, e3, _, rfl, h3, .inr ⟨2, rfl⟩, _, _, ev P (dz us (dz us (mono ws))) / 2, ((2 : Int) : Rat), rfl, ⟨b3, rfl, e3, h3⟩, .inl ⟨2, rfl, rfl⟩, sq, sz_two, fun v4 H4 e4 rv => ?_⟩
  refine k v4 H4 ((e1.trans e2).trans e4) ?_
  have h2 : ((2 : Int) : Rat) = 2 := rfl
  rw [h2, Rat.div_mul_cancel (by decide)] at rv
  exact rv

end Km
end

section
set_option Elab.async false
set_option linter.all false
set_option maxRecDepth 100000
namespace Km
open PySem PySem.Spec PyProof.Rows L2 Evl
open C8 (fn0 fnScope_by Cal Mak Met pe_c pe_mk pe_mt pe_mt0 pe_gc fnScope fnBody fnArgs)
variable {Y : Yc}


/-- the pot of numbers to draw from -/
def PotAt (H : Hp) (l : Addr) : Prop := ∃ A B : Nat, H l = some (.lst [.int (A : Int), .int (B : Int)]) ∧ B < 2 ^ 31
theorem ExB.refl {l : Addr} {H : Hp} : ExB l H H := fun _ _ _ h => h
theorem ExB.trans {l : Addr} {H H1 H2 : Hp} (a : ExB l H H1) (b : ExB l H1 H2) : ExB l H H2 := fun x o n h => b x o n (a x o n h)
theorem ExB.of {l : Addr} {H H1 : Hp} (a : Ex H H1) : ExB l H H1 := fun x o _ h => a x o h
theorem PotAt.mono {l : Addr} {H H1 : Hp} (e : Ex H H1) (h : PotAt H l) : PotAt H1 l :=
  let ⟨A, B, h1, h2⟩ := h
  ⟨A, B, e _ _ h1, h2⟩
theorem PotAt.ne {l a : Addr} {H : Hp} (h : PotAt H l) (ha : H a = none) : a ≠ l := fun e => by
  obtain ⟨A, B, h1, _⟩ := h
  rw [← e, ha] at h1
  cases h1
theorem PotAt.ins {l a : Addr} {H : Hp} {c dx : Addr} {f : List (Str × V)} (h : PotAt H l) (ha : H a = some (.ins c dx f)) : a ≠ l := fun e => by
  obtain ⟨A, B, h1, _⟩ := h
  rw [← e, ha] at h1
  cases h1
theorem PotAt.tup {l a : Addr} {H : Hp} {xs : List V} (h : PotAt H l) (ha : H a = some (.tup xs)) : a ≠ l := fun e => by
  obtain ⟨A, B, h1, _⟩ := h
  rw [← e, ha] at h1
  cases h1
theorem PotAt.dT {l a : Addr} {H : Hp} {ks : List (List L2.Key × V)} (h : PotAt H l) (ha : H a = some (.dT ks)) : a ≠ l := fun e => by
  obtain ⟨A, B, h1, _⟩ := h
  rw [← e, ha] at h1
  cases h1
theorem PotAt.rd {l a : Addr} {H : Hp} {xs : List V} (h : PotAt H l) (ha : Rd H a (.tup xs)) : a ≠ l := fun e => by
  obtain ⟨A, B, h1, _⟩ := h
  rcases ha with ha | ⟨o, ha⟩
  · rw [← e, ha] at h1
    cases h1
  · rw [← e, ha] at h1
    cases h1
theorem RatV.ex {C l : Addr} {H H' : Hp} {v : V} {q : Rat} (p : PotAt H l) (e : ExB l H H') (h : RatV C H v q) : RatV C H' v q :=
  let ⟨a, h1, dx, h2⟩ := h
  ⟨a, h1, dx, e _ _ (p.ins h2) h2⟩
theorem NumV.ex {C l : Addr} {H H' : Hp} {v : V} {q : Rat} (p : PotAt H l) (e : ExB l H H') (h : NumV C H v q) : NumV C H' v q := h.imp id fun r => RatV.ex p e r
/-- the script: whole numbers -/
def sp__law_pot (Y : Yc) : Sp := fun vs H Q _ => ∃ (l : Addr) (ns : List Int), vs = [.ref l, .int 0] ∧ SqL Y.K H l (ns.map V.int) ∧ ∀ p H', Ex H H' → PotAt H' p → Q (.ref p) H'
def sp__law_draw (Y : Yc) : Sp := fun vs H Q _ => ∃ (l : Addr) (n : Nat), vs = [.ref l, .int (n : Int)] ∧ PotAt H l ∧ 0 < n ∧ n ≤ 1000 ∧ ∀ (c : Nat) H', c < n → ExB l H H' → PotAt H' l → Q (.int (c : Int)) H'


theorem emod_small {z m : Int} {b : Nat} (h : 0 < m) (hb : m.natAbs < 2 ^ b) : (z % m).natAbs < 2 ^ b := by
  have h1 := Int.emod_nonneg z (Int.ne_of_gt h)
  have h2 := Int.emod_lt_of_pos z h
  omega
theorem pot_of {H : Hp} {p : Addr} {x y : Int} (h : H p = some (.lst [.int (if x > 0 then x else 0), .int (y % 2147483563 + 1)])) : PotAt H p := by
  have y1 := Int.emod_nonneg y (show (2147483563 : Int) ≠ 0 by decide)
  have y2 := Int.emod_lt_of_pos y (show (0 : Int) < 2147483563 by decide)
  refine ⟨(if x > 0 then x else 0).toNat, (y % 2147483563 + 1).toNat, ?_, by omega⟩
  rw [Int.toNat_of_nonneg (by split <;> omega), Int.toNat_of_nonneg (by omega)]
  exact h

abbrev st__law_pot : Stmt := top 96
theorem ok__law_pot {f : Addr} {fd : FuncData} (F : C8.Fun Y.K "_law_pot" "_law_pot" st__law_pot f fd) (T : TxtY Y)  : FnOk Y.P Y.w Y.K Y.mg Y.base C8.CX0 1 f fd ["_law_script", "_law_k"] (sp__law_pot Y) := by
  have S : FnScope ["_law_script", "_law_k", "_law_cell"] ["_law_script", "_law_k"] (fnScope st__law_pot) := fnScope_by (by decide +kernel)
  have nd := S.nd
  refine fn0 F S (fun vs H Q E h => ?_) (fun cdv A outer s H vs Q E hr h => ?_)
  · obtain ⟨_, _, rfl, _⟩ := h; rfl
  refine ⟨_, (pss_cons (ps_set (i := 2) nd rfl (Or.inl rfl) (pe_op op_add (pe_op op_mulW pe_int (pv 1)) pe_int))
    (pss_cons (ps_if (pt_cmpR op_lt (pv 1) (pe_callB call_len rfl T.n_len boot_len (pa_cons (pv 0) pa_nil)) (nomark _)) (pss_one (ps_set (i := 2) nd rfl (Or.inl rfl) (pe_callB call_abs rfl T.n_abs boot_abs (pa_cons (pe_ix ix_list (pv 0) (pv 1) (fun _ _ => rfl)) pa_nil)))) pss_nil)
    (pss_one (ps_ret (pe_lst (pa_cons (pe_callB (call_max2 rfl) rfl T.n_max boot_max (pa_cons pe_int (pa_cons (pe_op op_sub (pv 2) (pe_op op_pow pe_int pe_int)) pa_nil))) (pa_cons (pe_op op_add (pe_op op_mod (pe_callTy call_int1 rfl T.n_int boot_int (pa_cons (pe_op op_add (pe_op op_add (pe_op op_mulW (pe_op op_mod (pe_callTy call_int1 rfl T.n_int boot_int (pa_cons (pv 2) pa_nil)) pe_int) pe_int) (pe_op op_mulW pe_int (pv 1))) pe_int) pa_nil)) pe_int) pe_int) pa_nil))))))), ?_⟩
  obtain ⟨l, ns, rfl, sq, k⟩ := h
  refine ⟨_, rfl, _, _, rfl, rfl, wide_mul (a := 10) (b := 10) (by decide) (by decide) (by decide) (by decide) (by decide), _, _, rfl, rfl, ?_⟩
  refine ⟨_, rfl, _, rfl, _, _, rfl, .inl ⟨_, sq, rfl⟩, _, _, rfl, rfl, _, rfl, ?_⟩
  cases ns with
  | nil =>
    refine iteDF (by decide) ?_
    have z0 : (0 : Int) ≤ 181 * 0 + 43 := by decide
    have zz := z0
    refine ⟨_, rfl, _, _, rfl, rfl, ⟨by decide, by decide, by decide⟩, _, _, rfl, rfl, _, _, rfl, _, rfl, .inl ⟨_, rfl, _, _, rfl, rfl, (show (0 : Int) < 2147483549 by decide), _, _, rfl, rfl, wide_mul (a := 32) (b := 32) (emod_small (by decide) (by decide)) (by decide) (by decide) (by decide) (by decide), _, rfl, _, _, rfl, rfl, wide_mul (a := 32) (b := 32) (by decide) (by decide) (by decide) (by decide) (by decide), _, _, rfl, rfl, _, _, rfl, rfl, .inl ⟨_, rfl, _, _, rfl, rfl, (show (0 : Int) < 2147483563 by decide), _, _, rfl, rfl, l2, fun p hp => k p _ (Ex.new hp) ?_⟩⟩⟩
    exact pot_of upd_same
  | cons z ns =>
    refine iteDT (by rw [List.length_map, List.length_cons]; omega) ?_
    refine ⟨_, rfl, _, rfl, l, _, _, _, rfl, rfl, sq, (atI_nat (i := 0) (x := V.int z) rfl), _, rfl, ?_⟩
    have z0 : True := trivial
    have zz := z0
    refine ⟨_, rfl, _, _, rfl, rfl, ⟨by decide, by decide, by decide⟩, _, _, rfl, rfl, _, _, rfl, _, rfl, .inl ⟨_, rfl, _, _, rfl, rfl, (show (0 : Int) < 2147483549 by decide), _, _, rfl, rfl, wide_mul (a := 32) (b := 32) (emod_small (by decide) (by decide)) (by decide) (by decide) (by decide) (by decide), _, rfl, _, _, rfl, rfl, wide_mul (a := 32) (b := 32) (by decide) (by decide) (by decide) (by decide) (by decide), _, _, rfl, rfl, _, _, rfl, rfl, .inl ⟨_, rfl, _, _, rfl, rfl, (show (0 : Int) < 2147483563 by decide), _, _, rfl, rfl, l2, fun p hp => k p _ (Ex.new hp) ?_⟩⟩⟩
    exact pot_of upd_same
abbrev st__law_draw : Stmt := top 97
theorem ok__law_draw {f : Addr} {fd : FuncData} (F : C8.Fun Y.K "_law_draw" "_law_draw" st__law_draw f fd) (T : TxtY Y)  : FnOk Y.P Y.w Y.K Y.mg Y.base C8.CX0 1 f fd ["_law_pot_here", "_law_size"] (sp__law_draw Y) := by
  have S : FnScope ["_law_pot_here", "_law_size", "_law_digit"] ["_law_pot_here", "_law_size"] (fnScope st__law_draw) := fnScope_by (by decide +kernel)
  have nd := S.nd
  refine fn0 F S (fun vs H Q E h => ?_) (fun cdv A outer s H vs Q E hr h => ?_)
  · obtain ⟨_, _, rfl, _⟩ := h; rfl
  refine ⟨_, (pss_cons (ps_if (pt_cmpR op_gt (pe_ix ix_list (pv 0) pe_int (fun _ _ => rfl)) pe_int (nomark _)) (pss_cons (ps_asg (pe_callB call_divmod rfl T.n_divmod boot_divmod (pa_cons (pe_ix ix_list (pv 0) pe_int (fun _ _ => rfl)) (pa_cons (pv 1) pa_nil))) (pg_tup rfl (pgs_cons (pg_sub (pv 0) pe_int set_list) (pgs_cons (pg_name (i := 2) nd rfl (Or.inl rfl)) pgs_nil))))
    (pss_one (ps_ret (pv 2)))) pss_nil)
    (pss_cons (ps_asg (pe_op op_mod (pe_callTy call_int1 rfl T.n_int boot_int (pa_cons (pe_op op_add (pe_op op_mulW (pe_ix ix_list (pv 0) pe_int (fun _ _ => rfl)) pe_int) pe_int) pa_nil)) pe_int) (pg_sub (pv 0) pe_int set_list))
    (pss_one (ps_ret (pe_op op_mod (pe_callTy call_int1 rfl T.n_int boot_int (pa_cons (pe_op op_fdivW (pe_op op_mod (pe_callTy call_int1 rfl T.n_int boot_int (pa_cons (pe_op op_mulW (pe_ix ix_list (pv 0) pe_int (fun _ _ => rfl)) (pe_ix ix_list (pv 0) pe_int (fun _ _ => rfl))) pa_nil)) pe_int) pe_int) pa_nil)) (pv 1)))))), ?_⟩
  obtain ⟨l, n, rfl, ⟨A, B, hl, hb⟩, n0, n1, k⟩ := h
  refine ⟨_, rfl, l, _, 0, _, rfl, rfl, sq_of hl, rfl, _, _, rfl, rfl, _, rfl, ?_⟩
  by_cases hA : (0 : Int) < (A : Int)
  · refine iteDT hA ?_
    refine ⟨_, rfl, l, _, 0, _, rfl, rfl, sq_of hl, rfl, _, rfl, _, _, rfl, ⟨by omega, by omega⟩, fun T hT => ?_⟩
    have e1 := Ex.new (o := HO.tup [V.int ((A : Int) / (n : Int)), V.int ((A : Int) % (n : Int))]) hT
    refine ⟨T, _, rfl, st_of upd_same, rfl, _, _, rfl, _, rfl, l, _, 0, 0, rfl, rfl, e1 _ _ hl, rfl, _, _, rfl, rfl, _, rfl, ?_⟩
    have h := k (A % n) _ (Nat.mod_lt _ n0) ((ExB.of e1).up (o := HO.lst [V.int ((A : Int) / (n : Int)), V.int (B : Int)])) ⟨A / n, B, by rw [upd_same, Int.natCast_ediv], hb⟩
    rw [Int.natCast_emod] at h
    exact h
  · refine iteDF hA ?_
    obtain ⟨B', hB⟩ : ∃ B', B' = (B * 39373 + 3167) % 2147483587 := ⟨_, rfl⟩
    have lB : B' < 2 ^ 31 := by rw [hB]; omega
    have eB : ((B : Int) * 39373 + 3167) % 2147483587 = (B' : Int) := by rw [hB]; omega
    refine ⟨_, rfl, l, _, 1, _, rfl, rfl, sq_of hl, rfl, _, _, rfl, rfl, wide_mul (a := 31) (b := 31) (by rw [Int.natAbs_natCast]; exact hb) (by decide) (by decide) (by decide) (by decide), _, _, rfl, rfl, .inl ⟨_, rfl, _, _, rfl, rfl, (show (0 : Int) < 2147483587 by decide), ?_⟩⟩
    refine ⟨_, rfl, l, _, 1, 1, rfl, rfl, hl, rfl, ?_⟩
    have gl : (upd H l (.lst ([V.int (A : Int), V.int (B : Int)].set 1 (V.int (((B : Int) * 39373 + 3167) % 2147483587))))) l = some (.lst [V.int (A : Int), V.int (B' : Int)]) := by rw [upd_same, eB]; rfl
    have bm : ((B' : Int)).natAbs < 2 ^ 31 := by rw [Int.natAbs_natCast]; exact lB
    refine ⟨_, rfl, l, _, 1, _, rfl, rfl, sq_of gl, rfl, _, rfl, l, _, 1, _, rfl, rfl, sq_of gl, rfl, _, _, rfl, rfl, wide_mul bm bm (by decide) (by decide) (by decide), .inl ⟨_, rfl, _, _, rfl, rfl, (show (0 : Int) < 2147483563 by decide), _, _, rfl, rfl, ⟨by decide, by decide +kernel⟩, .inl ⟨_, rfl, _, rfl, _, _, rfl, rfl, by omega, ?_⟩⟩⟩
    have h := k (B' * B' % 2147483563 / 17 % n) _ (Nat.mod_lt _ n0) (ExB.up ExB.refl) ⟨A, B', gl, lB⟩
    rw [Int.natCast_emod, Int.natCast_ediv, Int.natCast_emod, Int.natCast_mul] at h
    exact h

/-- an amount as the law draws it -/
def AmtOk (q : Rat) : Prop := 0 < q ∧ Fit 2520 75600 q
theorem rat_pos {n : Nat} (h : 0 < n) : (0 : Rat) < ((n : Nat) : Rat) := by
  have : ((0 : Nat) : Rat) < (n : Rat) := by
    rw [Rat.lt_iff]
    simp
    exact h
  exact this
theorem mk_pos {t b : Nat} (ht : 0 < t) (hb : 0 < b) : 0 < mkRat ((t : Nat) : Int) b := by
  rw [Rat.mkRat_eq_div, Rat.div_def]
  exact Rat.mul_pos (rat_pos ht) (Rat.inv_pos.mpr (rat_pos hb))
theorem div_nine : ∀ b < 9, (1 + b) ∣ 2520 := by decide
theorem amt_ok {c b : Nat} (hc : c < 30) (hb : b < 9) : AmtOk (mkRat ((1 + c : Nat) : Int) (1 + b)) :=
  ⟨mk_pos (by omega) (by omega), (fit_mkRat (by omega) (div_nine b hb)).mono (by omega)⟩
def sp__law_amount (Y : Yc) : Sp := fun vs H Q _ => ∃ (l : Addr), vs = [.ref l] ∧ PotAt H l ∧ ∀ v q H', ExB l H H' → PotAt H' l → NumV Y.CR H' v q → AmtOk q → Q v H'
theorem cast1 (c : Nat) : (1 : Int) + (c : Int) = ((1 + c : Nat) : Int) := by omega
theorem small8 {b : Nat} (h : b < 1000) : b < 2 ^ 8000 := Nat.lt_of_lt_of_le (Nat.lt_trans h (by decide : 1000 < 2 ^ 10)) (Nat.pow_le_pow_right (by decide) (by decide))

abbrev st__law_amount : Stmt := top 99
theorem ok__law_amount {f : Addr} {fd : FuncData} (F : C8.Fun Y.K "_law_amount" "_law_amount" st__law_amount f fd) (T : TxtY Y) (c__law_draw : CalY Y 1 "_law_draw" (sp__law_draw Y) []) (m_Ratio2 : MakY Y 2 "Ratio" Y.CR (sp_Ratio Y) []) : FnOk Y.P Y.w Y.K Y.mg Y.base C8.CX0 4 f fd ["_law_pot_here"] (sp__law_amount Y) := by
  have S : FnScope ["_law_pot_here", "_law_top"] ["_law_pot_here"] (fnScope st__law_amount) := fnScope_by (by decide +kernel)
  have nd := S.nd
  refine fn0 F S (fun vs H Q E h => ?_) (fun cdv A outer s H vs Q E hr h => ?_)
  · obtain ⟨_, rfl, _⟩ := h; rfl
  refine ⟨_, (pss_cons (ps_set (i := 1) nd rfl (Or.inl rfl) (pe_op op_add pe_int (pe_c c__law_draw hr (by decide) rfl (pa_cons (pv 0) (pa_cons pe_int pa_nil)))))
    (pss_one (ps_ret (pe_ifExp (pt_cmpR op_gt (pe_c c__law_draw hr (by decide) rfl (pa_cons (pv 0) (pa_cons pe_int pa_nil))) pe_int (nomark _)) (pv 1) (pe_mk m_Ratio2 hr (by decide) rfl (pa_cons (pv 1) (pa_cons (pe_op op_add pe_int (pe_c c__law_draw hr (by decide) rfl (pa_cons (pv 0) (pa_cons pe_int pa_nil)))) pa_nil))))))), ?_⟩
  obtain ⟨l, rfl, pt, k⟩ := h
  refine ⟨_, rfl, l, 30, rfl, pt, by decide, by decide, fun c H1 hc e1 p1 => ⟨_, _, rfl, rfl, ?_⟩⟩
  refine ⟨_, rfl, l, 4, rfl, p1, by decide, by decide, fun c2 H2 hc2 e2 p2 => ⟨_, _, rfl, rfl, _, rfl, ?_⟩⟩
  by_cases h0 : (0 : Int) < (c2 : Int)
  · refine iteDT h0 ⟨_, rfl, ?_⟩
    have a := amt_ok (b := 0) hc (by decide)
    rw [mk_one] at a
    exact k _ _ H2 (e1.trans e2) p2 (.inl ⟨((1 + c : Nat) : Int), congrArg V.int (cast1 c), rfl⟩) a
  · refine iteDF h0 ⟨_, rfl, _, rfl, l, 9, rfl, p2, by decide, by decide, fun c3 H3 hc3 e3 p3 => ⟨_, _, rfl, rfl, ?_⟩⟩
    intro x dx hx hdx ne
    refine new_rat hx hdx ne (b := 1 + c3) (cast1 c3) (by omega) (small8 (by omega)) fun v H' e hv => ?_
    refine k v _ H' (((e1.trans e2).trans e3).ex e) (p3.mono e) (.inr hv) ?_
    rw [cast1 c]
    exact amt_ok hc hc3

theorem deg_set : ∀ (k : Ky) (i c : Nat), k[i]? = some c → deg (k.set i (c + 1)) = deg k + 1
  | [], _, _, h => by cases h
  | d :: k, 0, c, h => by
    obtain rfl : d = c := Option.some.inj h
    show d + 1 + deg k = d + deg k + 1
    omega
  | d :: k, i + 1, c, h => by
    have := deg_set k i c h
    show d + deg (k.set i (c + 1)) = d + deg k + 1
    omega
theorem deg_rep : ∀ n : Nat, deg (List.replicate n 0) = 0
  | 0 => rfl
  | n + 1 => by
    show 0 + deg (List.replicate n 0) = 0
    rw [deg_rep n]
theorem rep_kvs : ∀ n : Nat, (List.replicate n [V.int 0]).flatten = kvs (List.replicate n 0)
  | 0 => rfl
  | n + 1 => by
    show V.int 0 :: (List.replicate n [V.int 0]).flatten = V.int 0 :: kvs (List.replicate n 0)
    rw [rep_kvs n]
theorem ixN_nat {n c : Nat} (h : c < n) : ixN n (c : Int) = some c := by
  unfold ixN
  rw [if_pos (by omega), if_pos (by omega), Int.toNat_natCast]
theorem kvs_set (k : Ky) (i c : Nat) : (kvs k).set i (.int ((c : Nat) : Int)) = kvs (k.set i c) := by
  unfold kvs
  rw [List.map_set]
theorem ExB.mut {l p : Addr} {H H' : Hp} {o : HO} (e : ExB l H H') (h : H p = none) : ExB l H (upd H' p o) := fun a u n ha => by
  rw [upd_ne (ne_of_none ha h)]
  exact e a u n ha
theorem PotAt.put {l p : Addr} {H : Hp} {o : HO} (h : PotAt H l) (n : l ≠ p) : PotAt (upd H p o) l := by
  obtain ⟨A, B, h1, h2⟩ := h
  exact ⟨A, B, by rw [upd_ne n]; exact h1, h2⟩
def sp__law_counts (Y : Yc) : Sp := fun vs H Q _ => ∃ (l : Addr) (w d : Nat), vs = [.ref l, .int (w : Int), .int (d : Int)] ∧ PotAt H l ∧ 1 ≤ w ∧ w ≤ 4 ∧ d ≤ 5 ∧ ∀ q key H', ExB l H H' → PotAt H' l → H' q = some (.tup (kvs key)) → key.length = w → deg key = d → Q (.ref q) H'

abbrev st__law_counts : Stmt := top 100
theorem ok__law_counts {f : Addr} {fd : FuncData} (F : C8.Fun Y.K "_law_counts" "_law_counts" st__law_counts f fd) (T : TxtY Y) (c__law_draw : CalY Y 1 "_law_draw" (sp__law_draw Y) []) : FnOk Y.P Y.w Y.K Y.mg Y.base C8.CX0 2 f fd ["_law_pot_here", "_law_wide", "_law_degree"] (sp__law_counts Y) := by
  have S : FnScope ["_law_pot_here", "_law_wide", "_law_degree", "_law_found", "_law_turn"] ["_law_pot_here", "_law_wide", "_law_degree"] (fnScope st__law_counts) := fnScope_by (by decide +kernel)
  have nd := S.nd
  refine fn0 F S (fun vs H Q E h => ?_) (fun cdv A outer s H vs Q E hr h => ?_)
  · obtain ⟨_, _, _, rfl, _⟩ := h; rfl
  refine ⟨_, (pss_cons (ps_set (i := 3) nd rfl (Or.inl rfl) (pe_op op_rep (pe_lst (pa_cons pe_int pa_nil)) (pv 1)))
    (pss_cons (ps_for PassesOwn.never rfl (pi_range1 rfl T.n_range (pa_cons (pv 2) pa_nil)) (pg_name (i := 4) nd rfl (Or.inl rfl))
    (pss_one (ps_augS (pv 3) (pe_c c__law_draw hr (by decide) rfl (pa_cons (pv 0) (pa_cons (pv 1) pa_nil))) get_list pe_int ip_add set_list)))
    (pss_one (ps_ret (pe_callTy call_tuple_of rfl T.n_tuple boot_tuple (pa_cons (pv 3) pa_nil)))))), ?_⟩
  obtain ⟨l, w, d, rfl, pt, w1, w4, d5, k⟩ := h
  refine ⟨l1, fun A0 hA => ⟨_, rfl, A0, (w : Int), [V.int 0], rfl, rfl, upd_same, by omega, by omega, sz_small (show 1 * (w : Int).toNat ≤ 1000 by omega), fun F hF => ?_⟩⟩
  rw [Int.toNat_natCast, rep_kvs]
  have e1 : Ex H (upd (upd H A0 (.lst [.int 0])) F (.lst (kvs (List.replicate w 0)))) := (Ex.new hA).trans (Ex.new hF)
  have hF0 : H F = none := fresh_back (Ex.new hA) hF
  have Fl : F ≠ l := pt.ne hF0
  refine ⟨_, rfl, _, rfl, by omega, by omega, ?_⟩
  refine for_it walk_range (fun i σ H' => ExB l H H' ∧ PotAt H' l ∧ (∃ key : Ky, H' F = some (.lst (kvs key)) ∧ key.length = w ∧ deg key = i) ∧ ∃ o, σ = [some (.ref l), some (.int (w : Int)), some (.int (d : Int)), some (.ref F), o])
    ⟨ExB.of e1, pt.mono e1, ⟨_, upd_same, List.length_replicate .., deg_rep w⟩, _, rfl⟩ (fun _ _ _ _ _ => trivial) ?_ ?_
  · rintro i v σ H' H2 hi ⟨e, p, ⟨key, gF, lk, dk⟩, o, rfl⟩ ⟨rfl, rfl⟩
    refine ⟨_, rfl, _, rfl, _, rfl, l, w, rfl, p, by omega, by omega, fun c H3 hc e3 p3 => ?_⟩
    have gF3 := e3 _ _ Fl gF
    obtain ⟨x, hx⟩ := get_lt (l := key) (i := c) (by omega)
    have lkv : (kvs key).length = w := by unfold kvs; rw [List.length_map, lk]
    refine ⟨F, _, _, _, rfl, rfl, sq_of gF3, atI_nat (kvs_at hx), _, _, rfl, rfl, F, _, _, c, rfl, rfl, gF3, ixN_nat (by omega), ?_⟩
    refine ⟨(e.trans e3).mut hF0, p3.put (Ne.symm Fl), ⟨key.set c (x + 1), ?_, by rw [List.length_set, lk], by rw [deg_set key c x hx, dk]⟩, _, rfl⟩
    rw [upd_same]
    show some (HO.lst ((kvs key).set c (V.int ((x : Int) + 1)))) = _
    rw [show (x : Int) + 1 = ((x + 1 : Nat) : Int) by omega, kvs_set]
  · rintro σ H' ⟨e, p, ⟨key, gF, lk, dk⟩, o, rfl⟩
    rw [Int.toNat_natCast] at dk
    exact ⟨_, rfl, F, _, rfl, .inl ⟨sq_of gF, fun t ht => k t key _ (e.ex (Ex.new ht)) (p.mono (Ex.new ht)) upd_same lk dk⟩⟩

theorem mem_put2 {P : Poly} {c : Ky} {a : Rat} {t : Ky × Rat} (h : t ∈ pput P c a) : t ∈ P ∨ t = (c, a) := by
  unfold pput at h
  split at h
  · obtain ⟨u, hu, rfl⟩ := List.mem_map.mp h
    by_cases e : u.1 = c
    · rw [if_pos e, e]
      exact .inr rfl
    · rw [if_neg e]
      exact .inl hu
  · rcases List.mem_append.mp h with h | h
    · exact .inl h
    · exact .inr (List.mem_singleton.mp h)
theorem len_put2 (P : Poly) (c : Ky) (a : Rat) : (pput P c a).length ≤ P.length + 1 ∧ pput P c a ≠ [] := by
  unfold pput
  split
  · rename_i h
    refine ⟨by rw [List.length_map]; omega, fun e => ?_⟩
    cases P with
    | nil => simp at h
    | cons t P => cases e
  · exact ⟨by rw [List.length_append]; exact Nat.le_refl _, by simp⟩
/-- the parts that the law draws -/
structure PartsOk (w d : Nat) (P : Poly) : Prop where
  nd : (keysP P).Nodup
  len : ∀ t ∈ P, t.1.length = w
  deg : ∀ t ∈ P, Km.deg t.1 = d
  amt : ∀ t ∈ P, AmtOk t.2
theorem PartsOk.put {w d : Nat} {P : Poly} {c : Ky} {a : Rat} (h : PartsOk w d P) (hl : c.length = w) (hd : Km.deg c = d) (ha : AmtOk a) : PartsOk w d (pput P c a) :=
  ⟨nodup_pput h.nd, fun t ht => (mem_put2 ht).elim (h.len t) fun e => by rw [e]; exact hl, fun t ht => (mem_put2 ht).elim (h.deg t) fun e => by rw [e]; exact hd, fun t ht => (mem_put2 ht).elim (h.amt t) fun e => by rw [e]; exact ha⟩
theorem PartsOk.poly {w d : Nat} {P : Poly} (h : PartsOk w d P) (hl : P.length ≤ 8) (w1 : 1 ≤ w) (w4 : w ≤ 4) (d5 : d ≤ 5) : PolyOk w d P 2520 75600 :=
  ⟨⟨h.nd, h.len, fun t ht => deg_small (d := 5) (by rw [h.deg t ht]; exact d5) (by decide), by omega, w1⟩, h.deg, d5, w4, fun t ht => (h.amt t ht).1, fun t ht => (h.amt t ht).2, by decide,
    Nat.lt_of_lt_of_le (by decide : 2520 < 2 ^ 20) (Nat.pow_le_pow_right (by decide) (by decide)), Nat.lt_of_lt_of_le (by decide : 75600 * 5 < 2 ^ 20) (Nat.pow_le_pow_right (by decide) (by decide))⟩
theorem new_ratK {H : Hp} {x dx : Addr} {K : VK} {t bi : Int} {b : Nat} (hx : H x = none) (hdx : H dx = none) (ne : dx ≠ x) (e : bi = (b : Int)) (hb : 0 < b) (sb : b < 2 ^ 8000)
    (k : ∀ H', Ex H H' → RatV Y.CR H' (.ref x) (mkRat t b) → K .non H') : sp_Ratio Y [.ref x, .int t, .int bi] (upd (upd H dx (.own x)) x (.ins Y.CR dx [])) K C8.E0 := by
  refine ⟨x, dx, t, b, bi, rfl, e, upd_same, hb, sb, ?_⟩
  rw [upd_upd]
  have h1 : Ex H (upd H dx (.own x)) := Ex.new hdx
  exact k _ (h1.mut hx) ⟨x, rfl, dx, upd_same⟩
theorem rows_ex {l : Addr} {H H' : Hp} {ks : List (List L2.Key × V)} {P : Poly} (p : PotAt H l) (e : ExB l H H') (h : Rows Y H ks P) : Rows Y H' ks P := Paired.mapP h fun _ _ z => ⟨z.1, RatV.ex p e z.2⟩
def sp__law_parts (Y : Yc) : Sp := fun vs H Q _ => ∃ (l : Addr) (w d : Nat), vs = [.ref l, .int (w : Int), .int (d : Int), .int 8] ∧ PotAt H l ∧ 1 ≤ w ∧ w ≤ 4 ∧ d ≤ 5 ∧ ∀ F ks P H', ExB l H H' → PotAt H' l → H' F = some (.dT ks) → Rows Y H' ks P → PartsOk w d P → P.length ≤ 8 → P ≠ [] → Q (.ref F) H'

abbrev st__law_parts : Stmt := top 101
theorem ok__law_parts {f : Addr} {fd : FuncData} (F : C8.Fun Y.K "_law_parts" "_law_parts" st__law_parts f fd) (T : TxtY Y) (c__law_amount : CalY Y 4 "_law_amount" (sp__law_amount Y) []) (c__law_counts : CalY Y 2 "_law_counts" (sp__law_counts Y) []) (c__law_draw : CalY Y 1 "_law_draw" (sp__law_draw Y) []) (m_Ratio1 : MakY Y 2 "Ratio" Y.CR (sp_Ratio Y) [.int 1]) (o_rmul : OpnY Y 4 Y.CR "mul" (sp_rmul Y)) : FnOk Y.P Y.w Y.K Y.mg Y.base C8.CX0 6 f fd ["_law_pot_here", "_law_wide", "_law_degree", "_law_most"] (sp__law_parts Y) := by
  have S : FnScope ["_law_pot_here", "_law_wide", "_law_degree", "_law_most", "_law_found", "_law_turn"] ["_law_pot_here", "_law_wide", "_law_degree", "_law_most"] (fnScope st__law_parts) := fnScope_by (by decide +kernel)
  have nd := S.nd
  refine fn0 F S (fun vs H Q E h => ?_) (fun cdv A outer s H vs Q E hr h => ?_)
  · obtain ⟨_, _, _, rfl, _⟩ := h; rfl
  have hu := hu_of hr
  refine ⟨_, (pss_cons (ps_set (i := 4) nd rfl (Or.inl rfl) pe_dnewT)
    (pss_cons (ps_for PassesOwn.never rfl (pi_range1 rfl T.n_range (pa_cons (pe_op op_add pe_int (pe_c c__law_draw hr (by decide) rfl (pa_cons (pv 0) (pa_cons (pv 3) pa_nil)))) pa_nil)) (pg_name (i := 5) nd rfl (Or.inl rfl))
    (pss_one (ps_dput hu (pv 4) (pe_c c__law_counts hr (by decide) rfl (pa_cons (pv 0) (pa_cons (pv 1) (pa_cons (pv 2) pa_nil)))) (pe_op (Opn.r (op := .Mult) o_rmul hr (by decide)) (pe_mk m_Ratio1 hr (by decide) rfl (pa_cons pe_int pa_nil)) (pe_c c__law_amount hr (by decide) rfl (pa_cons (pv 0) pa_nil))) rfl)))
    (pss_one (ps_ret (pv 4))))), ?_⟩
  obtain ⟨l, w, d, rfl, pt, w1, w4, d5, k⟩ := h
  intro F hF
  have e1 : Ex H (upd H F (.dT [])) := Ex.new hF
  have Fl : F ≠ l := pt.ne hF
  refine ⟨_, rfl, _, rfl, l, 8, rfl, pt.mono e1, by decide, by decide, fun c H1 hc e2 p1 => ⟨_, _, rfl, rfl, ?_⟩⟩
  have g1 : H1 F = some (.dT []) := e2 _ _ Fl upd_same
  have z1 := (ExB.of (l := l) e1).trans e2
  refine ⟨_, rfl, by omega, by omega, ?_⟩
  have en : (1 + (c : Int)).toNat = 1 + c := by omega
  rw [en]
  refine for_it walk_range (fun i σ H' => ExB l H H' ∧ PotAt H' l ∧ (∃ ks P, H' F = some (.dT ks) ∧ Rows Y H' ks P ∧ PartsOk w d P ∧ P.length ≤ i ∧ (i ≠ 0 → P ≠ [])) ∧ ∃ o, σ = [some (.ref l), some (.int (w : Int)), some (.int (d : Int)), some (.int 8), some (.ref F), o])
    ⟨z1, p1, ⟨[], [], g1, .nil, ⟨List.nodup_nil, fun _ h => (List.not_mem_nil h).elim, fun _ h => (List.not_mem_nil h).elim, fun _ h => (List.not_mem_nil h).elim⟩, Nat.le_refl _, fun h => absurd rfl h⟩, _, rfl⟩ (fun _ _ _ _ _ => trivial) ?_ ?_
  · rintro i v σ H' H2 hi ⟨e, p, ⟨ks, P, gF, rw0, po, lP, nP⟩, o, rfl⟩ ⟨rfl, rfl⟩
    intro x dx hx hdx ne
    refine new_ratK (Y := Y) (t := 1) (bi := 1) hx hdx ne (b := 1) rfl (by decide) (small8 (by decide)) fun H3 e3 hv => ⟨rfl, ?_⟩
    rw [mk_one] at hv
    refine ⟨_, rfl, l, rfl, p.mono e3, fun v4 q H4 e4 p4 nv aq => ?_⟩
    have hv4 := RatV.ex (p.mono e3) e4 hv
    obtain ⟨b3, xb, f3, h3⟩ := hv4
    obtain rfl : x = b3 := V.ref.inj xb
    have s1 : Sz ((1 : Int) : Rat) := ⟨Nat.one_lt_two_pow (by decide), Nat.one_lt_two_pow (by decide)⟩
    have s2 : Sz q := sz_fit (by decide) (Nat.lt_of_lt_of_le (by decide : 2520 < 2 ^ 20) (Nat.pow_le_pow_right (by decide) (by decide))) (Nat.lt_of_lt_of_le (by decide : 75600 < 2 ^ 20) (Nat.pow_le_pow_right (by decide) (by decide))) aq.2
    refine ⟨x, f3, _, rfl, h3, ?_, _, _, ((1 : Int) : Rat), q, rfl, ⟨x, rfl, f3, h3⟩, nv, s1, s2, fun v5 H5 e5 rv => ?_⟩
    · rcases nv with ⟨n, rfl, _⟩ | ⟨b4, rfl, f4, h4⟩
      · exact .inr ⟨n, rfl⟩
      · exact .inl ⟨b4, f4, _, rfl, h4⟩
    have rv : RatV Y.CR H5 v5 q := by rwa [show ((1 : Int) : Rat) * q = q by rw [show ((1 : Int) : Rat) = 1 from rfl, Rat.one_mul]] at rv
    have ea := ((ExB.of (l := l) e3).trans e4).trans (ExB.of e5)
    have p5 := p4.mono e5
    refine ⟨_, rfl, _, rfl, _, rfl, _, rfl, l, w, d, rfl, p5, w1, w4, d5, fun q6 key H6 e6 p6 h6 lk dk => ?_⟩
    have gF6 := e6 _ _ Fl (ea _ _ Fl gF)
    have rw6 := rows_ex p5 e6 (rows_ex p ea rw0)
    have rv6 := RatV.ex p5 e6 rv
    have lks : ks.length = P.length := Paired.length rw0
    rw [← kk_kV] at h6
    refine ⟨F, _, rfl, DPut.t gF6 h6 (Nat.lt_of_le_of_lt (show ks.length ≤ 1000 by omega) (by decide)), ?_⟩
    refine ⟨((e.trans ea).trans e6).mut hF, p6.put (Ne.symm Fl), ⟨_, pput P key q, upd_same, rows_upd gF6 dT_ins (rows_put rw6 rv6), po.put lk dk aq, ?_, fun _ => (len_put2 P key q).2⟩, _, rfl⟩
    have := (len_put2 P key q).1
    omega
  · rintro σ H' ⟨e, p, ⟨ks, P, gF, rw0, po, lP, nP⟩, o, rfl⟩
    exact ⟨_, rfl, k F ks P H' e p gF rw0 po (by omega) (nP (by omega))⟩

/-- a number as the law draws it -/
def NumOk (q : Rat) : Prop := 0 ≤ q ∧ Fit 60 540 q
theorem div_six : ∀ b < 6, (1 + b) ∣ 60 := by decide
theorem mk_nn {t b : Nat} (hb : 0 < b) : 0 ≤ mkRat ((t : Nat) : Int) b := by
  cases t with
  | zero =>
    have : mkRat ((0 : Nat) : Int) b = 0 := Rat.zero_mkRat b
    rw [this]
    exact Rat.le_refl
  | succ t => exact Rat.le_of_lt (mk_pos (Nat.succ_pos t) hb)
theorem num_ok {c b : Nat} (hc : c < 9) (hb : b < 6) : NumOk (mkRat ((c : Nat) : Int) (1 + b)) := ⟨mk_nn (by omega), (fit_mkRat (by omega) (div_six b hb)).mono (by omega)⟩
theorem num_nat {c : Nat} (hc : c < 9) : NumOk (((c : Nat) : Int) : Rat) := by
  have := num_ok (b := 0) hc (by decide)
  rwa [mk_one] at this
/-- a list of numbers at an address of its own -/
def NumsAt (Y : Yc) (H : Hp) (F : Addr) (qs : List Rat) : Prop := ∃ xs, H F = some (.lst xs) ∧ NumL Y H xs qs
theorem nums_ex {l F : Addr} {H H' : Hp} {qs : List Rat} (p : PotAt H l) (n : F ≠ l) (e : ExB l H H') (h : NumsAt Y H F qs) : NumsAt Y H' F qs :=
  let ⟨xs, h1, h2⟩ := h
  ⟨xs, e _ _ n h1, Paired.mapP h2 fun _ _ z => NumV.ex p e z⟩
theorem numv_lst {C : Addr} {H : Hp} {v : V} {q : Rat} {D : Addr} {ys zs : List V} (hD : H D = some (.lst ys)) (h : NumV C H v q) : NumV C (upd H D (.lst zs)) v q := h.imp id fun r => ratv_lst hD r
def sp__law_numbers (Y : Yc) : Sp := fun vs H Q _ => ∃ (l : Addr) (w : Nat), vs = [.ref l, .int (w : Int)] ∧ PotAt H l ∧ w ≤ 4 ∧ ∀ F qs H', ExB l H H' → PotAt H' l → H F = none → NumsAt Y H' F qs → qs.length = w → (∀ q ∈ qs, NumOk q) → Q (.ref F) H'

abbrev st__law_numbers : Stmt := top 105
theorem ok__law_numbers {f : Addr} {fd : FuncData} (F : C8.Fun Y.K "_law_numbers" "_law_numbers" st__law_numbers f fd) (T : TxtY Y) (c__law_draw : CalY Y 1 "_law_draw" (sp__law_draw Y) []) (m_Ratio2 : MakY Y 2 "Ratio" Y.CR (sp_Ratio Y) []) : FnOk Y.P Y.w Y.K Y.mg Y.base C8.CX0 4 f fd ["_law_pot_here", "_law_wide"] (sp__law_numbers Y) := by
  have S : FnScope ["_law_pot_here", "_law_wide", "_law_found", "_law_at", "_law_way"] ["_law_pot_here", "_law_wide"] (fnScope st__law_numbers) := fnScope_by (by decide +kernel)
  have nd := S.nd
  refine fn0 F S (fun vs H Q E h => ?_) (fun cdv A outer s H vs Q E hr h => ?_)
  · obtain ⟨_, _, rfl, _⟩ := h; rfl
  refine ⟨_, (pss_cons (ps_set (i := 2) nd rfl (Or.inl rfl) (pe_lst pa_nil))
    (pss_cons (ps_for PassesOwn.never rfl (pi_range1 rfl T.n_range (pa_cons (pv 1) pa_nil)) (pg_name (i := 3) nd rfl (Or.inl rfl))
    (pss_cons (ps_set (i := 4) nd rfl (Or.inl rfl) (pe_c c__law_draw hr (by decide) rfl (pa_cons (pv 0) (pa_cons pe_int pa_nil))))
    (pss_one (ps_expr (pe_bm PySem.F.plainAttrs_list PySem.F.slot_list_append PySem.F.type_list_append mt_append (pv 2) (pa_cons (pe_ifExp (pt_cmpR op_eq (pv 4) pe_int (nomark _)) pe_int (pe_ifExp (pt_cmpR op_eq (pv 4) pe_int (nomark _)) (pe_mk m_Ratio2 hr (by decide) rfl (pa_cons (pe_c c__law_draw hr (by decide) rfl (pa_cons (pv 0) (pa_cons pe_int pa_nil))) (pa_cons (pe_op op_add pe_int (pe_c c__law_draw hr (by decide) rfl (pa_cons (pv 0) (pa_cons pe_int pa_nil)))) pa_nil))) (pe_c c__law_draw hr (by decide) rfl (pa_cons (pv 0) (pa_cons pe_int pa_nil))))) pa_nil))))))
    (pss_one (ps_ret (pv 2))))), ?_⟩
  obtain ⟨l, w, rfl, pt, w4, k⟩ := h
  refine ⟨l0, fun F hF => ?_⟩
  have e1 : Ex H (upd H F (.lst [])) := Ex.new hF
  have Fl : F ≠ l := pt.ne hF
  refine ⟨_, rfl, _, rfl, by omega, by omega, ?_⟩
  rw [Int.toNat_natCast]
  refine for_it walk_range (fun i σ H' => ExB l H H' ∧ PotAt H' l ∧ (∃ qs, NumsAt Y H' F qs ∧ qs.length = i ∧ ∀ q ∈ qs, NumOk q) ∧ ∃ o1 o2, σ = [some (.ref l), some (.int (w : Int)), some (.ref F), o1, o2])
    ⟨ExB.of e1, pt.mono e1, ⟨[], ⟨[], upd_same, .nil⟩, rfl, fun _ h => (List.not_mem_nil h).elim⟩, _, _, rfl⟩ (fun _ _ _ _ _ => trivial) ?_ ?_
  · rintro i v σ H' H2 hi ⟨e, p, ⟨qs, ns, lq, aq⟩, o1, o2, rfl⟩ ⟨rfl, rfl⟩
    refine ⟨_, rfl, l, 4, rfl, p, by decide, by decide, fun c H3 hc e3 p3 => ?_⟩
    have ns3 := nums_ex p Fl e3 ns
    have fin : ∀ v q H4, ExB l H3 H4 → PotAt H4 l → NumV Y.CR H4 v q → NumOk q → rAppend (.ref F) [v] H4 fun _ H5 => (ExB l H H5 ∧ PotAt H5 l ∧ (∃ qs, NumsAt Y H5 F qs ∧ qs.length = i + 1 ∧ ∀ q ∈ qs, NumOk q) ∧ ∃ o1 o2, [some (V.ref l), some (.int (w : Int)), some (.ref F), some (.int (0 + (i : Int))), some (.int (c : Int))] = [some (.ref l), some (.int (w : Int)), some (.ref F), o1, o2]) := by
      intro v q H4 e4 p4 nv nq
      obtain ⟨xs, g, nl⟩ := nums_ex p3 Fl e4 ns3
      have lx := Paired.length nl
      refine ⟨F, xs, v, rfl, rfl, g, Nat.lt_of_le_of_lt (show xs.length ≤ 1000 by omega) (by decide), ((e.trans e3).trans e4).mut hF, p4.put (Ne.symm Fl), ⟨qs ++ [q], ⟨xs ++ [v], upd_same, ?_⟩, by rw [List.length_append, lq]; rfl, fun r hr => ?_⟩, _, _, rfl⟩
      · exact pr_app (Paired.mapP nl fun _ _ z => numv_lst g z) (.cons (numv_lst g nv) .nil)
      · rcases List.mem_append.mp hr with hr | hr
        · exact aq r hr
        · rw [List.mem_singleton.mp hr]; exact nq
    obtain ⟨xs3, g3, _⟩ := id ns3
    refine ⟨_, rfl, .inl ⟨rfl, _, sq_of g3⟩, ?_⟩
    refine ⟨_, rfl, rfl, _, rfl, ?_⟩
    by_cases c0 : c = 0
    · exact iteDT (by rw [c0]; rfl) (fin (.int 0) _ H3 ExB.refl p3 (.inl ⟨0, rfl, rfl⟩) (num_nat (c := 0) (by decide)))
    refine iteDF (fun q => c0 (by have := V.int.inj q; omega)) ?_
    refine ⟨_, rfl, rfl, _, rfl, ?_⟩
    by_cases c1 : c = 1
    · refine iteDT (by rw [c1]; rfl) ?_
      refine ⟨_, rfl, l, 9, rfl, p3, by decide, by decide, fun t H4 ht e4 p4 => ⟨_, rfl, l, 6, rfl, p4, by decide, by decide, fun b H5 hb e5 p5 => ⟨_, _, rfl, rfl, ?_⟩⟩⟩
      intro x dx hx hdx ne
      refine new_ratK (Y := Y) hx hdx ne (b := 1 + b) (cast1 b) (by omega) (small8 (by omega)) fun H6 e6 hv => ⟨rfl, ?_⟩
      exact fin _ _ H6 ((e4.trans e5).ex e6) (p5.mono e6) (.inr hv) (num_ok ht hb)
    · refine iteDF (fun q => c1 (by have := V.int.inj q; omega)) ?_
      exact ⟨_, rfl, l, 8, rfl, p3, by decide, by decide, fun t H4 ht e4 p4 => fin _ _ H4 e4 p4 (.inl ⟨(t : Int), rfl, rfl⟩) (num_nat (by omega))⟩
  · rintro σ H' ⟨e, p, ⟨qs, ns, lq, aq⟩, o1, o2, rfl⟩
    exact ⟨_, rfl, k F qs H' e p hF ns lq aq⟩

theorem keys_zip {H : Hp} : ∀ {ks : List (List L2.Key × V)} {P : Poly} {bs : List Addr}, Rows Y H ks P → IsKeys H ks bs → ∃ zl : List (Addr × Ky), bs.map V.ref = zl.map (fun z => V.ref z.1) ∧ keysP P = zl.map (·.2) ∧ ∀ z ∈ zl, H z.1 = some (.tup (kvs z.2))
  | [], [], [], .nil, .nil => ⟨[], rfl, rfl, fun _ h => (List.not_mem_nil h).elim⟩
  | k :: ks, t :: P, b :: bs, .cons r rs, .cons g gs => by
    obtain ⟨zl, h1, h2, h3⟩ := keys_zip rs gs
    refine ⟨(b, t.1) :: zl, ?_, ?_, fun z hz => ?_⟩
    · show V.ref b :: bs.map V.ref = V.ref b :: _
      rw [h1]
    · show t.1 :: keysP P = t.1 :: _
      rw [h2]
    · rcases List.mem_cons.mp hz with rfl | hz
      · have g' := g
        rw [r.1, kk_kV] at g'
        exact g'
      · exact h3 z hz
theorem sort_keys {K : PySem.W.Frag} {H : Hp} {ks : List (List L2.Key × V)} {P : Poly} {bs : List Addr} {n : Nat} {p : Addr} {Q : VK} (ib : IsKeys H ks bs) (rw0 : Rows Y H ks P) (ok : KeyOk n P) (hp : H p = some (.lst (bs.map V.ref)))
    (k : ∀ (q : Addr) (zs : List (Addr × Ky)) H', Ex H H' → H' q = some (.lst (zs.map fun z => V.ref z.1)) → (∀ z ∈ zs, H' z.1 = some (.tup (kvs z.2))) → (zs.map (·.2)).Perm (keysP P) → Rise (pick P (zs.map (·.2))) → Q (.ref q) H') : rSortU K n 64 [.ref p] H Q := by
  obtain ⟨zl, h1, h2, h3⟩ := keys_zip rw0 ib
  have lz : zl.length = P.length := by
    have := congrArg List.length h2
    rw [List.length_map] at this
    unfold keysP at this
    rw [List.length_map] at this
    exact this.symm
  have tupI : ∀ z ∈ zl, TupI K H (V.ref z.1) (intK z.2) := fun z hz => ⟨z.1, rfl, by
    have g := h3 z hz
    rw [kvs_ints] at g
    exact st_of g⟩
  have memP : ∀ z ∈ zl, ∃ t ∈ P, t.1 = z.2 := fun z hz => by
    have : z.2 ∈ keysP P := by rw [h2]; exact List.mem_map.mpr ⟨z, hz, rfl⟩
    obtain ⟨t, ht, e⟩ := List.mem_map.mp this
    exact ⟨t, ht, e⟩
  refine ⟨p, _, rfl, sq_of hp, by rw [h1, List.length_map, lz]; exact ok.few, fun x hx => ?_, fun ys q pm pw hq => ?_⟩
  · rw [h1] at hx
    obtain ⟨z, hz, rfl⟩ := List.mem_map.mp hx
    obtain ⟨t, ht, e⟩ := memP z hz
    exact ⟨_, tupI z hz, by unfold intK; rw [List.length_map, ← e]; exact ok.len t ht, bd_ints (by rw [← e]; exact ok.small t ht)⟩
  · rw [h1] at pm
    obtain ⟨zs, p1, p2⟩ := perm_lift (fun z : Addr × Ky => V.ref z.1) pm zl rfl
    have e1 : Ex H (upd H q (.lst ys)) := Ex.new hq
    have pk : (zs.map (·.2)).Perm (keysP P) := by rw [h2]; exact p1.map _
    refine k q zs _ e1 (by rw [upd_same, p2]) (fun z hz => e1 _ _ (h3 z (p1.mem_iff.mp hz))) pk (rise_pick ok pk ?_)
    rw [← p2, List.pairwise_map] at pw
    rw [List.pairwise_map]
    refine List.Pairwise.imp_of_mem (fun {a b} ha hb q => ?_) pw
    exact q _ _ (tupI a (p1.mem_iff.mp ha)) (tupI b (p1.mem_iff.mp hb))


theorem KeyOk.of_perm {n : Nat} {P R : Poly} (h : KeyOk n P) (p : R.Perm P) : KeyOk n R :=
  ⟨(show (keysP R).Perm (keysP P) from p.map _).nodup_iff.mpr h.nd, fun t ht => h.len t (p.mem_iff.mp ht), fun t ht => h.small t (p.mem_iff.mp ht), by rw [p.length_eq]; exact h.few, h.pos⟩
theorem PolyOk.of_perm {n dg : Nat} {P R : Poly} {D M : Nat} (h : PolyOk n dg P D M) (p : R.Perm P) : PolyOk n dg R D M :=
  ⟨h.ok.of_perm p, fun t ht => h.deg t (p.mem_iff.mp ht), h.d5, h.n4, fun t ht => h.pos t (p.mem_iff.mp ht), fun t ht => h.fit t (p.mem_iff.mp ht), h.dp, h.ds, h.ms⟩
theorem PolyOk.pf {n dg : Nat} {P : Poly} {D M : Nat} (h : PolyOk n dg P D M) : PFit P := by
  refine ⟨by have := h.ok.few; omega, h.ok.nd, D, h.dp, h.ds, fun q hq => ?_⟩
  obtain ⟨t, ht, rfl⟩ := List.mem_map.mp hq
  obtain ⟨a, b⟩ := fit_den h.dp (h.fit t ht)
  exact ⟨a, Nat.lt_of_le_of_lt b (Nat.lt_of_le_of_lt (Nat.le_mul_of_pos_right M (by decide)) h.ms)⟩
/-- an entry whose list of counts is not at D -/
def EntN (Y : Yc) (D : Addr) (H : Hp) (v : V) (t : Ky × Rat) : Prop := ∃ p a x, v = .ref p ∧ H p = some (.tup [.ref a, x]) ∧ H a = some (.lst (kvs t.1)) ∧ NumV Y.CR H x t.2 ∧ a ≠ D
theorem entN_upd {D : Addr} {H : Hp} {v : V} {t : Ky × Rat} {ys zs : List V} (hD : H D = some (.lst ys)) (h : EntN Y D H v t) : EntN Y D (upd H D (.lst zs)) v t := by
  obtain ⟨p, a, x, h1, h2, h3, h4, h5⟩ := h
  have pD : p ≠ D := fun e => by rw [e, hD] at h2; cases h2
  exact ⟨p, a, x, h1, by rw [upd_ne pD]; exact h2, by rw [upd_ne h5]; exact h3, numv_lst hD h4, h5⟩
def sp__law_blend (Y : Yc) : Sp := fun vs H Q _ => ∃ (cs : List Nat) (F : Addr) (ks : List (List L2.Key × V)) (P : Poly) (dg D M : Nat), vs = [.str (SX.S cs), .ref F] ∧ LsOk cs ∧ H F = some (.dT ks) ∧ Rows Y H ks P ∧ PolyOk cs.length dg P D M ∧
  ∀ v R H', Ex H H' → BlendV Y H' v (SX.S cs) R → R.Perm P → Rise R → Q v H'
def sp__law_told (Y : Yc) : Sp := fun vs H Q _ => ∃ (w : Nat) (F : Addr) (ks : List (List L2.Key × V)) (P : Poly), vs = [.ref F] ∧ H F = some (.dT ks) ∧ Rows Y H ks P ∧ KeyOk w P ∧
  ∀ L ys S H', Ex H H' → H' L = some (.lst ys) → Paired (PairAt2 Y H') ys (S.filter fun t => decide (t.2 ≠ 0)) → S.Perm P → Rise S → Q (.ref L) H'

abbrev st__law_blend : Stmt := top 102
theorem ok__law_blend {f : Addr} {fd : FuncData} (F : C8.Fun Y.K "_law_blend" "_law_blend" st__law_blend f fd) (T : TxtY Y) (m_Blend2 : MakY Y 6 "Blend" Y.CB (sp_Blend Y) []) : FnOk Y.P Y.w Y.K Y.mg Y.base C8.CX0 8 f fd ["_law_letters_now", "_law_parts_here"] (sp__law_blend Y) := by
  have S : FnScope ["_law_letters_now", "_law_parts_here", "_law_key"] ["_law_letters_now", "_law_parts_here"] (fnScope st__law_blend) := fnScope_by (by decide +kernel)
  have nd := S.nd
  refine fn0 F S (fun vs H Q E h => ?_) (fun cdv A outer s H vs Q E hr h => ?_)
  · obtain ⟨_, _, _, _, _, _, _, rfl, _⟩ := h; rfl
  have hu := hu_of hr
  obtain ⟨cs, F, ks, P, dg, Dn, M, rfl, lok, hF, rw0, po, k⟩ := h
  have w1 : 1 ≤ cs.length := lok.pos
  refine ⟨_, (pss_one (ps_ret (pe_mk m_Blend2 hr (by decide) rfl (pa_cons (pv 0) (pa_cons (pe_lc (own := [("_law_key", 2)]) (g := gName 2) (tt := tYes) rfl nd (pi_list (pe_callB (cr_sortT (d := cs.length) (B := 64) w1) rfl T.n_sorted boot_sorted (pa_cons (pe_callTy (call_list_dT rfl) rfl T.n_list boot_list (pa_cons (pv 1) pa_nil)) pa_nil))) (blkOk_by (N := ["_law_letters_now", "_law_parts_here", "_law_key"]) (sc := (fnScope st__law_blend)) (by decide +kernel)) (fun _ _ _ _ _ => by exact (pg_name (i := 2) nd rfl (Or.inl rfl))) (fun _ _ _ _ _ => by exact pts_nil) (fun _ _ _ _ _ => by exact (pe_tup (pa_cons (pe_callTy (lstB Y.K) rfl T.n_list boot_list (pa_cons (pv 2) pa_nil)) (pa_cons (pe_dget hu (pv 1) (pv 2) (fun _ _ => rfl)) pa_nil))))) pa_nil))))), ?_⟩
  refine ⟨_, rfl, _, rfl, F, ks, rfl, .inl hF, fun L1 bs hL1 ib => ?_⟩
  have e1 := Ex.new (o := HO.lst (bs.map V.ref)) hL1
  dsimp only [tNil]
  refine sort_keys (P := P) (Paired.mapP ib fun _ _ z => e1 _ _ z) (rw0.mono (exsm e1)) po.ok upd_same fun q zs H2 e2 hq hz pk ri => ?_
  have e3 := e1.trans e2
  have rw2 := rw0.mono (exsm e3)
  have pp := pick_perm po.ok.nd pk
  have poR := po.of_perm pp
  refine ⟨q, rfl, ⟨_, sq_of hq⟩, fun D0 hD => ?_⟩
  have lu : (pick P (zs.map (·.2))).length = (zs.map fun z => V.ref z.1).length := by unfold pick; simp only [List.length_map]
  have wl := walk_list (K := Y.K) (a := q) (xs := zs.map fun z => V.ref z.1)
  rw [← lu] at wl
  refine lc_map (us := pick P (zs.map (·.2))) wl (fun u y H' => EntN Y D0 H' y u) hD (by have := poR.ok.few; omega) (fun H3 e => sq_of (e _ _ hq)) (fun u y H H' e h => ?_) (fun _ _ _ _ _ hD h => entN_upd hD h) ?_ gn_mono ?_
  · obtain ⟨p, a, x, h1, h2, h3, h4, h5⟩ := h
    exact ⟨p, a, x, h1, e _ _ h2, e _ _ h3, h4.mono (exsm e), h5⟩
  · rintro i u x H3 H4 Kq hu e ⟨ys0, gD⟩ ⟨rfl, hx⟩ hk
    rw [List.getElem?_map] at hx
    cases hzi : zs[i]? with
    | none => rw [hzi] at hx; cases hx
    | some z =>
      rw [hzi] at hx
      obtain rfl : x = .ref z.1 := (Option.some.inj hx).symm
      have mz := List.mem_of_getElem? hzi
      unfold pick at hu
      rw [List.getElem?_map, List.getElem?_map, hzi] at hu
      obtain rfl : (z.2, (pget P z.2).getD 0) = u := Option.some.inj hu
      have gz := e _ _ (hz z mz)
      have mc : z.2 ∈ keysP P := pk.mem_iff.mp (List.mem_map.mpr ⟨z, mz, rfl⟩)
      obtain ⟨t, ht, et⟩ := List.mem_map.mp mc
      have gp : pget P z.2 = some t.2 := pget_some po.ok.nd (by rw [← et]; exact ht)
      obtain ⟨v, hv, rv⟩ := (rows_val (c := z.2) (rw2.mono (exsm e))).1 t.2 gp
      refine ⟨rfl, _, rfl, z.1, _, rfl, .inr (st_of gz), fun A hA => ?_⟩
      have eA := Ex.new (o := HO.lst (kvs z.2)) hA
      have gz2 : (upd H4 A (HO.lst (kvs z.2))) z.1 = some (.tup ((kk z.2).map kV)) := by rw [kk_kV]; exact eA _ _ gz
      have gD1 := DGet.t (eA _ _ (e _ _ (e3 _ _ hF))) gz2
      rw [hv] at gD1
      refine ⟨_, rfl, _, rfl, F, v, rfl, gD1, l2, fun T0 hT => ?_⟩
      have eT := Ex.new (o := HO.tup [V.ref A, v]) hT
      have AD : A ≠ D0 := fun q => by rw [q, gD] at hA; cases hA
      exact hk _ _ (eA.trans eT) ⟨T0, A, v, rfl, upd_same, eT _ _ upd_same, .inr (by rw [gp]; exact (rv.mono (exsm eA)).mono (exsm eT)), AD⟩
  · intro ys H3 e hd pr
    intro x dx hx hdx ne
    have ent : EntOk Y H3 cs.length (Src.lst D0).v (fun P' => P'.Perm (pick P (zs.map (·.2))) ∧ Rise P') := EntOk.seq (S := .lst D0) (sq_of hd) (.inl ⟨D0, rfl, hd⟩) (Paired.mapP pr fun _ _ z => let ⟨p, a, x, h1, h2, h3, h4, _⟩ := z; ⟨p, a, x, h1, h2, h3, h4⟩) poR.ok poR.deg (Nat.le_trans poR.d5 (by decide)) poR.pos (Nat.le_trans poR.n4 (by decide))
    exact new_blend hx hdx ne lok ent (fun P' g => (poR.of_perm g.1).pf) fun v P' H4 e4 bv g => k v P' H4 ((e3.trans e).trans e4) bv (g.1.trans pp) g.2

theorem sign_ne {q : Rat} : (V.int q.num.sign = V.int 0) ↔ q = 0 := by
  constructor
  · intro h
    have h := V.int.inj h
    exact Rat.num_eq_zero.mp (Int.sign_eq_zero_iff_zero.mp h)
  · intro h
    rw [h]
    rfl

abbrev st__law_told : Stmt := top 103
theorem ok__law_told {f : Addr} {fd : FuncData} (F : C8.Fun Y.K "_law_told" "_law_told" st__law_told f fd) (T : TxtY Y) (p_sign : PrpY Y 1 Y.CR "sign" (sp_rsign Y)) : FnOk Y.P Y.w Y.K Y.mg Y.base C8.CX0 3 f fd ["_law_parts_here"] (sp__law_told Y) := by
  have S : FnScope ["_law_parts_here", "_law_key"] ["_law_parts_here"] (fnScope st__law_told) := fnScope_by (by decide +kernel)
  have nd := S.nd
  refine fn0 F S (fun vs H Q E h => ?_) (fun cdv A outer s H vs Q E hr h => ?_)
  · obtain ⟨_, _, _, _, rfl, _⟩ := h; rfl
  have hu := hu_of hr
  obtain ⟨w, F, ks, P, rfl, hF, rw0, ok, k⟩ := h
  have w1 : 1 ≤ w := ok.pos
  refine ⟨_, (pss_one (ps_ret (pe_lc (own := [("_law_key", 1)]) (g := gName 1) rfl nd (pi_list (pe_callB (cr_sortT (d := w) (B := 64) w1) rfl T.n_sorted boot_sorted (pa_cons (pe_callTy (call_list_dT rfl) rfl T.n_list boot_list (pa_cons (pv 0) pa_nil)) pa_nil))) (blkOk_by (N := ["_law_parts_here", "_law_key"]) (sc := (fnScope st__law_told)) (by decide +kernel)) (fun _ _ _ _ _ => by exact (pg_name (i := 1) nd rfl (Or.inl rfl))) (fun _ _ _ _ _ => by exact (pts_one (pt_cmpR op_ne (pe_pr p_sign hr (by decide) (pe_dget hu (pv 0) (pv 1) (fun _ _ => rfl)) rfl) pe_int (nomark _)))) (fun _ _ _ _ _ => by exact (pe_tup (pa_cons (pv 1) (pa_cons (pe_dget hu (pv 0) (pv 1) (fun _ _ => rfl)) pa_nil))))))), ?_⟩
  refine ⟨_, rfl, F, ks, rfl, .inl hF, fun L1 bs hL1 ib => ?_⟩
  have e1 := Ex.new (o := HO.lst (bs.map V.ref)) hL1
  dsimp only [tNil]
  refine sort_keys (P := P) (Paired.mapP ib fun _ _ z => e1 _ _ z) (rw0.mono (exsm e1)) ok upd_same fun q zs H2 e2 hq hz pk ri => ?_
  have e3 := e1.trans e2
  have rw2 := rw0.mono (exsm e3)
  have pp := pick_perm ok.nd pk
  have okR := ok.of_perm pp
  refine ⟨q, rfl, ⟨_, sq_of hq⟩, fun D0 hD => ?_⟩
  have lu : (pick P (zs.map (·.2))).length = (zs.map fun z => V.ref z.1).length := by unfold pick; simp only [List.length_map]
  have wl := walk_list (K := Y.K) (a := q) (xs := zs.map fun z => V.ref z.1)
  rw [← lu] at wl
  refine lc_of (us := pick P (zs.map (·.2))) wl (fun u => decide (u.2 ≠ 0)) (fun u y H' => PairAt2 Y H' y u) hD (by have := okR.few; omega) (fun H3 e => sq_of (e _ _ hq)) (fun _ _ _ _ e h => h.mono e) (fun _ _ _ _ _ hD h => pair_upd hD h) ?_ ?_
  · rintro i u x H3 H4 Kq N hu e _ ⟨rfl, hx⟩ hk hn
    rw [List.getElem?_map] at hx
    cases hzi : zs[i]? with
    | none => rw [hzi] at hx; cases hx
    | some z =>
      rw [hzi] at hx
      obtain rfl : x = .ref z.1 := (Option.some.inj hx).symm
      have mz := List.mem_of_getElem? hzi
      unfold pick at hu
      rw [List.getElem?_map, List.getElem?_map, hzi] at hu
      obtain rfl : (z.2, (pget P z.2).getD 0) = u := Option.some.inj hu
      have gz := e _ _ (hz z mz)
      have mc : z.2 ∈ keysP P := pk.mem_iff.mp (List.mem_map.mpr ⟨z, mz, rfl⟩)
      obtain ⟨t, ht, et⟩ := List.mem_map.mp mc
      have gp : pget P z.2 = some t.2 := pget_some ok.nd (by rw [← et]; exact ht)
      rw [gp] at hk hn
      obtain ⟨v, hv, rv⟩ := (rows_val (c := z.2) (rw2.mono (exsm e))).1 t.2 gp
      have gz2 : H4 z.1 = some (.tup ((kk z.2).map kV)) := by rw [kk_kV]; exact gz
      have gD1 := DGet.t (e _ _ (e3 _ _ hF)) gz2
      rw [hv] at gD1
      obtain ⟨b3, rfl, f3, h3⟩ := id rv
      refine ⟨rfl, _, rfl, _, rfl, F, _, rfl, gD1, b3, f3, _, rfl, h3, _, t.2, rfl, ⟨b3, rfl, f3, h3⟩, rfl, _, rfl, ?_⟩
      by_cases z0 : t.2 = 0
      · refine iteNF (sign_ne.mpr z0) (hn (decide_eq_false fun q => q z0) _ (Ex.refl _))
      · refine iteNT (fun q => z0 (sign_ne.mp q)) ?_
        refine ⟨_, rfl, _, rfl, _, rfl, F, _, rfl, gD1, l2, fun T0 hT => ?_⟩
        have eT := Ex.new (o := HO.tup [V.ref z.1, V.ref b3]) hT
        exact hk (decide_eq_true z0) _ _ eT ⟨T0, z.1, _, rfl, upd_same, eT _ _ gz, rv.mono (exsm eT)⟩
  · intro ys H3 e hd pr
    exact k D0 ys (pick P (zs.map (·.2))) H3 (e3.trans e) hd pr pp ri

def sp__law_add (Y : Yc) : Sp := fun vs H Q _ => ∃ (F q : Addr) (v : V) (c : Ky) (r : Rat) (ks : List (List L2.Key × V)) (P : Poly), vs = [.ref F, .ref q, v] ∧ H F = some (.dT ks) ∧ Rows Y H ks P ∧ H q = some (.tup (kvs c)) ∧ RatV Y.CR H v r ∧ Sz r ∧ Sz ((pget P c).getD 0) ∧ ks.length < 1000 ∧
  ∀ ks' H', ExB F H H' → H' F = some (.dT ks') → Rows Y H' ks' (pput P c (r + (pget P c).getD 0)) → Q .non H'

abbrev st__law_add : Stmt := top 104
theorem ok__law_add {f : Addr} {fd : FuncData} (F : C8.Fun Y.K "_law_add" "_law_add" st__law_add f fd) (T : TxtY Y) (o_radd : OpnY Y 4 Y.CR "add" (sp_radd Y)) : FnOk Y.P Y.w Y.K Y.mg Y.base C8.CX0 5 f fd ["_law_parts_here", "_law_key", "_law_amount_here"] (sp__law_add Y) := by
  have S : FnScope ["_law_parts_here", "_law_key", "_law_amount_here"] ["_law_parts_here", "_law_key", "_law_amount_here"] (fnScope st__law_add) := fnScope_by (by decide +kernel)
  have nd := S.nd
  refine fn0 F S (fun vs H Q E h => ?_) (fun cdv A outer s H vs Q E hr h => ?_)
  · obtain ⟨_, _, _, _, _, _, _, rfl, _⟩ := h; rfl
  have hu := hu_of hr
  refine ⟨_, (pss_one (ps_dput hu (pv 0) (pv 1) (pe_op (Opn.r (op := .Add) o_radd hr (by decide)) (pv 2) (pe_ifExp (pt_cmp (pc_din hu (pv 1) (pv 0))) (pe_dget hu (pv 0) (pv 1) (fun _ _ => rfl)) pe_int)) rfl)), ?_⟩
  obtain ⟨F, q, v, c, r, ks, P, rfl, hF, rw0, hq, rv, sr, sp0, kl, k⟩ := h
  obtain ⟨b3, rfl, f3, h3⟩ := id rv
  have hq2 : H q = some (.tup ((kk c).map kV)) := by rw [kk_kV]; exact hq
  have fin : ∀ v H4, Ex H H4 → RatV Y.CR H4 v (r + (pget P c).getD 0) → sDPut (tVar 0) (tVar 1) (fun _ H Q => Q v H) { nx := fun _ H' => Q .non H', rt := Q } [some (.ref F), some (.ref q), some (.ref b3)] H4 := by
    intro v H4 e4 rv4
    refine ⟨_, rfl, _, rfl, F, _, rfl, DPut.t (e4 _ _ hF) (e4 _ _ hq2) (Nat.lt_of_lt_of_le kl (by decide)), ?_⟩
    exact k _ _ ((ExB.of e4).up) upd_same (rows_upd (e4 _ _ hF) dT_ins (rows_put (rw0.mono (exsm e4)) rv4))
  have gD := DGet.t hF hq2
  refine ⟨_, rfl, _, rfl, _, rfl, F, _, rfl, gD, _, rfl, ?_⟩
  cases hv : pget P c with
  | none =>
    rw [(rows_val rw0).2 hv]
    refine iteF ?_
    rw [hv] at fin
    refine ⟨b3, f3, _, rfl, h3, .inr ⟨0, rfl⟩, _, _, r, 0, rfl, ⟨b3, rfl, f3, h3⟩, .inl ⟨0, rfl, rfl⟩, sr, by rw [hv] at sp0; exact sp0, fun v4 H4 e4 rv4 => fin v4 H4 e4 rv4⟩
  | some a =>
    obtain ⟨z, hz, a2, rfl, d2, h2⟩ := (rows_val rw0).1 a hv
    rw [hz]
    refine iteT ?_
    rw [hv] at fin
    rw [hz] at gD
    refine ⟨_, rfl, _, rfl, F, _, rfl, gD, b3, f3, _, rfl, h3, .inl ⟨a2, d2, _, rfl, h2⟩, _, _, r, a, rfl, ⟨b3, rfl, f3, h3⟩, .inr ⟨a2, rfl, d2, h2⟩, sr, by rw [hv] at sp0; exact sp0, fun v4 H4 e4 rv4 => fin v4 H4 e4 rv4⟩

end Km
end

section
set_option Elab.async false
set_option linter.all false
set_option maxRecDepth 100000
namespace Km
/-! ### what the law gathers along numbers -/
def contrL (t : Ky × Rat) : Nat → List Rat → Poly
  | _, [] => []
  | i, x :: n => (if 0 < t.1.getD i 0 then [(decAt i t.1, t.2 * x * ((t.1.getD i 0 : Nat) : Rat))] else []) ++ contrL t (i + 1) n
theorem contr_snoc (t : Ky × Rat) (x : Rat) : ∀ (n : List Rat) (i : Nat), contrL t i (n ++ [x]) = contrL t i n ++ (if 0 < t.1.getD (i + n.length) 0 then [(decAt (i + n.length) t.1, t.2 * x * ((t.1.getD (i + n.length) 0 : Nat) : Rat))] else [])
  | [], i => by
    show _ ++ [] = [] ++ _
    rw [List.append_nil, List.nil_append]
    rfl
  | y :: n, i => by
    show _ ++ contrL t (i + 1) (n ++ [x]) = (_ ++ contrL t (i + 1) n) ++ _
    rw [contr_snoc t x n (i + 1), List.append_assoc, show i + 1 + n.length = i + (y :: n).length by rw [List.length_cons]; omega]
theorem ev_contr (t : Ky × Rat) (f : Ky → Rat) : ∀ (n : List Rat) (i : Nat), ev (contrL t i n) f = t.2 * dzF f t.1 i n
  | [], i => by
    show (0 : Rat) = t.2 * 0
    rw [Rat.mul_zero]
  | x :: n, i => by
    show ev ((if 0 < t.1.getD i 0 then [(decAt i t.1, t.2 * x * ((t.1.getD i 0 : Nat) : Rat))] else []) ++ contrL t (i + 1) n) f = t.2 * dzF f t.1 i (x :: n)
    rw [ev_app, ev_contr t f n (i + 1)]
    show _ = t.2 * (x * ((t.1.getD i 0 : Nat) : Rat) * f (decAt i t.1) + dzF f t.1 (i + 1) n)
    generalize dzF f t.1 (i + 1) n = rest
    by_cases h : 0 < t.1.getD i 0
    · rw [if_pos h, ev_cons, ev_nil]
      grind
    · rw [if_neg h, ev_nil]
      have : t.1.getD i 0 = 0 := by omega
      rw [this, show ((0 : Nat) : Rat) = 0 from rfl]
      grind
/-- all of it -/
def allC (P : Poly) (qs : List Rat) : Poly := P.flatMap fun t => contrL t 0 qs
theorem ev_allC {n : Nat} {qs : List Rat} (hq : qs.length = n) (f : Ky → Rat) : ∀ P : Poly, (∀ t ∈ P, t.1.length = n) → ev (allC P qs) f = ev P (dz qs f)
  | [], _ => rfl
  | t :: P, h => by
    show ev (contrL t 0 qs ++ allC P qs) f = _
    rw [ev_app, ev_contr, ev_allC hq f P fun u hu => h u (List.mem_cons_of_mem _ hu), ev_cons, dzF_dz qs f t.1 (by rw [hq, h t (List.mem_cons_self ..)])]
theorem allC_snoc (P : Poly) (t : Ky × Rat) (qs : List Rat) : allC (P ++ [t]) qs = allC P qs ++ contrL t 0 qs := by
  unfold allC
  rw [List.flatMap_append]
  simp
theorem contr_len (t : Ky × Rat) : ∀ (n : List Rat) (i : Nat), (contrL t i n).length ≤ n.length
  | [], _ => Nat.le_refl _
  | x :: n, i => by
    show (_ ++ contrL t (i + 1) n).length ≤ _
    have := contr_len t n (i + 1)
    rw [List.length_append, List.length_cons]
    split <;> simp <;> omega
theorem allC_len (qs : List Rat) : ∀ P : Poly, (allC P qs).length ≤ P.length * qs.length
  | [] => Nat.zero_le _
  | t :: P => by
    show (contrL t 0 qs ++ allC P qs).length ≤ _
    have h1 := contr_len t qs 0
    have h2 := allC_len qs P
    rw [List.length_append, List.length_cons, Nat.succ_mul]
    omega
/-- sums by keys so far -/
structure Acc (L S : Poly) : Prop where
  nd : (keysP S).Nodup
  ev : ∀ f, ev S f = ev L f
  key : ∀ c ∈ keysP S, ∃ t ∈ L, t.1 = c
theorem Acc.get {L S : Poly} (h : Acc L S) (c : Ky) : (pget S c).getD 0 = Km.ev L (ind c) := by
  by_cases hc : c ∈ keysP S
  · obtain ⟨t, ht, rfl⟩ := List.mem_map.mp hc
    rw [pget_some (a := t.2) h.nd ht, ← h.ev]
    exact (ev_ind_in (k := t.1) (a := t.2) h.nd ht).symm
  · rw [pget_none hc, ← h.ev, ev_ind_out hc]
    rfl
theorem Acc.next {L S : Poly} (h : Acc L S) (t : Ky × Rat) : Acc (L ++ [t]) (pput S t.1 (t.2 + (pget S t.1).getD 0)) := by
  refine ⟨nodup_pput h.nd, fun f => ?_, fun c hc => ?_⟩
  · rw [ev_pput h.nd, h.ev, ev_app, ev_cons, ev_nil]
    grind
  · rw [keys_pput] at hc
    split at hc
    · obtain ⟨u, h1, h2⟩ := h.key c hc
      exact ⟨u, List.mem_append_left _ h1, h2⟩
    · rcases List.mem_append.mp hc with hc | hc
      · obtain ⟨u, h1, h2⟩ := h.key c hc
        exact ⟨u, List.mem_append_left _ h1, h2⟩
      · exact ⟨t, List.mem_append_right _ (List.mem_singleton.mpr rfl), (List.mem_singleton.mp hc).symm⟩
theorem Acc.nil : Acc [] [] := ⟨List.nodup_nil, fun _ => rfl, fun _ h => (List.not_mem_nil h).elim⟩
theorem contr_mem {t : Ky × Rat} {u : Ky × Rat} : ∀ {n : List Rat} {i : Nat}, u ∈ contrL t i n → ∃ j x, x ∈ n ∧ 0 < t.1.getD j 0 ∧ u = (decAt j t.1, t.2 * x * ((t.1.getD j 0 : Nat) : Rat))
  | [], _, h => (List.not_mem_nil h).elim
  | x :: n, i, h => by
    rcases List.mem_append.mp (show u ∈ _ ++ contrL t (i + 1) n from h) with h | h
    · split at h
      · rename_i hp
        exact ⟨i, x, List.mem_cons_self .., hp, List.mem_singleton.mp h⟩
      · exact (List.not_mem_nil h).elim
    · obtain ⟨j, y, h1, h2, h3⟩ := contr_mem h
      exact ⟨j, y, List.mem_cons_of_mem _ h1, h2, h3⟩
theorem allC_mem {P : Poly} {qs : List Rat} {u : Ky × Rat} (h : u ∈ allC P qs) : ∃ t ∈ P, ∃ j x, x ∈ qs ∧ 0 < t.1.getD j 0 ∧ u = (decAt j t.1, t.2 * x * ((t.1.getD j 0 : Nat) : Rat)) := by
  obtain ⟨t, ht, hu⟩ := List.mem_flatMap.mp h
  exact ⟨t, ht, contr_mem hu⟩
/-- the sorted sums without those of 0 are what a gathered polynomial is -/
theorem told_one {L S T R : Poly} (h : Acc L S) (pm : T.Perm S) (rT : Rise T) (rR : Rise R) (pR : ∀ t ∈ R, t.2 ≠ 0) (e : ∀ f, ev R f = ev L f) : R = T.filter fun t => decide (t.2 ≠ 0) := by
  have z1 : ∀ (X : Poly) f, ev (X.filter fun t => decide (t.2 ≠ 0)) f = ev X f := by
    intro X f
    induction X with
    | nil => rfl
    | cons t X ih =>
      by_cases h0 : t.2 = 0
      · rw [List.filter_cons, if_neg (by simpa using h0), ih, ev_cons, h0, Rat.zero_mul, Rat.zero_add]
      · rw [List.filter_cons, if_pos (by simpa using h0), ev_cons, ev_cons, ih]
  refine rise_one rR (rT.filter _) pR (fun t ht => of_decide_eq_true (List.mem_filter.mp ht).2) fun k => ?_
  rw [z1, e, ev_perm pm, h.ev]
end Km
end

section
set_option Elab.async false
set_option linter.all false
set_option maxRecDepth 100000
namespace Km
open PySem PySem.Spec PyProof.Rows L2 Evl
open C8 (fn0 fnScope_by Cal Mak Met pe_c pe_mk pe_mt pe_mt0 pe_gc fnScope fnBody fnArgs)
variable {Y : Yc}


theorem dec_cut : ∀ (k : Ky) (i c : Nat), k[i]? = some c → k.take i ++ (c - 1) :: k.drop (i + 1) = decAt i k
  | [], _, _, h => by cases h
  | d :: k, 0, c, h => by
    obtain rfl : d = c := Option.some.inj h
    rfl
  | d :: k, i + 1, c, h => by
    show d :: (k.take i ++ (c - 1) :: k.drop (i + 1)) = d :: decAt i k
    rw [dec_cut k i c h]
theorem slA_of {K : PySem.W.Frag} {H : Hp} {a : Addr} {xs : List V} {lo hi : Option Int} {Q : VK} (h : SqT K H a xs) (k : ∀ r H', Ex H H' → SqT K H' r (cutV xs lo hi) → Q (.ref r) H') : rSlA K (.ref a) lo hi H Q := by
  refine ⟨a, xs, rfl, h, fun w => ?_, fun _ p hp => k p _ (Ex.new hp) (st_of upd_same)⟩
  have e : cutV xs lo hi = xs := by
    unfold cutV
    rw [w.1, w.2, List.drop_zero, Nat.sub_zero, List.take_length]
  exact k a H (Ex.refl H) (by rw [e]; exact h)
theorem cut_to (xs : List V) (n : Nat) (h : n ≤ xs.length) : cutV xs none (some (n : Nat)) = xs.take n := by
  unfold cutV
  rw [HT.sIx_none, HT.sIx_nat, List.drop_zero, Nat.sub_zero, Nat.min_eq_left h]
theorem cut_from (xs : List V) (n : Nat) (h : n ≤ xs.length) : cutV xs (some (n : Nat)) none = xs.drop n := by
  unfold cutV
  rw [HT.sIx_none, HT.sIx_nat, Nat.min_eq_left h]
  exact List.take_of_length_le (by rw [List.length_drop]; exact Nat.le_refl _)
theorem fit3 {t : Ky × Rat} {x : Rat} {c : Nat} (ht : AmtOk t.2) (hx : NumOk x) (hc : c ≤ 5) : Fit 151200 204120000 (t.2 * x * ((c : Nat) : Rat)) := (fit_nat c (fit_mul ht.2 hx.2)).mono (by omega)
theorem contr_app (t : Ky × Rat) : ∀ (a b : List Rat) (i : Nat), contrL t i (a ++ b) = contrL t i a ++ contrL t (i + a.length) b
  | [], b, i => rfl
  | x :: a, b, i => by
    show _ ++ contrL t (i + 1) (a ++ b) = (_ ++ contrL t (i + 1) a) ++ _
    rw [contr_app t a b (i + 1), List.append_assoc, show i + 1 + a.length = i + (x :: a).length by rw [List.length_cons]; omega]
theorem pre_all {P : Poly} {i : Nat} {t : Ky × Rat} (qs : List Rat) (j : Nat) (ht : P[i]? = some t) : ∃ rest, allC P qs = (allC (P.take i) qs ++ contrL t 0 (qs.take j)) ++ rest := by
  have h1 : P = (P.take i ++ [t]) ++ P.drop (i + 1) := by
    rw [← take_next ht, List.take_append_drop]
  have h2 : qs = qs.take j ++ qs.drop j := (List.take_append_drop j qs).symm
  refine ⟨contrL t (0 + (qs.take j).length) (qs.drop j) ++ allC (P.drop (i + 1)) qs, ?_⟩
  have h3 : allC P qs = allC ((P.take i ++ [t]) ++ P.drop (i + 1)) qs := congrArg (fun X => allC X qs) h1
  have h4 : contrL t 0 qs = contrL t 0 (qs.take j) ++ contrL t (0 + (qs.take j).length) (qs.drop j) := by
    rw [← contr_app, List.take_append_drop]
  have h5 : ∀ X Z : Poly, allC (X ++ Z) qs = allC X qs ++ allC Z qs := fun X Z => List.flatMap_append ..
  rw [h3, h5, allC_snoc, h4, List.append_assoc, List.append_assoc, List.append_assoc]
theorem ratv_exA {C A : Addr} {H H' : Hp} {k0 : List (List L2.Key × V)} {v : V} {q : Rat} (gA : H A = some (.dT k0)) (e : ExB A H H') (h : RatV C H v q) : RatV C H' v q :=
  let ⟨a, h1, dx, h2⟩ := h
  ⟨a, h1, dx, e _ _ (fun z => by rw [z, gA] at h2; cases h2) h2⟩
theorem numv_exA {C A : Addr} {H H' : Hp} {k0 : List (List L2.Key × V)} {v : V} {q : Rat} (gA : H A = some (.dT k0)) (e : ExB A H H') (h : NumV C H v q) : NumV C H' v q := h.imp id fun r => ratv_exA gA e r
theorem rows_exA {A : Addr} {H H' : Hp} {k0 ks : List (List L2.Key × V)} {P : Poly} (gA : H A = some (.dT k0)) (e : ExB A H H') (h : Rows Y H ks P) : Rows Y H' ks P := Paired.mapP h fun _ _ z => ⟨z.1, ratv_exA gA e z.2⟩
theorem small_mem {w d : Nat} {P : Poly} {qs : List Rat} (po : PartsOk w d P) (d5 : d ≤ 5) (nq : ∀ q ∈ qs, NumOk q) {u : Ky × Rat} (h : u ∈ allC P qs) : u.1.length = w ∧ Small u.1 ∧ Fit 151200 204120000 u.2 := by
  obtain ⟨t, ht, j, x, hx, hp, rfl⟩ := allC_mem h
  have dd := deg_dec j t.1 hp
  have dt := po.deg t ht
  have gd := get_deg j t.1
  exact ⟨by rw [show ((decAt j t.1, t.2 * x * ((t.1.getD j 0 : Nat) : Rat)) : Ky × Rat).1 = decAt j t.1 from rfl, dec_len]; exact po.len t ht, deg_small (d := 5) (by show deg (decAt j t.1) ≤ 5; omega) (by decide), fit3 (po.amt t ht) (nq x hx) (by omega)⟩
theorem all_32 {P : Poly} {qs : List Rat} (lP : P.length ≤ 8) (lq : qs.length ≤ 4) : (allC P qs).length ≤ 32 := by
  have h := allC_len qs P
  have : P.length * qs.length ≤ 8 * 4 := Nat.mul_le_mul lP lq
  omega
theorem acc_ok {w d : Nat} {P S L : Poly} {qs : List Rat} (po : PartsOk w d P) (d5 : d ≤ 5) (w1 : 1 ≤ w) (nq : ∀ q ∈ qs, NumOk q) (ac : Acc L S) (sub : ∀ u ∈ L, u ∈ allC P qs) (l32 : L.length ≤ 32) : KeyOk w S ∧ ∀ c, Sz ((pget S c).getD 0) := by
  have kk : ∀ t ∈ S, ∃ u ∈ L, u.1 = t.1 := fun t ht => ac.key t.1 (List.mem_map.mpr ⟨t, ht, rfl⟩)
  refine ⟨⟨ac.nd, fun t ht => ?_, fun t ht => ?_, ?_, w1⟩, fun c => ?_⟩
  · obtain ⟨u, hu, e⟩ := kk t ht
    rw [← e]; exact (small_mem po d5 nq (sub u hu)).1
  · obtain ⟨u, hu, e⟩ := kk t ht
    rw [← e]; exact (small_mem po d5 nq (sub u hu)).2.1
  · have z : (keysP S).length ≤ (L.map (·.1)).length := nodup_le ac.nd fun c hc => by
      obtain ⟨u, hu, e⟩ := ac.key c hc
      exact List.mem_map.mpr ⟨u, hu, e⟩
    unfold keysP at z
    rw [List.length_map, List.length_map] at z
    omega
  · rw [ac.get]
    have f := fit_ev (D := 151200) (M := 204120000) c fun t ht => (small_mem po d5 nq (sub t ht)).2.2
    exact sz_fit (by decide) (Nat.lt_of_lt_of_le (by decide : 151200 < 2 ^ 20) (Nat.pow_le_pow_right (by decide) (by decide))) (Nat.lt_of_le_of_lt (Nat.mul_le_mul l32 (Nat.le_refl _)) (Nat.lt_of_lt_of_le (by decide : 32 * 204120000 < 2 ^ 40) (Nat.pow_le_pow_right (by decide) (by decide)))) f
def sp__law_along (Y : Yc) : Sp := fun vs H Q _ => ∃ (w d : Nat) (F G : Addr) (ks : List (List L2.Key × V)) (P : Poly) (qs : List Rat), vs = [.ref F, .ref G] ∧ H F = some (.dT ks) ∧ Rows Y H ks P ∧ PartsOk w d P ∧ P.length ≤ 8 ∧ 1 ≤ w ∧ w ≤ 4 ∧ d ≤ 5 ∧ NumsAt Y H G qs ∧ qs.length = w ∧ (∀ q ∈ qs, NumOk q) ∧
  ∀ L ys S T H', Ex H H' → H' L = some (.lst ys) → Paired (PairAt2 Y H') ys (T.filter fun t => decide (t.2 ≠ 0)) → Acc (allC P qs) S → T.Perm S → Rise T → Q (.ref L) H'

abbrev st__law_along : Stmt := top 106
theorem ok__law_along {f : Addr} {fd : FuncData} (F : C8.Fun Y.K "_law_along" "_law_along" st__law_along f fd) (T : TxtY Y) (c__law_add : CalY Y 5 "_law_add" (sp__law_add Y) []) (c__law_told : CalY Y 3 "_law_told" (sp__law_told Y) []) (o_rmul : OpnY Y 4 Y.CR "mul" (sp_rmul Y)) : FnOk Y.P Y.w Y.K Y.mg Y.base C8.CX0 6 f fd ["_law_parts_here", "_law_numbers_here"] (sp__law_along Y) := by
  have S : FnScope ["_law_parts_here", "_law_numbers_here", "_law_found", "_law_key", "_law_at", "_law_number_now", "_law_later"] ["_law_parts_here", "_law_numbers_here"] (fnScope st__law_along) := fnScope_by (by decide +kernel)
  have nd := S.nd
  refine fn0 F S (fun vs H Q E h => ?_) (fun cdv A outer s H vs Q E hr h => ?_)
  · obtain ⟨_, _, _, _, _, _, _, rfl, _⟩ := h; rfl
  have hu := hu_of hr
  refine ⟨_, (pss_cons (ps_set (i := 2) nd rfl (Or.inl rfl) pe_dnewT)
    (pss_cons (ps_lock (ps_for PassesOwn.never rfl (pi_keys (pv 0)) (pg_name (i := 3) nd rfl (Or.inl rfl))
    (pss_one (ps_for PassesOwn.never rfl (pi_enumA rfl T.n_enumerate (pa_cons (pv 1) pa_nil)) (pg_tup rfl (pgs_cons (pg_name (i := 4) nd rfl (Or.inl rfl)) (pgs_cons (pg_name (i := 5) nd rfl (Or.inl rfl)) pgs_nil)))
    (pss_one (ps_if (pt_cmpR op_gt (pe_ix ix_tup (pv 3) (pv 4) (fun _ _ => rfl)) pe_int (nomark _)) (pss_cons (ps_set (i := 6) nd rfl (Or.inl rfl) (pe_callTy call_tuple_of rfl T.n_tuple boot_tuple (pa_cons (pe_op op_cat (pe_op op_cat (pe_callTy call_list_of rfl T.n_list boot_list (pa_cons (pe_slice sl_tupA (pv 3) po_none (po_some (pv 4))) pa_nil)) (pe_lst (pa_cons (pe_op op_sub (pe_ix ix_tup (pv 3) (pv 4) (fun _ _ => rfl)) pe_int) pa_nil))) (pe_callTy call_list_of rfl T.n_list boot_list (pa_cons (pe_slice sl_tupA (pv 3) (po_some (pe_op op_add (pv 4) pe_int)) po_none) pa_nil))) pa_nil)))
    (pss_one (ps_expr (pe_c c__law_add hr (by decide) rfl (pa_cons (pv 2) (pa_cons (pv 6) (pa_cons (pe_op (Opn.r (op := .Mult) o_rmul hr (by decide)) (pe_op (Opn.r (op := .Mult) o_rmul hr (by decide)) (pe_dget hu (pv 0) (pv 3) (fun _ _ => rfl)) (pv 5)) (pe_ix ix_tup (pv 3) (pv 4) (fun _ _ => rfl))) pa_nil))))))) pss_nil))))))
    (pss_one (ps_ret (pe_c c__law_told hr (by decide) rfl (pa_cons (pv 2) pa_nil)))))), ?_⟩
  obtain ⟨w, d, F, G, ks, P, qs, rfl, hF, rw0, po, lP, w1, w4, d5, ⟨xs, hG, nl⟩, lq, nq, k⟩ := h
  intro A hA
  have e1 : Ex H (upd H A (.dT [])) := Ex.new hA
  have FA : F ≠ A := ne_of_none hF hA
  have lks : ks.length = P.length := Paired.length rw0
  have lxs : xs.length = qs.length := Paired.length nl
  refine ⟨F, .dT ks, e1 _ _ hF, trivial, fun od => ?_⟩
  obtain ⟨HL, hHL⟩ : ∃ HL, HL = upd (upd H A (.dT [])) F (.frz od (.dT ks)) := ⟨_, rfl⟩
  have gd : HL F = some (.frz od (.dT ks)) := by rw [hHL, upd_same]
  have gA : HL A = some (.dT []) := by rw [hHL, upd_ne (Ne.symm FA), upd_same]
  have sm : Sm H HL := by rw [hHL]; exact (exsm e1).trans (Sm.lock od (e1 _ _ hF))
  have GF : G ≠ F := fun q => by rw [q, hF] at hG; cases hG
  have GA : G ≠ A := ne_of_none hG hA
  have gG : HL G = some (.lst xs) := by rw [hHL, upd_ne GF, upd_ne GA]; exact hG
  rw [← hHL]
  refine ⟨_, rfl, F, od, rfl, .inr ⟨ks, gd, ?_⟩⟩
  refine for_it (walk_keysT (d := F) (o := od) (kvs := ks)) (fun i σ H' => ExB A HL H' ∧ (∃ kf S, H' A = some (.dT kf) ∧ Rows Y H' kf S ∧ Acc (allC (P.take i) qs) S) ∧ ∃ o3 o4 o5 o6, σ = [some (.ref F), some (.ref G), some (.ref A), o3, o4, o5, o6])
    ⟨ExB.refl, ⟨[], [], gA, .nil, Acc.nil⟩, _, _, _, _, rfl⟩ (fun i σ H' _ q => q.1 _ _ FA gd) ?_ ?_
  · rintro i x σ H' H2 hi ⟨e, ⟨kf, S, gA', rf, ac⟩, o3, o4, o5, o6, rfl⟩ ⟨rfl, kx, vx, q, hk, rfl, hq⟩
    obtain ⟨t, ht, ek, rv⟩ := pr_getL rw0 hk
    have ek : kx = kk t.1 := ek
    have mt := List.mem_of_getElem? ht
    rw [ek, kk_kV] at hq
    have lt := po.len t mt
    have gG2 := e _ _ GA gG
    have gF2 := e _ _ FA gd
    have qA : q ≠ A := fun z => by rw [z, gA'] at hq; cases hq
    have rwL : Rows Y HL ks P := rw0.mono sm
    refine ⟨_, rfl, .lst G, xs, rfl, sq_of gG2, ?_⟩
    refine for_it (walk_enumS (K := Y.K) (S := .lst G) (xs := xs)) (fun j σ H' => ExB A H2 H' ∧ (∃ kf S, H' A = some (.dT kf) ∧ Rows Y H' kf S ∧ Acc (allC (P.take i) qs ++ contrL t 0 (qs.take j)) S) ∧ ∃ o4 o5 o6, σ = [some (.ref F), some (.ref G), some (.ref A), some (.ref q), o4, o5, o6])
      ⟨ExB.refl, ⟨kf, S, gA', rf, by rw [List.take_zero]; show Acc (_ ++ []) S; rw [List.append_nil]; exact ac⟩, _, _, _, rfl⟩ (fun j σ H' _ w => sq_of (w.1 _ _ GA gG2)) ?_ ?_
    · rintro j x σ H' H3 hj ⟨ej, ⟨kf2, S2, gA2, rf2, ac2⟩, o4, o5, o6, rfl⟩ ⟨T0, x1, x2, rfl, hT, rfl, k1, k2⟩
      obtain rfl : x1 = .int ((j : Nat) : Int) := (Option.some.inj k1).symm
      obtain ⟨n, hn, nv⟩ := pr_getL nl k2
      have mn := List.mem_of_getElem? hn
      obtain ⟨c, hc⟩ := get_lt (l := t.1) (i := j) (by omega)
      have gdc : t.1.getD j 0 = c := by rw [List.getD_eq_getElem?_getD, hc]; rfl
      have eT := Ex.new (o := HO.tup [V.int ((j : Nat) : Int), x2]) hT
      obtain ⟨Ht, hHt⟩ : ∃ Ht, Ht = upd H' T0 (HO.tup [V.int ((j : Nat) : Int), x2]) := ⟨_, rfl⟩
      refine gt2 (st_of upd_same) ?_
      rw [← hHt] at eT ⊢
      have gq := eT _ _ (ej _ _ qA hq)
      have gA3 := eT _ _ gA2
      have nx : Acc (allC (P.take i) qs ++ contrL t 0 (qs.take (j + 1))) S2 ∨ 0 < c := by
        by_cases c0 : 0 < c
        · exact .inr c0
        · refine .inl ?_
          rw [take_next hn, contr_snoc, if_neg, List.append_nil]
          · exact ac2
          · rw [List.length_take_of_le (by omega), Nat.zero_add, gdc]; exact c0
      refine ⟨_, rfl, _, rfl, q, _, _, _, rfl, rfl, st_of gq, atI_nat (kvs_at hc), _, _, rfl, rfl, _, rfl, ?_⟩
      by_cases c0 : (0 : Int) < (c : Int)
      · refine iteDT c0 ?_
        have cp : 0 < c := by omega
        have c5 : c ≤ 5 := by
          have := get_deg j t.1
          rw [gdc, po.deg t mt] at this
          omega
        have lkv : (kvs t.1).length = w := by unfold kvs; rw [List.length_map, lt]
        have jw : j < w := by omega
        refine ⟨_, rfl, _, rfl, _, rfl, ?_⟩
        dsimp only [tNil]
        refine slA_of (st_of gq) fun r1 H4 e4 h4 => ?_
        refine ⟨r1, _, rfl, .inr h4, fun a1 ha1 => ?_⟩
        have ly0 : cutV (kvs t.1) none (some ((j : Nat) : Int)) = (kvs t.1).take j := cut_to _ _ (by omega)
        rw [ly0]
        obtain ⟨ys1, ly1⟩ : ∃ ys, ys = (kvs t.1).take j := ⟨_, rfl⟩
        rw [← ly1]
        have z1 := Ex.new (o := HO.lst ys1) ha1
        have u1 : (upd H4 a1 (HO.lst ys1)) a1 = some (.lst ys1) := upd_same
        obtain ⟨Ha, hHa⟩ : ∃ Ha, Ha = upd H4 a1 (HO.lst ys1) := ⟨_, rfl⟩
        rw [← hHa] at z1 u1 ⊢
        have e41 := e4.trans z1
        refine ⟨_, rfl, _, rfl, q, _, _, _, rfl, rfl, st_of (e41 _ _ gq), atI_nat (kvs_at hc), _, _, rfl, rfl, l1, fun a2 ha2 => ?_⟩
        have z2 := Ex.new (o := HO.lst [V.int ((c : Int) - 1)]) ha2
        have u2 : (upd Ha a2 (HO.lst [V.int ((c : Int) - 1)])) a2 = some (.lst [V.int ((c : Int) - 1)]) := upd_same
        have l1' : ys1.length = j := by rw [ly1, List.length_take]; omega
        refine ⟨a1, a2, ys1, [V.int ((c : Int) - 1)], rfl, rfl, z2 _ _ u1, u2, sz_small (show ys1.length + 1 ≤ 1000 by omega), fun a3 ha3 => ?_⟩
        have z3 := Ex.new (o := HO.lst (ys1 ++ [V.int ((c : Int) - 1)])) ha3
        have u3 : (upd (upd Ha a2 (HO.lst [V.int ((c : Int) - 1)])) a3 (HO.lst (ys1 ++ [V.int ((c : Int) - 1)]))) a3 = some (.lst (ys1 ++ [V.int ((c : Int) - 1)])) := upd_same
        obtain ⟨Hc, hHc⟩ : ∃ Hc, Hc = upd (upd Ha a2 (HO.lst [V.int ((c : Int) - 1)])) a3 (HO.lst (ys1 ++ [V.int ((c : Int) - 1)])) := ⟨_, rfl⟩
        have e43 := (e41.trans z2).trans z3
        rw [← hHc] at e43 u3 ⊢
        refine ⟨_, rfl, _, rfl, _, _, rfl, rfl, _, rfl, ?_⟩
        dsimp only [tNoPart]
        refine slA_of (st_of (e43 _ _ gq)) fun r2 H5 e5 h5 => ?_
        refine ⟨r2, _, rfl, .inr h5, fun a4 ha4 => ?_⟩
        have ly3 : cutV (kvs t.1) (some ((j : Int) + 1)) none = (kvs t.1).drop (j + 1) := by
          rw [show (j : Int) + 1 = ((j + 1 : Nat) : Int) by omega]
          exact cut_from _ _ (by omega)
        rw [ly3]
        obtain ⟨ys2, ly2⟩ : ∃ ys, ys = (kvs t.1).drop (j + 1) := ⟨_, rfl⟩
        rw [← ly2]
        have l2' : ys2.length ≤ 4 := by rw [ly2, List.length_drop]; omega
        have z4 := Ex.new (o := HO.lst ys2) ha4
        have u4 : (upd H5 a4 (HO.lst ys2)) a4 = some (.lst ys2) := upd_same
        obtain ⟨Hd, hHd⟩ : ∃ Hd, Hd = upd H5 a4 (HO.lst ys2) := ⟨_, rfl⟩
        rw [← hHd] at z4 u4 ⊢
        have e5d := e5.trans z4
        refine ⟨a3, a4, ys1 ++ [V.int ((c : Int) - 1)], ys2, rfl, rfl, e5d _ _ u3, u4, sz_small (show (ys1 ++ [V.int ((c : Int) - 1)]).length + ys2.length ≤ 1000 by rw [List.length_append, List.length_singleton]; omega), fun a5 ha5 => ?_⟩
        have z5 := Ex.new (o := HO.lst ((ys1 ++ [V.int ((c : Int) - 1)]) ++ ys2)) ha5
        refine ⟨a5, _, rfl, .inl ⟨sq_of upd_same, fun q2 hq2 => ?_⟩⟩
        have z6 := Ex.new (o := HO.tup ((ys1 ++ [V.int ((c : Int) - 1)]) ++ ys2)) hq2
        have later : (ys1 ++ [V.int ((c : Int) - 1)]) ++ ys2 = kvs (decAt j t.1) := by
          rw [← dec_cut t.1 j c hc, ly1, ly2, show (c : Int) - 1 = ((c - 1 : Nat) : Int) by omega]
          unfold kvs
          rw [List.map_append, List.map_cons, List.map_take, List.map_drop, List.append_assoc]
          rfl
        have e6 := ((e43.trans e5d).trans z5).trans z6
        obtain ⟨He, hHe⟩ : ∃ He, He = upd (upd Hd a5 (HO.lst ((ys1 ++ [V.int ((c : Int) - 1)]) ++ ys2))) q2 (HO.tup ((ys1 ++ [V.int ((c : Int) - 1)]) ++ ys2)) := ⟨_, rfl⟩
        have g6 : He q2 = some (.tup (kvs (decAt j t.1))) := by rw [hHe, upd_same, later]
        rw [← hHe] at e6 ⊢
        have gq6 := e6 _ _ gq
        have gF6 := e6 _ _ (eT _ _ (ej _ _ FA gF2))
        have gA6 := e6 _ _ gA3
        have eB : ExB A HL He := ((e.trans ej).ex eT).ex e6
        have rwE := rows_exA gA eB rwL
        have nvE := numv_exA gA eB (nv.mono sm)
        have rf6 := (rf2.mono (exsm eT)).mono (exsm e6)
        obtain ⟨v, hv, rvE⟩ := (rows_val (c := t.1) rwE).1 t.2 (pget_some po.nd mt)
        have gD : DGet He F (.ref q) (some v) := by
          have z := dget_rd (b := q) (k := kk t.1) (.inr ⟨od, gF6⟩) (by rw [kk_kV]; exact gq6)
          rw [hv] at z
          exact z
        have sz1 : Sz t.2 := sz_fit (by decide) (Nat.lt_of_lt_of_le (by decide : 2520 < 2 ^ 20) (Nat.pow_le_pow_right (by decide) (by decide))) (Nat.lt_of_lt_of_le (by decide : 75600 < 2 ^ 20) (Nat.pow_le_pow_right (by decide) (by decide))) (po.amt t mt).2
        have sz2 : Sz n := sz_fit (by decide) (Nat.lt_of_lt_of_le (by decide : 60 < 2 ^ 20) (Nat.pow_le_pow_right (by decide) (by decide))) (Nat.lt_of_lt_of_le (by decide : 540 < 2 ^ 20) (Nat.pow_le_pow_right (by decide) (by decide))) (nq n mn).2
        have sz3 : Sz (t.2 * n) := sz_fit (D := 2520 * 60) (M := 75600 * 540) (by decide) (Nat.lt_of_lt_of_le (by decide : 2520 * 60 < 2 ^ 40) (Nat.pow_le_pow_right (by decide) (by decide))) (Nat.lt_of_lt_of_le (by decide : 75600 * 540 < 2 ^ 40) (Nat.pow_le_pow_right (by decide) (by decide))) (fit_mul (po.amt t mt).2 (nq n mn).2)
        have sz4 : Sz (((c : Nat) : Int) : Rat) := sz_fit (D := 1) (M := c) (by decide) (Nat.one_lt_two_pow (by decide)) (Nat.lt_of_le_of_lt c5 (Nat.lt_of_lt_of_le (by decide : 5 < 2 ^ 20) (Nat.pow_le_pow_right (by decide) (by decide)))) (fit_int c)
        have sz5 : Sz (t.2 * n * (((c : Nat) : Int) : Rat)) := sz_fit (by decide) (Nat.lt_of_lt_of_le (by decide : 151200 < 2 ^ 20) (Nat.pow_le_pow_right (by decide) (by decide))) (Nat.lt_of_lt_of_le (by decide : 204120000 < 2 ^ 40) (Nat.pow_le_pow_right (by decide) (by decide))) (fit3 (po.amt t mt) (nq n mn) c5)
        obtain ⟨b3, rfl, f3, h3⟩ := id rvE
        have fin : ∀ v6 H6, Ex He H6 → RatV Y.CR H6 v6 (t.2 * n * (((c : Nat) : Int) : Rat)) → True := fun _ _ _ _ => trivial
        refine ⟨_, rfl, _, rfl, _, rfl, _, rfl, F, _, rfl, gD, _, rfl, ?_⟩
        refine ⟨b3, f3, _, rfl, h3, ?_, _, _, t.2, n, rfl, ⟨b3, rfl, f3, h3⟩, nvE, sz1, sz2, fun v5 H5' e5' rv5 => ?_⟩
        · rcases nvE with ⟨n', rfl, _⟩ | ⟨b4, rfl, f4, h4'⟩
          · exact .inr ⟨n', rfl⟩
          · exact .inl ⟨b4, f4, _, rfl, h4'⟩
        obtain ⟨b5, rfl, f5, h5'⟩ := id rv5
        refine ⟨_, rfl, _, rfl, q, _, _, _, rfl, rfl, st_of (e5' _ _ gq6), atI_nat (kvs_at hc), ?_⟩
        refine ⟨b5, f5, _, rfl, h5', .inr ⟨_, rfl⟩, _, _, t.2 * n, (((c : Nat) : Int) : Rat), rfl, rv5, .inl ⟨_, rfl, rfl⟩, sz3, sz4, fun v6 H6 e6' rv6 => ?_⟩
        have e7 := e5'.trans e6'
        obtain ⟨rest, hrest⟩ := pre_all qs j ht
        have sub : ∀ u ∈ allC (P.take i) qs ++ contrL t 0 (qs.take j), u ∈ allC P qs := fun u hu => by
          rw [hrest]
          exact List.mem_append_left _ hu
        have l32 : (allC (P.take i) qs ++ contrL t 0 (qs.take j)).length ≤ 32 := by
          have := all_32 (qs := qs) lP (by omega)
          rw [hrest, List.length_append] at this
          omega
        obtain ⟨okS, szS⟩ := acc_ok po d5 w1 nq ac2 sub l32
        have lkf : kf2.length = S2.length := Paired.length rf2
        have few := okS.few
        refine ⟨A, q2, v6, decAt j t.1, _, kf2, S2, rfl, e7 _ _ gA6, rf6.mono (exsm e7), e7 _ _ g6, rv6, sz5, szS _, by omega, fun ks' H7 eb g7 r7 => ?_⟩
        refine ⟨((((ej.ex eT).ex e6).ex e7).trans eb), ⟨ks', _, g7, r7, ?_⟩, _, _, _, rfl⟩
        rw [take_next hn, contr_snoc, if_pos (by rw [List.length_take_of_le (by omega), Nat.zero_add, gdc]; exact cp), List.length_take_of_le (by omega), Nat.zero_add, gdc, ← List.append_assoc]
        exact ac2.next (decAt j t.1, t.2 * n * ((c : Nat) : Rat))
      · refine iteDF c0 ⟨ej.ex eT, ⟨kf2, S2, gA3, rf2.mono (exsm eT), nx.resolve_right (by omega)⟩, _, _, _, rfl⟩
    · rintro σ H' ⟨ej, ⟨kf2, S2, gA2, rf2, ac2⟩, o4, o5, o6, rfl⟩
      rw [lxs, List.take_length] at ac2
      refine ⟨e.trans ej, ⟨kf2, S2, gA2, rf2, ?_⟩, _, _, _, _, rfl⟩
      rw [take_next ht, allC_snoc]
      exact ac2
  · rintro σ H' ⟨e, ⟨kf, S, gA', rf, ac⟩, o3, o4, o5, o6, rfl⟩
    rw [lks, List.take_length] at ac
    have back : Ex H (upd H' F (.dT ks)) := fun b o hb => by
      by_cases bF : b = F
      · rw [bF] at hb ⊢
        rw [upd_same, ← hF]
        exact hb
      · rw [upd_ne bF]
        have bA : b ≠ A := ne_of_none hb hA
        exact e b o bA (by rw [hHL, upd_ne bF, upd_ne bA]; exact hb)
    have gF' := e _ _ FA gd
    refine ⟨gF', ?_⟩
    obtain ⟨ok, _⟩ := acc_ok po d5 w1 nq ac (fun u hu => hu) (all_32 lP (by omega))
    refine ⟨_, rfl, w, A, kf, S, rfl, by rw [upd_ne (Ne.symm FA)]; exact gA', rows_upd gF' (fun _ _ _ q => by cases q) rf, ok, fun L ys T H3 e3 hL pr pm ri => ?_⟩
    exact k L ys S T H3 (back.trans e3) hL pr ac pm ri

end Km
end

section
set_option Elab.async false
set_option linter.all false
set_option maxRecDepth 100000
namespace Km
open PySem PySem.Spec PyProof.Rows L2 Evl
open C8 (fn0 fnScope_by Cal Mak Met pe_c pe_mk pe_mt pe_mt0 pe_gc fnScope fnBody fnArgs)
variable {Y : Yc}


theorem rd_ex {l a : Addr} {H H' : Hp} {xs : List V} (p : PotAt H l) (e : ExB l H H') (h : Rd H a (.tup xs)) : Rd H' a (.tup xs) := by
  have n := p.rd h
  rcases h with h | ⟨o, h⟩
  · exact .inl (e _ _ n h)
  · exact .inr ⟨o, e _ _ n h⟩
theorem top_ex {l : Addr} {H H' : Hp} {B : Nat} {x : V} {t : Ky × Rat} (p : PotAt H l) (e : ExB l H H') (h : TopAt H B x t) : TopAt H' B x t :=
  let ⟨a, q, z, h1, h2, h3, h4⟩ := h
  ⟨a, q, z, h1, rd_ex p e h2, rd_ex p e h3, h4⟩
theorem tops_ne {l t : Addr} {H : Hp} {B : Nat} {tops : List V} {P : Poly} (p : PotAt H l) (ht : H t = some (.lst tops)) (h : Paired (TopAt H B) tops P) : t ≠ l := fun q => by
  obtain ⟨A, C, h1, _⟩ := p
  rw [← q, ht] at h1
  have e : tops = [.int (A : Int), .int (C : Int)] := HO.lst.inj (Option.some.inj h1)
  rw [e] at h
  cases h with
  | cons a _ =>
    obtain ⟨b, _, _, z, _⟩ := a
    cases z


theorem BlendV.ex {l : Addr} {H H' : Hp} {v : V} {L : Str} {P : Poly} (p : PotAt H l) (e : ExB l H H') (h : BlendV Y H v L P) : BlendV Y H' v L P := by
  obtain ⟨a, d, t, dx, B, tops, rfl, f⟩ := h
  obtain ⟨ks, h1, h2⟩ := f.dic
  exact ⟨a, d, t, dx, B, tops, rfl, ⟨e _ _ (p.ins f.at_) f.at_, ⟨ks, e _ _ (p.dT h1) h1, rows_ex p e h2⟩, e _ _ (tops_ne p f.tps f.top) f.tps, Paired.mapP f.top fun _ _ z => top_ex p e z, f.pos, f.fit⟩⟩
/-- of a list of some values, or of the letters of a str -/
def sp__law_pick (Y : Yc) : Sp := fun vs H Q _ => ∃ (l : Addr) (x : V), vs = [.ref l, x] ∧ PotAt H l ∧
  ((∃ (a : Addr) (xs : List V), x = .ref a ∧ a ≠ l ∧ H a = some (.lst xs) ∧ 0 < xs.length ∧ xs.length ≤ 1000 ∧ ∀ (i : Nat) y H', xs[i]? = some y → ExB l H H' → PotAt H' l → Q y H') ∨
   ∃ cs, x = .str (SX.S cs) ∧ LsOk cs ∧ ∀ (i : Nat) (c : Nat) H', cs[i]? = some c → ExB l H H' → PotAt H' l → Q (.str (SX.S [c])) H')

abbrev st__law_pick : Stmt := top 98
theorem ok__law_pick {f : Addr} {fd : FuncData} (F : C8.Fun Y.K "_law_pick" "_law_pick" st__law_pick f fd) (T : TxtY Y) (c__law_draw : CalY Y 1 "_law_draw" (sp__law_draw Y) []) : FnOk Y.P Y.w Y.K Y.mg Y.base C8.CX0 2 f fd ["_law_pot_here", "_law_some"] (sp__law_pick Y) := by
  have S : FnScope ["_law_pot_here", "_law_some"] ["_law_pot_here", "_law_some"] (fnScope st__law_pick) := fnScope_by (by decide +kernel)
  have nd := S.nd
  refine fn0 F S (fun vs H Q E h => ?_) (fun cdv A outer s H vs Q E hr h => ?_)
  · obtain ⟨_, _, rfl, _⟩ := h; rfl
  refine ⟨_, (pss_one (ps_ret (pe_ix ix_seq (pv 1) (pe_c c__law_draw hr (by decide) rfl (pa_cons (pv 0) (pa_cons (pe_callB call_len rfl T.n_len boot_len (pa_cons (pv 1) pa_nil)) pa_nil))) (fun _ _ => rfl)))), ?_⟩
  obtain ⟨l, x, rfl, pt, h⟩ := h
  rcases h with ⟨a, xs, rfl, ne, ha, l0, l1000, k⟩ | ⟨cs, rfl, lok, k⟩
  · refine ⟨_, rfl, _, rfl, _, rfl, _, _, rfl, .inl ⟨xs, sq_of ha, rfl⟩, l, xs.length, rfl, pt, l0, l1000, fun c H' hc e p => .inl ?_⟩
    obtain ⟨y, hy⟩ := get_lt hc
    exact ⟨a, xs, _, y, rfl, rfl, sq_of (e _ _ ne ha), atI_nat hy, k c y H' hy e p⟩
  · have sl : (SX.S cs).length ≤ sizeLine := sz_small (Nat.le_trans lok.le (by decide))
    refine ⟨_, rfl, _, rfl, _, rfl, _, cs.length, rfl, ⟨sl, rfl⟩, l, cs.length, rfl, pt, lok.pos, Nat.le_trans lok.le (by decide), fun c H' hc e p => .inr (.inr ?_)⟩
    obtain ⟨y, hy⟩ := get_lt hc
    exact ⟨SX.S cs, _, y, rfl, rfl, sl, atI_nat (xs := (SX.S cs).cps.toList) hy, k c y H' hy e p⟩

end Km
end

section
set_option Elab.async false
set_option linter.all false
set_option maxRecDepth 100000
set_option maxHeartbeats 4000000
namespace Km
open PySem PySem.Spec PyProof.Rows L2 Evl
open C8 (fn0 fnScope_by Cal Mak Met pe_c pe_mk pe_mt pe_mt0 pe_gc fnScope fnBody fnArgs)
variable {Y : Yc}


/-! ### what the two changes come to: plain -/
theorem lt4 {n : Nat} (h : n < 2 ^ 200) : n < 2 ^ 4000 := Nat.lt_of_lt_of_le h (Nat.pow_le_pow_right (by decide) (by decide))
theorem AlongOut.po {n dg : Nat} {P R : Poly} {qs : List Rat} {D D0 M M0 : Nat} (h : AlongOut n dg P qs R D M) (p : PolyOk n dg P D0 M0) (dp : 0 < D) (ds : D < 2 ^ 4000) (ms : M * 5 < 2 ^ 4000) : PolyOk n (dg - 1) R D M :=
  ⟨h.ok, fun t ht => by have := h.deg t ht; omega, by have := p.d5; omega, p.n4, h.pos, h.fit, dp, ds, ms⟩
/-- two changes that say the same are one -/
theorem along_one {n dg n' dg' : Nat} {P R P' R' : Poly} {qs qs' : List Rat} {D M D' M' : Nat} (h : AlongOut n dg P qs R D M) (h' : AlongOut n' dg' P' qs' R' D' M') (e : ∀ f, ev P (dz qs f) = ev P' (dz qs' f)) : R = R' :=
  rise_one h.rise h'.rise (pos_ne h.pos) (pos_ne h'.pos) fun k => by rw [h.sum, h'.sum, e]
theorem ev_comm {P : Poly} {n m : List Rat} (h : n.length = m.length) (f : Ky → Rat) : ev P (dz n (dz m f)) = ev P (dz m (dz n f)) := ev_congr fun t _ => dz_comm n m f t.1 h
theorem ev_euler {P : Poly} {w : List Rat} {n dg : Nat} (hw : w.length = n) (hl : ∀ t ∈ P, t.1.length = n) (hd : ∀ t ∈ P, deg t.1 = dg) : ev P (dz w (mono w)) = ev P (mono w) * (((dg : Nat) : Int) : Rat) := by
  have h1 : ev P (dz w (mono w)) = ev P fun k => (dg : Rat) * mono w k := ev_congr fun t ht => by rw [dz_euler w t.1 (hw.trans (hl t ht).symm), hd t ht]
  rw [h1, ev_smul, Rat.mul_comm]
  rfl
theorem dz_zero : ∀ (n : List Rat), (∀ q ∈ n, q = 0) → ∀ (f : Ky → Rat) (k : Ky), dz n f k = 0
  | [], _, f, k => by simp only [dz]
  | x :: n, _, f, [] => by simp only [dz]
  | x :: n, h, f, c :: k => by
    simp only [dz]
    rw [h x (List.mem_cons_self ..), dz_zero n (fun q hq => h q (List.mem_cons_of_mem _ hq))]
    grind
/-- the first letter alone -/
def sing (n : Nat) : List Rat := (List.range n).map fun i => if i = 0 then 1 else 0
theorem dz_sing {n : Nat} (hn : 1 ≤ n) (f : Ky → Rat) {k : Ky} (hk : k.length = n) : dz (sing n) f k = ((k.getD 0 0 : Nat) : Rat) * f (decAt 0 k) := by
  obtain ⟨m, rfl⟩ : ∃ m, n = m + 1 := ⟨n - 1, by omega⟩
  cases k with
  | nil => cases hk
  | cons c k =>
    have e : sing (m + 1) = 1 :: (List.range m).map fun _ => (0 : Rat) := by
      unfold sing
      rw [List.range_succ_eq_map, List.map_cons, List.map_map, if_pos rfl]
      rfl
    rw [e]
    show 1 * (c : Rat) * f ((c - 1) :: k) + dz _ _ k = (c : Rat) * f ((c - 1) :: k)
    rw [dz_zero _ fun q hq => by obtain ⟨_, _, rfl⟩ := List.mem_map.mp hq; rfl]
    grind
theorem AlongOut.nil {n dg : Nat} {P R : Poly} {qs : List Rat} {D M : Nat} (h : AlongOut n dg P qs R D M) (z : ∀ q ∈ qs, q = 0) : R = [] :=
  rise_one h.rise List.Pairwise.nil (pos_ne h.pos) (fun _ h => (List.not_mem_nil h).elim) fun k => by rw [h.sum, ev_zero _ fun t _ => dz_zero qs z _ _]; rfl
theorem along_taken {n dg : Nat} {P R T : Poly} {D D0 M M0 : Nat} (h : AlongOut n dg P (sing n) R D M) (p : PolyOk n dg P D0 M0) (hT : T.Perm (outP P 0)) (rT : Rise T) : R = T :=
  rise_one h.rise rT (pos_ne h.pos) (fun t ht e => by
    have z := (p.out 0 t (hT.mem_iff.mp ht)).2.2.1
    rw [e] at z
    exact absurd z (by decide)) fun k => by
    rw [h.sum, ev_perm hT, ev_out]
    exact ev_congr fun t ht => dz_sing p.ok.pos _ (p.ok.len t ht)


/-! ### equal entries -/
def DRat (Y : Yc) : Eqv := DIns Y.CR fun a b H => ∃ q, RatAt Y.CR H a q ∧ RatAt Y.CR H b q
theorem mon_rat : Mon (DRat Y) := mon_ins fun a b H H' e h => by
  obtain ⟨q, ⟨d1, h1⟩, d2, h2⟩ := h
  exact ⟨q, ⟨d1, e _ _ h1⟩, d2, e _ _ h2⟩
theorem eqG_rat {X : Cx} (c : Eqn X.prog X.w X.K X.mg X.base 1 Y.CR (sp_req Y)) : EqG X 1 (DRat Y) := by
  obtain ⟨f, fd, ps, g1, g2, _, _, F, b⟩ := c.ex
  refine eqG_ins (E := C8.E0) (F.imp fun vs H Q E h => ?_) g1 g2 b C8.pass0
  obtain ⟨a, b, rfl, ⟨q, ha, hb⟩, k⟩ := h
  exact ⟨_, _, q, q, rfl, ⟨a, rfl, ha⟩, ⟨b, rfl, hb⟩, by rw [decide_eq_true rfl]; exact k H Ext.rfl'⟩
def DKR (Y : Yc) : Eqv := fun x y H => DTup Y.K DFlat x y H ∨ DRat Y x y H
def DPair (Y : Yc) : Eqv := DTup Y.K (DKR Y)
theorem mon_kr : Mon (DKR Y) := Mon.or (mon_tup mon_flat) mon_rat
theorem mon_pair : Mon (DPair Y) := mon_tup mon_kr
theorem eqG_pair {X : Cx} (hK : X.K = Y.K) (c : Eqn X.prog X.w X.K X.mg X.base 1 Y.CR (sp_req Y)) : EqG X 2 (DPair Y) := by
  have h1 : EqG X 1 (DTup Y.K DFlat) := by rw [← hK]; exact eqG_tup mon_flat eqG_flat
  have h2 : EqG X 1 (DKR Y) := EqG.or h1 (eqG_rat c)
  have h3 : EqG X 2 (DTup X.K (DKR Y)) := eqG_tup mon_kr h2
  rw [hK] at h3
  exact h3
theorem prs_kvs {H : Hp} (k : Ky) : Prs DFlat (kvs k) (kvs k) H := ⟨rfl, fun i x y h1 h2 => by
  obtain rfl := Option.some.inj (h1.symm.trans h2)
  unfold kvs at h1
  rw [List.getElem?_map] at h1
  cases q : k[i]? with
  | none => rw [q] at h1; cases h1
  | some n =>
    rw [q] at h1
    obtain rfl := Option.some.inj h1
    exact ⟨rfl, rfl, by show ((n : Int) == (n : Int)) = true; exact beq_self_eq_true _⟩⟩
theorem prs_pair {H : Hp} : ∀ {P : Poly} {xs ys : List V}, Paired (PairAt2 Y H) xs P → Paired (PairAt2 Y H) ys P → Prs (DPair Y) xs ys H
  | [], _, _, .nil, .nil => Prs.nil
  | t :: P, _, _, .cons a as, .cons b bs => by
    obtain ⟨p, q, y, rfl, h1, h2, z, rfl, d, hz⟩ := a
    obtain ⟨p', q', y', rfl, h1', h2', z', rfl, d', hz'⟩ := b
    exact Prs.cons ⟨p, p', _, _, rfl, rfl, st_of h1, st_of h1', Prs.cons (.inl ⟨q, q', _, _, rfl, rfl, st_of h2, st_of h2', prs_kvs t.1⟩) (Prs.cons (.inr ⟨z, z', d, d', _, _, rfl, rfl, hz, hz', t.2, ⟨d, hz⟩, d', hz'⟩) Prs.nil)⟩ (prs_pair as bs)
theorem op_neP {X : Cx} {j : Nat} (hr : Room j X.A) (hj : 3 ≤ j) (hK : X.K = Y.K) (c : Eqn X.prog X.w X.K X.mg X.base 1 Y.CR (sp_req Y)) : OpR X (compareOp .NotEq) (fun x y H Q => DList (DPair Y) x y H ∧ ∀ H', Ext H H' → Q (.bl false) H') := op_neL mon_pair (eqG_pair hK c) (hr.mono hj)
theorem op_eqP {X : Cx} {j : Nat} (hr : Room j X.A) (hj : 3 ≤ j) (hK : X.K = Y.K) (c : Eqn X.prog X.w X.K X.mg X.base 1 Y.CR (sp_req Y)) : OpR X (compareOp .Eq) (rEqG (DList (DPair Y))) := op_eqG (rcG_list mon_pair (eqG_pair hK c)) (hr.mono hj)
theorem dlist_of {H : Hp} {a b : Addr} {xs ys : List V} {P : Poly} (ha : H a = some (.lst xs)) (hb : H b = some (.lst ys)) (pa : Paired (PairAt2 Y H) xs P) (pb : Paired (PairAt2 Y H) ys P) : DList (DPair Y) (.ref a) (.ref b) H := ⟨a, b, xs, ys, rfl, rfl, ha, hb, prs_pair pa pb⟩
/-- blends, ratios that are equal -/
theorem bneV {H : Hp} {Q : VK} {x y : V} {L : Str} {P : Poly} (a : BlendV Y H x L P) (b : BlendV Y H y L P) (nd : (keysP P).Nodup) (k : Q (.bl false) H) : rOwnEq Y.CB (sp_beq Y) true x y H Q := by
  obtain ⟨p, d, t, dx, B, tops, rfl, f⟩ := id a
  obtain ⟨p', d', t', dx', B', tops', rfl, f'⟩ := id b
  exact ⟨p, p', dx, dx', _, _, rfl, rfl, f.at_, f'.at_, _, _, L, P, rfl, a, b, nd, true, rfl, k⟩
theorem beqV {H : Hp} {Q : VK} {x y : V} {L : Str} {P : Poly} (a : BlendV Y H x L P) (b : BlendV Y H y L P) (nd : (keysP P).Nodup) (k : Q (.bl true) H) : rOwnEq Y.CB (sp_beq Y) false x y H Q := by
  obtain ⟨p, d, t, dx, B, tops, rfl, f⟩ := id a
  obtain ⟨p', d', t', dx', B', tops', rfl, f'⟩ := id b
  exact ⟨p, p', dx, dx', _, _, rfl, rfl, f.at_, f'.at_, _, _, L, P, rfl, a, b, nd, true, rfl, k⟩
theorem rneV {H : Hp} {Q : VK} {x y : V} {q r : Rat} (a : RatV Y.CR H x q) (b : RatV Y.CR H y r) (e : q = r) (k : Q (.bl false) H) : rOwnEq Y.CR (sp_req Y) true x y H Q := by
  obtain ⟨p, rfl, d, f⟩ := id a
  obtain ⟨p', rfl, d', f'⟩ := id b
  exact ⟨p, p', d, d', _, _, rfl, rfl, f, f', _, _, q, r, rfl, a, b, decide (q = r), rfl, by rw [decide_eq_true e]; exact k⟩


/-- a weight as the law draws it -/
def WOk (q : Rat) : Prop := 0 < q ∧ Fit 7 70 q
theorem w_ok {c b : Nat} (hc : c < 9) (hb : b = 1 ∨ b = 7) : WOk (mkRat ((1 + c : Nat) : Int) b) :=
  ⟨mk_pos (by omega) (by omega), (fit_mkRat (D := 7) (by omega) (by rcases hb with rfl | rfl <;> decide)).mono (by omega)⟩
/-- sizes for a change along numbers -/
structure AlSz (D M E N : Nat) : Prop where
  ep : 0 < E
  es : E < 2 ^ 4000
  ns : N < 2 ^ 4000
  de : D * E < 2 ^ 4000
  ms : 257 * (M * 5 * N) < 2 ^ 4000
theorem al_call {H : Hp} {v : V} {e : V} {cs : List Nat} {P : Poly} {xs : List V} {qs : List Rat} {dg D M E N : Nat} {Q : VK} (bv : BlendV Y H v (SX.S cs) P) (lok : LsOk cs) (ns : NumS Y H e xs qs) (lq : qs.length = cs.length) (hq : ∀ q ∈ qs, 0 ≤ q ∧ Fit E N q) (po : PolyOk cs.length dg P D M) (sz : AlSz D M E N)
    (k : ∀ v' R H', Ex H H' → BlendV Y H' v' (SX.S cs) R → AlongOut cs.length dg P qs R (D * E) (256 * (M * 5 * N)) → Q v' H') : sp_along_numbers Y [v, e] H Q C8.E0 :=
  ⟨v, e, cs, P, xs, qs, dg, D, M, E, N, rfl, bv, lok, ns, lq, hq, po, sz.ep, sz.es, sz.ns, sz.de, sz.ms, k⟩
theorem wo_call {H : Hp} {v : V} {cs : List Nat} {P : Poly} {a : Addr} {xs : List V} {ws : List Rat} {dg D M En N : Nat} {Q : VK} (bv : BlendV Y H v (SX.S cs) P) (ha : H a = some (.lst xs)) (nl : NumL Y H xs ws) (lw : ws.length = cs.length) (hw : ∀ q ∈ ws, 0 < q ∧ Fit En N q) (po : PolyOk cs.length dg P D M) (sz : SzL D M En N)
    (k : ∀ v' H', Ex H H' → RatV Y.CR H' v' (ev P (mono ws)) → Sz (ev P (mono ws)) → Q v' H') : sp_worth Y [v, .ref a] H Q C8.E0 := ⟨v, cs, P, a, xs, ws, dg, D, M, En, N, rfl, bv, ha, nl, lw, hw, po, sz, k⟩
theorem sl_call {H : Hp} {v : V} {cs : List Nat} {P : Poly} {a1 a2 : Addr} {ws us : List Rat} {dg D M En N : Nat} {Q : VK} (li : LineIn Y H v cs P a1 a2 ws us) (lf : LineFit cs.length dg P ws us D M En N)
    (k : ∀ v' H', Ex H H' → RatV Y.CR H' v' (ev P (dz us (mono ws))) → Q v' H') : sp_slope Y [v, .ref a1, .ref a2] H Q C8.E0 := ⟨v, cs, P, a1, a2, ws, us, dg, D, M, En, N, rfl, li, lf, k⟩
theorem be_call {H : Hp} {v : V} {cs : List Nat} {P : Poly} {a1 a2 : Addr} {ws us : List Rat} {dg D M En N : Nat} {Q : VK} (li : LineIn Y H v cs P a1 a2 ws us) (lf : LineFit cs.length dg P ws us D M En N)
    (k : ∀ v' H', Ex H H' → RatV Y.CR H' v' (ev P (dz us (dz us (mono ws)))) → Q v' H') : sp_bend Y [v, .ref a1, .ref a2] H Q C8.E0 := ⟨v, cs, P, a1, a2, ws, us, dg, D, M, En, N, rfl, li, lf, k⟩
theorem fit_01 {q : Rat} (h : q = 0 ∨ q = 1) : 0 ≤ q ∧ Fit 1 1 q := by
  rcases h with rfl | rfl
  · exact ⟨Rat.le_refl, (fit_zero 1).mono (by decide)⟩
  · exact ⟨by decide, fit_int 1⟩
theorem sing_ok {n : Nat} : ∀ q ∈ sing n, 0 ≤ q ∧ Fit 1 1 q := fun q hq => by
  obtain ⟨i, _, rfl⟩ := List.mem_map.mp hq
  exact fit_01 (by by_cases h : i = 0 <;> simp [h])
theorem zero_ok {n : Nat} : ∀ q ∈ List.replicate n (0 : Rat), 0 ≤ q ∧ Fit 1 1 q := fun q hq => fit_01 (.inl (List.mem_replicate.mp hq).2)
theorem numL_sing {H : Hp} (n : Nat) : NumL Y H ((List.range n).map fun i => V.int (if i = 0 then 1 else 0)) (sing n) := by
  unfold sing
  refine pr_map2 (pr_map fun i _ => .inl ⟨(if i = 0 then 1 else 0), rfl, ?_⟩)
  by_cases h : i = 0
  · rw [if_pos h, if_pos h]; rfl
  · rw [if_neg h, if_neg h]; rfl
theorem numL_zero {H : Hp} : ∀ n : Nat, NumL Y H (kvs (List.replicate n 0)) (List.replicate n 0)
  | 0 => .nil
  | n + 1 => .cons (.inl ⟨0, rfl, rfl⟩) (numL_zero n)
def gV2 : List V → List V → List V := fun _ zs => [zs.getD 1 .non, zs.getD 0 .non]
theorem BlendV.at {H : Hp} {v : V} {L : Str} {P : Poly} (h : BlendV Y H v L P) : ∃ p dx fs, v = .ref p ∧ H p = some (.ins Y.CB dx fs) :=
  let ⟨p, _, _, dx, _, _, e, f⟩ := h
  ⟨p, dx, _, e, f.at_⟩
def sp__law_along_right (Y : Yc) : Sp := fun vs H Q _ => ∃ (l F : Addr) (v : V) (cs : List Nat) (ks : List (List L2.Key × V)) (P R : Poly) (d : Nat), vs = [.ref l, v, .ref F] ∧ PotAt H l ∧ LsOk cs ∧ cs.length ≤ 4 ∧ BlendV Y H v (SX.S cs) R ∧ H F = some (.dT ks) ∧ Rows Y H ks P ∧
  PartsOk cs.length d P ∧ P.length ≤ 8 ∧ P ≠ [] ∧ d ≤ 5 ∧ R.Perm P ∧ Rise R ∧ ∀ H', ExB l H H' → PotAt H' l → Q (.bl true) H'

abbrev st__law_along_right : Stmt := top 107
theorem ok__law_along_right {f : Addr} {fd : FuncData} (F : C8.Fun Y.K "_law_along_right" "_law_along_right" st__law_along_right f fd) (T : TxtY Y) (c__law_along : CalY Y 6 "_law_along" (sp__law_along Y) []) (c__law_draw : CalY Y 1 "_law_draw" (sp__law_draw Y) []) (c__law_numbers : CalY Y 4 "_law_numbers" (sp__law_numbers Y) []) (c_along_numbers : CalY Y 11 "along_numbers" (sp_along_numbers Y) []) (c_bend : CalY Y 8 "bend" (sp_bend Y) []) (c_slope : CalY Y 8 "slope" (sp_slope Y) []) (c_taken : CalY Y 10 "taken" (sp_left_by Y) []) (c_worth : CalY Y 7 "worth" (sp_worth Y) []) (m_Ratio2 : MakY Y 2 "Ratio" Y.CR (sp_Ratio Y) []) (o_rmul : OpnY Y 4 Y.CR "mul" (sp_rmul Y)) (p_degree : PrpY Y 1 Y.CB "degree" (sp_degree Y)) (p_is_nought : PrpY Y 1 Y.CB "is_nought" (sp_is_nought Y)) (p_letters : PrpY Y 1 Y.CB "letters" (sp_letters Y)) (q_beq : EqnY Y 4 Y.CB (sp_beq Y)) (q_kwAlong : CalK Y.P Y.w Y.K Y.mg Y.base 11 "along_numbers" ["numbers", "blend"] (sp_along_numbers Y) gV2) (q_req : EqnY Y 1 Y.CR (sp_req Y)) (t_entries : MetY Y 1 Y.CB "entries" (sp_entries Y)) : FnOk Y.P Y.w Y.K Y.mg Y.base C8.CX0 13 f fd ["_law_pot_here", "_law_one", "_law_parts_here"] (sp__law_along_right Y) := by
  have S : FnScope ["_law_pot_here", "_law_one", "_law_parts_here", "_law_wide", "_law_letters_now", "_law_numbers_here", "_law_more", "_law_weights_now", "_law_made", "_law_single", "_law_at"] ["_law_pot_here", "_law_one", "_law_parts_here"] (fnScope st__law_along_right) := fnScope_by (by decide +kernel)
  have nd := S.nd
  refine fn0 F S (fun vs H Q E h => ?_) (fun cdv A outer s H vs Q E hr h => ?_)
  · obtain ⟨_, _, _, _, _, _, _, _, rfl, _⟩ := h; rfl
  refine ⟨_, (pss_cons (ps_par (i := 3) (j := 4) rfl nd rfl rfl (by decide) rfl rfl (pa_cons (pe_callB call_len rfl T.n_len boot_len (pa_cons (pe_pr p_letters hr (by decide) (pv 1) rfl) pa_nil)) (pa_cons (pe_pr p_letters hr (by decide) (pv 1) rfl) pa_nil)) (by rfl))
    (pss_cons (ps_par (i := 5) (j := 6) rfl nd rfl rfl (by decide) rfl rfl (pa_cons (pe_c c__law_numbers hr (by decide) rfl (pa_cons (pv 0) (pa_cons (pv 3) pa_nil))) (pa_cons (pe_c c__law_numbers hr (by decide) rfl (pa_cons (pv 0) (pa_cons (pv 3) pa_nil))) pa_nil)) (by rfl))
    (pss_cons (ps_setLc (i := 7) (own := [("_law_at", 10)]) (g := gName 10) (tt := tYes) rfl nd rfl rfl (sw_true rfl rfl rfl (by decide +kernel)) (pi_range1 rfl T.n_range (pa_cons (pv 3) pa_nil)) (blkOk_by (N := ["_law_pot_here", "_law_one", "_law_parts_here", "_law_wide", "_law_letters_now", "_law_numbers_here", "_law_more", "_law_weights_now", "_law_made", "_law_single", "_law_at"]) (sc := (fnScope st__law_along_right)) (by decide +kernel)) (fun _ _ _ _ _ => by exact (pg_name (i := 10) nd rfl (Or.inl rfl))) (fun _ _ _ _ _ => by exact pts_nil) (fun _ _ _ _ _ => by exact (pe_ifExp (pt_cmpR op_gt (pe_c c__law_draw hr (by decide) rfl (pa_cons (pv 0) (pa_cons pe_int pa_nil))) pe_int (nomark _)) (pe_op op_add pe_int (pe_c c__law_draw hr (by decide) rfl (pa_cons (pv 0) (pa_cons pe_int pa_nil)))) (pe_mk m_Ratio2 hr (by decide) rfl (pa_cons (pe_op op_add pe_int (pe_c c__law_draw hr (by decide) rfl (pa_cons (pv 0) (pa_cons pe_int pa_nil)))) (pa_cons pe_int pa_nil))))))
    (pss_cons (ps_set (i := 8) nd rfl (Or.inl rfl) (pe_c c_along_numbers hr (by decide) rfl (pa_cons (pv 1) (pa_cons (pv 5) pa_nil))))
    (pss_cons (ps_if (PW.pt (pw_or (pt_cmpR op_ne (pe_pr p_letters hr (by decide) (pv 8) rfl) (pv 4) (nomark _)) (pw_or1 (pt_cmpR (op_neP (Y := Y) hr (by decide) rfl q_req) (pe_mt0 t_entries hr (by decide) (pv 8)) (pe_c c__law_along hr (by decide) rfl (pa_cons (pv 2) (pa_cons (pv 5) pa_nil))) (nomark _))))) (pss_one (ps_ret pe_bl)) pss_nil)
    (pss_cons (ps_if (PW.pt (pw_or (pt_cmpR (Eqn.ne q_req hr (by decide)) (pe_c c_worth hr (by decide) rfl (pa_cons (pv 8) (pa_cons (pv 7) pa_nil))) (pe_c c_slope hr (by decide) rfl (pa_cons (pv 1) (pa_cons (pv 7) (pa_cons (pv 5) pa_nil)))) (nomark _)) (pw_or1 (pt_cmpR (Eqn.ne q_beq hr (by decide)) (pe_ck q_kwAlong hr (by decide) rfl (pk_cons (pe_callTy call_tuple_of rfl T.n_tuple boot_tuple (pa_cons (pv 5) pa_nil)) (pk_cons (pv 1) pk_nil))) (pv 8) (nomark _))))) (pss_one (ps_ret pe_bl)) pss_nil)
    (pss_cons (ps_if (pt_cmpR (Eqn.ne q_beq hr (by decide)) (pe_c c_along_numbers hr (by decide) rfl (pa_cons (pv 8) (pa_cons (pv 6) pa_nil))) (pe_c c_along_numbers hr (by decide) rfl (pa_cons (pe_c c_along_numbers hr (by decide) rfl (pa_cons (pv 1) (pa_cons (pv 6) pa_nil))) (pa_cons (pv 5) pa_nil))) (nomark _)) (pss_one (ps_ret pe_bl)) pss_nil)
    (pss_cons (ps_if (pt_cmpR (Eqn.ne q_req hr (by decide)) (pe_c c_worth hr (by decide) rfl (pa_cons (pe_c c_along_numbers hr (by decide) rfl (pa_cons (pv 8) (pa_cons (pv 5) pa_nil))) (pa_cons (pv 7) pa_nil))) (pe_c c_bend hr (by decide) rfl (pa_cons (pv 1) (pa_cons (pv 7) (pa_cons (pv 5) pa_nil)))) (nomark _)) (pss_one (ps_ret pe_bl)) pss_nil)
    (pss_cons (ps_if (pt_cmpR (Eqn.ne q_req hr (by decide)) (pe_c c_worth hr (by decide) rfl (pa_cons (pe_c c_along_numbers hr (by decide) rfl (pa_cons (pv 1) (pa_cons (pv 7) pa_nil))) (pa_cons (pv 7) pa_nil))) (pe_op (Opn.r (op := .Mult) o_rmul hr (by decide)) (pe_c c_worth hr (by decide) rfl (pa_cons (pv 1) (pa_cons (pv 7) pa_nil))) (pe_pr p_degree hr (by decide) (pv 1) rfl)) (nomark _)) (pss_one (ps_ret pe_bl)) pss_nil)
    (pss_cons (ps_setLc (i := 9) (own := [("_law_at", 10)]) (g := gName 10) (tt := tYes) rfl nd rfl rfl (sw_true rfl rfl rfl (by decide +kernel)) (pi_range1 rfl T.n_range (pa_cons (pv 3) pa_nil)) (blkOk_by (N := ["_law_pot_here", "_law_one", "_law_parts_here", "_law_wide", "_law_letters_now", "_law_numbers_here", "_law_more", "_law_weights_now", "_law_made", "_law_single", "_law_at"]) (sc := (fnScope st__law_along_right)) (by decide +kernel)) (fun _ _ _ _ _ => by exact (pg_name (i := 10) nd rfl (Or.inl rfl))) (fun _ _ _ _ _ => by exact pts_nil) (fun _ _ _ _ _ => by exact (pe_ifExp (pt_cmpR op_eq (pv 10) pe_int (nomark _)) pe_int pe_int)))
    (pss_one (ps_ret (pe_and (pe_cmpR (Eqn.eq q_beq hr (by decide)) (pe_c c_along_numbers hr (by decide) rfl (pa_cons (pv 1) (pa_cons (pv 9) pa_nil))) (pe_c c_taken hr (by decide) rfl (pa_cons (pv 1) (pa_cons (pe_ix ix_str (pv 4) pe_int (fun _ _ => rfl)) pa_nil))) (nomark _)) (pe_one (pe_pr p_is_nought hr (by decide) (pe_c c_along_numbers hr (by decide) rfl (pa_cons (pv 1) (pa_cons (pe_op op_rep (pe_lst (pa_cons pe_int pa_nil)) (pv 3)) pa_nil))) rfl))))))))))))))), ?_⟩
  obtain ⟨l, F, v, cs, ks, P, R, d, rfl, pt, lok, n4, bv, hF, rw0, po, lP, nP, d5, pm, ri, k⟩ := h
  obtain ⟨p, da, ta, dx, B, tops, rfl, f⟩ := id bv
  have sl : (SX.S cs).length ≤ sizeLine := sz_small (Nat.le_trans lok.le (by decide))
  have n1 : 1 ≤ cs.length := lok.pos
  have poP : PolyOk cs.length d P 2520 75600 := po.poly lP n1 n4 d5
  have poR := poP.of_perm pm
  have Fl : F ≠ l := pt.dT hF
  refine ⟨_, rfl, p, dx, _, rfl, f.at_, _, _, R, rfl, bv, _, cs.length, rfl, ⟨sl, rfl⟩, _, rfl, p, dx, _, rfl, f.at_, _, _, R, rfl, bv, _, _, rfl, ?_⟩
  refine ⟨_, rfl, _, rfl, l, cs.length, rfl, pt, n4, fun G1 qs H1 e1 p1 hG1 ns1 lq1 aq1 => ?_⟩
  refine ⟨_, rfl, _, rfl, l, cs.length, rfl, p1, n4, fun G2 ms H2 e2 p2 hG2 ns2 lq2 aq2 => ⟨_, _, rfl, ?_⟩⟩
  have G1l : G1 ≠ l := pt.ne hG1
  have G2l : G2 ≠ l := p1.ne hG2
  have ns1 := nums_ex p1 G1l e2 ns1
  have bv2 := BlendV.ex p1 e2 (BlendV.ex pt e1 bv)
  have hF2 := e2 _ _ Fl (e1 _ _ Fl hF)
  have rw2 := rows_ex p1 e2 (rows_ex pt e1 rw0)
  refine ⟨_, rfl, _, rfl, by omega, by omega, fun D0 hD => ?_⟩
  have D0l : D0 ≠ l := p2.ne hD
  have eD : Ex H2 (upd H2 D0 (.lst [])) := Ex.new hD
  rw [Int.toNat_natCast]
  refine lc_it walk_range (fun i H' => ExB l H2 H' ∧ PotAt H' l ∧ ∃ ws, NumsAt Y H' D0 ws ∧ ws.length = i ∧ ∀ q ∈ ws, WOk q) ⟨ExB.of eD, p2.mono eD, [], ⟨[], upd_same, .nil⟩, rfl, fun _ h => (List.not_mem_nil h).elim⟩ (fun _ _ _ _ => trivial) ?_ ?_
  · rintro i x H3 H3' hi ⟨e3, p3, ws, ns3, lw, aw⟩ ⟨rfl, rfl⟩
    have fin : ∀ y q H4, ExB l H3' H4 → PotAt H4 l → NumV Y.CR H4 y q → WOk q → ∃ acc, H4 D0 = some (.lst acc) ∧ acc.length < sizeLine ∧ (ExB l H2 (upd H4 D0 (.lst (acc ++ [y]))) ∧ PotAt (upd H4 D0 (.lst (acc ++ [y]))) l ∧ ∃ ws, NumsAt Y (upd H4 D0 (.lst (acc ++ [y]))) D0 ws ∧ ws.length = i + 1 ∧ ∀ q ∈ ws, WOk q) := by
      intro y q H4 e4 p4 nv nq
      obtain ⟨xs, g, nl⟩ := nums_ex p3 D0l e4 ns3
      have lx := Paired.length nl
      refine ⟨xs, g, Nat.lt_of_le_of_lt (show xs.length ≤ 1000 by omega) (by decide), (e3.trans e4).mut hD, p4.put (Ne.symm D0l), ws ++ [q], ⟨xs ++ [y], upd_same, ?_⟩, by rw [List.length_append, lw]; rfl, fun r hr => ?_⟩
      · exact pr_app (Paired.mapP nl fun _ _ z => numv_lst g z) (.cons (numv_lst g nv) .nil)
      · rcases List.mem_append.mp hr with hr | hr
        · exact aw r hr
        · rw [List.mem_singleton.mp hr]; exact nq
    refine ⟨rfl, iteT (B := ExB l H2 H3' ∧ PotAt H3' l ∧ ∃ ws, NumsAt Y H3' D0 ws ∧ ws.length = i + 1 ∧ ∀ q ∈ ws, WOk q) ?_⟩
    refine ⟨_, rfl, l, 3, rfl, p3, by decide, by decide, fun c H4 hc e4 p4 => ⟨_, _, rfl, rfl, _, rfl, ?_⟩⟩
    by_cases h0 : (0 : Int) < (c : Int)
    · refine iteDT h0 ?_
      refine ⟨_, rfl, l, 9, rfl, p4, by decide, by decide, fun t H5 ht e5 p5 => ⟨_, _, rfl, rfl, ?_⟩⟩
      refine fin _ _ H5 (e4.trans e5) p5 (.inl ⟨((1 + t : Nat) : Int), congrArg V.int (cast1 t), rfl⟩) ?_
      have a := w_ok (b := 1) ht (.inl rfl)
      rwa [mk_one] at a
    · refine iteDF h0 ?_
      refine ⟨_, rfl, l, 9, rfl, p4, by decide, by decide, fun t H5 ht e5 p5 => ⟨_, _, rfl, rfl, ?_⟩⟩
      intro x dx hx hdx ne
      refine new_ratK (Y := Y) hx hdx ne (b := 7) rfl (by decide) (small8 (by decide)) fun H6 e6 hv => ⟨rfl, ?_⟩
      refine fin _ _ H6 ((e4.trans e5).ex e6) (p5.mono e6) (.inr hv) ?_

      rw [cast1 t]
      exact w_ok ht (.inr rfl)
  rintro H3 ⟨e3, p3, ws, ns3, lw, aw⟩
  have e13 := (e1.trans e2).trans e3
  have bv3 := BlendV.ex p2 e3 bv2
  have hF3 := e3 _ _ Fl hF2
  have rw3 := rows_ex p2 e3 rw2
  obtain ⟨xs1, g1, nl1⟩ := nums_ex p2 G1l e3 ns1
  obtain ⟨xs2, g2, nl2⟩ := nums_ex p2 G2l e3 ns2
  obtain ⟨xs3, g3, nl3⟩ := ns3
  have N1 : ∀ H', Ex H3 H' → NumS Y H' (.ref G1) xs1 qs := fun H' e => ⟨G1, rfl, .inl (e _ _ g1), nl1.mono (exsm e)⟩
  have N2 : ∀ H', Ex H3 H' → NumS Y H' (.ref G2) xs2 ms := fun H' e => ⟨G2, rfl, .inl (e _ _ g2), nl2.mono (exsm e)⟩
  have N3 : ∀ H', Ex H3 H' → NumS Y H' (.ref D0) xs3 ws := fun H' e => ⟨D0, rfl, .inl (e _ _ g3), nl3.mono (exsm e)⟩
  have nq1 : ∀ q ∈ qs, 0 ≤ q ∧ Fit 60 540 q := aq1
  have nq2 : ∀ q ∈ ms, 0 ≤ q ∧ Fit 60 540 q := aq2
  have nq3 : ∀ q ∈ ws, 0 ≤ q ∧ Fit 7 70 q := fun q hq => ⟨Rat.le_of_lt (aw q hq).1, (aw q hq).2⟩
  have sz0 : AlSz 2520 75600 60 540 := ⟨by decide, lt4 (by decide), lt4 (by decide), lt4 (by decide), lt4 (by decide)⟩
  have sz1 : AlSz (2520 * 60) (256 * (75600 * 5 * 540)) 60 540 := ⟨by decide, lt4 (by decide), lt4 (by decide), lt4 (by decide), lt4 (by decide)⟩
  have szW : AlSz 2520 75600 7 70 := ⟨by decide, lt4 (by decide), lt4 (by decide), lt4 (by decide), lt4 (by decide)⟩
  refine ⟨_, rfl, _, rfl, al_call bv3 lok (N1 _ (Ex.refl _)) lq1 nq1 poR sz0 fun v1 R1 H4 e4 bv4 a1 => ?_⟩
  have po1 := a1.po poR (by decide) (lt4 (by decide)) (lt4 (by decide))
  obtain ⟨p1', d1, t1, dx1, B1, tops1, rfl, f1⟩ := id bv4
  refine ⟨_, rfl, p1', dx1, _, rfl, f1.at_, _, _, R1, rfl, bv4, _, rfl, rfl, _, rfl, iteNF rfl ?_⟩
  refine ⟨_, rfl, p1', dx1, _, rfl, f1.at_, rfl, _, _, R1, rfl, bv4, fun L1 ys1 H5 e5 hL1 pr1 => ?_⟩
  have e35 := e4.trans e5
  refine ⟨_, rfl, _, rfl, cs.length, d, F, G1, ks, P, qs, rfl, e35 _ _ hF3, rw3.mono (exsm e35), po, lP, n1, n4, d5, ⟨xs1, e35 _ _ g1, nl1.mono (exsm e35)⟩, lq1, aq1, fun L2' ys2 S T H6 e6 hL2 pr2 ac pmT riT => ?_⟩
  have eqR : R1 = T.filter fun t => decide (t.2 ≠ 0) := told_one ac pmT riT a1.rise (pos_ne a1.pos) fun f => by rw [a1.sum, ev_perm pm, ev_allC lq1 f P po.len]
  refine ⟨dlist_of (P := R1) (e6 _ _ hL1) hL2 (Paired.mapP pr1 fun _ _ z => z.mono e6) (by rw [eqR]; exact pr2), fun H7 e7 => ⟨_, rfl, iteF ?_⟩⟩
  have e37 : Ex H3 H7 := e35.trans (e6.trans e7)
  have szl0 : SzL 2520 75600 420 4200 := ⟨Nat.lt_of_lt_of_le (by decide : 75600 < 2 ^ 20) (Nat.pow_le_pow_right (by decide) (by decide)), Nat.lt_of_lt_of_le (by decide : 4200 < 2 ^ 20) (Nat.pow_le_pow_right (by decide) (by decide)), by decide, lt4 (by decide), lt4 (by decide)⟩
  have szl1 : SzL (2520 * 60) (256 * (75600 * 5 * 540)) 7 70 := ⟨Nat.lt_of_lt_of_le (by decide : 256 * (75600 * 5 * 540) < 2 ^ 60) (Nat.pow_le_pow_right (by decide) (by decide)), Nat.lt_of_lt_of_le (by decide : 70 < 2 ^ 20) (Nat.pow_le_pow_right (by decide) (by decide)), by decide, lt4 (by decide), lt4 (by decide)⟩
  have szl2 : SzL (2520 * 60 * 60) (256 * (256 * (75600 * 5 * 540) * 5 * 540)) 7 70 := ⟨Nat.lt_of_lt_of_le (by decide : 256 * (256 * (75600 * 5 * 540) * 5 * 540) < 2 ^ 100) (Nat.pow_le_pow_right (by decide) (by decide)), Nat.lt_of_lt_of_le (by decide : 70 < 2 ^ 20) (Nat.pow_le_pow_right (by decide) (by decide)), by decide, lt4 (by decide), lt4 (by decide)⟩
  have szlw : SzL (2520 * 7) (256 * (75600 * 5 * 70)) 7 70 := ⟨Nat.lt_of_lt_of_le (by decide : 256 * (75600 * 5 * 70) < 2 ^ 60) (Nat.pow_le_pow_right (by decide) (by decide)), Nat.lt_of_lt_of_le (by decide : 70 < 2 ^ 20) (Nat.pow_le_pow_right (by decide) (by decide)), by decide, lt4 (by decide), lt4 (by decide)⟩
  have szlv : SzL 2520 75600 7 70 := ⟨Nat.lt_of_lt_of_le (by decide : 75600 < 2 ^ 20) (Nat.pow_le_pow_right (by decide) (by decide)), Nat.lt_of_lt_of_le (by decide : 70 < 2 ^ 20) (Nat.pow_le_pow_right (by decide) (by decide)), by decide, lt4 (by decide), lt4 (by decide)⟩
  have li : ∀ H', Ex H3 H' → LineIn Y H' (.ref p) cs R D0 G1 ws qs := fun H' e => ⟨bv3.mono e, ⟨xs3, e _ _ g3, nl3.mono (exsm e)⟩, ⟨xs1, e _ _ g1, nl1.mono (exsm e)⟩, lw, lq1, fun q hq => (aw q hq).1, by omega⟩
  have lf : LineFit cs.length d R ws qs 2520 75600 420 4200 := ⟨poR, szl0, fun q hq => fit_up (E := 60) (aw q hq).2, fun q hq => (fit_up (E := 7) (aq1 q hq).2).mono (by decide)⟩
  refine ⟨_, rfl, _, rfl, wo_call (bv4.mono (e5.trans (e6.trans e7))) (e37 _ _ g3) (nl3.mono (exsm e37)) lw aw po1 szl1 fun v8 H8 e8 rv8 _ => ?_⟩
  refine ⟨_, rfl, _, rfl, _, rfl, sl_call (li _ (e37.trans e8)) lf fun v9 H9 e9 rv9 => ?_⟩
  refine rneV (rv8.mono (exsm e9)) rv9 (a1.sum _) ⟨_, rfl, iteF ?_⟩
  have e39 := e37.trans (e8.trans e9)
  have b49 := bv4.mono ((e5.trans (e6.trans e7)).trans (e8.trans e9))
  refine ⟨_, rfl, G1, xs1, rfl, .inl ⟨sq_of (e39 _ _ g1), fun T0 hT => ⟨_, rfl, rfl, ?_⟩⟩⟩
  have eT := Ex.new (o := HO.tup xs1) hT
  refine al_call (bv3.mono (e39.trans eT)) lok ⟨T0, rfl, .inr upd_same, nl1.mono (exsm (e39.trans eT))⟩ lq1 nq1 poR sz0 fun v10 R10 H10 e10 bv10 a10 => ?_
  have q10 : R10 = R1 := along_one a10 a1 fun _ => rfl
  rw [q10] at bv10
  have e310 := (e39.trans eT).trans e10
  have b410 := b49.mono (eT.trans e10)
  refine ⟨_, rfl, bneV bv10 b410 a1.ok.nd ⟨_, rfl, iteF ?_⟩⟩
  refine ⟨_, rfl, _, rfl, al_call b410 lok (N2 _ e310) lq2 nq2 po1 sz1 fun v11 R11 H11 e11 bv11 a11 => ?_⟩
  refine ⟨_, rfl, _, rfl, al_call (bv3.mono (e310.trans e11)) lok (N2 _ (e310.trans e11)) lq2 nq2 poR sz0 fun v12 R12 H12 e12 bv12 a12 => ?_⟩
  have po12 := a12.po poR (by decide) (lt4 (by decide)) (lt4 (by decide))
  have e312 := (e310.trans e11).trans e12
  refine ⟨_, rfl, al_call bv12 lok (N1 _ e312) lq1 nq1 po12 sz1 fun v13 R13 H13 e13' bv13 a13 => ?_⟩
  have q13 : R11 = R13 := along_one a11 a13 fun f => by rw [a1.sum, a12.sum, ev_comm (lq1.trans lq2.symm)]
  rw [← q13] at bv13
  refine bneV (bv11.mono (e12.trans e13')) bv13 a11.ok.nd ⟨_, rfl, iteF ?_⟩
  have e313 := e312.trans e13'
  have b413 := b410.mono ((e11.trans e12).trans e13')
  refine ⟨_, rfl, _, rfl, al_call b413 lok (N1 _ e313) lq1 nq1 po1 sz1 fun v14 R14 H14 e14 bv14 a14 => ?_⟩
  have po14 := a14.po po1 (by decide) (lt4 (by decide)) (lt4 (by decide))
  have e314 := e313.trans e14
  refine ⟨_, rfl, wo_call bv14 (e314 _ _ g3) (nl3.mono (exsm e314)) lw aw po14 szl2 fun v15 H15 e15 rv15 _ => ?_⟩
  refine ⟨_, rfl, _, rfl, _, rfl, be_call (li _ (e314.trans e15)) lf fun v16 H16 e16 rv16 => ?_⟩
  refine rneV (rv15.mono (exsm e16)) rv16 (by rw [a14.sum, a1.sum]) ⟨_, rfl, iteF ?_⟩
  have e316 := (e314.trans e15).trans e16
  refine ⟨_, rfl, _, rfl, al_call (bv3.mono e316) lok (N3 _ e316) lw nq3 poR szW fun v17 R17 H17 e17 bv17 a17 => ?_⟩
  have po17 := a17.po poR (by decide) (lt4 (by decide)) (lt4 (by decide))
  have e317 := e316.trans e17
  refine ⟨_, rfl, wo_call bv17 (e317 _ _ g3) (nl3.mono (exsm e317)) lw aw po17 szlw fun v18 H18 e18 rv18 _ => ?_⟩
  have e318 := e317.trans e18
  refine ⟨_, rfl, _, rfl, wo_call (bv3.mono e318) (e318 _ _ g3) (nl3.mono (exsm e318)) lw aw poR szlv fun v19 H19 e19 rv19 s19 => ?_⟩
  have e319 := e318.trans e19
  obtain ⟨px, dax, tax, dxx, Bx, topsx, rx, fx⟩ := id (bv3.mono e319)
  obtain rfl : p = px := V.ref.inj rx
  have dR : degV R = .int ((d : Nat) : Int) := by
    cases hR : R with
    | nil =>
      rw [hR] at pm
      exact absurd pm.symm.eq_nil nP
    | cons t0 R0 =>
      show V.int _ = _
      rw [poR.deg t0 (by rw [hR]; exact List.mem_cons_self ..)]
  refine ⟨_, rfl, p, dxx, _, rfl, fx.at_, _, _, R, rfl, bv3.mono e319, ?_⟩
  rw [dR]
  obtain ⟨b19, rfl, d19, h19⟩ := id rv19
  have sd : Sz (((d : Nat) : Int) : Rat) := sz_fit (D := 1) (M := d) (by decide) (Nat.one_lt_two_pow (by decide)) (Nat.lt_of_le_of_lt d5 (Nat.lt_of_lt_of_le (by decide : 5 < 2 ^ 20) (Nat.pow_le_pow_right (by decide) (by decide)))) (fit_int d)
  refine ⟨b19, d19, _, rfl, h19, .inr ⟨_, rfl⟩, _, _, ev R (mono ws), (((d : Nat) : Int) : Rat), rfl, rv19, .inl ⟨_, rfl, rfl⟩, s19, sd, fun v20 H20 e20 rv20 => ?_⟩
  refine rneV (rv18.mono (exsm (e19.trans e20))) rv20 (by rw [a17.sum, ev_euler lw poR.ok.len poR.deg]) ⟨_, rfl, iteF ?_⟩
  have e320 := e319.trans e20
  refine ⟨_, rfl, _, rfl, by omega, by omega, fun D1 hD1 => ?_⟩
  rw [Int.toNat_natCast]
  refine lc_it walk_range (fun i H' => Ex H20 H' ∧ H' D1 = some (.lst ((List.range i).map fun i => V.int (if i = 0 then 1 else 0)))) ⟨Ex.new hD1, upd_same⟩ (fun _ _ _ _ => trivial) ?_ ?_
  · rintro i x H21 H21' hi ⟨e21, h21⟩ ⟨rfl, rfl⟩
    have fin : ∀ z : Int, z = (if i = 0 then 1 else 0) → ∃ acc, H21' D1 = some (.lst acc) ∧ acc.length < sizeLine ∧ (Ex H20 (upd H21' D1 (.lst (acc ++ [V.int z]))) ∧ (upd H21' D1 (.lst (acc ++ [V.int z]))) D1 = some (.lst ((List.range (i + 1)).map fun i => V.int (if i = 0 then 1 else 0)))) := by
      intro z hz
      refine ⟨_, h21, Nat.lt_of_le_of_lt (show _ ≤ 1000 by rw [List.length_map, List.length_range]; omega) (by decide), e21.mut hD1, ?_⟩
      rw [upd_same, List.range_succ, List.map_append, hz]
      rfl
    refine ⟨rfl, iteT (B := Ex H20 H21' ∧ H21' D1 = some (.lst ((List.range (i + 1)).map fun i => V.int (if i = 0 then 1 else 0)))) ?_⟩
    refine ⟨_, rfl, rfl, _, rfl, ?_⟩
    by_cases i0 : i = 0
    · exact iteDT (by rw [i0]; rfl) (fin 1 (by rw [if_pos i0]))
    · exact iteDF (fun q => i0 (by have := V.int.inj q; omega)) (fin 0 (by rw [if_neg i0]))
  rintro H21 ⟨e21, h21⟩
  have e321 := e320.trans e21
  have nls : NumL Y H21 ((List.range cs.length).map fun i => V.int (if i = 0 then 1 else 0)) (sing cs.length) := numL_sing cs.length
  have lsg : (sing cs.length).length = cs.length := by unfold sing; rw [List.length_map, List.length_range]
  refine ⟨_, rfl, _, rfl, al_call (bv3.mono e321) lok ⟨D1, rfl, .inl h21, nls⟩ lsg (E := 1) (N := 1) sing_ok poR ⟨by decide, lt4 (by decide), lt4 (by decide), lt4 (by decide), lt4 (by decide)⟩ fun v22 R22 H22 e22 bv22 a22 => ?_⟩
  have e322 := e321.trans e22
  obtain ⟨c0, hc0⟩ := get_lt (l := cs) (i := 0) (by omega)
  refine ⟨_, rfl, _, rfl, _, _, c0, rfl, rfl, sl, atI_nat (i := 0) hc0, _, cs, R, 0, c0, rfl, bv3.mono e322, lok, hc0, poR.ok, poR.sz, poR.pfit 0, fun v23 R23 H23 e23 bv23 pm23 ri23 => ?_⟩
  have q23 : R22 = R23 := along_taken a22 poR pm23 ri23
  rw [← q23] at bv23
  refine beqV (bv22.mono e23) bv23 a22.ok.nd ⟨true, rfl, iteT ?_⟩
  have e323 := e322.trans e23
  refine ⟨_, rfl, l1, fun A0 hA => ⟨_, rfl, A0, (cs.length : Int), [V.int 0], rfl, rfl, upd_same, by omega, by omega, sz_small (show 1 * (cs.length : Int).toNat ≤ 1000 by omega), fun Fz hFz => ?_⟩⟩
  rw [Int.toNat_natCast, rep_kvs]
  have e324 := (e323.trans (Ex.new (o := HO.lst [V.int 0]) hA)).trans (Ex.new (o := HO.lst (kvs (List.replicate cs.length 0))) hFz)
  refine al_call (bv3.mono e324) lok ⟨Fz, rfl, .inl upd_same, numL_zero cs.length⟩ (qs := List.replicate cs.length 0) (List.length_replicate ..) (E := 1) (N := 1) zero_ok poR ⟨by decide, lt4 (by decide), lt4 (by decide), lt4 (by decide), lt4 (by decide)⟩ fun v25 R25 H25 e25 bv25 a25 => ?_
  have q25 : R25 = [] := a25.nil fun q hq => (List.mem_replicate.mp hq).2
  obtain ⟨p5, d5', t5, dx5, B5, tops5, rfl, f5⟩ := id bv25
  refine ⟨p5, dx5, _, rfl, f5.at_, _, _, R25, rfl, bv25, ?_⟩
  have e325 := e324.trans e25
  rw [q25]
  exact k H25 (e13.ex e325) (p3.mono e325)

end Km
end

section
set_option Elab.async false
set_option linter.all false
set_option maxRecDepth 100000
set_option maxHeartbeats 4000000
namespace Km
open PySem PySem.Spec PyProof.Rows L2 Evl
open C8 (fn0 fnScope_by Cal Mak Met pe_c pe_mk pe_mt pe_mt0 pe_gc fnScope fnBody fnArgs)
variable {Y : Yc}


/-! ### hashes of the keys -/
def hz (c : Ky) : Int := reduceHash (Builtin.Tuple.tupleHashOf (c.map fun (n : Nat) => hashInt (n : Int)))
theorem hashY_eq (c : Ky) : hashY Y c = hz c := by
  show reduceHash (Builtin.Tuple.tupleHashOf ((kk c).map (mixKind Y.P Y.w).hash)) = _
  unfold kk hz
  rw [List.map_map]
  rfl
theorem hz_nodup : ∀ n, n ≤ 4 → ∀ d, d ≤ 5 → ((allK n d).map hz).Nodup := by decide +kernel
theorem hz_inj {a b : Ky} (l : a.length = b.length) (d : deg a = deg b) (n4 : a.length ≤ 4) (d5 : deg a ≤ 5) (h : hz a = hz b) : a = b := by
  have nd := hz_nodup a.length n4 (deg a) d5
  have ma := mem_allK a
  have mb := mem_allK b
  rw [← l, ← d] at mb
  obtain ⟨i, hi⟩ := List.mem_iff_getElem?.mp ma
  obtain ⟨j, hj⟩ := List.mem_iff_getElem?.mp mb
  have h1 : ((allK a.length (deg a)).map hz)[i]? = some (hz a) := by rw [List.getElem?_map, hi]; rfl
  have h2 : ((allK a.length (deg a)).map hz)[j]? = some (hz a) := by rw [List.getElem?_map, hj, h]; rfl
  have e := (List.getElem?_inj (List.getElem?_eq_some_iff.mp h1).1 nd).mp (h1.trans h2.symm)
  rw [e, hj] at hi
  exact (Option.some.inj hi).symm
theorem hash_nodup {n dg : Nat} {P : Poly} {D M : Nat} (po : PolyOk n dg P D M) : ((keysP P).map (hashY Y)).Nodup := by
  have nd := po.ok.nd
  unfold List.Nodup at nd ⊢
  rw [List.pairwise_map]
  refine List.Pairwise.imp_of_mem (fun {a b} ha hb ne e => ne ?_) nd
  obtain ⟨t, ht, rfl⟩ := List.mem_map.mp ha
  obtain ⟨u, hu, rfl⟩ := List.mem_map.mp hb
  rw [hashY_eq, hashY_eq] at e
  exact hz_inj ((po.ok.len t ht).trans (po.ok.len u hu).symm) ((po.deg t ht).trans (po.deg u hu).symm) (by rw [po.ok.len t ht]; exact po.n4) (by rw [po.deg t ht]; exact po.d5) e
/-! ### cuts: plain -/
def moreP (P : Poly) (i m : Nat) : Poly := P.filter fun t => decide (m < t.1.getD i 0)
theorem PolyOk.filter {n dg : Nat} {P : Poly} {D M : Nat} (h : PolyOk n dg P D M) (p : Ky × Rat → Bool) : PolyOk n dg (P.filter p) D M := by
  have sub : ∀ t ∈ P.filter p, t ∈ P := fun t ht => (List.mem_filter.mp ht).1
  refine ⟨⟨?_, fun t ht => h.ok.len t (sub t ht), fun t ht => h.ok.small t (sub t ht), Nat.lt_of_le_of_lt (List.length_filter_le _ _) h.ok.few, h.ok.pos⟩, fun t ht => h.deg t (sub t ht), h.d5, h.n4, fun t ht => h.pos t (sub t ht), fun t ht => h.fit t (sub t ht), h.dp, h.ds, h.ms⟩
  have nd := h.ok.nd
  unfold keysP at nd ⊢
  exact List.Sublist.nodup (List.Sublist.map _ List.filter_sublist) nd
theorem part_perm (P : Poly) (i m : Nat) : (cutP P i m ++ moreP P i m).Perm P := by
  unfold cutP moreP
  have e : (fun t : Ky × Rat => decide (m < t.1.getD i 0)) = fun t => !decide (t.1.getD i 0 ≤ m) := by
    funext t
    by_cases h : t.1.getD i 0 ≤ m
    · rw [decide_eq_true h, decide_eq_false (by omega)]; rfl
    · rw [decide_eq_false h, decide_eq_true (by omega)]; rfl
  rw [e]
  exact List.filter_append_perm _ P
theorem cut_perm {P R : Poly} (i m : Nat) (h : R.Perm P) : (cutP R i m).Perm (cutP P i m) := h.filter _
theorem cut_rise {R : Poly} (i m : Nat) (h : Rise R) : Rise (cutP R i m) := h.filter _
theorem cut_self (P : Poly) (i m : Nat) : cutP (cutP P i m) i m = cutP P i m := by
  unfold cutP
  rw [List.filter_filter]
  congr 1
  funext t
  exact Bool.and_self _
theorem cut_comm (P : Poly) (i m j k : Nat) : cutP (cutP P i m) j k = cutP (cutP P j k) i m := by
  unfold cutP
  rw [List.filter_filter, List.filter_filter]
  congr 1
  funext t
  exact Bool.and_comm _ _
theorem cut_nought (P : Poly) (i m : Nat) : cutP (cutP P i m) i 0 = cutP P i 0 := by
  unfold cutP
  rw [List.filter_filter]
  congr 1
  funext t
  by_cases h : t.1.getD i 0 ≤ 0
  · rw [decide_eq_true h, decide_eq_true (show t.1.getD i 0 ≤ m by omega)]; rfl
  · rw [decide_eq_false h]; rfl
theorem cut_all {n dg : Nat} {P : Poly} {D M : Nat} (h : PolyOk n dg P D M) (i : Nat) {m : Nat} (hm : 5 ≤ m) : cutP P i m = P := by
  unfold cutP
  refine List.filter_eq_self.mpr fun t ht => decide_eq_true ?_
  have := get_deg i t.1
  rw [h.deg t ht] at this
  have := h.d5
  omega
theorem cut_stand (P : Poly) (i : Nat) : StandAt (cutP P i 0) i = false := by
  unfold StandAt cutP
  rw [List.any_eq_false]
  intro t ht
  have := of_decide_eq_true (List.mem_filter.mp ht).2
  simpa using this
theorem pos_filter {P : Poly} (h : ∀ t ∈ P, 0 < t.2) : (P.filter fun t => decide (t.2 ≠ 0)) = P := List.filter_eq_self.mpr fun t ht => decide_eq_true (pos_ne h t ht)
theorem pfit_perm {n dg : Nat} {P : Poly} {D M : Nat} (po : PolyOk n dg P D M) {Q : Poly} (h : Q.Perm P) : PFit Q := (po.of_perm h).pf
theorem degV_of {n dg : Nat} {P R : Poly} {D M : Nat} (a : PolyOk n dg P D M) (b : PolyOk n dg R D M) (h1 : P ≠ []) (h2 : R ≠ []) : degV P = degV R := by
  cases P with
  | nil => exact absurd rfl h1
  | cons t P =>
    cases R with
    | nil => exact absurd rfl h2
    | cons u R =>
      show V.int _ = V.int _
      rw [a.deg t (List.mem_cons_self ..), b.deg u (List.mem_cons_self ..)]
theorem cut_call {H : Hp} {v : V} {cs : List Nat} {P : Poly} {i c m dg D M : Nat} {Q : VK} (bv : BlendV Y H v (SX.S cs) P) (lok : LsOk cs) (hi : cs[i]? = some c) (ri : Rise P) (po : PolyOk cs.length dg P D M) (ms : 65 * M < 2 ^ 4000)
    (k : ∀ v' H', Ex H H' → BlendV Y H' v' (SX.S cs) (cutP P i m) → Q v' H') : sp_cut Y [v, .str (SX.S [c]), .int ((m : Nat) : Int)] H Q C8.E0 := ⟨v, cs, P, i, c, m, dg, D, M, rfl, bv, lok, hi, ri, po, ms, k⟩
theorem pair_frz {H : Hp} {D : Addr} {o : Obj} {k k' : List (List L2.Key × V)} {x : V} {t : Ky × Rat} (hD : H D = some (.frz o (.dT k))) (h : PairAt2 Y H x t) : PairAt2 Y (upd H D (.dT k')) x t := by
  obtain ⟨p, q, y, e, h1, h2, h3⟩ := h
  refine ⟨p, q, y, e, ?_, ?_, ratv_upd hD (fun _ _ _ e => by cases e) h3⟩
  · rw [upd_ne fun z => by rw [z, hD] at h1; cases h1]
    exact h1
  · rw [upd_ne fun z => by rw [z, hD] at h2; cases h2]
    exact h2
theorem rows_pairs {H : Hp} : ∀ {P : Poly} {ys : List V}, Paired (PairAt2 Y H) ys P → ∃ ks' : List (List L2.Key × V), Paired (fun (p : V) (kv : List L2.Key × V) => ∃ t b, p = .ref t ∧ SqT Y.K H t [.ref b, kv.2] ∧ H b = some (.tup (kv.1.map kV))) ys ks' ∧ Rows Y H ks' P
  | [], _, .nil => ⟨[], .nil, .nil⟩
  | t :: P, _, .cons ⟨p, q, y, rfl, h1, h2, h3⟩ r => by
    obtain ⟨ks', a, b⟩ := rows_pairs r
    exact ⟨(kk t.1, y) :: ks', .cons ⟨p, q, rfl, st_of h1, by rw [kk_kV]; exact h2⟩ a, .cons ⟨rfl, h3⟩ b⟩
theorem iteB {b : Bool} {A B : Prop} (h : b = false) (k : B) : if b = true then A else B := by rw [h]; exact iteF k
def gV3 : List V → List V → List V := fun _ zs => [zs.getD 2 .non, zs.getD 1 .non, zs.getD 0 .non]
def sp__law_cut_right (Y : Yc) : Sp := fun vs H Q _ => ∃ (l F : Addr) (v : V) (cs : List Nat) (ks : List (List L2.Key × V)) (P R : Poly) (d : Nat), vs = [.ref l, v, .ref F] ∧ PotAt H l ∧ LsOk cs ∧ cs.length ≤ 4 ∧ BlendV Y H v (SX.S cs) R ∧ H F = some (.dT ks) ∧ Rows Y H ks P ∧
  PartsOk cs.length d P ∧ P.length ≤ 8 ∧ d ≤ 5 ∧ R.Perm P ∧ Rise R ∧ ∀ H', ExB l H H' → PotAt H' l → Q (.bl true) H'

abbrev st__law_cut_right : Stmt := top 108
theorem ok__law_cut_right {f : Addr} {fd : FuncData} (F : C8.Fun Y.K "_law_cut_right" "_law_cut_right" st__law_cut_right f fd) (T : TxtY Y) (c__law_blend : CalY Y 8 "_law_blend" (sp__law_blend Y) []) (c__law_draw : CalY Y 1 "_law_draw" (sp__law_draw Y) []) (c__law_pick : CalY Y 2 "_law_pick" (sp__law_pick Y) []) (c__law_told : CalY Y 3 "_law_told" (sp__law_told Y) []) (c_cut : CalY Y 10 "cut" (sp_cut Y) []) (o_badd : OpoY Y 10 Y.CB "add" (sp_badd Y)) (p_letters : PrpY Y 1 Y.CB "letters" (sp_letters Y)) (q_beq : EqnY Y 4 Y.CB (sp_beq Y)) (q_kwCut : CalK Y.P Y.w Y.K Y.mg Y.base 10 "cut" ["many", "letter", "blend"] (sp_cut Y) gV3) (q_req : EqnY Y 1 Y.CR (sp_req Y)) (t_bears : MetY Y 3 Y.CB "bears" (sp_standing Y)) (t_entries : MetY Y 1 Y.CB "entries" (sp_entries Y)) : FnOk Y.P Y.w Y.K Y.mg Y.base C8.CX0 13 f fd ["_law_pot_here", "_law_one", "_law_parts_here"] (sp__law_cut_right Y) := by
  have S : FnScope ["_law_pot_here", "_law_one", "_law_parts_here", "_law_at", "_law_most", "_law_letter_now", "_law_made", "_law_gone", "_law_less", "_law_further", "_law_key"] ["_law_pot_here", "_law_one", "_law_parts_here"] (fnScope st__law_cut_right) := fnScope_by (by decide +kernel)
  have nd := S.nd
  refine fn0 F S (fun vs H Q E h => ?_) (fun cdv A outer s H vs Q E hr h => ?_)
  · obtain ⟨_, _, _, _, _, _, _, _, rfl, _⟩ := h; rfl
  have hu := hu_of hr
  refine ⟨_, (pss_cons (ps_asg (pe_tup (pa_cons (pe_c c__law_draw hr (by decide) rfl (pa_cons (pv 0) (pa_cons (pe_callB call_len rfl T.n_len boot_len (pa_cons (pe_pr p_letters hr (by decide) (pv 1) rfl) pa_nil)) pa_nil))) (pa_cons (pe_c c__law_draw hr (by decide) rfl (pa_cons (pv 0) (pa_cons pe_int pa_nil))) pa_nil))) (pg_tup rfl (pgs_cons (pg_name (i := 3) nd rfl (Or.inr rfl)) (pgs_cons (pg_name (i := 4) nd rfl (Or.inr rfl)) pgs_nil))))
    (pss_cons (ps_set (i := 5) nd rfl (Or.inl rfl) (pe_ix ix_str (pe_pr p_letters hr (by decide) (pv 1) rfl) (pv 3) (fun _ _ => rfl)))
    (pss_cons (ps_set (i := 6) nd rfl (Or.inl rfl) (pe_c c_cut hr (by decide) rfl (pa_cons (pv 1) (pa_cons (pv 5) (pa_cons (pv 4) pa_nil)))))
    (pss_cons (ps_if (PW.pt (pw_or (pt_cmpR op_ne (pe_pr p_letters hr (by decide) (pv 6) rfl) (pe_pr p_letters hr (by decide) (pv 1) rfl) (nomark _)) (pw_or1 (pt_cmpR (op_neP (Y := Y) hr (by decide) rfl q_req) (pe_mt0 t_entries hr (by decide) (pv 6)) (pe_c c__law_told hr (by decide) rfl (pa_cons (pe_callTy (call_dictPT rfl (hu4_of hr)) rfl T.n_dict boot_dict (pa_cons (pe_lock (pe_lc (own := [("_law_key", 10)]) (g := gName 10) rfl nd (pi_keys (pv 2)) (blkOk_by (N := ["_law_pot_here", "_law_one", "_law_parts_here", "_law_at", "_law_most", "_law_letter_now", "_law_made", "_law_gone", "_law_less", "_law_further", "_law_key"]) (sc := (fnScope st__law_cut_right)) (by decide +kernel)) (fun _ _ _ _ _ => by exact (pg_name (i := 10) nd rfl (Or.inl rfl))) (fun _ _ _ _ _ => by exact (pts_one (pt_cmpR op_le (pe_ix (ixtB Y.K) (pv 10) (pv 3) (fun _ _ => rfl)) (pv 4) (nomark _)))) (fun _ _ _ _ _ => by exact (pe_tup (pa_cons (pv 10) (pa_cons (pe_dget hu (pv 2) (pv 10) (fun _ _ => rfl)) pa_nil)))))) pa_nil)) pa_nil)) (nomark _))))) (pss_one (ps_ret pe_bl)) pss_nil)
    (pss_cons (ps_set (i := 7) nd rfl (Or.inl rfl) (pe_c c__law_blend hr (by decide) rfl (pa_cons (pe_pr p_letters hr (by decide) (pv 1) rfl) (pa_cons (pe_callTy (call_dictPT rfl (hu4_of hr)) rfl T.n_dict boot_dict (pa_cons (pe_lock (pe_lc (own := [("_law_key", 10)]) (g := gName 10) rfl nd (pi_keys (pv 2)) (blkOk_by (N := ["_law_pot_here", "_law_one", "_law_parts_here", "_law_at", "_law_most", "_law_letter_now", "_law_made", "_law_gone", "_law_less", "_law_further", "_law_key"]) (sc := (fnScope st__law_cut_right)) (by decide +kernel)) (fun _ _ _ _ _ => by exact (pg_name (i := 10) nd rfl (Or.inl rfl))) (fun _ _ _ _ _ => by exact (pts_one (pt_cmpR op_gt (pe_ix (ixtB Y.K) (pv 10) (pv 3) (fun _ _ => rfl)) (pv 4) (nomark _)))) (fun _ _ _ _ _ => by exact (pe_tup (pa_cons (pv 10) (pa_cons (pe_dget hu (pv 2) (pv 10) (fun _ _ => rfl)) pa_nil)))))) pa_nil)) pa_nil))))
    (pss_cons (ps_if (PW.pt (pw_or (pt_cmpR (Eqn.ne q_beq hr (by decide)) (pe_op (Opo.r (op := .Add) o_badd hr (by decide)) (pv 6) (pv 7)) (pv 1) (nomark _)) (pw_or (pt_cmpR (Eqn.ne q_beq hr (by decide)) (pe_ck q_kwCut hr (by decide) rfl (pk_cons (pv 4) (pk_cons (pv 5) (pk_cons (pv 1) pk_nil)))) (pv 6) (nomark _)) (pw_or1 (pt_cmpR (Eqn.ne q_beq hr (by decide)) (pe_c c_cut hr (by decide) rfl (pa_cons (pv 6) (pa_cons (pv 5) (pa_cons (pv 4) pa_nil)))) (pv 6) (nomark _)))))) (pss_one (ps_ret pe_bl)) pss_nil)
    (pss_cons (ps_set (i := 8) nd rfl (Or.inl rfl) (pe_c c_cut hr (by decide) rfl (pa_cons (pv 6) (pa_cons (pv 5) (pa_cons pe_int pa_nil)))))
    (pss_cons (ps_if (PW.pt (pw_or (pt_cmpR op_in_str (pv 5) (pe_mt0 t_bears hr (by decide) (pv 8)) (by with_unfolding_all rfl)) (pw_or (pt_cmpR (Eqn.ne q_beq hr (by decide)) (pv 8) (pe_c c_cut hr (by decide) rfl (pa_cons (pv 1) (pa_cons (pv 5) (pa_cons pe_int pa_nil)))) (nomark _)) (pw_or1 (pt_cmpR (Eqn.ne q_beq hr (by decide)) (pe_c c_cut hr (by decide) rfl (pa_cons (pv 1) (pa_cons (pv 5) (pa_cons (pe_op op_pow pe_int pe_int) pa_nil)))) (pv 1) (nomark _)))))) (pss_one (ps_ret pe_bl)) pss_nil)
    (pss_cons (ps_set (i := 9) nd rfl (Or.inl rfl) (pe_c c__law_pick hr (by decide) rfl (pa_cons (pv 0) (pa_cons (pe_pr p_letters hr (by decide) (pv 1) rfl) pa_nil))))
    (pss_one (ps_ret (pe_cmpR (Eqn.eq q_beq hr (by decide)) (pe_c c_cut hr (by decide) rfl (pa_cons (pe_c c_cut hr (by decide) rfl (pa_cons (pv 1) (pa_cons (pv 9) (pa_cons pe_int pa_nil)))) (pa_cons (pv 5) (pa_cons (pv 4) pa_nil)))) (pe_c c_cut hr (by decide) rfl (pa_cons (pv 6) (pa_cons (pv 9) (pa_cons pe_int pa_nil)))) (nomark _))))))))))))), ?_⟩
  obtain ⟨l, F, v, cs, ks, P, R, d, rfl, pt, lok, n4, bv, hF, rw0, po, lP, d5, pm, ri, k⟩ := h
  obtain ⟨p, da, ta, dx, B, tops, rfl, f⟩ := id bv
  have sl : (SX.S cs).length ≤ sizeLine := sz_small (Nat.le_trans lok.le (by decide))
  have n1 : 1 ≤ cs.length := lok.pos
  have poP : PolyOk cs.length d P 2520 75600 := po.poly lP n1 n4 d5
  have poR := poP.of_perm pm
  have Fl : F ≠ l := pt.dT hF
  have lk : ks.length = P.length := Paired.length rw0
  have ms : 65 * 75600 < 2 ^ 4000 := lt4 (by decide)
  refine ⟨_, rfl, _, rfl, p, dx, _, rfl, f.at_, _, _, R, rfl, bv, _, cs.length, rfl, ⟨sl, rfl⟩, l, cs.length, rfl, pt, n1, by omega, fun i H1 hi e1 p1 => ?_⟩
  refine ⟨_, rfl, l, 5, rfl, p1, by decide, by decide, fun m H2 hm e2 p2 => ⟨l2, fun T0 hT => gt2 (st_of upd_same) ?_⟩⟩
  have e3 : ExB l H (upd H2 T0 (.tup [.int (i : Int), .int (m : Int)])) := (e1.trans e2).ex (Ex.new hT)
  have p3 := p2.mono (Ex.new (o := HO.tup [.int (i : Int), .int (m : Int)]) hT)
  obtain ⟨H3, hH3⟩ : ∃ H3, H3 = upd H2 T0 (.tup [.int (i : Int), .int (m : Int)]) := ⟨_, rfl⟩
  rw [← hH3] at e3 p3 ⊢
  clear hH3
  have bv3 := BlendV.ex pt e3 bv
  have hF3 := e3 _ _ Fl hF
  have rw3 := rows_ex pt e3 rw0
  obtain ⟨c, hc⟩ := get_lt hi
  obtain ⟨px, dax, tax, dx3, B3, tops3, rx, f3⟩ := id bv3
  obtain rfl : p = px := V.ref.inj rx
  refine ⟨_, rfl, p, dx3, _, rfl, f3.at_, _, _, R, rfl, bv3, _, rfl, _, _, c, rfl, rfl, sl, atI_nat hc, ?_⟩
  refine ⟨_, rfl, _, rfl, _, rfl, cut_call bv3 lok hc ri poR ms fun v1 H4 e4 bv4 => ?_⟩
  obtain ⟨p1', d1, t1, dx1, B1, tops1, rfl, f1⟩ := id bv4
  have poC := poR.cut i m
  refine ⟨_, rfl, p1', dx1, _, rfl, f1.at_, _, _, cutP R i m, rfl, bv4, _, rfl, p, dx3, _, rfl, e4 _ _ f3.at_, _, _, R, rfl, bv3.mono e4, rfl, _, rfl, iteNF rfl ?_⟩
  refine ⟨_, rfl, p1', dx1, _, rfl, f1.at_, rfl, _, _, cutP R i m, rfl, bv4, fun L1 ys1 H5 e5 hL1 pr1 => ?_⟩
  have e35 := e4.trans e5
  have hF5 := e35 _ _ hF3
  have rw5 := rw3.mono (exsm e35)
  refine ⟨F, .dT ks, hF5, trivial, fun od => ⟨_, rfl, F, od, rfl, .inr ⟨ks, upd_same, fun DA hDA => ?_⟩⟩⟩
  have wkA := walk_keysT (d := F) (o := od) (kvs := ks)
  rw [lk] at wkA
  have wkA2 : Walk (Itkt F od ks) P.length (fun H' => H' F = some (.frz od (.dT ks))) _ := wkA
  refine lc_of (us := P) wkA2 (fun u => decide (u.1.getD i 0 ≤ m)) (fun u y H' => PairAt2 Y H' y u) hDA (by omega) (fun H2 e => e _ _ upd_same) (fun _ _ _ _ e h => h.mono e) (fun _ _ _ _ _ hD h => pair_upd hD h) ?_ ?_
  · rintro j u x Ha Hb Kq N hu' e _ ⟨rfl, kx, vx, q, hk, rfl, hq⟩ hk2 hn2
    obtain ⟨t', ht, e1', rv⟩ := pr_getL rw5 hk
    obtain rfl : t' = u := Option.some.inj (ht.symm.trans hu')
    have e1' : kx = kk t'.1 := e1'
    rw [e1'] at hq
    have mu := List.mem_of_getElem? hu'
    have hq0 := hq
    rw [kk_kV] at hq0
    obtain ⟨n, hn⟩ := get_lt (l := t'.1) (i := i) (by rw [po.len t' mu]; exact hi)
    have gd : t'.1.getD i 0 = n := by rw [List.getD_eq_getElem?_getD, hn]; rfl
    obtain ⟨v2, kn, rv2⟩ := (rows_val (c := t'.1) rw5).1 t'.2 (pget_some po.nd mu)
    refine ⟨rfl, _, rfl, _, rfl, q, _, _, _, rfl, rfl, st_of hq0, atI_nat (kvs_at hn), _, rfl, _, _, rfl, rfl, _, rfl, ?_⟩
    by_cases hc' : n ≤ m
    · refine iteDT (show (n : Int) ≤ (m : Int) by omega) ?_
      have gg := dget_rd (a := F) (b := q) (k := kk t'.1) (kvs := ks) (H := Hb) (.inr ⟨od, e _ _ upd_same⟩) hq
      rw [kn] at gg
      refine ⟨_, rfl, _, rfl, _, rfl, F, v2, rfl, gg, l2, fun T0 hT => hk2 (decide_eq_true (by rw [gd]; exact hc')) _ _ (Ex.new hT) ⟨T0, q, v2, rfl, upd_same, (Ex.new hT) _ _ hq0, ?_⟩⟩
      exact (rv2.mono ((Sm.lock od hF5).trans (exsm e))).mono (exsm (Ex.new hT))
    · exact iteDF (show ¬ ((n : Int) ≤ (m : Int)) by omega) (hn2 (decide_eq_false (by rw [gd]; exact hc')) _ (Ex.refl _))
  intro ydA HdA edA hdA prdA
  obtain ⟨huA, exA⟩ := ex_unlock hF5 edA
  have DnA : DA ≠ F := fun z => by rw [z, huA] at hdA; cases hdA
  obtain ⟨kdA, pdA, rdA⟩ := rows_pairs (Paired.mapP prdA fun _ _ z => pair_frz (k' := ks) huA z)
  refine ⟨huA, DA, _, kdA, rfl, sq_of (by rw [upd_ne DnA]; exact hdA), keys_nodup_rows rdA (poP.filter _).ok.nd, pdA, fun FdA hFdA => ?_⟩
  have efA := exA.trans (Ex.new (o := HO.dT kdA) hFdA)
  have rfA := rdA.mono (exsm (Ex.new (o := HO.dT kdA) hFdA))
  refine ⟨cs.length, FdA, kdA, cutP P i m, rfl, upd_same, rfA, (poP.cut i m).ok, fun L2' ys2 S Ht et hL2 pr2 pmS riS => ?_⟩
  have eqS : S = cutP R i m := rise_perm (pmS.trans (cut_perm i m pm).symm) riS (cut_rise i m ri)
  rw [eqS, pos_filter poC.pos] at pr2
  have e5t := efA.trans et
  refine ⟨dlist_of (P := cutP R i m) (e5t _ _ hL1) hL2 (Paired.mapP pr1 fun _ _ z => z.mono e5t) pr2, fun H6 e6 => ⟨_, rfl, iteF ?_⟩⟩
  have e46 := e5.trans (e5t.trans e6)
  have e36 := e4.trans e46
  have hF6 := e36 _ _ hF3
  have rw6 := rw3.mono (exsm e36)
  refine ⟨_, rfl, p, dx3, _, rfl, e36 _ _ f3.at_, _, _, R, rfl, bv3.mono e36, ?_⟩
  refine ⟨F, .dT ks, hF6, trivial, fun od => ⟨_, rfl, F, od, rfl, .inr ⟨ks, upd_same, fun DB hDB => ?_⟩⟩⟩
  have wkB := walk_keysT (d := F) (o := od) (kvs := ks)
  rw [lk] at wkB
  have wkB2 : Walk (Itkt F od ks) P.length (fun H' => H' F = some (.frz od (.dT ks))) _ := wkB
  refine lc_of (us := P) wkB2 (fun u => decide (m < u.1.getD i 0)) (fun u y H' => PairAt2 Y H' y u) hDB (by omega) (fun H2 e => e _ _ upd_same) (fun _ _ _ _ e h => h.mono e) (fun _ _ _ _ _ hD h => pair_upd hD h) ?_ ?_
  · rintro j u x Ha Hb Kq N hu' e _ ⟨rfl, kx, vx, q, hk, rfl, hq⟩ hk2 hn2
    obtain ⟨t', ht, e1', rv⟩ := pr_getL rw6 hk
    obtain rfl : t' = u := Option.some.inj (ht.symm.trans hu')
    have e1' : kx = kk t'.1 := e1'
    rw [e1'] at hq
    have mu := List.mem_of_getElem? hu'
    have hq0 := hq
    rw [kk_kV] at hq0
    obtain ⟨n, hn⟩ := get_lt (l := t'.1) (i := i) (by rw [po.len t' mu]; exact hi)
    have gd : t'.1.getD i 0 = n := by rw [List.getD_eq_getElem?_getD, hn]; rfl
    obtain ⟨v2, kn, rv2⟩ := (rows_val (c := t'.1) rw6).1 t'.2 (pget_some po.nd mu)
    refine ⟨rfl, _, rfl, _, rfl, q, _, _, _, rfl, rfl, st_of hq0, atI_nat (kvs_at hn), _, rfl, _, _, rfl, rfl, _, rfl, ?_⟩
    by_cases hc' : m < n
    · refine iteDT (show (m : Int) < (n : Int) by omega) ?_
      have gg := dget_rd (a := F) (b := q) (k := kk t'.1) (kvs := ks) (H := Hb) (.inr ⟨od, e _ _ upd_same⟩) hq
      rw [kn] at gg
      refine ⟨_, rfl, _, rfl, _, rfl, F, v2, rfl, gg, l2, fun T0 hT => hk2 (decide_eq_true (by rw [gd]; exact hc')) _ _ (Ex.new hT) ⟨T0, q, v2, rfl, upd_same, (Ex.new hT) _ _ hq0, ?_⟩⟩
      exact (rv2.mono ((Sm.lock od hF6).trans (exsm e))).mono (exsm (Ex.new hT))
    · exact iteDF (show ¬ ((m : Int) < (n : Int)) by omega) (hn2 (decide_eq_false (by rw [gd]; exact hc')) _ (Ex.refl _))
  intro ydB HdB edB hdB prdB
  obtain ⟨huB, exB⟩ := ex_unlock hF6 edB
  have DnB : DB ≠ F := fun z => by rw [z, huB] at hdB; cases hdB
  obtain ⟨kdB, pdB, rdB⟩ := rows_pairs (Paired.mapP prdB fun _ _ z => pair_frz (k' := ks) huB z)
  refine ⟨huB, DB, _, kdB, rfl, sq_of (by rw [upd_ne DnB]; exact hdB), keys_nodup_rows rdB (poP.filter _).ok.nd, pdB, fun FdB hFdB => ?_⟩
  have efB := exB.trans (Ex.new (o := HO.dT kdB) hFdB)
  have rfB := rdB.mono (exsm (Ex.new (o := HO.dT kdB) hFdB))
  refine ⟨cs, FdB, kdB, moreP P i m, d, 2520, 75600, rfl, lok, upd_same, rfB, poP.filter _, fun v2 Rg H7 e7' bv7 pmG riG => ?_⟩
  have e7 := efB.trans e7'
  have e47 := e46.trans e7
  have e37 := e36.trans e7
  have bv47 := bv4.mono e47
  obtain ⟨pG, dG, tG, dxG, BG, topsG, rfl, fG⟩ := id bv7
  have pmU : (cutP R i m ++ Rg).Perm R := ((cut_perm i m pm).append pmG).trans ((part_perm P i m).trans pm.symm)
  have poU := poR.of_perm pmU
  refine ⟨_, rfl, _, rfl, p1', pG, dx1, dxG, _, _, rfl, rfl, e47 _ _ f1.at_, fG.at_, _, _, cs, cutP R i m, Rg, rfl, bv47, bv7, lok, poU.ok, poU.pf, hash_nodup poC, fun h1 h2 => degV_of poC ((poP.filter _).of_perm pmG) h1 h2, fun v8 P8 H8 e8 bv8 pm8 ri8 => ?_⟩
  have q8 : P8 = R := rise_perm (pm8.trans pmU) ri8 ri
  rw [q8] at bv8
  have e38 := e37.trans e8
  refine ⟨_, rfl, bneV bv8 (bv3.mono e38) poR.ok.nd ⟨_, rfl, iteF ?_⟩⟩
  refine ⟨_, rfl, _, rfl, _, rfl, rfl, cut_call (bv3.mono e38) lok hc ri poR ms fun v9 H9 e9 bv9 => ?_⟩
  have e89 := e8.trans e9
  refine ⟨_, rfl, bneV bv9 (bv47.mono e89) poC.ok.nd ⟨_, rfl, iteF ?_⟩⟩
  refine ⟨_, rfl, _, rfl, _, rfl, cut_call (bv47.mono e89) lok hc (cut_rise i m ri) poC ms fun v10 H10 e10 bv10 => ?_⟩
  rw [cut_self] at bv10
  have e710 := e89.trans e10
  refine ⟨_, rfl, bneV bv10 (bv47.mono e710) poC.ok.nd ⟨_, rfl, iteF ?_⟩⟩
  refine ⟨_, rfl, _, rfl, cut_call (m := 0) (bv47.mono e710) lok hc (cut_rise i m ri) poC ms fun v11 H11 e11 bv11 => ?_⟩
  rw [cut_nought] at bv11
  have po0 := poR.cut i 0
  obtain ⟨pL, dL, tL, dxL, BL, topsL, rfl, fL⟩ := id bv11
  refine ⟨_, rfl, _, rfl, pL, dxL, _, rfl, fL.at_, rfl, _, cs, cutP R i 0, rfl, bv11, by omega, po0.ok.len, by have := po0.ok.few; omega, fun ds H12 e12 hds => ⟨_, _, rfl, rfl, _, rfl, ?_⟩⟩
  have hz : (!(Builtin.Str.occurrences (SX.S ds) (SX.S [c]) 0 (SX.S ds).length 1).isEmpty) = false := by
    rw [SX.in_one]
    refine decide_eq_false fun hm => ?_
    obtain ⟨i', hi', st⟩ := hds c hm
    rw [ls_inj lok hi' hc, cut_stand] at st
    cases st
  refine iteB hz ?_
  have e712 := (e710.trans e11).trans e12
  have e312 := e37.trans e712
  refine ⟨_, rfl, _, rfl, _, rfl, cut_call (m := 0) (bv3.mono e312) lok hc ri poR ms fun v13 H13 e13 bv13 => ?_⟩
  refine bneV (bv11.mono (e12.trans e13)) bv13 po0.ok.nd ⟨_, rfl, iteF ?_⟩
  have e313 := e312.trans e13
  refine ⟨_, rfl, _, rfl, _, _, rfl, rfl, ⟨by decide, by decide, by decide⟩, cut_call (m := 10 ^ 20) (bv3.mono e313) lok hc ri poR ms fun v14 H14 e14 bv14 => ?_⟩
  rw [cut_all poR i (by decide)] at bv14
  have e314 := e313.trans e14
  refine ⟨_, rfl, bneV bv14 (bv3.mono e314) poR.ok.nd ⟨_, rfl, iteF ?_⟩⟩
  have p14 := p3.mono e314
  have b414 := bv47.mono ((e712.trans e13).trans e14)
  refine ⟨_, rfl, _, rfl, p, dx3, _, rfl, e314 _ _ f3.at_, _, _, R, rfl, bv3.mono e314, l, _, rfl, p14, .inr ⟨cs, rfl, lok, fun j c2 H15 hj e15 p15 => ?_⟩⟩
  have bA := BlendV.ex p14 e15 (bv3.mono e314)
  have bB := BlendV.ex p14 e15 b414
  refine ⟨_, rfl, _, rfl, cut_call (m := 1) bA lok hj ri poR ms fun v16 H16 e16 bv16 => ?_⟩
  refine ⟨_, rfl, _, rfl, cut_call bv16 lok hc (cut_rise j 1 ri) (poR.cut j 1) ms fun v17 H17 e17 bv17 => ?_⟩
  refine ⟨_, rfl, _, rfl, cut_call (m := 1) (bB.mono (e16.trans e17)) lok hj (cut_rise i m ri) poC ms fun v18 H18 e18 bv18 => ?_⟩
  rw [cut_comm R j 1 i m] at bv17
  refine beqV (bv17.mono e18) bv18 (poC.cut j 1).ok.nd ?_
  have eE := (e16.trans e17).trans e18
  exact k H18 (((e3.ex e314).trans e15).ex eE) (p15.mono eE)

end Km
end

section
set_option Elab.async false
set_option linter.all false
set_option maxRecDepth 100000
set_option maxHeartbeats 4000000
namespace Km
open PySem PySem.Spec PyProof.Rows L2 Evl
open C8 (fn0 fnScope_by Cal Mak Met pe_c pe_mk pe_mt pe_mt0 pe_gc fnScope fnBody fnArgs)
variable {Y : Yc}


/-- the five strings of letters -/
def lsts : List (List Nat) := [[97], [97, 98], [97, 98, 99], [98, 100, 102, 122], [120, 121, 122]]
theorem ls_of {cs : List Nat} (h1 : 1 ≤ cs.length) (h2 : cs.length ≤ 4) (h3 : ∀ c ∈ cs, 97 ≤ c ∧ c ≤ 122) (h4 : cs.Pairwise (· < ·)) : LsOk cs := by
  refine ⟨h1, h2, h3, fun i a b ha hb => ?_⟩
  obtain ⟨l1, e1⟩ := List.getElem?_eq_some_iff.mp ha
  obtain ⟨l2, e2⟩ := List.getElem?_eq_some_iff.mp hb
  rw [← e1, ← e2]
  exact List.pairwise_iff_getElem.mp h4 i (i + 1) l1 l2 (by omega)
theorem lsts_ok : ∀ cs ∈ lsts, LsOk cs := by
  intro cs h
  have : 1 ≤ cs.length ∧ cs.length ≤ 4 ∧ (∀ c ∈ cs, 97 ≤ c ∧ c ≤ 122) ∧ cs.Pairwise (· < ·) := by
    revert cs
    decide
  exact ls_of this.1 this.2.1 this.2.2.1 this.2.2.2
theorem lsts_str : ([V.str "a", V.str "ab", V.str "abc", V.str "bdfz", V.str "xyz"] : List V) = lsts.map fun cs => V.str (SX.S cs) := by
  have e1 : ("a" : Str) = SX.S [97] := by decide +kernel
  have e2 : ("ab" : Str) = SX.S [97, 98] := by decide +kernel
  have e3 : ("abc" : Str) = SX.S [97, 98, 99] := by decide +kernel
  have e4 : ("bdfz" : Str) = SX.S [98, 100, 102, 122] := by decide +kernel
  have e5 : ("xyz" : Str) = SX.S [120, 121, 122] := by decide +kernel
  rw [e1, e2, e3, e4, e5]
  rfl
/-- the empty tuple of the text -/
structure KTup (Y : Yc) (e : Addr) : Prop where
  ex : ∃ o, Y.K.lookup e = some o ∧ o.cls = .type "tuple"
  sq : ∀ H, SqT Y.K H e []
theorem poly_nil {n : Nat} (n1 : 1 ≤ n) (n4 : n ≤ 4) : PolyOk n 0 [] 1 1 :=
  ⟨⟨List.nodup_nil, fun _ h => (List.not_mem_nil h).elim, fun _ h => (List.not_mem_nil h).elim, by decide, n1⟩, fun _ h => (List.not_mem_nil h).elim, by decide, n4, fun _ h => (List.not_mem_nil h).elim, fun _ h => (List.not_mem_nil h).elim, by decide, Nat.one_lt_two_pow (by decide), lt4 (by decide)⟩
theorem ent_nil {e0 : Addr} (h : KTup Y e0) {n : Nat} (n1 : 1 ≤ n) (n4 : n ≤ 4) (H : Hp) : EntOk Y H n (.ref e0) (fun P' => P'.Perm [] ∧ Rise P') := by
  obtain ⟨o, h1, h2⟩ := h.ex
  exact EntOk.seq (S := .tup e0) (xs := []) (U := []) (dg := 0) (h.sq H) (.inr ⟨e0, o, rfl, h1, h2⟩) .nil (poly_nil n1 n4).ok (fun _ h => (List.not_mem_nil h).elim) (by decide) (fun _ h => (List.not_mem_nil h).elim) (by omega)
theorem l5 : (5 : Nat) ≤ sizeLine := by decide
theorem at_last {cs : List Nat} {c : Nat} (h1 : 1 ≤ cs.length) (h : cs[cs.length - 1]? = some c) : atI cs (-1) = some c := by
  unfold atI ixN
  rw [if_neg (by decide), if_pos (by omega)]
  have e : (-1 + (cs.length : Int)).toNat = cs.length - 1 := by omega
  show cs[(-1 + (cs.length : Int)).toNat]? = some c
  rw [e]
  exact h
theorem rep_kvs1 : ∀ n : Nat, (List.replicate n [V.int 1]).flatten = kvs (List.replicate n 1)
  | 0 => rfl
  | n + 1 => by
    show V.int 1 :: (List.replicate n [V.int 1]).flatten = V.int 1 :: kvs (List.replicate n 1)
    rw [rep_kvs1 n]
theorem numL_one {H : Hp} : ∀ n : Nat, NumL Y H (kvs (List.replicate n 1)) (List.replicate n 1)
  | 0 => .nil
  | n + 1 => .cons (.inl ⟨1, rfl, rfl⟩) (numL_one n)
theorem one_ok {n : Nat} : ∀ q ∈ List.replicate n (1 : Rat), 0 ≤ q ∧ Fit 1 1 q := fun q hq => fit_01 (.inr (List.mem_replicate.mp hq).2)
theorem AlongOut.none {n : Nat} {P R : Poly} {qs : List Rat} {D M : Nat} (h : AlongOut n 0 P qs R D M) : R = [] := by
  cases R with
  | nil => rfl
  | cons t R =>
    have := h.deg t (List.mem_cons_self ..)
    omega
theorem new_blendK {H : Hp} {x dx : Addr} {K : VK} {cs : List Nat} {e0 : V} {G : Poly → Prop} (hx : H x = none) (hdx : H dx = none) (ne : dx ≠ x) (lok : LsOk cs) (ent : EntOk Y H cs.length e0 G) (fit : ∀ P', G P' → PFit P')
    (k : ∀ P' H', Ex H H' → BlendV Y H' (.ref x) (SX.S cs) P' → G P' → K .non H') : sp_Blend Y [.ref x, .str (SX.S cs), e0] (upd (upd H dx (.own x)) x (.ins Y.CB dx [])) K C8.E0 := by
  have up : ∀ H1, ExB x (upd (upd H dx (.own x)) x (.ins Y.CB dx [])) H1 → Ex H H1 := fun H1 b a o q => by
    have n1 : a ≠ x := fun z => by rw [z, hx] at q; cases q
    have n2 : a ≠ dx := fun z => by rw [z, hdx] at q; cases q
    exact b a o n1 (by rw [upd_ne n1, upd_ne n2]; exact q)
  exact ⟨x, dx, cs, e0, G, rfl, upd_same, lok, fun H1 b => ent.mono (up H1 b), fit, fun P' H' b bv g => k P' H' (up H' b) bv g⟩
variable {e0 : Addr}
def sp__law_right (Y : Yc) : Sp := fun vs H Q _ => ∃ l, vs = [.ref l] ∧ PotAt H l ∧ ∀ H', Q (.bl true) H'
def sp_law (Y : Yc) : Sp := fun vs H Q _ => ∃ (a : Addr) (ns : List Int), vs = [.ref a] ∧ SqL Y.K H a (ns.map V.int) ∧ ∀ H', Q (.bl true) H'

abbrev st__law_right : Stmt := top 109
theorem ok__law_right {f : Addr} {fd : FuncData} (F : C8.Fun Y.K "_law_right" "_law_right" st__law_right f fd) (T : TxtY Y) (c__law_along_right : CalY Y 13 "_law_along_right" (sp__law_along_right Y) []) (c__law_blend : CalY Y 8 "_law_blend" (sp__law_blend Y) []) (c__law_cut_right : CalY Y 13 "_law_cut_right" (sp__law_cut_right Y) []) (c__law_draw : CalY Y 1 "_law_draw" (sp__law_draw Y) []) (c__law_parts : CalY Y 6 "_law_parts" (sp__law_parts Y) []) (c__law_pick : CalY Y 2 "_law_pick" (sp__law_pick Y) []) (c__law_told : CalY Y 3 "_law_told" (sp__law_told Y) []) (c_along_numbers : CalY Y 11 "along_numbers" (sp_along_numbers Y) []) (c_cut : CalY Y 10 "cut" (sp_cut Y) []) (m_Blend1 : MakY Y 6 "Blend" Y.CB (sp_Blend Y) [.ref e0]) (p_is_nought : PrpY Y 1 Y.CB "is_nought" (sp_is_nought Y)) (q_req : EqnY Y 1 Y.CR (sp_req Y)) (t_entries : MetY Y 1 Y.CB "entries" (sp_entries Y)) (hE : KTup Y e0) : FnOk Y.P Y.w Y.K Y.mg Y.base C8.CX0 14 f fd ["_law_pot_here"] (sp__law_right Y) := by
  have S : FnScope ["_law_pot_here", "_law_letters_now", "_law_parts_here", "_law_one", "_law_none"] ["_law_pot_here"] (fnScope st__law_right) := fnScope_by (by decide +kernel)
  have nd := S.nd
  refine fn0 F S (fun vs H Q E h => ?_) (fun cdv A outer s H vs Q E hr h => ?_)
  · obtain ⟨_, rfl, _⟩ := h; rfl
  refine ⟨_, (pss_cons (ps_set (i := 1) nd rfl (Or.inl rfl) (pe_c c__law_pick hr (by decide) rfl (pa_cons (pv 0) (pa_cons (pe_lst (pa_cons pe_str (pa_cons pe_str (pa_cons pe_str (pa_cons pe_str (pa_cons pe_str pa_nil)))))) pa_nil))))
    (pss_cons (ps_set (i := 2) nd rfl (Or.inl rfl) (pe_c c__law_parts hr (by decide) rfl (pa_cons (pv 0) (pa_cons (pe_callB call_len rfl T.n_len boot_len (pa_cons (pv 1) pa_nil)) (pa_cons (pe_c c__law_draw hr (by decide) rfl (pa_cons (pv 0) (pa_cons pe_int pa_nil))) (pa_cons pe_int pa_nil))))))
    (pss_cons (ps_set (i := 3) nd rfl (Or.inl rfl) (pe_c c__law_blend hr (by decide) rfl (pa_cons (pv 1) (pa_cons (pv 2) pa_nil))))
    (pss_cons (ps_if (PW.pt (pw_or (pt_not (pt_val (pe_c c__law_along_right hr (by decide) rfl (pa_cons (pv 0) (pa_cons (pv 3) (pa_cons (pv 2) pa_nil)))))) (pw_or1 (pt_not (pt_val (pe_c c__law_cut_right hr (by decide) rfl (pa_cons (pv 0) (pa_cons (pv 3) (pa_cons (pv 2) pa_nil))))))))) (pss_one (ps_ret pe_bl)) pss_nil)
    (pss_cons (ps_set (i := 4) nd rfl (Or.inl rfl) (pe_mk m_Blend1 hr (by decide) rfl (pa_cons (pv 1) pa_nil)))
    (pss_cons (ps_if (PW.pt (pw_or (pt_not (pt_val (pe_pr p_is_nought hr (by decide) (pe_c c_along_numbers hr (by decide) rfl (pa_cons (pv 4) (pa_cons (pe_op op_rep (pe_lst (pa_cons pe_int pa_nil)) (pe_callB call_len rfl T.n_len boot_len (pa_cons (pv 1) pa_nil))) pa_nil))) rfl))) (pw_or1 (pt_not (pt_val (pe_pr p_is_nought hr (by decide) (pe_c c_cut hr (by decide) rfl (pa_cons (pv 4) (pa_cons (pe_ix ix_str (pv 1) (pe_un un_neg pe_int) (fun _ _ => rfl)) (pa_cons pe_int pa_nil)))) rfl)))))) (pss_one (ps_ret pe_bl)) pss_nil)
    (pss_one (ps_ret (pe_cmpR (op_eqP (Y := Y) hr (by decide) rfl q_req) (pe_mt0 t_entries hr (by decide) (pv 3)) (pe_c c__law_told hr (by decide) rfl (pa_cons (pv 2) pa_nil)) (nomark _)))))))))), ?_⟩
  obtain ⟨l, rfl, pt, k⟩ := h
  refine ⟨_, rfl, ?_⟩
  refine ⟨l5, fun A0 hA => ?_⟩
  have eA := Ex.new (o := HO.lst [V.str "a", V.str "ab", V.str "abc", V.str "bdfz", V.str "xyz"]) hA
  have ptA := pt.mono eA
  have Al : A0 ≠ l := pt.ne hA
  refine ⟨l, .ref A0, rfl, ptA, .inl ⟨A0, _, rfl, Al, upd_same, by decide, by decide, fun i y H1 hy e1 p1 => ?_⟩⟩
  rw [lsts_str, List.getElem?_map] at hy
  cases hcs : lsts[i]? with
  | none => rw [hcs] at hy; cases hy
  | some cs =>
  rw [hcs] at hy
  obtain rfl : y = .str (SX.S cs) := (Option.some.inj hy).symm
  have lok := lsts_ok cs (List.mem_of_getElem? hcs)
  have n4 := lok.le
  have n1 := lok.pos
  have sl : (SX.S cs).length ≤ sizeLine := sz_small (Nat.le_trans n4 (by decide))
  refine ⟨_, rfl, _, rfl, _, cs.length, rfl, ⟨sl, rfl⟩, _, rfl, l, 6, rfl, p1, by decide, by decide, fun d H2 hd e2 p2 => ?_⟩
  refine ⟨l, cs.length, d, rfl, p2, n1, n4, by omega, fun F ks P H3 e3 p3 hF rw0 po lP nP => ?_⟩
  have poP : PolyOk cs.length d P 2520 75600 := po.poly lP n1 n4 (by omega)
  refine ⟨_, rfl, _, rfl, cs, F, ks, P, d, 2520, 75600, rfl, lok, hF, rw0, poP, fun v R H4 e4 bv pm ri => ?_⟩
  have p4 := p3.mono e4
  have Fl : F ≠ l := p3.dT hF
  refine ⟨_, rfl, _, rfl, _, rfl, l, F, v, cs, ks, P, R, d, rfl, p4, lok, n4, bv, e4 _ _ hF, rw0.mono (exsm e4), po, lP, nP, by omega, pm, ri, fun H5 e5 p5 => ⟨_, rfl, iteF ?_⟩⟩
  have bv5 := BlendV.ex p4 e5 bv
  have hF5 := e5 _ _ Fl (e4 _ _ hF)
  have rw5 := rows_ex p4 e5 (rw0.mono (exsm e4))
  refine ⟨_, rfl, _, rfl, _, rfl, l, F, v, cs, ks, P, R, d, rfl, p5, lok, n4, bv5, hF5, rw5, po, lP, by omega, pm, ri, fun H6 e6 p6 => ⟨_, rfl, iteF ?_⟩⟩
  have bv6 := BlendV.ex p5 e6 bv5
  have hF6 := e6 _ _ Fl hF5
  have rw6 := rows_ex p5 e6 rw5
  refine ⟨_, rfl, ?_⟩
  intro x dx hx hdx ne
  refine new_blendK hx hdx ne lok (ent_nil hE n1 n4 _) (fun P' g => by rw [g.1.eq_nil]; exact (poly_nil n1 n4).pf) fun P0 H7 e7 bv7 g7 => ⟨rfl, ?_⟩
  have q7 : P0 = [] := g7.1.eq_nil
  rw [q7] at bv7
  have pn := poly_nil n1 n4
  refine ⟨_, rfl, l1, fun A1 hA1 => ⟨_, rfl, _, cs.length, rfl, ⟨sl, rfl⟩, A1, (cs.length : Int), [V.int 1], rfl, rfl, upd_same, by omega, by omega, sz_small (show 1 * (cs.length : Int).toNat ≤ 1000 by omega), fun Fz hFz => ?_⟩⟩
  rw [Int.toNat_natCast, rep_kvs1]
  have e78 := (Ex.new (o := HO.lst [V.int 1]) hA1).trans (Ex.new (o := HO.lst (kvs (List.replicate cs.length 1))) hFz)
  refine al_call (bv7.mono e78) lok ⟨Fz, rfl, .inl upd_same, numL_one cs.length⟩ (qs := List.replicate cs.length 1) (List.length_replicate ..) (E := 1) (N := 1) one_ok pn ⟨by decide, lt4 (by decide), lt4 (by decide), lt4 (by decide), lt4 (by decide)⟩ fun v9 R9 H9 e9 bv9 a9 => ?_
  have q9 : R9 = [] := a9.none
  rw [q9] at bv9
  obtain ⟨p9, d9, t9, dx9, B9, tops9, rfl, f9⟩ := id bv9
  refine ⟨p9, dx9, _, rfl, f9.at_, _, _, [], rfl, bv9, _, rfl, iteF ?_⟩
  have e79 := e78.trans e9
  obtain ⟨c, hc⟩ := get_lt (l := cs) (i := cs.length - 1) (by omega)
  refine ⟨_, rfl, _, rfl, 1, rfl, _, _, c, rfl, rfl, sl, at_last n1 hc, cut_call (m := 0) (bv7.mono e79) lok hc List.Pairwise.nil pn (lt4 (by decide)) fun v10 H10 e10 bv10 => ?_⟩
  have q10 : cutP [] (cs.length - 1) 0 = [] := rfl
  rw [q10] at bv10
  obtain ⟨p10, d10, t10, dx10, B10, tops10, rfl, f10⟩ := id bv10
  refine ⟨p10, dx10, _, rfl, f10.at_, _, _, [], rfl, bv10, _, rfl, iteF ?_⟩
  have e610 := e7.trans (e79.trans e10)
  have bvE := bv6.mono e610
  obtain ⟨pE, dE, tE, dxE, BE, topsE, rfl, fE⟩ := id bvE
  refine ⟨_, rfl, pE, dxE, _, rfl, fE.at_, rfl, _, _, R, rfl, bvE, fun L1 ys1 H11 e11 hL1 pr1 => ?_⟩
  have e611 := e610.trans e11
  refine ⟨_, rfl, cs.length, F, ks, P, rfl, e611 _ _ hF6, rw6.mono (exsm e611), poP.ok, fun L2' ys2 S H12 e12 hL2 pr2 pmS riS => ?_⟩
  have eqS : S = R := rise_perm (pmS.trans pm.symm) riS ri
  rw [eqS, pos_filter (poP.of_perm pm).pos] at pr2
  exact ⟨dlist_of (P := R) (e12 _ _ hL1) hL2 (Paired.mapP pr1 fun _ _ z => z.mono e12) pr2, fun H13 e13 => k H13⟩
abbrev st_law : Stmt := top 110
theorem ok_law {f : Addr} {fd : FuncData} (F : C8.Fun Y.K "law" "law" st_law f fd) (T : TxtY Y) (c__law_pot : CalY Y 1 "_law_pot" (sp__law_pot Y) []) (c__law_right : CalY Y 14 "_law_right" (sp__law_right Y) []) : FnOk Y.P Y.w Y.K Y.mg Y.base C8.CX0 15 f fd ["_law_script"] (sp_law Y) := by
  have S : FnScope ["_law_script"] ["_law_script"] (fnScope st_law) := fnScope_by (by decide +kernel)
  have nd := S.nd
  refine fn0 F S (fun vs H Q E h => ?_) (fun cdv A outer s H vs Q E hr h => ?_)
  · obtain ⟨_, _, rfl, _⟩ := h; rfl
  refine ⟨_, (pss_one (ps_ret (pe_c c__law_right hr (by decide) rfl (pa_cons (pe_c c__law_pot hr (by decide) rfl (pa_cons (pv 0) (pa_cons pe_int pa_nil))) pa_nil)))), ?_⟩
  obtain ⟨a, ns, rfl, sq, k⟩ := h
  refine ⟨_, rfl, a, ns, rfl, sq, fun p H' e pt => ?_⟩
  exact ⟨p, rfl, pt, k⟩

end Km
end

section
set_option Elab.async false
set_option linter.all false
set_option maxRecDepth 100000
set_option maxHeartbeats 4000000
namespace Km
open PySem PySem.W PySem.Calls PyProof.Rows
open He (ga ma eqO eqO_ok Fa frG frG_in refV)
open He5 (DefA fnA obsA valA)
/-! ### what the facts say -/
theorem clB_ok {K : Frag} {C : Addr} (c : L2.Cls K C) (h : clB K C = true) : ClT K C := by
  unfold clB at h
  simp only [Bool.and_eq_true, decide_eq_true_eq] at h
  obtain ⟨h1, h2, h3, h4, h5, h6, h7, h8, h9, h10, h11, h12⟩ := h
  exact ⟨c, eqO_ok h1, eqO_ok h2, h3, h4, h5, h6, h7, h8, h9, h10, h11, h12⟩
theorem opB_ok {K : Frag} {C : Addr} {m : PySem.Str} {nm : String} (e : PySem.dunder nm = m) (h : opB K C m = true) : OpK K C (ma K C m) nm := by
  subst e
  unfold opB at h
  simp only [Bool.and_eq_true] at h
  obtain ⟨h1, h2, h3⟩ := h
  exact ⟨h1, eqO_ok h2, h3⟩
theorem opRB_ok {K : Frag} {C : Addr} {m r : PySem.Str} {nm : String} (e : PySem.dunder nm = m) (er : dunderR nm = r) (fi : fillsNumberSlot (.type "int") nm = pure true) (h : opB K C m = true) (h2 : opRB K C r = true) : OpKI K C (ma K C m) nm := by
  have o := opB_ok e h
  subst er
  unfold opRB at h2
  simp only [Bool.and_eq_true, decide_eq_true_eq] at h2
  obtain ⟨h1, h3, h4⟩ := h2
  exact ⟨o, ⟨_, eqO_ok h1⟩, Option.isSome_iff_exists.mp h3, fi, h4⟩
theorem prB_ok {K : Frag} {C m : PySem.Str} (h : prB K C m = true) : L2.PropOf K (ga K C) m (ma K (ga K C) m) (gt K C m) := by
  unfold prB at h
  simp only [Bool.and_eq_true, decide_eq_true_eq] at h
  obtain ⟨h1, h2, h3, h4⟩ := h
  refine ⟨eqO_ok h1, eqO_ok h2, h3, ?_⟩
  unfold gt
  split at h4
  · rename_i g r e
    rw [e]
    exact ⟨r, rfl⟩
  · cases h4
theorem etB_ok {K : Frag} (h : etB K = true) : (∃ o, K.lookup (e0K K) = some o ∧ o.cls = .type "tuple") ∧ ∀ H, L2.SqT K H (e0K K) [] := by
  unfold etB at h
  split at h
  · rename_i c d its n sl e
    obtain ⟨h1, h2⟩ := Bool.and_eq_true_iff.mp h
    have h1 := of_decide_eq_true h1
    subst h1
    have h2 := List.isEmpty_iff.mp h2
    refine ⟨⟨_, e, rfl⟩, fun H => .inr ⟨_, its, n, e, rfl, rfl, ?_, ?_⟩⟩
    · have : its.size = 0 := by rw [← Array.length_toList, h2]; rfl
      rw [this]
      exact Nat.zero_le _
    · rw [h2]
      exact .nil
  · cases h
end Km
end

section
set_option Elab.async false
set_option linter.all false
set_option maxRecDepth 100000
set_option maxHeartbeats 0
namespace Km
open PySem PySem.W PySem.Calls PyProof.Rows
open He (ga ma Fa)
open He5 (DefA)
theorem c8fun {K : Frag} {x qual : PySem.Str} {st : Stmt} {f : Addr} {fd : FuncData} {dvs : List L2.V} {kws : List (PySem.Str × L2.V)} (F : L2.FunD K x qual (C8.fnArgs st) (C8.fnBody st) (C8.fnScope st) dvs kws f fd) : C8.Fun K x qual st f fd := by
  obtain ⟨oc, od, dV, kV, doc, pm, an, cdv, ct, osl, e, l, c, _, _⟩ := F.ex
  exact ⟨oc, od, dV, kV, doc, pm, an, cdv, ct, osl, e, l, c⟩
theorem kb0 {K : Frag} {x qual : PySem.Str} {params : Arguments} {body : List Stmt} {scope : Scope} {kws : List (PySem.Str × L2.V)} {f : Addr} {fd : FuncData} {ps ks : List PySem.Str} {g : List Value → List Value → List Value} {gV : List L2.V → List L2.V → List L2.V} (F : L2.FunD K x qual params body scope [] kws f fd)
    (rel : ∀ {vs : List L2.V} {us : List Value} {zs : List L2.V} {ws : List Value}, L2.Vals vs us → L2.Vals zs ws → L2.Vals (gV vs zs) (g us ws))
    (h : ∀ (kV doc pm : Value) (an : Option Addr) (cdv ct : Value) (us ws : List Value), us.length = 0 → ws.length = ks.length → bindArgs (fnOf x qual params body scope .none kV doc pm an cdv ct) ⟨us, ks.zip ws⟩ = pure (ps.zip (g us ws))) : L2.KBn K fd ps 0 ks g gV := by
  obtain ⟨oc, od, dV, kV, doc, pm, an, cdv, ct, osl, rfl, l, c, hd, _⟩ := F.ex
  rcases hd with ⟨_, rfl⟩ | ⟨e, _⟩
  · exact ⟨fun s us ws _ l1 l2 => .of_eq (h kV doc pm an cdv ct us ws l1 l2), rel⟩
  · exact absurd rfl e
theorem vget {zs : List L2.V} {ws : List Value} (r : L2.Vals zs ws) : ∀ i : Nat, L2.RelV (zs.getD i .non) (ws.getD i .none) := by
  induction r with
  | nil => intro i; cases i <;> exact rfl
  | cons h t ih =>
    intro i
    cases i with
    | zero => exact h
    | succ i => exact ih i
def YK (P : Program) (w : World) (K : Frag) (mg : PySem.Str → Option Value) (base : Heap) : Yc := ⟨P, w, K, mg, base, ga K "Ratio", ga K "Blend", ga K "Amounts"⟩
section
variable {P : Program} {w : World} {K : Frag} {mg : PySem.Str → Option Value} {base h : Heap}
theorem intc (X : K.In h) (G : h.Ns mainGlobals mg) {x : PySem.Str} {i : Int} (c : (Fa.int x i).ok K = true) : ∃ u, mg x = some u ∧ L2.RelV (.int i) u := by
  obtain ⟨t, e⟩ := He.int_ok X G c
  exact ⟨_, e, t, rfl⟩
theorem strc (X : K.In h) (G : h.Ns mainGlobals mg) {x z : PySem.Str} (c : (Fa.str x z).ok K = true) : ∃ u, mg x = some u ∧ L2.RelV (.str z) u := by
  obtain ⟨t, e⟩ := He.str_ok X G c
  exact ⟨_, e, t, rfl⟩
theorem txt (X : K.In h) (G : h.Ns mainGlobals mg) (c : SaysK fa fn ex K) : TxtY (YK P w K mg base) where
  n_isinstance := He.free_ok X G (c.a.fact 73 (f := .free "isinstance") (by kernel_rfl))
  n_int := He.free_ok X G (c.a.fact 74 (f := .free "int") (by kernel_rfl))
  n_bool := He.free_ok X G (c.a.fact 75 (f := .free "bool") (by kernel_rfl))
  n_str := He.free_ok X G (c.a.fact 76 (f := .free "str") (by kernel_rfl))
  n_list := He.free_ok X G (c.a.fact 77 (f := .free "list") (by kernel_rfl))
  n_tuple := He.free_ok X G (c.a.fact 78 (f := .free "tuple") (by kernel_rfl))
  n_dict := He.free_ok X G (c.a.fact 79 (f := .free "dict") (by kernel_rfl))
  n_len := He.free_ok X G (c.a.fact 80 (f := .free "len") (by kernel_rfl))
  n_abs := He.free_ok X G (c.a.fact 81 (f := .free "abs") (by kernel_rfl))
  n_sum := He.free_ok X G (c.a.fact 82 (f := .free "sum") (by kernel_rfl))
  n_all := He.free_ok X G (c.a.fact 83 (f := .free "all") (by kernel_rfl))
  n_any := He.free_ok X G (c.a.fact 84 (f := .free "any") (by kernel_rfl))
  n_max := He.free_ok X G (c.a.fact 85 (f := .free "max") (by kernel_rfl))
  n_divmod := He.free_ok X G (c.a.fact 86 (f := .free "divmod") (by kernel_rfl))
  n_sorted := He.free_ok X G (c.a.fact 87 (f := .free "sorted") (by kernel_rfl))
  n_range := He.free_ok X G (c.a.fact 88 (f := .free "range") (by kernel_rfl))
  n_zip := He.free_ok X G (c.a.fact 89 (f := .free "zip") (by kernel_rfl))
  n_enumerate := He.free_ok X G (c.a.fact 90 (f := .free "enumerate") (by kernel_rfl))
  R := clB_ok (He.cls_ok (c.a.fact 97 (f := .cls "Ratio") (by kernel_rfl))) (c.get 0 (f := fun K => clB K (ga K "Ratio")) (by kernel_rfl))
  k_Ratio := ⟨_, He.glo_ok X G (c.a.fact 70 (f := .glo "Ratio") (by kernel_rfl)), rfl⟩
  B := clB_ok (He.cls_ok (c.a.fact 98 (f := .cls "Blend") (by kernel_rfl))) (c.get 1 (f := fun K => clB K (ga K "Blend")) (by kernel_rfl))
  k_Blend := ⟨_, He.glo_ok X G (c.a.fact 71 (f := .glo "Blend") (by kernel_rfl)), rfl⟩
  A := clB_ok (He.cls_ok (c.a.fact 99 (f := .cls "Amounts") (by kernel_rfl))) (c.get 2 (f := fun K => clB K (ga K "Amounts")) (by kernel_rfl))
  k_Amounts := ⟨_, He.glo_ok X G (c.a.fact 72 (f := .glo "Amounts") (by kernel_rfl)), rfl⟩
  rTop := He.noat_ok (c.a.fact 105 (f := .noat "Ratio" "own_top") (by kernel_rfl))
  rBot := He.noat_ok (c.a.fact 106 (f := .noat "Ratio" "own_bottom") (by kernel_rfl))
  bL := He.noat_ok (c.a.fact 107 (f := .noat "Blend" "own_letters") (by kernel_rfl))
  bA := He.noat_ok (c.a.fact 108 (f := .noat "Blend" "own_amounts") (by kernel_rfl))
  bD := He.noat_ok (c.a.fact 109 (f := .noat "Blend" "own_degree") (by kernel_rfl))
  bB := He.noat_ok (c.a.fact 110 (f := .noat "Blend" "own_bottom") (by kernel_rfl))
  bT := He.noat_ok (c.a.fact 111 (f := .noat "Blend" "own_tops") (by kernel_rfl))
  aD := He.noat_ok (c.a.fact 112 (f := .noat "Amounts" "own_dict") (by kernel_rfl))
  c_MOST_LETTERS := intc X G (c.a.fact 91 (f := .int "MOST_LETTERS" 8) (by kernel_rfl))
  c_MOST_DEGREE := intc X G (c.a.fact 92 (f := .int "MOST_DEGREE" 8) (by kernel_rfl))
  c_MOST_ENTRIES_blends := intc X G (c.a.fact 93 (f := .int "MOST_ENTRIES_blends" 300) (by kernel_rfl))
  c_MOST_ENTRIES_changes := intc X G (c.a.fact 94 (f := .int "MOST_ENTRIES_changes" 300) (by kernel_rfl))
  c_MOST_WAY := intc X G (c.a.fact 95 (f := .int "MOST_WAY" 8) (by kernel_rfl))
  c_SMALL := strc X G (c.a.fact 96 (f := .str "SMALL" "abcdefghijklmnopqrstuvwxyz") (by kernel_rfl))
theorem eqn_of {C : Addr} {k : Nat} {sp : L2.Sp} {fd : FuncData} {ps : List PySem.Str} (e : eqB K C = true) (F : L2.FnOk P w K mg base C8.CX0 k (ma K C "__eq__") fd ps sp) (b : L2.Binds K fd ps []) : Eqn P w K mg base k C sp := by
  unfold eqB at e
  simp only [Bool.and_eq_true, decide_eq_true_eq] at e
  obtain ⟨h1, h2, h3, h4⟩ := e
  exact ⟨_, fd, ps, He.eqO_ok h1, h2, He.eqO_ok h3, h4, F, b⟩
theorem law_ok (X : K.In h) (G : h.Ns mainGlobals mg) (c : SaysK fa fn ex K) {fd_law : FuncData} (F_law : L2.FunD K d_law.name d_law.qual d_law.params d_law.body d_law.scope (d_law.dvs K) (d_law.kws K) (d_law.at_ K) fd_law) : L2.FnOk P w K mg base C8.CX0 15 (ga K "law") fd_law ["_law_script"] (sp_law (YK P w K mg base)) := by
  have T : TxtY (YK P w K mg base) := txt X G c
  have mk_Ratio := He.mkr_ok (c.a.fact 100 (f := .mkr "Ratio") (by kernel_rfl))
  have gc_Ratio := He.glo_ok X G (c.a.fact 70 (f := .glo "Ratio") (by kernel_rfl))
  have cl_Ratio := He.cls_ok (c.a.fact 97 (f := .cls "Ratio") (by kernel_rfl))
  have mk_Blend := He.mkr_ok (c.a.fact 101 (f := .mkr "Blend") (by kernel_rfl))
  have gc_Blend := He.glo_ok X G (c.a.fact 71 (f := .glo "Blend") (by kernel_rfl))
  have cl_Blend := He.cls_ok (c.a.fact 98 (f := .cls "Blend") (by kernel_rfl))
  have mk_Amounts := He.mkr_ok (c.a.fact 102 (f := .mkr "Amounts") (by kernel_rfl))
  have gc_Amounts := He.glo_ok X G (c.a.fact 72 (f := .glo "Amounts") (by kernel_rfl))
  have cl_Amounts := He.cls_ok (c.a.fact 99 (f := .cls "Amounts") (by kernel_rfl))
  have kt : KTup (YK P w K mg base) (e0K K) := ⟨(etB_ok (c.get 14 (f := fun K => etB K) (by kernel_rfl))).1, (etB_ok (c.get 14 (f := fun K => etB K) (by kernel_rfl))).2⟩
  obtain ⟨fd_is_integer, F_is_integer⟩ := c.a.def_ 0 (d := d_is_integer) (by kernel_rfl)
  have k_is_integer : L2.FnOk P w K mg base C8.CX0 1 (ga K "is_integer") fd_is_integer ["value"] (sp_is_integer (YK P w K mg base)) := ok_is_integer (Y := YK P w K mg base) (c8fun F_is_integer) T
  have b_is_integer : L2.Binds K fd_is_integer ["value"] [] := F_is_integer.bindsN fun _ _ _ _ _ _ us hl => match us, hl with | [_], _ => rfl
  have g_is_integer := He.glo_ok X G (c.a.fact 0 (f := .glo "is_integer") (by kernel_rfl))
  have c_is_integer : CalY (YK P w K mg base) 1 "is_integer" (sp_is_integer (YK P w K mg base)) [] := ⟨_, fd_is_integer, _, [], k_is_integer, g_is_integer, F_is_integer.kp, b_is_integer, .nil⟩
  obtain ⟨fd_is_count, F_is_count⟩ := c.a.def_ 1 (d := d_is_count) (by kernel_rfl)
  have k_is_count : L2.FnOk P w K mg base C8.CX0 2 (ga K "is_count") fd_is_count ["value"] (sp_is_count (YK P w K mg base)) := ok_is_count (Y := YK P w K mg base) (c8fun F_is_count) T c_is_integer
  have b_is_count : L2.Binds K fd_is_count ["value"] [] := F_is_count.bindsN fun _ _ _ _ _ _ us hl => match us, hl with | [_], _ => rfl
  have g_is_count := He.glo_ok X G (c.a.fact 1 (f := .glo "is_count") (by kernel_rfl))
  have c_is_count : CalY (YK P w K mg base) 2 "is_count" (sp_is_count (YK P w K mg base)) [] := ⟨_, fd_is_count, _, [], k_is_count, g_is_count, F_is_count.kp, b_is_count, .nil⟩
  obtain ⟨fd_is_list, F_is_list⟩ := c.a.def_ 2 (d := d_is_list) (by kernel_rfl)
  have k_is_list : L2.FnOk P w K mg base C8.CX0 1 (ga K "is_list") fd_is_list ["value"] (sp_is_list (YK P w K mg base)) := ok_is_list (Y := YK P w K mg base) (c8fun F_is_list) T
  have b_is_list : L2.Binds K fd_is_list ["value"] [] := F_is_list.bindsN fun _ _ _ _ _ _ us hl => match us, hl with | [_], _ => rfl
  have g_is_list := He.glo_ok X G (c.a.fact 2 (f := .glo "is_list") (by kernel_rfl))
  have c_is_list : CalY (YK P w K mg base) 1 "is_list" (sp_is_list (YK P w K mg base)) [] := ⟨_, fd_is_list, _, [], k_is_list, g_is_list, F_is_list.kp, b_is_list, .nil⟩
  obtain ⟨fd_want_many, F_want_many⟩ := c.a.def_ 3 (d := d_want_many) (by kernel_rfl)
  have k_want_many : L2.FnOk P w K mg base C8.CX0 3 (ga K "want_many") fd_want_many ["value", "most"] (sp_want_many (YK P w K mg base)) := ok_want_many (Y := YK P w K mg base) (c8fun F_want_many) T c_is_count
  obtain ⟨ds_want_many, v_want_many, b_want_many⟩ := F_want_many.binds1 (ps := ["value", "most"]) 1 0 (List.cons_ne_nil _ _) rfl fun _ _ _ _ _ _ _ us its h1 h2 => match us, its, h1, h2 with | [_], [_], _, _ => ⟨_, rfl, rfl⟩
  have g_want_many := He.glo_ok X G (c.a.fact 3 (f := .glo "want_many") (by kernel_rfl))
  have c_want_many : CalY (YK P w K mg base) 3 "want_many" (sp_want_many (YK P w K mg base)) [.non] := ⟨_, fd_want_many, _, _, k_want_many, g_want_many, F_want_many.kp, b_want_many, v_want_many⟩
  obtain ⟨fd_want_at_most, F_want_at_most⟩ := c.a.def_ 4 (d := d_want_at_most) (by kernel_rfl)
  have k_want_at_most : L2.FnOk P w K mg base C8.CX0 1 (ga K "want_at_most") fd_want_at_most ["what", "limit", "number"] (sp_want_at_most (YK P w K mg base)) := ok_want_at_most (Y := YK P w K mg base) (c8fun F_want_at_most) T
  have b_want_at_most : L2.Binds K fd_want_at_most ["what", "limit", "number"] [] := F_want_at_most.bindsN fun _ _ _ _ _ _ us hl => match us, hl with | [_, _, _], _ => rfl
  have g_want_at_most := He.glo_ok X G (c.a.fact 4 (f := .glo "want_at_most") (by kernel_rfl))
  have c_want_at_most : CalY (YK P w K mg base) 1 "want_at_most" (sp_want_at_most (YK P w K mg base)) [] := ⟨_, fd_want_at_most, _, [], k_want_at_most, g_want_at_most, F_want_at_most.kp, b_want_at_most, .nil⟩
  obtain ⟨fd_common_part, F_common_part⟩ := c.a.def_ 5 (d := d_common_part) (by kernel_rfl)
  have k_common_part : L2.FnOk P w K mg base C8.CX0 1 (ga K "common_part") fd_common_part ["one", "other"] (sp_common_part (YK P w K mg base)) := ok_common_part (Y := YK P w K mg base) (c8fun F_common_part) T
  have b_common_part : L2.Binds K fd_common_part ["one", "other"] [] := F_common_part.bindsN fun _ _ _ _ _ _ us hl => match us, hl with | [_, _], _ => rfl
  have g_common_part := He.glo_ok X G (c.a.fact 5 (f := .glo "common_part") (by kernel_rfl))
  have c_common_part : CalY (YK P w K mg base) 1 "common_part" (sp_common_part (YK P w K mg base)) [] := ⟨_, fd_common_part, _, [], k_common_part, g_common_part, F_common_part.kp, b_common_part, .nil⟩
  obtain ⟨fd_common_bottom, F_common_bottom⟩ := c.a.def_ 6 (d := d_common_bottom) (by kernel_rfl)
  have k_common_bottom : L2.FnOk P w K mg base C8.CX0 1 (ga K "common_bottom") fd_common_bottom ["one", "other"] (sp_common_bottom (YK P w K mg base)) := ok_common_bottom (Y := YK P w K mg base) (c8fun F_common_bottom) T
  have b_common_bottom : L2.Binds K fd_common_bottom ["one", "other"] [] := F_common_bottom.bindsN fun _ _ _ _ _ _ us hl => match us, hl with | [_, _], _ => rfl
  have g_common_bottom := He.glo_ok X G (c.a.fact 6 (f := .glo "common_bottom") (by kernel_rfl))
  have c_common_bottom : CalY (YK P w K mg base) 1 "common_bottom" (sp_common_bottom (YK P w K mg base)) [] := ⟨_, fd_common_bottom, _, [], k_common_bottom, g_common_bottom, F_common_bottom.kp, b_common_bottom, .nil⟩
  obtain ⟨fd_Ratio, F_Ratio⟩ := c.a.def_ 7 (d := d_Ratio) (by kernel_rfl)
  have k_Ratio : L2.FnOk P w K mg base C8.CX0 2 (ma K (ga K "Ratio") "__init__") fd_Ratio ["self", "top", "bottom"] (sp_Ratio (YK P w K mg base)) := ok_Ratio (Y := YK P w K mg base) (c8fun F_Ratio) T c_common_part c_is_integer
  obtain ⟨ds_Ratio1, v_Ratio1, b_Ratio1⟩ := F_Ratio.binds1 (ps := ["self", "top", "bottom"]) 2 0 (List.cons_ne_nil _ _) rfl fun _ _ _ _ _ _ _ us its h1 h2 => match us, its, h1, h2 with | [_, _], [_], _, _ => ⟨_, rfl, rfl⟩
  obtain ⟨ds_Ratio2, v_Ratio2, b_Ratio2⟩ := F_Ratio.binds1 (ps := ["self", "top", "bottom"]) 3 1 (List.cons_ne_nil _ _) rfl fun _ _ _ _ _ _ _ us its h1 h2 => match us, its, h1, h2 with | [_, _, _], [_], _, _ => ⟨_, rfl, rfl⟩
  have m_Ratio1 : MakY (YK P w K mg base) 2 "Ratio" (ga K "Ratio") (sp_Ratio (YK P w K mg base)) [.int 1] := ⟨_, fd_Ratio, _, _, mk_Ratio, k_Ratio, gc_Ratio, b_Ratio1, v_Ratio1⟩
  have m_Ratio2 : MakY (YK P w K mg base) 2 "Ratio" (ga K "Ratio") (sp_Ratio (YK P w K mg base)) [] := ⟨_, fd_Ratio, _, _, mk_Ratio, k_Ratio, gc_Ratio, b_Ratio2, v_Ratio2⟩
  obtain ⟨fd_told_pair, F_told_pair⟩ := c.a.def_ 8 (d := d_told_pair) (by kernel_rfl)
  have k_told_pair : L2.FnOk P w K mg base C8.CX0 2 (ga K "told_pair") fd_told_pair ["value"] (sp_told_pair (YK P w K mg base)) := ok_told_pair (Y := YK P w K mg base) (c8fun F_told_pair) T c_is_integer
  have b_told_pair : L2.Binds K fd_told_pair ["value"] [] := F_told_pair.bindsN fun _ _ _ _ _ _ us hl => match us, hl with | [_], _ => rfl
  have g_told_pair := He.glo_ok X G (c.a.fact 7 (f := .glo "told_pair") (by kernel_rfl))
  have c_told_pair : CalY (YK P w K mg base) 2 "told_pair" (sp_told_pair (YK P w K mg base)) [] := ⟨_, fd_told_pair, _, [], k_told_pair, g_told_pair, F_told_pair.kp, b_told_pair, .nil⟩
  obtain ⟨fd_radd, F_radd⟩ := c.a.def_ 9 (d := d_radd) (by kernel_rfl)
  have k_radd : L2.FnOk P w K mg base C8.CX0 4 (ma K (ga K "Ratio") "__add__") fd_radd ["self", "other"] (sp_radd (YK P w K mg base)) := ok_radd (Y := YK P w K mg base) (c8fun F_radd) T c_told_pair m_Ratio2
  have b_radd : L2.Binds K fd_radd ["self", "other"] [] := F_radd.bindsN fun _ _ _ _ _ _ us hl => match us, hl with | [_, _], _ => rfl
  have o_radd : OpnY (YK P w K mg base) 4 (ga K "Ratio") "add" (sp_radd (YK P w K mg base)) := ⟨_, fd_radd, _, opRB_ok (m := "__add__") (r := "__radd__") (by decide +kernel) (by decide +kernel) (by kernel_rfl) (c.get 5 (f := fun K => opB K (ga K "Ratio") "__add__") (by kernel_rfl)) (c.get 6 (f := fun K => opRB K (ga K "Ratio") "__radd__") (by kernel_rfl)), k_radd, b_radd⟩
  obtain ⟨fd_rmul, F_rmul⟩ := c.a.def_ 10 (d := d_rmul) (by kernel_rfl)
  have k_rmul : L2.FnOk P w K mg base C8.CX0 4 (ma K (ga K "Ratio") "__mul__") fd_rmul ["self", "other"] (sp_rmul (YK P w K mg base)) := ok_rmul (Y := YK P w K mg base) (c8fun F_rmul) T c_told_pair m_Ratio2
  have b_rmul : L2.Binds K fd_rmul ["self", "other"] [] := F_rmul.bindsN fun _ _ _ _ _ _ us hl => match us, hl with | [_, _], _ => rfl
  have o_rmul : OpnY (YK P w K mg base) 4 (ga K "Ratio") "mul" (sp_rmul (YK P w K mg base)) := ⟨_, fd_rmul, _, opRB_ok (m := "__mul__") (r := "__rmul__") (by decide +kernel) (by decide +kernel) (by kernel_rfl) (c.get 3 (f := fun K => opB K (ga K "Ratio") "__mul__") (by kernel_rfl)) (c.get 4 (f := fun K => opRB K (ga K "Ratio") "__rmul__") (by kernel_rfl)), k_rmul, b_rmul⟩
  obtain ⟨fd_req, F_req⟩ := c.a.def_ 11 (d := d_req) (by kernel_rfl)
  have k_req : L2.FnOk P w K mg base C8.CX0 1 (ma K (ga K "Ratio") "__eq__") fd_req ["self", "other"] (sp_req (YK P w K mg base)) := ok_req (Y := YK P w K mg base) (c8fun F_req) T
  have b_req : L2.Binds K fd_req ["self", "other"] [] := F_req.bindsN fun _ _ _ _ _ _ us hl => match us, hl with | [_, _], _ => rfl
  have q_req : EqnY (YK P w K mg base) 1 (ga K "Ratio") (sp_req (YK P w K mg base)) := eqn_of (c.get 8 (f := fun K => eqB K (ga K "Ratio")) (by kernel_rfl)) k_req b_req
  obtain ⟨fd_rsign, F_rsign⟩ := c.a.def_ 12 (d := d_rsign) (by kernel_rfl)
  have k_rsign : L2.FnOk P w K mg base C8.CX0 1 (gt K "Ratio" "sign") fd_rsign ["self"] (sp_rsign (YK P w K mg base)) := ok_rsign (Y := YK P w K mg base) (c8fun F_rsign) T
  have b_rsign : L2.Binds K fd_rsign ["self"] [] := F_rsign.bindsN fun _ _ _ _ _ _ us hl => match us, hl with | [_], _ => rfl
  have p_sign : PrpY (YK P w K mg base) 1 (ga K "Ratio") "sign" (sp_rsign (YK P w K mg base)) := ⟨_, _, fd_rsign, _, cl_Ratio, prB_ok (c.get 10 (f := fun K => prB K "Ratio" "sign") (by kernel_rfl)), k_rsign, b_rsign⟩
  obtain ⟨fd_is_number, F_is_number⟩ := c.a.def_ 13 (d := d_is_number) (by kernel_rfl)
  have k_is_number : L2.FnOk P w K mg base C8.CX0 2 (ga K "is_number") fd_is_number ["value"] (sp_is_number (YK P w K mg base)) := ok_is_number (Y := YK P w K mg base) (c8fun F_is_number) T c_is_integer
  have b_is_number : L2.Binds K fd_is_number ["value"] [] := F_is_number.bindsN fun _ _ _ _ _ _ us hl => match us, hl with | [_], _ => rfl
  have g_is_number := He.glo_ok X G (c.a.fact 8 (f := .glo "is_number") (by kernel_rfl))
  have c_is_number : CalY (YK P w K mg base) 2 "is_number" (sp_is_number (YK P w K mg base)) [] := ⟨_, fd_is_number, _, [], k_is_number, g_is_number, F_is_number.kp, b_is_number, .nil⟩
  have cN : CalAtY (YK P w K mg base) 2 (ga K "is_number") (sp_is_number (YK P w K mg base)) := ⟨fd_is_number, _, k_is_number, F_is_number.kp, b_is_number⟩
  obtain ⟨fd_ratio_of, F_ratio_of⟩ := c.a.def_ 14 (d := d_ratio_of) (by kernel_rfl)
  have k_ratio_of : L2.FnOk P w K mg base C8.CX0 4 (ga K "ratio_of") fd_ratio_of ["number"] (sp_ratio_of (YK P w K mg base)) := ok_ratio_of (Y := YK P w K mg base) (c8fun F_ratio_of) T m_Ratio1
  have b_ratio_of : L2.Binds K fd_ratio_of ["number"] [] := F_ratio_of.bindsN fun _ _ _ _ _ _ us hl => match us, hl with | [_], _ => rfl
  have g_ratio_of := He.glo_ok X G (c.a.fact 9 (f := .glo "ratio_of") (by kernel_rfl))
  have c_ratio_of : CalY (YK P w K mg base) 4 "ratio_of" (sp_ratio_of (YK P w K mg base)) [] := ⟨_, fd_ratio_of, _, [], k_ratio_of, g_ratio_of, F_ratio_of.kp, b_ratio_of, .nil⟩
  obtain ⟨fd_pair_sum, F_pair_sum⟩ := c.a.def_ 15 (d := d_pair_sum) (by kernel_rfl)
  have k_pair_sum : L2.FnOk P w K mg base C8.CX0 4 (ga K "pair_sum") fd_pair_sum ["one", "other"] (sp_pair_sum (YK P w K mg base)) := ok_pair_sum (Y := YK P w K mg base) (c8fun F_pair_sum) T m_Ratio2
  have b_pair_sum : L2.Binds K fd_pair_sum ["one", "other"] [] := F_pair_sum.bindsN fun _ _ _ _ _ _ us hl => match us, hl with | [_, _], _ => rfl
  have g_pair_sum := He.glo_ok X G (c.a.fact 10 (f := .glo "pair_sum") (by kernel_rfl))
  have c_pair_sum : CalY (YK P w K mg base) 4 "pair_sum" (sp_pair_sum (YK P w K mg base)) [] := ⟨_, fd_pair_sum, _, [], k_pair_sum, g_pair_sum, F_pair_sum.kp, b_pair_sum, .nil⟩
  obtain ⟨fd_top_of, F_top_of⟩ := c.a.def_ 16 (d := d_top_of) (by kernel_rfl)
  have k_top_of : L2.FnOk P w K mg base C8.CX0 1 (ga K "top_of") fd_top_of ["number"] (sp_top_of (YK P w K mg base)) := ok_top_of (Y := YK P w K mg base) (c8fun F_top_of) T
  have b_top_of : L2.Binds K fd_top_of ["number"] [] := F_top_of.bindsN fun _ _ _ _ _ _ us hl => match us, hl with | [_], _ => rfl
  have g_top_of := He.glo_ok X G (c.a.fact 11 (f := .glo "top_of") (by kernel_rfl))
  have c_top_of : CalY (YK P w K mg base) 1 "top_of" (sp_top_of (YK P w K mg base)) [] := ⟨_, fd_top_of, _, [], k_top_of, g_top_of, F_top_of.kp, b_top_of, .nil⟩
  obtain ⟨fd_is_from_nought, F_is_from_nought⟩ := c.a.def_ 17 (d := d_is_from_nought) (by kernel_rfl)
  have k_is_from_nought : L2.FnOk P w K mg base C8.CX0 3 (ga K "is_from_nought") fd_is_from_nought ["value"] (sp_is_from_nought (YK P w K mg base)) := ok_is_from_nought (Y := YK P w K mg base) (c8fun F_is_from_nought) T c_is_number c_top_of
  have b_is_from_nought : L2.Binds K fd_is_from_nought ["value"] [] := F_is_from_nought.bindsN fun _ _ _ _ _ _ us hl => match us, hl with | [_], _ => rfl
  have g_is_from_nought := He.glo_ok X G (c.a.fact 12 (f := .glo "is_from_nought") (by kernel_rfl))
  have c_is_from_nought : CalY (YK P w K mg base) 3 "is_from_nought" (sp_is_from_nought (YK P w K mg base)) [] := ⟨_, fd_is_from_nought, _, [], k_is_from_nought, g_is_from_nought, F_is_from_nought.kp, b_is_from_nought, .nil⟩
  obtain ⟨fd_is_above, F_is_above⟩ := c.a.def_ 18 (d := d_is_above) (by kernel_rfl)
  have k_is_above : L2.FnOk P w K mg base C8.CX0 3 (ga K "is_above") fd_is_above ["value"] (sp_is_above (YK P w K mg base)) := ok_is_above (Y := YK P w K mg base) (c8fun F_is_above) T c_is_number c_top_of
  have b_is_above : L2.Binds K fd_is_above ["value"] [] := F_is_above.bindsN fun _ _ _ _ _ _ us hl => match us, hl with | [_], _ => rfl
  have g_is_above := He.glo_ok X G (c.a.fact 13 (f := .glo "is_above") (by kernel_rfl))
  have c_is_above : CalY (YK P w K mg base) 3 "is_above" (sp_is_above (YK P w K mg base)) [] := ⟨_, fd_is_above, _, [], k_is_above, g_is_above, F_is_above.kp, b_is_above, .nil⟩
  have cA : CalAtY (YK P w K mg base) 3 (ga K "is_above") (sp_is_above (YK P w K mg base)) := ⟨fd_is_above, _, k_is_above, F_is_above.kp, b_is_above⟩
  obtain ⟨fd_wholes, F_wholes⟩ := c.a.def_ 19 (d := d_wholes) (by kernel_rfl)
  have k_wholes : L2.FnOk P w K mg base C8.CX0 2 (ga K "wholes") fd_wholes ["ratios"] (sp_wholes (YK P w K mg base)) := ok_wholes (Y := YK P w K mg base) (c8fun F_wholes) T c_common_bottom
  have b_wholes : L2.Binds K fd_wholes ["ratios"] [] := F_wholes.bindsN fun _ _ _ _ _ _ us hl => match us, hl with | [_], _ => rfl
  have g_wholes := He.glo_ok X G (c.a.fact 14 (f := .glo "wholes") (by kernel_rfl))
  have c_wholes : CalY (YK P w K mg base) 2 "wholes" (sp_wholes (YK P w K mg base)) [] := ⟨_, fd_wholes, _, [], k_wholes, g_wholes, F_wholes.kp, b_wholes, .nil⟩
  obtain ⟨fd_is_small, F_is_small⟩ := c.a.def_ 20 (d := d_is_small) (by kernel_rfl)
  have k_is_small : L2.FnOk P w K mg base C8.CX0 1 (ga K "is_small") fd_is_small ["value"] (sp_is_small (YK P w K mg base)) := ok_is_small (Y := YK P w K mg base) (c8fun F_is_small) T
  have b_is_small : L2.Binds K fd_is_small ["value"] [] := F_is_small.bindsN fun _ _ _ _ _ _ us hl => match us, hl with | [_], _ => rfl
  have g_is_small := He.glo_ok X G (c.a.fact 15 (f := .glo "is_small") (by kernel_rfl))
  have c_is_small : CalY (YK P w K mg base) 1 "is_small" (sp_is_small (YK P w K mg base)) [] := ⟨_, fd_is_small, _, [], k_is_small, g_is_small, F_is_small.kp, b_is_small, .nil⟩
  obtain ⟨fd_is_letters, F_is_letters⟩ := c.a.def_ 21 (d := d_is_letters) (by kernel_rfl)
  have k_is_letters : L2.FnOk P w K mg base C8.CX0 2 (ga K "is_letters") fd_is_letters ["value"] (sp_is_letters (YK P w K mg base)) := ok_is_letters (Y := YK P w K mg base) (c8fun F_is_letters) T c_is_small
  have b_is_letters : L2.Binds K fd_is_letters ["value"] [] := F_is_letters.bindsN fun _ _ _ _ _ _ us hl => match us, hl with | [_], _ => rfl
  have g_is_letters := He.glo_ok X G (c.a.fact 16 (f := .glo "is_letters") (by kernel_rfl))
  have c_is_letters : CalY (YK P w K mg base) 2 "is_letters" (sp_is_letters (YK P w K mg base)) [] := ⟨_, fd_is_letters, _, [], k_is_letters, g_is_letters, F_is_letters.kp, b_is_letters, .nil⟩
  obtain ⟨fd_want_letters, F_want_letters⟩ := c.a.def_ 22 (d := d_want_letters) (by kernel_rfl)
  have k_want_letters : L2.FnOk P w K mg base C8.CX0 3 (ga K "want_letters") fd_want_letters ["value"] (sp_want_letters (YK P w K mg base)) := ok_want_letters (Y := YK P w K mg base) (c8fun F_want_letters) T c_is_letters
  have b_want_letters : L2.Binds K fd_want_letters ["value"] [] := F_want_letters.bindsN fun _ _ _ _ _ _ us hl => match us, hl with | [_], _ => rfl
  have g_want_letters := He.glo_ok X G (c.a.fact 17 (f := .glo "want_letters") (by kernel_rfl))
  have c_want_letters : CalY (YK P w K mg base) 3 "want_letters" (sp_want_letters (YK P w K mg base)) [] := ⟨_, fd_want_letters, _, [], k_want_letters, g_want_letters, F_want_letters.kp, b_want_letters, .nil⟩
  obtain ⟨fd_are_counts, F_are_counts⟩ := c.a.def_ 23 (d := d_are_counts) (by kernel_rfl)
  have k_are_counts : L2.FnOk P w K mg base C8.CX0 3 (ga K "are_counts") fd_are_counts ["value", "many"] (sp_are_counts (YK P w K mg base)) := ok_are_counts (Y := YK P w K mg base) (c8fun F_are_counts) T c_is_count c_is_list
  have b_are_counts : L2.Binds K fd_are_counts ["value", "many"] [] := F_are_counts.bindsN fun _ _ _ _ _ _ us hl => match us, hl with | [_, _], _ => rfl
  have g_are_counts := He.glo_ok X G (c.a.fact 18 (f := .glo "are_counts") (by kernel_rfl))
  have c_are_counts : CalY (YK P w K mg base) 3 "are_counts" (sp_are_counts (YK P w K mg base)) [] := ⟨_, fd_are_counts, _, [], k_are_counts, g_are_counts, F_are_counts.kp, b_are_counts, .nil⟩
  obtain ⟨fd_is_entry, F_is_entry⟩ := c.a.def_ 24 (d := d_is_entry) (by kernel_rfl)
  have k_is_entry : L2.FnOk P w K mg base C8.CX0 4 (ga K "is_entry") fd_is_entry ["value", "many"] (sp_is_entry (YK P w K mg base)) := ok_is_entry (Y := YK P w K mg base) (c8fun F_is_entry) T c_are_counts c_is_above
  have b_is_entry : L2.Binds K fd_is_entry ["value", "many"] [] := F_is_entry.bindsN fun _ _ _ _ _ _ us hl => match us, hl with | [_, _], _ => rfl
  have g_is_entry := He.glo_ok X G (c.a.fact 19 (f := .glo "is_entry") (by kernel_rfl))
  have c_is_entry : CalY (YK P w K mg base) 4 "is_entry" (sp_is_entry (YK P w K mg base)) [] := ⟨_, fd_is_entry, _, [], k_is_entry, g_is_entry, F_is_entry.kp, b_is_entry, .nil⟩
  obtain ⟨fd_Amounts, F_Amounts⟩ := c.a.def_ 25 (d := d_Amounts) (by kernel_rfl)
  have k_Amounts : L2.FnOk P w K mg base C8.CX0 1 (ma K (ga K "Amounts") "__init__") fd_Amounts ["self", "amounts"] (sp_Amounts (YK P w K mg base)) := ok_Amounts (Y := YK P w K mg base) (c8fun F_Amounts) T
  have b_Amounts : L2.Binds K fd_Amounts ["self", "amounts"] [] := F_Amounts.bindsN fun _ _ _ _ _ _ us hl => match us, hl with | [_, _], _ => rfl
  have m_Amounts1 : MakY (YK P w K mg base) 1 "Amounts" (ga K "Amounts") (sp_Amounts (YK P w K mg base)) [] := ⟨_, fd_Amounts, _, [], mk_Amounts, k_Amounts, gc_Amounts, b_Amounts, .nil⟩
  obtain ⟨fd_degree_of, F_degree_of⟩ := c.a.def_ 26 (d := d_degree_of) (by kernel_rfl)
  have k_degree_of : L2.FnOk P w K mg base C8.CX0 1 (ga K "degree_of") fd_degree_of ["amounts"] (sp_degree_of (YK P w K mg base)) := ok_degree_of (Y := YK P w K mg base) (c8fun F_degree_of) T
  have b_degree_of : L2.Binds K fd_degree_of ["amounts"] [] := F_degree_of.bindsN fun _ _ _ _ _ _ us hl => match us, hl with | [_], _ => rfl
  have g_degree_of := He.glo_ok X G (c.a.fact 20 (f := .glo "degree_of") (by kernel_rfl))
  have c_degree_of : CalY (YK P w K mg base) 1 "degree_of" (sp_degree_of (YK P w K mg base)) [] := ⟨_, fd_degree_of, _, [], k_degree_of, g_degree_of, F_degree_of.kp, b_degree_of, .nil⟩
  obtain ⟨fd_letters, F_letters⟩ := c.a.def_ 27 (d := d_letters) (by kernel_rfl)
  have k_letters : L2.FnOk P w K mg base C8.CX0 1 (gt K "Blend" "letters") fd_letters ["self"] (sp_letters (YK P w K mg base)) := ok_letters (Y := YK P w K mg base) (c8fun F_letters) T
  have b_letters : L2.Binds K fd_letters ["self"] [] := F_letters.bindsN fun _ _ _ _ _ _ us hl => match us, hl with | [_], _ => rfl
  have p_letters : PrpY (YK P w K mg base) 1 (ga K "Blend") "letters" (sp_letters (YK P w K mg base)) := ⟨_, _, fd_letters, _, cl_Blend, prB_ok (c.get 11 (f := fun K => prB K "Blend" "letters") (by kernel_rfl)), k_letters, b_letters⟩
  obtain ⟨fd_degree, F_degree⟩ := c.a.def_ 28 (d := d_degree) (by kernel_rfl)
  have k_degree : L2.FnOk P w K mg base C8.CX0 1 (gt K "Blend" "degree") fd_degree ["self"] (sp_degree (YK P w K mg base)) := ok_degree (Y := YK P w K mg base) (c8fun F_degree) T
  have b_degree : L2.Binds K fd_degree ["self"] [] := F_degree.bindsN fun _ _ _ _ _ _ us hl => match us, hl with | [_], _ => rfl
  have p_degree : PrpY (YK P w K mg base) 1 (ga K "Blend") "degree" (sp_degree (YK P w K mg base)) := ⟨_, _, fd_degree, _, cl_Blend, prB_ok (c.get 12 (f := fun K => prB K "Blend" "degree") (by kernel_rfl)), k_degree, b_degree⟩
  obtain ⟨fd_is_nought, F_is_nought⟩ := c.a.def_ 29 (d := d_is_nought) (by kernel_rfl)
  have k_is_nought : L2.FnOk P w K mg base C8.CX0 1 (gt K "Blend" "is_nought") fd_is_nought ["self"] (sp_is_nought (YK P w K mg base)) := ok_is_nought (Y := YK P w K mg base) (c8fun F_is_nought) T
  have b_is_nought : L2.Binds K fd_is_nought ["self"] [] := F_is_nought.bindsN fun _ _ _ _ _ _ us hl => match us, hl with | [_], _ => rfl
  have p_is_nought : PrpY (YK P w K mg base) 1 (ga K "Blend") "is_nought" (sp_is_nought (YK P w K mg base)) := ⟨_, _, fd_is_nought, _, cl_Blend, prB_ok (c.get 13 (f := fun K => prB K "Blend" "is_nought") (by kernel_rfl)), k_is_nought, b_is_nought⟩
  obtain ⟨fd_entries, F_entries⟩ := c.a.def_ 30 (d := d_entries) (by kernel_rfl)
  have k_entries : L2.FnOk P w K mg base C8.CX0 1 (ma K (ga K "Blend") "entries") fd_entries ["self"] (sp_entries (YK P w K mg base)) := ok_entries (Y := YK P w K mg base) (c8fun F_entries) T
  have b_entries : L2.Binds K fd_entries ["self"] [] := F_entries.bindsN fun _ _ _ _ _ _ us hl => match us, hl with | [_], _ => rfl
  have t_entries : MetY (YK P w K mg base) 1 (ga K "Blend") "entries" (sp_entries (YK P w K mg base)) := ⟨_, fd_entries, _, [], cl_Blend, He.meth_ok (c.a.fact 103 (f := .meth "Blend" "entries") (by kernel_rfl)), k_entries, b_entries, .nil⟩
  obtain ⟨fd_beq, F_beq⟩ := c.a.def_ 31 (d := d_beq) (by kernel_rfl)
  have k_beq : L2.FnOk P w K mg base C8.CX0 4 (ma K (ga K "Blend") "__eq__") fd_beq ["self", "other"] (sp_beq (YK P w K mg base)) := ok_beq (Y := YK P w K mg base) (c8fun F_beq) T q_req
  have b_beq : L2.Binds K fd_beq ["self", "other"] [] := F_beq.bindsN fun _ _ _ _ _ _ us hl => match us, hl with | [_, _], _ => rfl
  have q_beq : EqnY (YK P w K mg base) 4 (ga K "Blend") (sp_beq (YK P w K mg base)) := eqn_of (c.get 9 (f := fun K => eqB K (ga K "Blend")) (by kernel_rfl)) k_beq b_beq
  obtain ⟨fd_want_blend, F_want_blend⟩ := c.a.def_ 32 (d := d_want_blend) (by kernel_rfl)
  have k_want_blend : L2.FnOk P w K mg base C8.CX0 1 (ga K "want_blend") fd_want_blend ["value"] (sp_want_blend (YK P w K mg base)) := ok_want_blend (Y := YK P w K mg base) (c8fun F_want_blend) T
  have b_want_blend : L2.Binds K fd_want_blend ["value"] [] := F_want_blend.bindsN fun _ _ _ _ _ _ us hl => match us, hl with | [_], _ => rfl
  have g_want_blend := He.glo_ok X G (c.a.fact 21 (f := .glo "want_blend") (by kernel_rfl))
  have c_want_blend : CalY (YK P w K mg base) 1 "want_blend" (sp_want_blend (YK P w K mg base)) [] := ⟨_, fd_want_blend, _, [], k_want_blend, g_want_blend, F_want_blend.kp, b_want_blend, .nil⟩
  obtain ⟨fd_want_alike, F_want_alike⟩ := c.a.def_ 33 (d := d_want_alike) (by kernel_rfl)
  have k_want_alike : L2.FnOk P w K mg base C8.CX0 1 (ga K "want_alike") fd_want_alike ["blend", "other", "is_degree"] (sp_want_alike (YK P w K mg base)) := ok_want_alike (Y := YK P w K mg base) (c8fun F_want_alike) T
  have b_want_alike : L2.Binds K fd_want_alike ["blend", "other", "is_degree"] [] := F_want_alike.bindsN fun _ _ _ _ _ _ us hl => match us, hl with | [_, _, _], _ => rfl
  have g_want_alike := He.glo_ok X G (c.a.fact 22 (f := .glo "want_alike") (by kernel_rfl))
  have c_want_alike : CalY (YK P w K mg base) 1 "want_alike" (sp_want_alike (YK P w K mg base)) [] := ⟨_, fd_want_alike, _, [], k_want_alike, g_want_alike, F_want_alike.kp, b_want_alike, .nil⟩
  obtain ⟨fd_stands, F_stands⟩ := c.a.def_ 34 (d := d_stands) (by kernel_rfl)
  have k_stands : L2.FnOk P w K mg base C8.CX0 1 (ga K "stands") fd_stands ["blend", "at"] (sp_stands (YK P w K mg base)) := ok_stands (Y := YK P w K mg base) (c8fun F_stands) T
  have b_stands : L2.Binds K fd_stands ["blend", "at"] [] := F_stands.bindsN fun _ _ _ _ _ _ us hl => match us, hl with | [_, _], _ => rfl
  have g_stands := He.glo_ok X G (c.a.fact 23 (f := .glo "stands") (by kernel_rfl))
  have c_stands : CalY (YK P w K mg base) 1 "stands" (sp_stands (YK P w K mg base)) [] := ⟨_, fd_stands, _, [], k_stands, g_stands, F_stands.kp, b_stands, .nil⟩
  obtain ⟨fd_standing, F_standing⟩ := c.a.def_ 35 (d := d_standing) (by kernel_rfl)
  have k_standing : L2.FnOk P w K mg base C8.CX0 2 (ga K "standing") fd_standing ["blend"] (sp_standing (YK P w K mg base)) := ok_standing (Y := YK P w K mg base) (c8fun F_standing) T c_stands
  have b_standing : L2.Binds K fd_standing ["blend"] [] := F_standing.bindsN fun _ _ _ _ _ _ us hl => match us, hl with | [_], _ => rfl
  have g_standing := He.glo_ok X G (c.a.fact 24 (f := .glo "standing") (by kernel_rfl))
  have c_standing : CalY (YK P w K mg base) 2 "standing" (sp_standing (YK P w K mg base)) [] := ⟨_, fd_standing, _, [], k_standing, g_standing, F_standing.kp, b_standing, .nil⟩
  obtain ⟨fd_bears, F_bears⟩ := c.a.def_ 36 (d := d_bears) (by kernel_rfl)
  have k_bears : L2.FnOk P w K mg base C8.CX0 3 (ma K (ga K "Blend") "bears") fd_bears ["self"] (sp_standing (YK P w K mg base)) := ok_bears (Y := YK P w K mg base) (c8fun F_bears) T c_standing
  have b_bears : L2.Binds K fd_bears ["self"] [] := F_bears.bindsN fun _ _ _ _ _ _ us hl => match us, hl with | [_], _ => rfl
  have t_bears : MetY (YK P w K mg base) 3 (ga K "Blend") "bears" (sp_standing (YK P w K mg base)) := ⟨_, fd_bears, _, [], cl_Blend, He.meth_ok (c.a.fact 104 (f := .meth "Blend" "bears") (by kernel_rfl)), k_bears, b_bears, .nil⟩
  obtain ⟨fd_want_letter, F_want_letter⟩ := c.a.def_ 37 (d := d_want_letter) (by kernel_rfl)
  have k_want_letter : L2.FnOk P w K mg base C8.CX0 2 (ga K "want_letter") fd_want_letter ["blend", "value"] (sp_want_letter (YK P w K mg base)) := ok_want_letter (Y := YK P w K mg base) (c8fun F_want_letter) T c_is_small
  have b_want_letter : L2.Binds K fd_want_letter ["blend", "value"] [] := F_want_letter.bindsN fun _ _ _ _ _ _ us hl => match us, hl with | [_, _], _ => rfl
  have g_want_letter := He.glo_ok X G (c.a.fact 25 (f := .glo "want_letter") (by kernel_rfl))
  have c_want_letter : CalY (YK P w K mg base) 2 "want_letter" (sp_want_letter (YK P w K mg base)) [] := ⟨_, fd_want_letter, _, [], k_want_letter, g_want_letter, F_want_letter.kp, b_want_letter, .nil⟩
  obtain ⟨fd_told_list, F_told_list⟩ := c.a.def_ 38 (d := d_told_list) (by kernel_rfl)
  have k_told_list : L2.FnOk P w K mg base C8.CX0 5 (ga K "told_list") fd_told_list ["value", "many", "is_fine"] (sp_told_list (YK P w K mg base) (ga K "is_above") (ga K "is_number")) := ok_told_list (Y := YK P w K mg base) (c8fun F_told_list) T c_is_list c_ratio_of cA cN
  have b_told_list : L2.Binds K fd_told_list ["value", "many", "is_fine"] [] := F_told_list.bindsN fun _ _ _ _ _ _ us hl => match us, hl with | [_, _, _], _ => rfl
  have g_told_list := He.glo_ok X G (c.a.fact 26 (f := .glo "told_list") (by kernel_rfl))
  have c_told_list : CalY (YK P w K mg base) 5 "told_list" (sp_told_list (YK P w K mg base) (ga K "is_above") (ga K "is_number")) [] := ⟨_, fd_told_list, _, [], k_told_list, g_told_list, F_told_list.kp, b_told_list, .nil⟩
  obtain ⟨fd_want_weights, F_want_weights⟩ := c.a.def_ 39 (d := d_want_weights) (by kernel_rfl)
  have k_want_weights : L2.FnOk P w K mg base C8.CX0 6 (ga K "want_weights") fd_want_weights ["blend", "value"] (sp_want_weights (YK P w K mg base)) := ok_want_weights (Y := YK P w K mg base) (c8fun F_want_weights) T c_told_list ⟨_, g_is_above, rfl⟩
  have b_want_weights : L2.Binds K fd_want_weights ["blend", "value"] [] := F_want_weights.bindsN fun _ _ _ _ _ _ us hl => match us, hl with | [_, _], _ => rfl
  have g_want_weights := He.glo_ok X G (c.a.fact 27 (f := .glo "want_weights") (by kernel_rfl))
  have c_want_weights : CalY (YK P w K mg base) 6 "want_weights" (sp_want_weights (YK P w K mg base)) [] := ⟨_, fd_want_weights, _, [], k_want_weights, g_want_weights, F_want_weights.kp, b_want_weights, .nil⟩
  obtain ⟨fd_want_direction, F_want_direction⟩ := c.a.def_ 40 (d := d_want_direction) (by kernel_rfl)
  have k_want_direction : L2.FnOk P w K mg base C8.CX0 6 (ga K "want_direction") fd_want_direction ["blend", "value"] (sp_want_direction (YK P w K mg base)) := ok_want_direction (Y := YK P w K mg base) (c8fun F_want_direction) T c_told_list ⟨_, g_is_number, rfl⟩
  have b_want_direction : L2.Binds K fd_want_direction ["blend", "value"] [] := F_want_direction.bindsN fun _ _ _ _ _ _ us hl => match us, hl with | [_, _], _ => rfl
  have g_want_direction := He.glo_ok X G (c.a.fact 28 (f := .glo "want_direction") (by kernel_rfl))
  have c_want_direction : CalY (YK P w K mg base) 6 "want_direction" (sp_want_direction (YK P w K mg base)) [] := ⟨_, fd_want_direction, _, [], k_want_direction, g_want_direction, F_want_direction.kp, b_want_direction, .nil⟩
  obtain ⟨fd_amounts_sorted, F_amounts_sorted⟩ := c.a.def_ 41 (d := d_amounts_sorted) (by kernel_rfl)
  have k_amounts_sorted : L2.FnOk P w K mg base C8.CX0 1 (ga K "amounts_sorted") fd_amounts_sorted ["amounts"] (sp_amounts_sorted (YK P w K mg base)) := ok_amounts_sorted (Y := YK P w K mg base) (c8fun F_amounts_sorted) T
  have b_amounts_sorted : L2.Binds K fd_amounts_sorted ["amounts"] [] := F_amounts_sorted.bindsN fun _ _ _ _ _ _ us hl => match us, hl with | [_], _ => rfl
  have g_amounts_sorted := He.glo_ok X G (c.a.fact 29 (f := .glo "amounts_sorted") (by kernel_rfl))
  have c_amounts_sorted : CalY (YK P w K mg base) 1 "amounts_sorted" (sp_amounts_sorted (YK P w K mg base)) [] := ⟨_, fd_amounts_sorted, _, [], k_amounts_sorted, g_amounts_sorted, F_amounts_sorted.kp, b_amounts_sorted, .nil⟩
  obtain ⟨fd_told_amounts, F_told_amounts⟩ := c.a.def_ 42 (d := d_told_amounts) (by kernel_rfl)
  have k_told_amounts : L2.FnOk P w K mg base C8.CX0 5 (ga K "told_amounts") fd_told_amounts ["many", "entries"] (sp_told_amounts (YK P w K mg base)) := ok_told_amounts (Y := YK P w K mg base) (c8fun F_told_amounts) T c_amounts_sorted c_is_entry c_is_list c_ratio_of c_want_at_most
  have b_told_amounts : L2.Binds K fd_told_amounts ["many", "entries"] [] := F_told_amounts.bindsN fun _ _ _ _ _ _ us hl => match us, hl with | [_, _], _ => rfl
  have g_told_amounts := He.glo_ok X G (c.a.fact 30 (f := .glo "told_amounts") (by kernel_rfl))
  have c_told_amounts : CalY (YK P w K mg base) 5 "told_amounts" (sp_told_amounts (YK P w K mg base)) [] := ⟨_, fd_told_amounts, _, [], k_told_amounts, g_told_amounts, F_told_amounts.kp, b_told_amounts, .nil⟩
  obtain ⟨fd_Blend, F_Blend⟩ := c.a.def_ 43 (d := d_Blend) (by kernel_rfl)
  have k_Blend : L2.FnOk P w K mg base C8.CX0 6 (ma K (ga K "Blend") "__init__") fd_Blend ["self", "letters", "entries"] (sp_Blend (YK P w K mg base)) := ok_Blend (Y := YK P w K mg base) (c8fun F_Blend) T c_degree_of c_told_amounts c_want_letters c_wholes
  obtain ⟨ds_Blend1, v_Blend1, b_Blend1⟩ := F_Blend.binds1 (ps := ["self", "letters", "entries"]) 2 0 (List.cons_ne_nil _ _) rfl fun _ _ _ _ _ _ _ us its h1 h2 => match us, its, h1, h2 with | [_, _], [_], _, _ => ⟨_, rfl, rfl⟩
  obtain ⟨ds_Blend2, v_Blend2, b_Blend2⟩ := F_Blend.binds1 (ps := ["self", "letters", "entries"]) 3 1 (List.cons_ne_nil _ _) rfl fun _ _ _ _ _ _ _ us its h1 h2 => match us, its, h1, h2 with | [_, _, _], [_], _, _ => ⟨_, rfl, rfl⟩
  have m_Blend1 : MakY (YK P w K mg base) 6 "Blend" (ga K "Blend") (sp_Blend (YK P w K mg base)) [.ref (e0K K)] := ⟨_, fd_Blend, _, _, mk_Blend, k_Blend, gc_Blend, b_Blend1, v_Blend1⟩
  have m_Blend2 : MakY (YK P w K mg base) 6 "Blend" (ga K "Blend") (sp_Blend (YK P w K mg base)) [] := ⟨_, fd_Blend, _, _, mk_Blend, k_Blend, gc_Blend, b_Blend2, v_Blend2⟩
  obtain ⟨fd_blend_of, F_blend_of⟩ := c.a.def_ 44 (d := d_blend_of) (by kernel_rfl)
  have k_blend_of : L2.FnOk P w K mg base C8.CX0 8 (ga K "blend_of") fd_blend_of ["letters", "amounts"] (sp_blend_of (YK P w K mg base)) := ok_blend_of (Y := YK P w K mg base) (c8fun F_blend_of) T c_amounts_sorted m_Amounts1 m_Blend2
  have b_blend_of : L2.Binds K fd_blend_of ["letters", "amounts"] [] := F_blend_of.bindsN fun _ _ _ _ _ _ us hl => match us, hl with | [_, _], _ => rfl
  have g_blend_of := He.glo_ok X G (c.a.fact 31 (f := .glo "blend_of") (by kernel_rfl))
  have c_blend_of : CalY (YK P w K mg base) 8 "blend_of" (sp_blend_of (YK P w K mg base)) [] := ⟨_, fd_blend_of, _, [], k_blend_of, g_blend_of, F_blend_of.kp, b_blend_of, .nil⟩
  obtain ⟨fd_blends_added, F_blends_added⟩ := c.a.def_ 45 (d := d_blends_added) (by kernel_rfl)
  have k_blends_added : L2.FnOk P w K mg base C8.CX0 9 (ga K "blends_added") fd_blends_added ["blend", "other"] (sp_blends_added (YK P w K mg base)) := ok_blends_added (Y := YK P w K mg base) (c8fun F_blends_added) T c_blend_of c_pair_sum c_want_at_most
  have b_blends_added : L2.Binds K fd_blends_added ["blend", "other"] [] := F_blends_added.bindsN fun _ _ _ _ _ _ us hl => match us, hl with | [_, _], _ => rfl
  have g_blends_added := He.glo_ok X G (c.a.fact 32 (f := .glo "blends_added") (by kernel_rfl))
  have c_blends_added : CalY (YK P w K mg base) 9 "blends_added" (sp_blends_added (YK P w K mg base)) [] := ⟨_, fd_blends_added, _, [], k_blends_added, g_blends_added, F_blends_added.kp, b_blends_added, .nil⟩
  obtain ⟨fd_badd, F_badd⟩ := c.a.def_ 46 (d := d_badd) (by kernel_rfl)
  have k_badd : L2.FnOk P w K mg base C8.CX0 10 (ma K (ga K "Blend") "__add__") fd_badd ["self", "other"] (sp_badd (YK P w K mg base)) := ok_badd (Y := YK P w K mg base) (c8fun F_badd) T c_blends_added c_want_alike c_want_blend
  have b_badd : L2.Binds K fd_badd ["self", "other"] [] := F_badd.bindsN fun _ _ _ _ _ _ us hl => match us, hl with | [_, _], _ => rfl
  have o_badd : OpoY (YK P w K mg base) 10 (ga K "Blend") "add" (sp_badd (YK P w K mg base)) := ⟨_, fd_badd, _, opB_ok (m := "__add__") (by decide +kernel) (c.get 7 (f := fun K => opB K (ga K "Blend") "__add__") (by kernel_rfl)), k_badd, b_badd⟩
  obtain ⟨fd_is_way_of, F_is_way_of⟩ := c.a.def_ 47 (d := d_is_way_of) (by kernel_rfl)
  have k_is_way_of : L2.FnOk P w K mg base C8.CX0 1 (ga K "is_way_of") fd_is_way_of ["blend", "value"] (sp_is_way_of (YK P w K mg base)) := ok_is_way_of (Y := YK P w K mg base) (c8fun F_is_way_of) T
  have b_is_way_of : L2.Binds K fd_is_way_of ["blend", "value"] [] := F_is_way_of.bindsN fun _ _ _ _ _ _ us hl => match us, hl with | [_, _], _ => rfl
  have g_is_way_of := He.glo_ok X G (c.a.fact 33 (f := .glo "is_way_of") (by kernel_rfl))
  have c_is_way_of : CalY (YK P w K mg base) 1 "is_way_of" (sp_is_way_of (YK P w K mg base)) [] := ⟨_, fd_is_way_of, _, [], k_is_way_of, g_is_way_of, F_is_way_of.kp, b_is_way_of, .nil⟩
  obtain ⟨fd_want_way, F_want_way⟩ := c.a.def_ 48 (d := d_want_way) (by kernel_rfl)
  have k_want_way : L2.FnOk P w K mg base C8.CX0 2 (ga K "want_way") fd_want_way ["blend", "value"] (sp_want_way (YK P w K mg base)) := ok_want_way (Y := YK P w K mg base) (c8fun F_want_way) T c_is_way_of
  have b_want_way : L2.Binds K fd_want_way ["blend", "value"] [] := F_want_way.bindsN fun _ _ _ _ _ _ us hl => match us, hl with | [_, _], _ => rfl
  have g_want_way := He.glo_ok X G (c.a.fact 34 (f := .glo "want_way") (by kernel_rfl))
  have c_want_way : CalY (YK P w K mg base) 2 "want_way" (sp_want_way (YK P w K mg base)) [] := ⟨_, fd_want_way, _, [], k_want_way, g_want_way, F_want_way.kp, b_want_way, .nil⟩
  obtain ⟨fd_counts_of, F_counts_of⟩ := c.a.def_ 49 (d := d_counts_of) (by kernel_rfl)
  have k_counts_of : L2.FnOk P w K mg base C8.CX0 1 (ga K "counts_of") fd_counts_of ["blend", "way"] (sp_counts_of (YK P w K mg base)) := ok_counts_of (Y := YK P w K mg base) (c8fun F_counts_of) T
  have b_counts_of : L2.Binds K fd_counts_of ["blend", "way"] [] := F_counts_of.bindsN fun _ _ _ _ _ _ us hl => match us, hl with | [_, _], _ => rfl
  have g_counts_of := He.glo_ok X G (c.a.fact 35 (f := .glo "counts_of") (by kernel_rfl))
  have c_counts_of : CalY (YK P w K mg base) 1 "counts_of" (sp_counts_of (YK P w K mg base)) [] := ⟨_, fd_counts_of, _, [], k_counts_of, g_counts_of, F_counts_of.kp, b_counts_of, .nil⟩
  obtain ⟨fd_holds, F_holds⟩ := c.a.def_ 50 (d := d_holds) (by kernel_rfl)
  have k_holds : L2.FnOk P w K mg base C8.CX0 1 (ga K "holds") fd_holds ["counts", "many"] (sp_holds (YK P w K mg base)) := ok_holds (Y := YK P w K mg base) (c8fun F_holds) T
  have b_holds : L2.Binds K fd_holds ["counts", "many"] [] := F_holds.bindsN fun _ _ _ _ _ _ us hl => match us, hl with | [_, _], _ => rfl
  have g_holds := He.glo_ok X G (c.a.fact 36 (f := .glo "holds") (by kernel_rfl))
  have c_holds : CalY (YK P w K mg base) 1 "holds" (sp_holds (YK P w K mg base)) [] := ⟨_, fd_holds, _, [], k_holds, g_holds, F_holds.kp, b_holds, .nil⟩
  obtain ⟨fd_falling, F_falling⟩ := c.a.def_ 51 (d := d_falling) (by kernel_rfl)
  have k_falling : L2.FnOk P w K mg base C8.CX0 1 (ga K "falling") fd_falling ["has", "out"] (sp_falling (YK P w K mg base)) := ok_falling (Y := YK P w K mg base) (c8fun F_falling) T
  have b_falling : L2.Binds K fd_falling ["has", "out"] [] := F_falling.bindsN fun _ _ _ _ _ _ us hl => match us, hl with | [_, _], _ => rfl
  have g_falling := He.glo_ok X G (c.a.fact 37 (f := .glo "falling") (by kernel_rfl))
  have c_falling : CalY (YK P w K mg base) 1 "falling" (sp_falling (YK P w K mg base)) [] := ⟨_, fd_falling, _, [], k_falling, g_falling, F_falling.kp, b_falling, .nil⟩
  obtain ⟨fd_left_by, F_left_by⟩ := c.a.def_ 52 (d := d_left_by) (by kernel_rfl)
  have k_left_by : L2.FnOk P w K mg base C8.CX0 9 (ga K "left_by") fd_left_by ["blend", "way"] (sp_left_by (YK P w K mg base)) := ok_left_by (Y := YK P w K mg base) (c8fun F_left_by) T c_blend_of c_counts_of c_falling c_holds o_rmul
  have b_left_by : L2.Binds K fd_left_by ["blend", "way"] [] := F_left_by.bindsN fun _ _ _ _ _ _ us hl => match us, hl with | [_, _], _ => rfl
  have g_left_by := He.glo_ok X G (c.a.fact 38 (f := .glo "left_by") (by kernel_rfl))
  have c_left_by : CalY (YK P w K mg base) 9 "left_by" (sp_left_by (YK P w K mg base)) [] := ⟨_, fd_left_by, _, [], k_left_by, g_left_by, F_left_by.kp, b_left_by, .nil⟩
  obtain ⟨fd_out_once, F_out_once⟩ := c.a.def_ 53 (d := d_out_once) (by kernel_rfl)
  have k_out_once : L2.FnOk P w K mg base C8.CX0 10 (ga K "out_once") fd_out_once ["blend", "at"] (sp_out_once (YK P w K mg base)) := ok_out_once (Y := YK P w K mg base) (c8fun F_out_once) T c_left_by
  have b_out_once : L2.Binds K fd_out_once ["blend", "at"] [] := F_out_once.bindsN fun _ _ _ _ _ _ us hl => match us, hl with | [_, _], _ => rfl
  have g_out_once := He.glo_ok X G (c.a.fact 39 (f := .glo "out_once") (by kernel_rfl))
  have c_out_once : CalY (YK P w K mg base) 10 "out_once" (sp_out_once (YK P w K mg base)) [] := ⟨_, fd_out_once, _, [], k_out_once, g_out_once, F_out_once.kp, b_out_once, .nil⟩
  obtain ⟨fd_taken, F_taken⟩ := c.a.def_ 54 (d := d_taken) (by kernel_rfl)
  have k_taken : L2.FnOk P w K mg base C8.CX0 10 (ga K "taken") fd_taken ["blend", "way"] (sp_left_by (YK P w K mg base)) := ok_taken (Y := YK P w K mg base) (c8fun F_taken) T c_left_by c_want_blend c_want_way
  have b_taken : L2.Binds K fd_taken ["blend", "way"] [] := F_taken.bindsN fun _ _ _ _ _ _ us hl => match us, hl with | [_, _], _ => rfl
  have g_taken := He.glo_ok X G (c.a.fact 40 (f := .glo "taken") (by kernel_rfl))
  have c_taken : CalY (YK P w K mg base) 10 "taken" (sp_left_by (YK P w K mg base)) [] := ⟨_, fd_taken, _, [], k_taken, g_taken, F_taken.kp, b_taken, .nil⟩
  obtain ⟨fd_gathered, F_gathered⟩ := c.a.def_ 55 (d := d_gathered) (by kernel_rfl)
  have k_gathered : L2.FnOk P w K mg base C8.CX0 9 (ga K "gathered") fd_gathered ["letters", "pairs"] (sp_gathered (YK P w K mg base)) := ok_gathered (Y := YK P w K mg base) (c8fun F_gathered) T c_blend_of c_want_at_most o_radd p_sign
  have b_gathered : L2.Binds K fd_gathered ["letters", "pairs"] [] := F_gathered.bindsN fun _ _ _ _ _ _ us hl => match us, hl with | [_, _], _ => rfl
  have g_gathered := He.glo_ok X G (c.a.fact 41 (f := .glo "gathered") (by kernel_rfl))
  have c_gathered : CalY (YK P w K mg base) 9 "gathered" (sp_gathered (YK P w K mg base)) [] := ⟨_, fd_gathered, _, [], k_gathered, g_gathered, F_gathered.kp, b_gathered, .nil⟩
  obtain ⟨fd_is_lead, F_is_lead⟩ := c.a.def_ 56 (d := d_is_lead) (by kernel_rfl)
  have k_is_lead : L2.FnOk P w K mg base C8.CX0 4 (ga K "is_lead") fd_is_lead ["value", "many"] (sp_is_lead (YK P w K mg base)) := ok_is_lead (Y := YK P w K mg base) (c8fun F_is_lead) T c_is_from_nought c_is_list
  have b_is_lead : L2.Binds K fd_is_lead ["value", "many"] [] := F_is_lead.bindsN fun _ _ _ _ _ _ us hl => match us, hl with | [_, _], _ => rfl
  have g_is_lead := He.glo_ok X G (c.a.fact 42 (f := .glo "is_lead") (by kernel_rfl))
  have c_is_lead : CalY (YK P w K mg base) 4 "is_lead" (sp_is_lead (YK P w K mg base)) [] := ⟨_, fd_is_lead, _, [], k_is_lead, g_is_lead, F_is_lead.kp, b_is_lead, .nil⟩
  obtain ⟨fd_times_number, F_times_number⟩ := c.a.def_ 57 (d := d_times_number) (by kernel_rfl)
  have k_times_number : L2.FnOk P w K mg base C8.CX0 5 (ga K "times_number") fd_times_number ["blend", "number"] (sp_times_number (YK P w K mg base)) := ok_times_number (Y := YK P w K mg base) (c8fun F_times_number) T o_rmul t_entries
  have b_times_number : L2.Binds K fd_times_number ["blend", "number"] [] := F_times_number.bindsN fun _ _ _ _ _ _ us hl => match us, hl with | [_, _], _ => rfl
  have g_times_number := He.glo_ok X G (c.a.fact 43 (f := .glo "times_number") (by kernel_rfl))
  have c_times_number : CalY (YK P w K mg base) 5 "times_number" (sp_times_number (YK P w K mg base)) [] := ⟨_, fd_times_number, _, [], k_times_number, g_times_number, F_times_number.kp, b_times_number, .nil⟩
  obtain ⟨fd_along_numbers, F_along_numbers⟩ := c.a.def_ 58 (d := d_along_numbers) (by kernel_rfl)
  have k_along_numbers : L2.FnOk P w K mg base C8.CX0 11 (ga K "along_numbers") fd_along_numbers ["blend", "numbers"] (sp_along_numbers (YK P w K mg base)) := ok_along_numbers (Y := YK P w K mg base) (c8fun F_along_numbers) T c_gathered c_is_lead c_out_once c_ratio_of c_times_number c_want_blend p_letters
  have b_along_numbers : L2.Binds K fd_along_numbers ["blend", "numbers"] [] := F_along_numbers.bindsN fun _ _ _ _ _ _ us hl => match us, hl with | [_, _], _ => rfl
  have g_along_numbers := He.glo_ok X G (c.a.fact 44 (f := .glo "along_numbers") (by kernel_rfl))
  have c_along_numbers : CalY (YK P w K mg base) 11 "along_numbers" (sp_along_numbers (YK P w K mg base)) [] := ⟨_, fd_along_numbers, _, [], k_along_numbers, g_along_numbers, F_along_numbers.kp, b_along_numbers, .nil⟩
  have q_kwAlong : CalK P w K mg base 11 "along_numbers" ["numbers", "blend"] (sp_along_numbers (YK P w K mg base)) gV2 := ⟨_, fd_along_numbers, _, (fun _ ws => [ws.getD 1 .none, ws.getD 0 .none]), k_along_numbers, g_along_numbers, F_along_numbers.kp, kb0 F_along_numbers (fun _ r => .cons (vget r 1) (.cons (vget r 0) .nil)) fun _ _ _ _ _ _ us ws l1 l2 => match us, ws, l1, l2 with | [], [_, _], _, _ => rfl⟩
  obtain ⟨fd_cut, F_cut⟩ := c.a.def_ 59 (d := d_cut) (by kernel_rfl)
  have k_cut : L2.FnOk P w K mg base C8.CX0 10 (ga K "cut") fd_cut ["blend", "letter", "many"] (sp_cut (YK P w K mg base)) := ok_cut (Y := YK P w K mg base) (c8fun F_cut) T c_gathered c_want_blend c_want_letter c_want_many p_letters t_entries
  have b_cut : L2.Binds K fd_cut ["blend", "letter", "many"] [] := F_cut.bindsN fun _ _ _ _ _ _ us hl => match us, hl with | [_, _, _], _ => rfl
  have g_cut := He.glo_ok X G (c.a.fact 45 (f := .glo "cut") (by kernel_rfl))
  have c_cut : CalY (YK P w K mg base) 10 "cut" (sp_cut (YK P w K mg base)) [] := ⟨_, fd_cut, _, [], k_cut, g_cut, F_cut.kp, b_cut, .nil⟩
  have q_kwCut : CalK P w K mg base 10 "cut" ["many", "letter", "blend"] (sp_cut (YK P w K mg base)) gV3 := ⟨_, fd_cut, _, (fun _ ws => [ws.getD 2 .none, ws.getD 1 .none, ws.getD 0 .none]), k_cut, g_cut, F_cut.kp, kb0 F_cut (fun _ r => .cons (vget r 2) (.cons (vget r 1) (.cons (vget r 0) .nil))) fun _ _ _ _ _ _ us ws l1 l2 => match us, ws, l1, l2 with | [], [_, _, _], _, _ => rfl⟩
  obtain ⟨fd_power_of, F_power_of⟩ := c.a.def_ 60 (d := d_power_of) (by kernel_rfl)
  have k_power_of : L2.FnOk P w K mg base C8.CX0 1 (ga K "power_of") fd_power_of ["number", "many"] (sp_power_of (YK P w K mg base)) := ok_power_of (Y := YK P w K mg base) (c8fun F_power_of) T
  have b_power_of : L2.Binds K fd_power_of ["number", "many"] [] := F_power_of.bindsN fun _ _ _ _ _ _ us hl => match us, hl with | [_, _], _ => rfl
  have g_power_of := He.glo_ok X G (c.a.fact 46 (f := .glo "power_of") (by kernel_rfl))
  have c_power_of : CalY (YK P w K mg base) 1 "power_of" (sp_power_of (YK P w K mg base)) [] := ⟨_, fd_power_of, _, [], k_power_of, g_power_of, F_power_of.kp, b_power_of, .nil⟩
  obtain ⟨fd_with_factor, F_with_factor⟩ := c.a.def_ 61 (d := d_with_factor) (by kernel_rfl)
  have k_with_factor : L2.FnOk P w K mg base C8.CX0 1 (ga K "with_factor") fd_with_factor ["row", "one", "other"] (sp_with_factor (YK P w K mg base)) := ok_with_factor (Y := YK P w K mg base) (c8fun F_with_factor) T
  have b_with_factor : L2.Binds K fd_with_factor ["row", "one", "other"] [] := F_with_factor.bindsN fun _ _ _ _ _ _ us hl => match us, hl with | [_, _, _], _ => rfl
  have g_with_factor := He.glo_ok X G (c.a.fact 47 (f := .glo "with_factor") (by kernel_rfl))
  have c_with_factor : CalY (YK P w K mg base) 1 "with_factor" (sp_with_factor (YK P w K mg base)) [] := ⟨_, fd_with_factor, _, [], k_with_factor, g_with_factor, F_with_factor.kp, b_with_factor, .nil⟩
  obtain ⟨fd_whole_along, F_whole_along⟩ := c.a.def_ 62 (d := d_whole_along) (by kernel_rfl)
  have k_whole_along : L2.FnOk P w K mg base C8.CX0 3 (ga K "whole_along") fd_whole_along ["blend", "weights", "direction", "most"] (sp_whole_along (YK P w K mg base)) := ok_whole_along (Y := YK P w K mg base) (c8fun F_whole_along) T c_power_of c_wholes c_with_factor
  have b_whole_along : L2.Binds K fd_whole_along ["blend", "weights", "direction", "most"] [] := F_whole_along.bindsN fun _ _ _ _ _ _ us hl => match us, hl with | [_, _, _, _], _ => rfl
  have g_whole_along := He.glo_ok X G (c.a.fact 48 (f := .glo "whole_along") (by kernel_rfl))
  have c_whole_along : CalY (YK P w K mg base) 3 "whole_along" (sp_whole_along (YK P w K mg base)) [] := ⟨_, fd_whole_along, _, [], k_whole_along, g_whole_along, F_whole_along.kp, b_whole_along, .nil⟩
  obtain ⟨fd_along_at, F_along_at⟩ := c.a.def_ 63 (d := d_along_at) (by kernel_rfl)
  have k_along_at : L2.FnOk P w K mg base C8.CX0 4 (ga K "along_at") fd_along_at ["blend", "weights", "direction", "most"] (sp_along_at (YK P w K mg base)) := ok_along_at (Y := YK P w K mg base) (c8fun F_along_at) T c_whole_along m_Ratio2
  have b_along_at : L2.Binds K fd_along_at ["blend", "weights", "direction", "most"] [] := F_along_at.bindsN fun _ _ _ _ _ _ us hl => match us, hl with | [_, _, _, _], _ => rfl
  have g_along_at := He.glo_ok X G (c.a.fact 49 (f := .glo "along_at") (by kernel_rfl))
  have c_along_at : CalY (YK P w K mg base) 4 "along_at" (sp_along_at (YK P w K mg base)) [] := ⟨_, fd_along_at, _, [], k_along_at, g_along_at, F_along_at.kp, b_along_at, .nil⟩
  obtain ⟨fd_worth_at, F_worth_at⟩ := c.a.def_ 64 (d := d_worth_at) (by kernel_rfl)
  have k_worth_at : L2.FnOk P w K mg base C8.CX0 4 (ga K "worth_at") fd_worth_at ["blend", "weights"] (sp_worth_at (YK P w K mg base)) := ok_worth_at (Y := YK P w K mg base) (c8fun F_worth_at) T c_power_of c_wholes m_Ratio1 m_Ratio2
  have b_worth_at : L2.Binds K fd_worth_at ["blend", "weights"] [] := F_worth_at.bindsN fun _ _ _ _ _ _ us hl => match us, hl with | [_, _], _ => rfl
  have g_worth_at := He.glo_ok X G (c.a.fact 50 (f := .glo "worth_at") (by kernel_rfl))
  have c_worth_at : CalY (YK P w K mg base) 4 "worth_at" (sp_worth_at (YK P w K mg base)) [] := ⟨_, fd_worth_at, _, [], k_worth_at, g_worth_at, F_worth_at.kp, b_worth_at, .nil⟩
  obtain ⟨fd_worth, F_worth⟩ := c.a.def_ 65 (d := d_worth) (by kernel_rfl)
  have k_worth : L2.FnOk P w K mg base C8.CX0 7 (ga K "worth") fd_worth ["blend", "weights"] (sp_worth (YK P w K mg base)) := ok_worth (Y := YK P w K mg base) (c8fun F_worth) T c_want_blend c_want_weights c_worth_at
  have b_worth : L2.Binds K fd_worth ["blend", "weights"] [] := F_worth.bindsN fun _ _ _ _ _ _ us hl => match us, hl with | [_, _], _ => rfl
  have g_worth := He.glo_ok X G (c.a.fact 51 (f := .glo "worth") (by kernel_rfl))
  have c_worth : CalY (YK P w K mg base) 7 "worth" (sp_worth (YK P w K mg base)) [] := ⟨_, fd_worth, _, [], k_worth, g_worth, F_worth.kp, b_worth, .nil⟩
  obtain ⟨fd_line_of, F_line_of⟩ := c.a.def_ 66 (d := d_line_of) (by kernel_rfl)
  have k_line_of : L2.FnOk P w K mg base C8.CX0 7 (ga K "line_of") fd_line_of ["blend", "weights", "direction"] (sp_line_of (YK P w K mg base)) := ok_line_of (Y := YK P w K mg base) (c8fun F_line_of) T c_want_blend c_want_direction c_want_weights
  have b_line_of : L2.Binds K fd_line_of ["blend", "weights", "direction"] [] := F_line_of.bindsN fun _ _ _ _ _ _ us hl => match us, hl with | [_, _, _], _ => rfl
  have g_line_of := He.glo_ok X G (c.a.fact 52 (f := .glo "line_of") (by kernel_rfl))
  have c_line_of : CalY (YK P w K mg base) 7 "line_of" (sp_line_of (YK P w K mg base)) [] := ⟨_, fd_line_of, _, [], k_line_of, g_line_of, F_line_of.kp, b_line_of, .nil⟩
  obtain ⟨fd_slope, F_slope⟩ := c.a.def_ 67 (d := d_slope) (by kernel_rfl)
  have k_slope : L2.FnOk P w K mg base C8.CX0 8 (ga K "slope") fd_slope ["blend", "weights", "direction"] (sp_slope (YK P w K mg base)) := ok_slope (Y := YK P w K mg base) (c8fun F_slope) T c_along_at c_line_of
  have b_slope : L2.Binds K fd_slope ["blend", "weights", "direction"] [] := F_slope.bindsN fun _ _ _ _ _ _ us hl => match us, hl with | [_, _, _], _ => rfl
  have g_slope := He.glo_ok X G (c.a.fact 53 (f := .glo "slope") (by kernel_rfl))
  have c_slope : CalY (YK P w K mg base) 8 "slope" (sp_slope (YK P w K mg base)) [] := ⟨_, fd_slope, _, [], k_slope, g_slope, F_slope.kp, b_slope, .nil⟩
  obtain ⟨fd_bend, F_bend⟩ := c.a.def_ 68 (d := d_bend) (by kernel_rfl)
  have k_bend : L2.FnOk P w K mg base C8.CX0 8 (ga K "bend") fd_bend ["blend", "weights", "direction"] (sp_bend (YK P w K mg base)) := ok_bend (Y := YK P w K mg base) (c8fun F_bend) T c_along_at c_line_of o_rmul
  have b_bend : L2.Binds K fd_bend ["blend", "weights", "direction"] [] := F_bend.bindsN fun _ _ _ _ _ _ us hl => match us, hl with | [_, _, _], _ => rfl
  have g_bend := He.glo_ok X G (c.a.fact 54 (f := .glo "bend") (by kernel_rfl))
  have c_bend : CalY (YK P w K mg base) 8 "bend" (sp_bend (YK P w K mg base)) [] := ⟨_, fd_bend, _, [], k_bend, g_bend, F_bend.kp, b_bend, .nil⟩
  obtain ⟨fd__law_pot, F__law_pot⟩ := c.a.def_ 69 (d := d__law_pot) (by kernel_rfl)
  have k__law_pot : L2.FnOk P w K mg base C8.CX0 1 (ga K "_law_pot") fd__law_pot ["_law_script", "_law_k"] (sp__law_pot (YK P w K mg base)) := ok__law_pot (Y := YK P w K mg base) (c8fun F__law_pot) T
  have b__law_pot : L2.Binds K fd__law_pot ["_law_script", "_law_k"] [] := F__law_pot.bindsN fun _ _ _ _ _ _ us hl => match us, hl with | [_, _], _ => rfl
  have g__law_pot := He.glo_ok X G (c.a.fact 55 (f := .glo "_law_pot") (by kernel_rfl))
  have c__law_pot : CalY (YK P w K mg base) 1 "_law_pot" (sp__law_pot (YK P w K mg base)) [] := ⟨_, fd__law_pot, _, [], k__law_pot, g__law_pot, F__law_pot.kp, b__law_pot, .nil⟩
  obtain ⟨fd__law_draw, F__law_draw⟩ := c.a.def_ 70 (d := d__law_draw) (by kernel_rfl)
  have k__law_draw : L2.FnOk P w K mg base C8.CX0 1 (ga K "_law_draw") fd__law_draw ["_law_pot_here", "_law_size"] (sp__law_draw (YK P w K mg base)) := ok__law_draw (Y := YK P w K mg base) (c8fun F__law_draw) T
  have b__law_draw : L2.Binds K fd__law_draw ["_law_pot_here", "_law_size"] [] := F__law_draw.bindsN fun _ _ _ _ _ _ us hl => match us, hl with | [_, _], _ => rfl
  have g__law_draw := He.glo_ok X G (c.a.fact 56 (f := .glo "_law_draw") (by kernel_rfl))
  have c__law_draw : CalY (YK P w K mg base) 1 "_law_draw" (sp__law_draw (YK P w K mg base)) [] := ⟨_, fd__law_draw, _, [], k__law_draw, g__law_draw, F__law_draw.kp, b__law_draw, .nil⟩
  obtain ⟨fd__law_amount, F__law_amount⟩ := c.a.def_ 71 (d := d__law_amount) (by kernel_rfl)
  have k__law_amount : L2.FnOk P w K mg base C8.CX0 4 (ga K "_law_amount") fd__law_amount ["_law_pot_here"] (sp__law_amount (YK P w K mg base)) := ok__law_amount (Y := YK P w K mg base) (c8fun F__law_amount) T c__law_draw m_Ratio2
  have b__law_amount : L2.Binds K fd__law_amount ["_law_pot_here"] [] := F__law_amount.bindsN fun _ _ _ _ _ _ us hl => match us, hl with | [_], _ => rfl
  have g__law_amount := He.glo_ok X G (c.a.fact 57 (f := .glo "_law_amount") (by kernel_rfl))
  have c__law_amount : CalY (YK P w K mg base) 4 "_law_amount" (sp__law_amount (YK P w K mg base)) [] := ⟨_, fd__law_amount, _, [], k__law_amount, g__law_amount, F__law_amount.kp, b__law_amount, .nil⟩
  obtain ⟨fd__law_counts, F__law_counts⟩ := c.a.def_ 72 (d := d__law_counts) (by kernel_rfl)
  have k__law_counts : L2.FnOk P w K mg base C8.CX0 2 (ga K "_law_counts") fd__law_counts ["_law_pot_here", "_law_wide", "_law_degree"] (sp__law_counts (YK P w K mg base)) := ok__law_counts (Y := YK P w K mg base) (c8fun F__law_counts) T c__law_draw
  have b__law_counts : L2.Binds K fd__law_counts ["_law_pot_here", "_law_wide", "_law_degree"] [] := F__law_counts.bindsN fun _ _ _ _ _ _ us hl => match us, hl with | [_, _, _], _ => rfl
  have g__law_counts := He.glo_ok X G (c.a.fact 58 (f := .glo "_law_counts") (by kernel_rfl))
  have c__law_counts : CalY (YK P w K mg base) 2 "_law_counts" (sp__law_counts (YK P w K mg base)) [] := ⟨_, fd__law_counts, _, [], k__law_counts, g__law_counts, F__law_counts.kp, b__law_counts, .nil⟩
  obtain ⟨fd__law_parts, F__law_parts⟩ := c.a.def_ 73 (d := d__law_parts) (by kernel_rfl)
  have k__law_parts : L2.FnOk P w K mg base C8.CX0 6 (ga K "_law_parts") fd__law_parts ["_law_pot_here", "_law_wide", "_law_degree", "_law_most"] (sp__law_parts (YK P w K mg base)) := ok__law_parts (Y := YK P w K mg base) (c8fun F__law_parts) T c__law_amount c__law_counts c__law_draw m_Ratio1 o_rmul
  have b__law_parts : L2.Binds K fd__law_parts ["_law_pot_here", "_law_wide", "_law_degree", "_law_most"] [] := F__law_parts.bindsN fun _ _ _ _ _ _ us hl => match us, hl with | [_, _, _, _], _ => rfl
  have g__law_parts := He.glo_ok X G (c.a.fact 59 (f := .glo "_law_parts") (by kernel_rfl))
  have c__law_parts : CalY (YK P w K mg base) 6 "_law_parts" (sp__law_parts (YK P w K mg base)) [] := ⟨_, fd__law_parts, _, [], k__law_parts, g__law_parts, F__law_parts.kp, b__law_parts, .nil⟩
  obtain ⟨fd__law_numbers, F__law_numbers⟩ := c.a.def_ 74 (d := d__law_numbers) (by kernel_rfl)
  have k__law_numbers : L2.FnOk P w K mg base C8.CX0 4 (ga K "_law_numbers") fd__law_numbers ["_law_pot_here", "_law_wide"] (sp__law_numbers (YK P w K mg base)) := ok__law_numbers (Y := YK P w K mg base) (c8fun F__law_numbers) T c__law_draw m_Ratio2
  have b__law_numbers : L2.Binds K fd__law_numbers ["_law_pot_here", "_law_wide"] [] := F__law_numbers.bindsN fun _ _ _ _ _ _ us hl => match us, hl with | [_, _], _ => rfl
  have g__law_numbers := He.glo_ok X G (c.a.fact 60 (f := .glo "_law_numbers") (by kernel_rfl))
  have c__law_numbers : CalY (YK P w K mg base) 4 "_law_numbers" (sp__law_numbers (YK P w K mg base)) [] := ⟨_, fd__law_numbers, _, [], k__law_numbers, g__law_numbers, F__law_numbers.kp, b__law_numbers, .nil⟩
  obtain ⟨fd__law_blend, F__law_blend⟩ := c.a.def_ 75 (d := d__law_blend) (by kernel_rfl)
  have k__law_blend : L2.FnOk P w K mg base C8.CX0 8 (ga K "_law_blend") fd__law_blend ["_law_letters_now", "_law_parts_here"] (sp__law_blend (YK P w K mg base)) := ok__law_blend (Y := YK P w K mg base) (c8fun F__law_blend) T m_Blend2
  have b__law_blend : L2.Binds K fd__law_blend ["_law_letters_now", "_law_parts_here"] [] := F__law_blend.bindsN fun _ _ _ _ _ _ us hl => match us, hl with | [_, _], _ => rfl
  have g__law_blend := He.glo_ok X G (c.a.fact 61 (f := .glo "_law_blend") (by kernel_rfl))
  have c__law_blend : CalY (YK P w K mg base) 8 "_law_blend" (sp__law_blend (YK P w K mg base)) [] := ⟨_, fd__law_blend, _, [], k__law_blend, g__law_blend, F__law_blend.kp, b__law_blend, .nil⟩
  obtain ⟨fd__law_told, F__law_told⟩ := c.a.def_ 76 (d := d__law_told) (by kernel_rfl)
  have k__law_told : L2.FnOk P w K mg base C8.CX0 3 (ga K "_law_told") fd__law_told ["_law_parts_here"] (sp__law_told (YK P w K mg base)) := ok__law_told (Y := YK P w K mg base) (c8fun F__law_told) T p_sign
  have b__law_told : L2.Binds K fd__law_told ["_law_parts_here"] [] := F__law_told.bindsN fun _ _ _ _ _ _ us hl => match us, hl with | [_], _ => rfl
  have g__law_told := He.glo_ok X G (c.a.fact 62 (f := .glo "_law_told") (by kernel_rfl))
  have c__law_told : CalY (YK P w K mg base) 3 "_law_told" (sp__law_told (YK P w K mg base)) [] := ⟨_, fd__law_told, _, [], k__law_told, g__law_told, F__law_told.kp, b__law_told, .nil⟩
  obtain ⟨fd__law_add, F__law_add⟩ := c.a.def_ 77 (d := d__law_add) (by kernel_rfl)
  have k__law_add : L2.FnOk P w K mg base C8.CX0 5 (ga K "_law_add") fd__law_add ["_law_parts_here", "_law_key", "_law_amount_here"] (sp__law_add (YK P w K mg base)) := ok__law_add (Y := YK P w K mg base) (c8fun F__law_add) T o_radd
  have b__law_add : L2.Binds K fd__law_add ["_law_parts_here", "_law_key", "_law_amount_here"] [] := F__law_add.bindsN fun _ _ _ _ _ _ us hl => match us, hl with | [_, _, _], _ => rfl
  have g__law_add := He.glo_ok X G (c.a.fact 63 (f := .glo "_law_add") (by kernel_rfl))
  have c__law_add : CalY (YK P w K mg base) 5 "_law_add" (sp__law_add (YK P w K mg base)) [] := ⟨_, fd__law_add, _, [], k__law_add, g__law_add, F__law_add.kp, b__law_add, .nil⟩
  obtain ⟨fd__law_along, F__law_along⟩ := c.a.def_ 78 (d := d__law_along) (by kernel_rfl)
  have k__law_along : L2.FnOk P w K mg base C8.CX0 6 (ga K "_law_along") fd__law_along ["_law_parts_here", "_law_numbers_here"] (sp__law_along (YK P w K mg base)) := ok__law_along (Y := YK P w K mg base) (c8fun F__law_along) T c__law_add c__law_told o_rmul
  have b__law_along : L2.Binds K fd__law_along ["_law_parts_here", "_law_numbers_here"] [] := F__law_along.bindsN fun _ _ _ _ _ _ us hl => match us, hl with | [_, _], _ => rfl
  have g__law_along := He.glo_ok X G (c.a.fact 64 (f := .glo "_law_along") (by kernel_rfl))
  have c__law_along : CalY (YK P w K mg base) 6 "_law_along" (sp__law_along (YK P w K mg base)) [] := ⟨_, fd__law_along, _, [], k__law_along, g__law_along, F__law_along.kp, b__law_along, .nil⟩
  obtain ⟨fd__law_pick, F__law_pick⟩ := c.a.def_ 79 (d := d__law_pick) (by kernel_rfl)
  have k__law_pick : L2.FnOk P w K mg base C8.CX0 2 (ga K "_law_pick") fd__law_pick ["_law_pot_here", "_law_some"] (sp__law_pick (YK P w K mg base)) := ok__law_pick (Y := YK P w K mg base) (c8fun F__law_pick) T c__law_draw
  have b__law_pick : L2.Binds K fd__law_pick ["_law_pot_here", "_law_some"] [] := F__law_pick.bindsN fun _ _ _ _ _ _ us hl => match us, hl with | [_, _], _ => rfl
  have g__law_pick := He.glo_ok X G (c.a.fact 65 (f := .glo "_law_pick") (by kernel_rfl))
  have c__law_pick : CalY (YK P w K mg base) 2 "_law_pick" (sp__law_pick (YK P w K mg base)) [] := ⟨_, fd__law_pick, _, [], k__law_pick, g__law_pick, F__law_pick.kp, b__law_pick, .nil⟩
  obtain ⟨fd__law_along_right, F__law_along_right⟩ := c.a.def_ 80 (d := d__law_along_right) (by kernel_rfl)
  have k__law_along_right : L2.FnOk P w K mg base C8.CX0 13 (ga K "_law_along_right") fd__law_along_right ["_law_pot_here", "_law_one", "_law_parts_here"] (sp__law_along_right (YK P w K mg base)) := ok__law_along_right (Y := YK P w K mg base) (c8fun F__law_along_right) T c__law_along c__law_draw c__law_numbers c_along_numbers c_bend c_slope c_taken c_worth m_Ratio2 o_rmul p_degree p_is_nought p_letters q_beq q_kwAlong q_req t_entries
  have b__law_along_right : L2.Binds K fd__law_along_right ["_law_pot_here", "_law_one", "_law_parts_here"] [] := F__law_along_right.bindsN fun _ _ _ _ _ _ us hl => match us, hl with | [_, _, _], _ => rfl
  have g__law_along_right := He.glo_ok X G (c.a.fact 66 (f := .glo "_law_along_right") (by kernel_rfl))
  have c__law_along_right : CalY (YK P w K mg base) 13 "_law_along_right" (sp__law_along_right (YK P w K mg base)) [] := ⟨_, fd__law_along_right, _, [], k__law_along_right, g__law_along_right, F__law_along_right.kp, b__law_along_right, .nil⟩
  obtain ⟨fd__law_cut_right, F__law_cut_right⟩ := c.a.def_ 81 (d := d__law_cut_right) (by kernel_rfl)
  have k__law_cut_right : L2.FnOk P w K mg base C8.CX0 13 (ga K "_law_cut_right") fd__law_cut_right ["_law_pot_here", "_law_one", "_law_parts_here"] (sp__law_cut_right (YK P w K mg base)) := ok__law_cut_right (Y := YK P w K mg base) (c8fun F__law_cut_right) T c__law_blend c__law_draw c__law_pick c__law_told c_cut o_badd p_letters q_beq q_kwCut q_req t_bears t_entries
  have b__law_cut_right : L2.Binds K fd__law_cut_right ["_law_pot_here", "_law_one", "_law_parts_here"] [] := F__law_cut_right.bindsN fun _ _ _ _ _ _ us hl => match us, hl with | [_, _, _], _ => rfl
  have g__law_cut_right := He.glo_ok X G (c.a.fact 67 (f := .glo "_law_cut_right") (by kernel_rfl))
  have c__law_cut_right : CalY (YK P w K mg base) 13 "_law_cut_right" (sp__law_cut_right (YK P w K mg base)) [] := ⟨_, fd__law_cut_right, _, [], k__law_cut_right, g__law_cut_right, F__law_cut_right.kp, b__law_cut_right, .nil⟩
  obtain ⟨fd__law_right, F__law_right⟩ := c.a.def_ 82 (d := d__law_right) (by kernel_rfl)
  have k__law_right : L2.FnOk P w K mg base C8.CX0 14 (ga K "_law_right") fd__law_right ["_law_pot_here"] (sp__law_right (YK P w K mg base)) := ok__law_right (Y := YK P w K mg base) (c8fun F__law_right) T c__law_along_right c__law_blend c__law_cut_right c__law_draw c__law_parts c__law_pick c__law_told c_along_numbers c_cut m_Blend1 p_is_nought q_req t_entries kt
  have b__law_right : L2.Binds K fd__law_right ["_law_pot_here"] [] := F__law_right.bindsN fun _ _ _ _ _ _ us hl => match us, hl with | [_], _ => rfl
  have g__law_right := He.glo_ok X G (c.a.fact 68 (f := .glo "_law_right") (by kernel_rfl))
  have c__law_right : CalY (YK P w K mg base) 14 "_law_right" (sp__law_right (YK P w K mg base)) [] := ⟨_, fd__law_right, _, [], k__law_right, g__law_right, F__law_right.kp, b__law_right, .nil⟩
  have k_law : L2.FnOk P w K mg base C8.CX0 15 (ga K "law") fd_law ["_law_script"] (sp_law (YK P w K mg base)) := ok_law (Y := YK P w K mg base) (c8fun F_law) T c__law_pot c__law_right
  exact k_law
end
end Km
end

section
set_option Elab.async false
set_option linter.all false
set_option maxRecDepth 100000
set_option maxHeartbeats 0
namespace Km
open PySem PySem.W PySem.Calls PyProof.Rows
open He (ga ma Fa)
theorem law_F (w : World) (mg : PySem.Str → Option Value) (fa0 : Addr) (h : Heap) (Y : hk.says w h) (G : h.Ns mainGlobals mg) (hm : mg ("law" : PySem.Str) = some (.ref fa0)) :
    ∃ (K : Frag) (fd : FuncData) (sp : L2.Sp), K.In h ∧ (∀ (s : Shared) (u : Value), BindsTo s fd ⟨[u], []⟩ [("_law_script", u)]) ∧
      (∀ (H : L2.Hp) (a : Addr) (ns : List Int), ns.length ≤ 63 → L2.Only H → L2.SqL K H a (ns.map L2.V.int) → sp [.ref a] H (fun v _ => v = .bl true) fun _ _ _ => False) ∧
      ∀ base : Heap, K.In base → base.Ns mainGlobals mg → L2.FnOk PySem.Challenge.rw_onecrest_k53_whole_along_numbers_and_cut.prog w K mg base C8.CX0 15 fa0 fd ["_law_script"] sp := by
  obtain ⟨K, KX, c⟩ := Y
  have gl := He.glo_ok KX G (c.a.fact 69 (f := .glo "law") (by kernel_rfl))
  rw [hm] at gl
  cases gl
  obtain ⟨fd, F⟩ := c.a.def_ 83 (d := d_law) (by kernel_rfl)
  refine ⟨K, fd, fun vs H Q _ => ∃ (a : Addr) (ns : List Int), vs = [.ref a] ∧ L2.SqL K H a (ns.map L2.V.int) ∧ ∀ H', Q (.bl true) H', KX, fun s u => L2.FunD.bindsA (ps := ["_law_script"]) F (fun _ _ _ _ _ _ us hl => match us, hl with | [_], _ => rfl) s [u] rfl, fun H a ns _ _ hS => ⟨a, ns, rfl, hS, fun _ => rfl⟩, fun base _ _ => law_ok KX G c F⟩
end Km
open PySem PySem.W PySem.Calls PyProof.Rows
theorem PySem.Challenge.cw_onecrest_k53_whole_along_numbers_and_cut_holds : PySem.Challenge.rw_onecrest_k53_whole_along_numbers_and_cut.Holds := by
  w_on; o_law
  refine HandSHeadRun.head_any (r := OpenLaw.row PySem.Challenge.rw_onecrest_k53_whole_along_numbers_and_cut) (q := Km.qv) (H := Km.hk) (ob := Km.ob) (M := 60000) (loose := Km.names) (d := HandSHeadRun.topDef (OpenLaw.row PySem.Challenge.rw_onecrest_k53_whole_along_numbers_and_cut).prog 110) (kwd := []) Km.ob_eq
    (by kernel_rfl) (fun s => by kernel_rfl) Km.run (by kernel_rfl) (by kernel_rfl) (by kernel_rfl) (by rfl) (by first | assumption | decide +kernel) (by decide +kernel) ⟨rfl, rfl, rfl, rfl, rfl, by decide +kernel⟩ ?hw ?hc
  case hw => w_witness2
  case hc =>
    refine L2.walk_ofE (l := PySem.Challenge.rw_onecrest_k53_whole_along_numbers_and_cut) (n := 63) (k := 15) (x := "_law_script") (CX := C8.CX0) rfl (by decide) (by kernel_rfl) ⟨rfl, by decide, by decide⟩ ?F (fun _ _ _ _ z => z)
    intro w mg fa h Y G hmg0
    have e : (HandSHeadRun.topDef (OpenLaw.row PySem.Challenge.rw_onecrest_k53_whole_along_numbers_and_cut).prog 110).name = ("law" : PySem.Str) := by kernel_rfl
    have hmg : mg ("law" : PySem.Str) = some (.ref fa) := by
      rw [← e]
      exact hmg0
    exact Km.law_F w mg fa h Y G hmg
end
