import PyProof.Rows.All
import Wide.All
import OpenK.AllK
import Wide.FinOn
import HandS.ForMost
import HandS.ForExc
import HandS.Evl
import HandS.Lambda
import HandS.IsInst
import HandS.Wide
import HandS.Walk
import HandS.HeadHook1
import HandS.HeadHook2
import HandS.Zip
import HandS.TupAny
import HandS.Style
import HandS.Defaults
import HandS.Head0
import HandS.Head1
import HandS.Head2
import HandS.HeadEnd
import HandS.HeadHook4
import HandS.HeadWalk
import HandS.Dict
import HandS.Deep
import HandS.ExcIs
import HandS.NestedK
import HandS.Rev
import HandS.Text
import PySem.Challenge.RW_momentwright_k63_least_squares_at_a_spot
set_option Elab.async false
set_option linter.all false
set_option maxRecDepth 100000
set_option maxHeartbeats 4000000
namespace DL
open PySem L2 PySem.Spec PyProof.Rows
structure Book where
  fn : List He.DefD
  fa : List He.Fa
  tu : List (Str × List He.Dv)
  tf : List He.Defn := []
  ck : PySem.W.Frag → Bool := fun _ => true
def Book.tt (b : Book) (K : PySem.W.Frag) : Bool := b.tu.all fun q => He.eqO (PySem.W.nsIn K mainGlobals q.1) (some (some (.ref (He.ga K q.1)))) && He.tupB K q.1 q.2
def seerB (K : PySem.W.Frag) : Bool :=
  (PySem.W.nsOkIn K cStatics && (He.eqO (PySem.W.nsIn K cStatics "sys.audit-hooks") (some none) && He.eqO (PySem.W.nsIn K cStatics "sys.dict") (some none))) &&
  ((PySem.W.nsOkIn K sysModules && He.eqO (PySem.W.nsIn K sysModules "_pylong") (some none)) &&
  (He.eqO (PySem.W.nsIn K mainGlobals "__builtins__") (some (some (.ref (He.ga K "__builtins__")))) && (match K.lookup (He.ga K "__builtins__") with
    | some ⟨.type c, some d, _, _⟩ => decide (c = "module" ∧ d = builtinsNs)
    | _ => false)))
def exB (b : Book) (K : PySem.W.Frag) : Bool := b.tt K && (decide ((b.tf.map fun p => (He.cT K p).2).Nodup) && (b.ck K && seerB K))
def asZ (n : Nat) (g : Addr → Option Obj) : List Addr := He.asD g n ++ [cStatics, sysModules]
def obsZ (n : Nat) (b : Book) (g : Addr → Option Obj) : He.AlX :=
  let K := He.frT g (asZ n g)
  (He.obsT b.fa b.fn [] K, exB b K && He.tabsB g b.tf K)
theorem saysZ_of {n : Nat} {b : Book} {w : World} {h : Heap} (e : obsZ n b h.get? = He.valX b.fn [] w) : He.SaysX b.fa b.fn [] b.tf (exB b) w h (He.frT h.get? (asZ n h.get?)) := by
  have e1 := congrArg (fun z : He.AlX => z.1) e
  obtain ⟨h1, h2⟩ := He.ba (show (exB b (He.frT h.get? (asZ n h.get?)) && He.tabsB h.get? b.tf (He.frT h.get? (asZ n h.get?))) = true from congrArg (fun z : He.AlX => z.2) e)
  generalize hK : He.frT h.get? (asZ n h.get?) = K at *
  have e1' : He.obsT b.fa b.fn [] K = He.valT b.fn [] w := by rw [← hK]; exact e1
  have look : ∀ q ∈ b.tf, PySem.W.codeHdIn K (He.cT K q).1 (He.cT K q).2 = true ∧ ∃ o, h.get? (He.cT K q).2 = some o ∧ He.emptyTab o = true := by
    intro q hq
    have z := List.all_eq_true.mp h2 q hq
    obtain ⟨z1, z2⟩ := He.ba z
    refine ⟨z1, ?_⟩
    split at z2
    · rename_i o ho
      exact ⟨o, ho, z2⟩
    · cases z2
  refine ⟨e1', h1, fun q hq => (look q hq).1, fun q hq => ?_, fun q hq => ?_⟩
  · obtain ⟨_, o, h3, h4⟩ := look q hq
    have := He.frT_none (as := asZ n h.get?) h3 h4
    rwa [hK] at this
  · obtain ⟨_, o, h3, h4⟩ := look q hq
    rw [h3, He.emptyTab_eq h4]
def hookZ (n : Nat) (b : Book) : PySem.W.Hook where
  α := He.AlX
  obs s := obsZ n b s.heap.get?
  val w := He.valX b.fn [] w
  says w h := ∃ K : PySem.W.Frag, K.In h ∧ He.SaysX b.fa b.fn [] b.tf (exB b) w h K
  of _ _ e := ⟨_, He.frT_in, saysZ_of e⟩
  keeps _ _ _ := fun ⟨K, a, c⟩ k => ⟨K, PySem.W.Frag.In.keeps a k, ⟨c.t, c.more, c.hd, c.out, fun q hq => k _ _ (c.empty q hq)⟩⟩
theorem obsZ_eq {n : Nat} {b : Book} {g : Addr → Option Obj} {s : Shared} (h : ∀ a, g a = s.heap.get? a) : obsZ n b g = (hookZ n b).obs s := by
  obtain rfl : g = s.heap.get? := funext h
  rfl
def nine : List Str := ["NoFraction", "NoPolynomial", "NoSums", "NoFlock", "NoWalk", "NoSum", "NoDeed", "NoText", "NoRow"]
def excCB (K : PySem.W.Frag) (C : Addr) : Bool := decide (PySem.W.findIn K (.ref C) "__getattribute__" = some (some (.builtin "BaseException.__getattribute__"))) && (decide (PySem.W.findIn K (.ref C) "__getattr__" = some none) && (decide (PySem.W.subIn K (.ref C) (.type "BaseException") = some true) &&
  (PySem.W.hasDictIn K C && (decide (PySem.W.findIn K (.ref C) "__class__" = some (some (.builtin "object.__class__"))) && (decide (PySem.W.specialIn K (.builtin "object.__class__") "__get__" = some (some (.builtin "getset_descriptor.__get__"))) &&
  (decide (PySem.W.takesIn K (.builtin "object.__class__") = some true) && decide (PySem.W.mroIn K C (.type "object") = some true)))))))
def errB (K : PySem.W.Frag) : Bool := nine.all fun x => excCB K (He.ga K x) && (decide (PySem.W.kitOne K (.type "NoneType") (.ref (He.ga K x)) = some false) && ((nine.all fun y => decide (PySem.W.kitOne K (.ref (He.ga K x)) (.ref (He.ga K y)) = some (x == y))) &&
  (decide (PySem.W.kitOne K (.ref (He.ga K x)) (.type "ValueError") = some true) && decide (PySem.W.exmOne K (.ref (He.ga K x)) (.ref (He.ga K "MomentError")) = some true))))
end DL
set_option Elab.async false
set_option linter.all false
set_option maxRecDepth 100000
set_option maxHeartbeats 4000000
namespace Wk
open PySem PySem.Spec PyProof.Rows L2 DL
def top (i : Nat) : Stmt := PySem.Challenge.pw_momentwright_k63_least_squares_at_a_spot.main.body.getD i (.Pass ⟨0, 0, 0, 0⟩)
abbrev s_divisor : Stmt := top 15
abbrev s_ratio : Stmt := top 16
abbrev s_plus : Stmt := top 17
abbrev s_minus : Stmt := top 18
abbrev s_times : Stmt := top 19
abbrev s_over : Stmt := top 20
abbrev s_sign_of : Stmt := top 21
abbrev s_total : Stmt := top 22
abbrev s_clean : Stmt := top 24
abbrev s_at_place : Stmt := top 25
abbrev s_summed : Stmt := top 26
abbrev s_grown : Stmt := top 27
abbrev s_lessened : Stmt := top 28
abbrev s_raised : Stmt := top 29
abbrev s_multiplied : Stmt := top 30
abbrev s_power_of_x : Stmt := top 31
abbrev s_number_at : Stmt := top 32
abbrev s_root_powers : Stmt := top 34
abbrev s_worth : Stmt := top 36
abbrev s_square_sum : Stmt := top 37
abbrev s_next_step : Stmt := top 39
abbrev s_turn_of : Stmt := top 40
abbrev s_steps : Stmt := top 41
abbrev s_nought_bar : Stmt := top 43
abbrev s_solved : Stmt := top 44
abbrev s_row_less : Stmt := top 45
abbrev s_flock_by_roots : Stmt := top 46
abbrev s_open_roots : Stmt := top 47
abbrev s_back : Stmt := top 48
abbrev s_need_flock : Stmt := top 50
abbrev s_tight_step : Stmt := top 51
abbrev s_least_square : Stmt := top 53
abbrev s__law_divisor : Stmt := top 55
abbrev s__law_low : Stmt := top 56
abbrev s__law_over : Stmt := top 57
abbrev s__law_plus : Stmt := top 58
abbrev s__law_times : Stmt := top 59
abbrev s__law_worth : Stmt := top 60
abbrev s__law_clean : Stmt := top 61
abbrev s__law_multiplied : Stmt := top 62
abbrev s__law_square : Stmt := top 63
abbrev s__law_summed : Stmt := top 64
abbrev s__law_along : Stmt := top 65
abbrev s__law_x : Stmt := top 66
abbrev s__law_steps : Stmt := top 67
abbrev s__law_kind : Stmt := top 68
abbrev s__law_refused : Stmt := top 69
abbrev s__law_whole : Stmt := top 70
abbrev s__law_is_fraction : Stmt := top 71
abbrev s__law_is_polynomial : Stmt := top 72
abbrev s__law_same : Stmt := top 73
abbrev s__law_number_at : Stmt := top 74
abbrev s__law_least : Stmt := top 75
abbrev s__law_less : Stmt := top 76
abbrev s__law_cell_at : Stmt := top 77
abbrev s__law_state : Stmt := top 78
abbrev s__law_take : Stmt := top 79
abbrev s__law_small : Stmt := top 80
abbrev s__law_above : Stmt := top 81
abbrev s__law_crowd : Stmt := top 82
abbrev s__law_spot_crowd : Stmt := top 83
abbrev s__law_crowd_sums : Stmt := top 84
abbrev s__law_case : Stmt := top 85
abbrev s__law_sums : Stmt := top 86
abbrev s__law_weight_at : Stmt := top 87
abbrev s__law_right : Stmt := top 88
abbrev s_law : Stmt := top 89
def bk : Book where
  fn := [⟨("divisor", none), "divisor", "divisor", defArgs s_divisor, defBody s_divisor, defScope s_divisor, [], []⟩, ⟨("ratio", none), "ratio", "ratio", defArgs s_ratio, defBody s_ratio, defScope s_ratio, [], []⟩, ⟨("plus", none), "plus", "plus", defArgs s_plus, defBody s_plus, defScope s_plus, [], []⟩, ⟨("minus", none), "minus", "minus", defArgs s_minus, defBody s_minus, defScope s_minus, [], []⟩, ⟨("times", none), "times", "times", defArgs s_times, defBody s_times, defScope s_times, [], []⟩, ⟨("over", none), "over", "over", defArgs s_over, defBody s_over, defScope s_over, [], []⟩, ⟨("sign_of", none), "sign_of", "sign_of", defArgs s_sign_of, defBody s_sign_of, defScope s_sign_of, [], []⟩, ⟨("total", none), "total", "total", defArgs s_total, defBody s_total, defScope s_total, [], []⟩, ⟨("clean", none), "clean", "clean", defArgs s_clean, defBody s_clean, defScope s_clean, [], []⟩, ⟨("at_place", none), "at_place", "at_place", defArgs s_at_place, defBody s_at_place, defScope s_at_place, [], []⟩, ⟨("summed", none), "summed", "summed", defArgs s_summed, defBody s_summed, defScope s_summed, [], []⟩, ⟨("grown", none), "grown", "grown", defArgs s_grown, defBody s_grown, defScope s_grown, [], []⟩, ⟨("lessened", none), "lessened", "lessened", defArgs s_lessened, defBody s_lessened, defScope s_lessened, [], []⟩, ⟨("raised", none), "raised", "raised", defArgs s_raised, defBody s_raised, defScope s_raised, [], []⟩, ⟨("multiplied", none), "multiplied", "multiplied", defArgs s_multiplied, defBody s_multiplied, defScope s_multiplied, [], []⟩, ⟨("power_of_x", none), "power_of_x", "power_of_x", defArgs s_power_of_x, defBody s_power_of_x, defScope s_power_of_x, [], []⟩, ⟨("number_at", none), "number_at", "number_at", defArgs s_number_at, defBody s_number_at, defScope s_number_at, [], []⟩, ⟨("root_powers", none), "root_powers", "root_powers", defArgs s_root_powers, defBody s_root_powers, defScope s_root_powers, [], []⟩, ⟨("worth", none), "worth", "worth", defArgs s_worth, defBody s_worth, defScope s_worth, [], []⟩, ⟨("square_sum", none), "square_sum", "square_sum", defArgs s_square_sum, defBody s_square_sum, defScope s_square_sum, [], []⟩, ⟨("next_step", none), "next_step", "next_step", defArgs s_next_step, defBody s_next_step, defScope s_next_step, [], []⟩, ⟨("turn_of", none), "turn_of", "turn_of", defArgs s_turn_of, defBody s_turn_of, defScope s_turn_of, [], []⟩, ⟨("steps", none), "steps", "steps", defArgs s_steps, defBody s_steps, defScope s_steps, [], []⟩, ⟨("nought_bar", none), "nought_bar", "nought_bar", defArgs s_nought_bar, defBody s_nought_bar, defScope s_nought_bar, [], []⟩, ⟨("solved", none), "solved", "solved", defArgs s_solved, defBody s_solved, defScope s_solved, [], []⟩, ⟨("row_less", none), "row_less", "row_less", defArgs s_row_less, defBody s_row_less, defScope s_row_less, [], []⟩, ⟨("flock_by_roots", none), "flock_by_roots", "flock_by_roots", defArgs s_flock_by_roots, defBody s_flock_by_roots, defScope s_flock_by_roots, [], []⟩, ⟨("open_roots", none), "open_roots", "open_roots", defArgs s_open_roots, defBody s_open_roots, defScope s_open_roots, [], []⟩, ⟨("back", none), "back", "back", defArgs s_back, defBody s_back, defScope s_back, [], []⟩, ⟨("need_flock", none), "need_flock", "need_flock", defArgs s_need_flock, defBody s_need_flock, defScope s_need_flock, [], []⟩, ⟨("tight_step", none), "tight_step", "tight_step", defArgs s_tight_step, defBody s_tight_step, defScope s_tight_step, [], []⟩, ⟨("least_square", none), "least_square", "least_square", defArgs s_least_square, defBody s_least_square, defScope s_least_square, [], []⟩, ⟨("_law_divisor", none), "_law_divisor", "_law_divisor", defArgs s__law_divisor, defBody s__law_divisor, defScope s__law_divisor, [], []⟩, ⟨("_law_low", none), "_law_low", "_law_low", defArgs s__law_low, defBody s__law_low, defScope s__law_low, [], []⟩, ⟨("_law_over", none), "_law_over", "_law_over", defArgs s__law_over, defBody s__law_over, defScope s__law_over, [], []⟩, ⟨("_law_plus", none), "_law_plus", "_law_plus", defArgs s__law_plus, defBody s__law_plus, defScope s__law_plus, [], []⟩, ⟨("_law_times", none), "_law_times", "_law_times", defArgs s__law_times, defBody s__law_times, defScope s__law_times, [], []⟩, ⟨("_law_worth", none), "_law_worth", "_law_worth", defArgs s__law_worth, defBody s__law_worth, defScope s__law_worth, [], []⟩, ⟨("_law_clean", none), "_law_clean", "_law_clean", defArgs s__law_clean, defBody s__law_clean, defScope s__law_clean, [], []⟩, ⟨("_law_multiplied", none), "_law_multiplied", "_law_multiplied", defArgs s__law_multiplied, defBody s__law_multiplied, defScope s__law_multiplied, [], []⟩, ⟨("_law_square", none), "_law_square", "_law_square", defArgs s__law_square, defBody s__law_square, defScope s__law_square, [], []⟩, ⟨("_law_summed", none), "_law_summed", "_law_summed", defArgs s__law_summed, defBody s__law_summed, defScope s__law_summed, [], []⟩, ⟨("_law_along", none), "_law_along", "_law_along", defArgs s__law_along, defBody s__law_along, defScope s__law_along, [], []⟩, ⟨("_law_x", none), "_law_x", "_law_x", defArgs s__law_x, defBody s__law_x, defScope s__law_x, [], []⟩, ⟨("_law_steps", none), "_law_steps", "_law_steps", defArgs s__law_steps, defBody s__law_steps, defScope s__law_steps, [], []⟩, ⟨("_law_kind", none), "_law_kind", "_law_kind", defArgs s__law_kind, defBody s__law_kind, defScope s__law_kind, [], []⟩, ⟨("_law_refused", none), "_law_refused", "_law_refused", defArgs s__law_refused, defBody s__law_refused, defScope s__law_refused, [], []⟩, ⟨("_law_whole", none), "_law_whole", "_law_whole", defArgs s__law_whole, defBody s__law_whole, defScope s__law_whole, [], []⟩, ⟨("_law_is_fraction", none), "_law_is_fraction", "_law_is_fraction", defArgs s__law_is_fraction, defBody s__law_is_fraction, defScope s__law_is_fraction, [], []⟩, ⟨("_law_is_polynomial", none), "_law_is_polynomial", "_law_is_polynomial", defArgs s__law_is_polynomial, defBody s__law_is_polynomial, defScope s__law_is_polynomial, [], []⟩, ⟨("_law_same", none), "_law_same", "_law_same", defArgs s__law_same, defBody s__law_same, defScope s__law_same, [], []⟩, ⟨("_law_number_at", none), "_law_number_at", "_law_number_at", defArgs s__law_number_at, defBody s__law_number_at, defScope s__law_number_at, [], []⟩, ⟨("_law_least", none), "_law_least", "_law_least", defArgs s__law_least, defBody s__law_least, defScope s__law_least, [], []⟩, ⟨("_law_less", none), "_law_less", "_law_less", defArgs s__law_less, defBody s__law_less, defScope s__law_less, [], []⟩, ⟨("_law_cell_at", none), "_law_cell_at", "_law_cell_at", defArgs s__law_cell_at, defBody s__law_cell_at, defScope s__law_cell_at, [], []⟩, ⟨("_law_state", none), "_law_state", "_law_state", defArgs s__law_state, defBody s__law_state, defScope s__law_state, [], []⟩, ⟨("_law_take", none), "_law_take", "_law_take", defArgs s__law_take, defBody s__law_take, defScope s__law_take, [], []⟩, ⟨("_law_small", none), "_law_small", "_law_small", defArgs s__law_small, defBody s__law_small, defScope s__law_small, [], []⟩, ⟨("_law_above", none), "_law_above", "_law_above", defArgs s__law_above, defBody s__law_above, defScope s__law_above, [], []⟩, ⟨("_law_crowd", none), "_law_crowd", "_law_crowd", defArgs s__law_crowd, defBody s__law_crowd, defScope s__law_crowd, [], []⟩, ⟨("_law_spot_crowd", none), "_law_spot_crowd", "_law_spot_crowd", defArgs s__law_spot_crowd, defBody s__law_spot_crowd, defScope s__law_spot_crowd, [], []⟩, ⟨("_law_crowd_sums", none), "_law_crowd_sums", "_law_crowd_sums", defArgs s__law_crowd_sums, defBody s__law_crowd_sums, defScope s__law_crowd_sums, [], []⟩, ⟨("_law_case", none), "_law_case", "_law_case", defArgs s__law_case, defBody s__law_case, defScope s__law_case, [], []⟩, ⟨("_law_sums", none), "_law_sums", "_law_sums", defArgs s__law_sums, defBody s__law_sums, defScope s__law_sums, [], []⟩, ⟨("_law_weight_at", none), "_law_weight_at", "_law_weight_at", defArgs s__law_weight_at, defBody s__law_weight_at, defScope s__law_weight_at, [], []⟩, ⟨("_law_right", none), "_law_right", "_law_right", defArgs s__law_right, defBody s__law_right, defScope s__law_right, [], []⟩, ⟨("law", none), "law", "law", defArgs s_law, defBody s_law, defScope s_law, [], []⟩]
  fa := [.glo "divisor", .glo "ratio", .glo "plus", .glo "minus", .glo "times", .glo "over", .glo "sign_of", .glo "total", .glo "clean", .glo "at_place", .glo "summed", .glo "grown", .glo "lessened", .glo "raised", .glo "multiplied", .glo "power_of_x", .glo "number_at", .glo "root_powers", .glo "worth", .glo "square_sum", .glo "next_step", .glo "turn_of", .glo "steps", .glo "nought_bar", .glo "solved", .glo "row_less", .glo "flock_by_roots", .glo "open_roots", .glo "back", .glo "need_flock", .glo "tight_step", .glo "least_square", .glo "_law_divisor", .glo "_law_low", .glo "_law_over", .glo "_law_plus", .glo "_law_times", .glo "_law_worth", .glo "_law_clean", .glo "_law_multiplied", .glo "_law_square", .glo "_law_summed", .glo "_law_along", .glo "_law_x", .glo "_law_steps", .glo "_law_kind", .glo "_law_refused", .glo "_law_whole", .glo "_law_is_fraction", .glo "_law_is_polynomial", .glo "_law_same", .glo "_law_number_at", .glo "_law_least", .glo "_law_less", .glo "_law_cell_at", .glo "_law_state", .glo "_law_take", .glo "_law_small", .glo "_law_above", .glo "_law_crowd", .glo "_law_spot_crowd", .glo "_law_crowd_sums", .glo "_law_case", .glo "_law_sums", .glo "_law_weight_at", .glo "_law_right", .glo "law", .glo "ZERO", .glo "ONE", .glo "MINUS", .glo "MomentError", .glo "NoFraction", .glo "NoPolynomial", .glo "NoSums", .glo "NoFlock", .glo "NoWalk", .glo "NoSum", .glo "NoDeed", .glo "NoText", .glo "NoRow", .exc "MomentError", .exc "NoFraction", .exc "NoPolynomial", .exc "NoSums", .exc "NoFlock", .exc "NoWalk", .exc "NoSum", .exc "NoDeed", .exc "NoText", .exc "NoRow", .free "abs", .free "int", .free "len", .free "list", .free "max", .free "range", .free "enumerate", .free "reversed", .free "min", .free "zip", .free "isinstance", .free "ValueError", .free "bool", .free "tuple", .free "all"]
  tu := [("ZERO", [.int 0, .int 1]), ("ONE", [.int 1, .int 1]), ("MINUS", [.int (-1), .int 1])]
  tf := [("_law_right", none)]
  ck := errB
end Wk
set_option Elab.async false
set_option linter.all false
set_option maxRecDepth 100000
set_option maxHeartbeats 0
namespace En
open PySem PySem.Spec PyProof.Rows L2 DL
def loose0 : List PySem.Str := ["MomentError", "NoFraction", "NoPolynomial", "NoSums", "NoFlock", "NoWalk", "NoSum", "NoDeed", "NoText", "NoRow", "ZERO", "ONE", "MINUS", "divisor", "ratio", "plus", "minus", "times", "over", "sign_of"]
def loose1 : List PySem.Str := ["total", "clean", "at_place", "summed", "grown", "lessened", "raised", "multiplied", "power_of_x", "number_at", "root_powers", "worth", "square_sum", "next_step", "turn_of", "steps", "nought_bar", "solved", "row_less", "flock_by_roots"]
def loose2 : List PySem.Str := ["open_roots", "back", "need_flock", "tight_step", "least_square", "_law_divisor", "_law_low", "_law_over", "_law_plus", "_law_times", "_law_worth", "_law_clean", "_law_multiplied", "_law_square", "_law_summed", "_law_along", "_law_x", "_law_steps", "_law_kind", "_law_refused"]
def loose3 : List PySem.Str := ["_law_whole", "_law_is_fraction", "_law_is_polynomial", "_law_same", "_law_number_at", "_law_least", "_law_less", "_law_cell_at", "_law_state", "_law_take", "_law_small", "_law_above", "_law_crowd", "_law_spot_crowd", "_law_crowd_sums", "_law_case", "_law_sums", "_law_weight_at", "_law_right"]
abbrev R : PySem.W.OpenRow := PySem.W.OpenLaw.row PySem.Challenge.rw_momentwright_k63_least_squares_at_a_spot
abbrev hk : PySem.W.Hook := hookZ 2 Wk.bk
def ob (s : PySem.W.SharedT) : He.AlX := obsZ 2 Wk.bk (HandSHeadRun.getT s)
theorem ob_eq (s : PySem.W.SharedT) : ob s = hk.obs s.abs := obsZ_eq (HandSHeadRun.getT_eq s)
theorem run (w : World) : HandSHeadRun.RunEq R (PySem.W.view R.prog [89]) hk ob 24500 (loose0 ++ loose1 ++ loose2 ++ loose3) w := by
  intro os
  kernel_rfl
abbrev vq : PySem.Program := PySem.W.view R.prog [89]
abbrev vd : PySem.DefRec := HandSHeadRun.topDef R.prog 89
theorem k1 : PySem.W.opening R.prog = PySem.W.plainProg R.prog.main.scope.names := by kernel_rfl
theorem k2 : ∀ (s : PySem.Shared), PySem.fenceModules? R.prog s = some s := fun s => by kernel_rfl
theorem k3 : PySem.W.defOf vq R.name = some (vd, []) := by kernel_rfl
theorem k4 : R.prog.theDef R.name = some (vd.params, vd.body, vd.scope) := by kernel_rfl
theorem k5 : PySem.W.kwWritten? vd.params.kwonlyargs vd.params.kw_defaults = some [] := by kernel_rfl
theorem k6 : (!R.writes || List.isEmpty R.records) = true := by rfl
theorem k7 : R.wellSaid = true := by decide +kernel
theorem k8 : (PySem.W.chainsOk vq && PySem.W.opensWell R.prog && (PySem.W.frees R.toRowW && R.within.isEmpty)) = true := by decide +kernel
theorem k9 : R.prog.bare := ⟨rfl, rfl, rfl, rfl, rfl, by decide +kernel⟩
theorem k10 : vd.name = ("law" : PySem.Str) := by kernel_rfl
theorem k11 : R.toRowW.promised := by w_witness2
theorem k0 (h : R.Holds) : PySem.Challenge.rw_momentwright_k63_least_squares_at_a_spot.Holds := by
  w_on; o_law
  exact h
end En
set_option Elab.async false
set_option linter.all false
set_option maxRecDepth 100000
set_option maxHeartbeats 4000000
namespace DL
open PySem L2
open Evl (Ex)
inductive D where
  | non | bl (b : Bool) | int (i : Int) | str (x : Str) | lst (xs : List D) | tup (xs : List D) | dic | scr (ns : List Int) | st (a : Addr) | exc (x : Str) | fn (f a : Addr) (o u : HO)
deriving Inhabited
structure Cell where
  x : Int
  b : Bool
  a : Addr
abbrev S := Option Cell
inductive Sl where
  | no | val (d : D) | own (ds : List D)
def Sl.d : Sl → D
  | .no => .non
  | .val d => d
  | .own ds => .lst ds
abbrev EnvD := List Sl
mutual
def D.py : D → PyData
  | .non => .none
  | .bl b => .bool b
  | .int i => .int i
  | .str x => .str x
  | .lst ds => .list (D.pyL ds)
  | .tup ds => .tuple (D.pyL ds)
  | .dic => .dict []
  | .scr _ => .dict []
  | .st _ => .dict []
  | .exc _ => .dict []
  | .fn .. => .dict []
def D.pyL : List D → List PyData
  | [] => []
  | d :: ds => D.py d :: D.pyL ds
end
def ErrO (p : Addr) (cls : Value) : HO := .ext fun h => ∃ (o : Obj) (us : Array Value), h.get? p = some o ∧ Zc cls none o ∧ o.data = .fields us
def noT (H : Hp) : Hp := fun p => match H p with
  | some (.tbl _) => none
  | o => o
theorem noT_of {H : Hp} {p : Addr} {o : HO} (h : H p = some o) (n : ∀ ps, o ≠ .tbl ps) : noT H p = some o := by
  unfold noT
  rw [h]
  cases o with
  | tbl ps => exact absurd rfl (n ps)
  | _ => rfl
theorem noT_some {H : Hp} {p : Addr} {o : HO} (h : noT H p = some o) : H p = some o ∧ ∀ ps, o ≠ .tbl ps := by
  unfold noT at h
  cases e : H p with
  | none => rw [e] at h; cases h
  | some u =>
    rw [e] at h
    cases u <;> first | (cases h; done) | (cases h; exact ⟨rfl, fun _ z => by cases z⟩)
theorem noT_none {H : Hp} {p : Addr} (h : H p = none) : noT H p = none := by
  unfold noT
  rw [h]
mutual
def Rep (K : PySem.W.Frag) (G : Hp) : D → V → Prop
  | .non, v => v = .non
  | .bl b, v => v = .bl b
  | .int i, v => v = .int i
  | .str x, v => v = .str x
  | .lst ds, v => ∃ p vs, v = .ref p ∧ G p = some (.lst vs) ∧ RepL K G ds vs
  | .tup ds, v => ∃ p vs, v = .ref p ∧ SqT K G p vs ∧ RepL K G ds vs
  | .dic, v => ∃ p kvs, v = .ref p ∧ G p = some (.dK kvs)
  | .scr ns, v => ∃ p, v = .ref p ∧ SqL K G p (ns.map V.int)
  | .st a, v => v = .ref a
  | .exc x, v => ∃ p, v = .ref p ∧ G p = some (ErrO p (.ref (He.ga K x)))
  | .fn f a o u, v => v = .ref f ∧ G f = some o ∧ G a = some u ∧ (∀ kvs, o ≠ .dK kvs) ∧ ∀ kvs, u ≠ .dK kvs
def RepL (K : PySem.W.Frag) (G : Hp) : List D → List V → Prop
  | [], vs => vs = []
  | d :: ds, vs => ∃ v r, vs = v :: r ∧ Rep K G d v ∧ RepL K G ds r
end
section
variable {K : PySem.W.Frag} {G G' : Hp}
mutual
theorem Rep.mono (e : Ex G G') : ∀ (d : D) {v : V}, Rep K G d v → Rep K G' d v
  | .non, _, h => by simpa only [Rep] using h
  | .bl _, _, h => by simpa only [Rep] using h
  | .int _, _, h => by simpa only [Rep] using h
  | .str _, _, h => by simpa only [Rep] using h
  | .lst ds, _, h => by
    simp only [Rep] at h ⊢
    obtain ⟨p, vs, h1, h2, h3⟩ := h
    exact ⟨p, vs, h1, e _ _ h2, RepL.mono e ds h3⟩
  | .tup ds, _, h => by
    simp only [Rep] at h ⊢
    obtain ⟨p, vs, h1, h2, h3⟩ := h
    exact ⟨p, vs, h1, Evl.ex_t e h2, RepL.mono e ds h3⟩
  | .dic, _, h => by
    simp only [Rep] at h ⊢
    obtain ⟨p, kvs, h1, h2⟩ := h
    exact ⟨p, kvs, h1, e _ _ h2⟩
  | .scr _, _, h => by
    simp only [Rep] at h ⊢
    obtain ⟨p, h1, h2⟩ := h
    exact ⟨p, h1, Evl.ex_l e h2⟩
  | .st _, _, h => by simpa only [Rep] using h
  | .exc x, _, h => by
    simp only [Rep] at h ⊢
    obtain ⟨p, h1, h2⟩ := h
    exact ⟨p, h1, e _ _ h2⟩
  | .fn .., _, h => by
    simp only [Rep] at h ⊢
    exact ⟨h.1, e _ _ h.2.1, e _ _ h.2.2.1, h.2.2.2⟩
theorem RepL.mono (e : Ex G G') : ∀ (ds : List D) {vs : List V}, RepL K G ds vs → RepL K G' ds vs
  | [], _, h => by simpa only [RepL] using h
  | d :: ds, _, h => by
    simp only [RepL] at h ⊢
    obtain ⟨v, r, h1, h2, h3⟩ := h
    exact ⟨v, r, h1, Rep.mono e d h2, RepL.mono e ds h3⟩
end
theorem RepL.length : ∀ {ds : List D} {vs : List V}, RepL K G ds vs → vs.length = ds.length
  | [], _, h => by simp only [RepL] at h; subst h; rfl
  | d :: ds, _, h => by
    simp only [RepL] at h
    obtain ⟨v, r, rfl, _, h3⟩ := h
    simp [RepL.length h3]
theorem RepL.get : ∀ {ds : List D} {vs : List V} {i : Nat} {d : D}, RepL K G ds vs → ds[i]? = some d → ∃ v, vs[i]? = some v ∧ Rep K G d v
  | [], _, i, d, _, e => by simp at e
  | d' :: ds, _, i, d, h, e => by
    simp only [RepL] at h
    obtain ⟨v, r, rfl, h2, h3⟩ := h
    cases i with
    | zero => simp at e; subst e; exact ⟨v, rfl, h2⟩
    | succ i =>
      obtain ⟨w, h4, h5⟩ := RepL.get (i := i) h3 (by simpa using e)
      exact ⟨w, by simpa using h4, h5⟩
theorem RepL.getV : ∀ {ds : List D} {vs : List V} {i : Nat} {v : V}, RepL K G ds vs → vs[i]? = some v → ∃ d, ds[i]? = some d ∧ Rep K G d v
  | [], _, i, d, h, e => by simp only [RepL] at h; subst h; simp at e
  | d' :: ds, _, i, w, h, e => by
    simp only [RepL] at h
    obtain ⟨v, r, rfl, h2, h3⟩ := h
    cases i with
    | zero => simp at e; subst e; exact ⟨d', rfl, h2⟩
    | succ i =>
      obtain ⟨d, h4, h5⟩ := RepL.getV (i := i) h3 (by simpa using e)
      exact ⟨d, by simpa using h4, h5⟩
theorem RepL.append : ∀ {ds es : List D} {vs ws : List V}, RepL K G ds vs → RepL K G es ws → RepL K G (ds ++ es) (vs ++ ws)
  | [], _, _, _, h, h' => by simp only [RepL] at h; subst h; exact h'
  | d :: ds, _, _, _, h, h' => by
    simp only [RepL] at h
    obtain ⟨v, r, rfl, h2, h3⟩ := h
    simp only [List.cons_append, RepL]
    exact ⟨v, _, rfl, h2, RepL.append h3 h'⟩
theorem RepL.one {d : D} {v : V} (h : Rep K G d v) : RepL K G [d] [v] := by
  simp only [RepL]
  exact ⟨v, [], rfl, h, rfl⟩
theorem RepL.cons {d : D} {v : V} {ds : List D} {vs : List V} (h : Rep K G d v) (h' : RepL K G ds vs) : RepL K G (d :: ds) (v :: vs) := by
  simp only [RepL]
  exact ⟨v, _, rfl, h, h'⟩
theorem RepL.nil : RepL K G [] [] := by simp only [RepL]
theorem RepL.set : ∀ {ds : List D} {vs : List V} {d : D} {v : V} (i : Nat), RepL K G ds vs → Rep K G d v → RepL K G (ds.set i d) (vs.set i v)
  | [], _, _, _, i, h, _ => by simp only [RepL] at h; subst h; simp [RepL]
  | d' :: ds, _, d, v, i, h, h' => by
    simp only [RepL] at h
    obtain ⟨w, r, rfl, h2, h3⟩ := h
    cases i with
    | zero => simp only [List.set, RepL]; exact ⟨v, r, rfl, h', h3⟩
    | succ i => simp only [List.set, RepL]; exact ⟨w, _, rfl, h2, RepL.set i h3 h'⟩
theorem RepL.take : ∀ {ds : List D} {vs : List V} (n : Nat), RepL K G ds vs → RepL K G (ds.take n) (vs.take n)
  | [], _, n, h => by simp only [RepL] at h; subst h; simp [RepL]
  | d' :: ds, _, n, h => by
    simp only [RepL] at h
    obtain ⟨w, r, rfl, h2, h3⟩ := h
    cases n with
    | zero => simp [RepL]
    | succ n => simp only [List.take_succ_cons, RepL]; exact ⟨w, _, rfl, h2, RepL.take n h3⟩
theorem RepL.drop : ∀ {ds : List D} {vs : List V} (n : Nat), RepL K G ds vs → RepL K G (ds.drop n) (vs.drop n)
  | [], _, n, h => by simp only [RepL] at h; subst h; simp [RepL]
  | d' :: ds, _, n, h => by
    have h0 := h
    simp only [RepL] at h
    obtain ⟨w, r, rfl, h2, h3⟩ := h
    cases n with
    | zero => exact h0
    | succ n => simp only [List.drop_succ_cons]; exact RepL.drop n h3
theorem RepL.replicate {ds : List D} {vs : List V} (n : Nat) (h : RepL K G ds vs) : RepL K G (List.replicate n ds).flatten (List.replicate n vs).flatten := by
  induction n with
  | zero => simp [RepL]
  | succ n ih => simp only [List.replicate_succ, List.flatten_cons]; exact RepL.append h ih
theorem RepL.reverse {ds : List D} {vs : List V} (h : RepL K G ds vs) : RepL K G ds.reverse vs.reverse := by
  induction ds generalizing vs with
  | nil => simp only [RepL] at h; subst h; simp [RepL]
  | cons d ds ih =>
    simp only [RepL] at h
    obtain ⟨w, r, rfl, h2, h3⟩ := h
    simp only [List.reverse_cons]
    exact RepL.append (ih h3) (RepL.one h2)
end
structure Cxt where
  K : PySem.W.Frag
  a0 : Option Addr
  H0 : Hp
  G0 : Hp
  T : List (Addr × Str)
def SlV (c : Cxt) (G H : Hp) (v : V) (ds : List D) : Prop :=
  ∃ p vs, v = .ref p ∧ G p = none ∧ c.H0 p = none ∧ c.a0 ≠ some p ∧ H p = some (.lst vs) ∧ RepL c.K G ds vs
structure Rel (c : Cxt) (G : Hp) (env : EnvD) (s : S) (σ : L2.St) (H : Hp) : Prop where
  ex : Ex G H
  st : ∀ a, c.a0 = some a → G a = none ∧ ∃ x b, s = some ⟨x, b, a⟩ ∧ H a = some (.lst [.int x, .bl b])
  sn : c.a0 = none → s = none
  keep : ∀ p o, c.H0 p = some o → c.a0 ≠ some p → (∀ ps, o ≠ .tbl ps) → H p = some o
  kn : ∀ p, H p = none → c.H0 p = none
  h0n : ∀ p ps, c.H0 p ≠ some (.tbl ps)
  tab : LamX.Tabs c.T H
  gnew : ∀ p vs, c.H0 p = some (.lst vs) → c.G0 p = none → G p = none
  gx : Ex c.G0 G
  gtb : ∀ p ps, G p ≠ some (.tbl ps)
  len : env.length = σ.length
  vals : ∀ (i : Nat) (d : D), env[i]? = some (.val d) → ∃ v, σ[i]? = some (some v) ∧ Rep c.K G d v
  owns : ∀ (i : Nat) (ds : List D), env[i]? = some (.own ds) → ∃ v, σ[i]? = some (some v) ∧ SlV c G H v ds
  dist : ∀ (i j : Nat) (ds es : List D) (v : V), env[i]? = some (.own ds) → env[j]? = some (.own es) → σ[i]? = some (some v) → σ[j]? = some (some v) → i = j
def Apart (env : EnvD) (σ : L2.St) (v : V) : Prop := ∀ (i : Nat) (es : List D), env[i]? = some (.own es) → σ[i]? ≠ some (some v)
def RV (c : Cxt) (G H : Hp) (env : EnvD) (σ : L2.St) (v : V) : Sl → Prop
  | .no => False
  | .val d => Rep c.K G d v
  | .own ds => SlV c G H v ds ∧ Apart env σ v
theorem Tabs.updL {T : List (Addr × Str)} {H : Hp} {p : Addr} {vs ws : List V} (h : LamX.Tabs T H) (e : H p = some (.lst vs)) : LamX.Tabs T (upd H p (.lst ws)) := fun q hq => by
  obtain ⟨ps, h1, h2, h3⟩ := h q hq
  have n1 : q.1 ≠ p := ne_of h1 e (by intro z; cases z)
  refine ⟨ps, by rw [upd_ne n1]; exact h1, h2, fun pos cv hc => ?_⟩
  obtain ⟨x, e1, e2⟩ := h3 pos cv hc
  refine ⟨x, e1, ?_⟩
  rw [upd_ne (ne_of e2 e (by intro z; unfold LamX.CodeO at z; cases z))]
  exact e2
section
variable {c : Cxt} {G : Hp} {env : EnvD} {s : S} {σ : L2.St} {H : Hp}
theorem Rel.g0 (R : Rel c G env s σ H) {p : Addr} (h : H p = none) : G p = none := by
  cases q : G p with
  | none => rfl
  | some o => rw [R.ex p o q] at h; cases h
theorem Rel.new (R : Rel c G env s σ H) {p : Addr} {o : HO} (h : H p = none) (ho : ∀ ps, o ≠ .tbl ps) : Rel c G env s σ (upd H p o) := by
  have e : Ex H (upd H p o) := Ex.new h
  refine { ex := R.ex.trans e, st := fun a ha => ⟨(R.st a ha).1, let ⟨x, b, h1, h2⟩ := (R.st a ha).2; ⟨x, b, h1, e _ _ h2⟩⟩, sn := R.sn, keep := fun q u h1 h2 h3 => e _ _ (R.keep q u h1 h2 h3), kn := fun q hq => ?_, h0n := R.h0n,
           tab := R.tab.ext e, gnew := R.gnew, gx := R.gx, gtb := R.gtb, len := R.len, vals := R.vals, owns := fun i ds hi => ?_, dist := R.dist }
  · by_cases hb : q = p
    · subst hb; rw [upd_same] at hq; cases hq
    · rw [upd_ne hb] at hq; exact R.kn q hq
  · obtain ⟨v, h1, q, vs, h2, h3, h4, h5, h6, h7⟩ := R.owns i ds hi
    exact ⟨v, h1, q, vs, h2, h3, h4, h5, e _ _ h6, h7⟩
theorem Rel.newApart (R : Rel c G env s σ H) {p : Addr} (h : H p = none) : Apart env σ (.ref p) := fun i es hi hv => by
  obtain ⟨v, h1, q, vs, h2, h3, h4, h5, h6, h7⟩ := R.owns i es hi
  rw [h1] at hv
  cases hv
  cases h2
  rw [h] at h6
  cases h6
theorem Rel.knN (R : Rel c G env s σ H) {p : Addr} (h : noT H p = none) : c.H0 p = none := by
  cases e : c.H0 p with
  | none => rfl
  | some o =>
    have ho : ∀ ps, o ≠ .tbl ps := fun ps z => R.h0n p ps (by rw [e, z])
    by_cases ha : c.a0 = some p
    · obtain ⟨x, b, _, h2⟩ := (R.st p ha).2
      rw [noT_of h2 (fun _ z => by cases z)] at h
      cases h
    · rw [noT_of (R.keep p o e ha ho) ho] at h
      cases h
theorem Rel.newApartN (R : Rel c G env s σ H) {p : Addr} (h : noT H p = none) : Apart env σ (.ref p) := fun i es hi hv => by
  obtain ⟨v, h1, q, vs, h2, h3, h4, h5, h6, h7⟩ := R.owns i es hi
  rw [h1] at hv
  cases hv
  cases h2
  rw [noT_of h6 (fun _ z => by cases z)] at h
  cases h
theorem Rel.a0neN (R : Rel c G env s σ H) {p : Addr} (h : noT H p = none) : c.a0 ≠ some p := fun z => by
  obtain ⟨x, b, _, h2⟩ := (R.st p z).2
  rw [noT_of h2 (fun _ z => by cases z)] at h
  cases h
theorem Rel.a0ne (R : Rel c G env s σ H) {p : Addr} (h : H p = none) : c.a0 ≠ some p := fun z => by
  obtain ⟨x, b, _, h2⟩ := (R.st p z).2
  rw [h] at h2; cases h2
theorem Rel.newOwn (R : Rel c G env s σ H) {p : Addr} {vs : List V} {ds : List D} (h : H p = none) (hr : RepL c.K G ds vs) :
    Rel c G env s σ (upd H p (.lst vs)) ∧ RV c G (upd H p (.lst vs)) env σ (.ref p) (.own ds) :=
  ⟨R.new h (fun _ z => by cases z), ⟨p, vs, rfl, R.g0 h, R.kn p h, R.a0ne h, upd_same, hr⟩, R.newApart h⟩
theorem Rel.growX (R : Rel c G env s σ H) {p : Addr} {o : HO} (h : H p = some o) (h0 : c.H0 p = none ∨ ∀ vs, o ≠ .lst vs) (hg : G p = none) (ha : c.a0 ≠ some p) (ho : ∀ ps, o ≠ .tbl ps) (ap : Apart env σ (.ref p)) : Rel c (upd G p o) env s σ H := by
  have e : Ex G (upd G p o) := Ex.new hg
  refine { ex := fun q u hq => ?_, st := fun a h1 => ⟨?_, (R.st a h1).2⟩, sn := R.sn, keep := R.keep, kn := R.kn, h0n := R.h0n, tab := R.tab, gnew := fun q ws h1 h2 => ?_, gx := R.gx.trans e, gtb := fun q ps hq => ?_, len := R.len,
           vals := fun i d hi => ?_, owns := fun i ds hi => ?_, dist := R.dist }
  · by_cases hb : q = p
    · subst hb; rw [upd_same] at hq; cases hq; exact h
    · rw [upd_ne hb] at hq; exact R.ex q u hq
  · rw [upd_ne (fun z => ha (by rw [← z]; exact h1))]
    exact (R.st a h1).1
  · have hb : q ≠ p := fun z => by
      rcases h0 with h0 | h0
      · rw [z, h0] at h1; cases h1
      · have := R.keep q _ h1 (fun y => ha (by rw [← z]; exact y)) (fun _ y => by cases y)
        rw [z, h] at this
        exact h0 ws (Option.some.inj this)
    rw [upd_ne hb]
    exact R.gnew q ws h1 h2
  · by_cases hb : q = p
    · subst hb; rw [upd_same] at hq; cases hq; exact ho ps rfl
    · rw [upd_ne hb] at hq; exact R.gtb q ps hq
  · obtain ⟨v, h1, h2⟩ := R.vals i d hi
    exact ⟨v, h1, Rep.mono e d h2⟩
  · obtain ⟨v, h1, q, vs, h2, h3, h4, h5, h6, h7⟩ := R.owns i ds hi
    have hb : q ≠ p := fun z => ap i ds hi (by rw [h1, h2, z])
    exact ⟨v, h1, q, vs, h2, by rw [upd_ne hb]; exact h3, h4, h5, h6, RepL.mono e ds h7⟩
theorem Rel.grow (R : Rel c G env s σ H) {p : Addr} {o : HO} (h : H p = some o) (h0 : c.H0 p = none) (hg : G p = none) (ha : c.a0 ≠ some p) (ho : ∀ ps, o ≠ .tbl ps) (ap : Apart env σ (.ref p)) : Rel c (upd G p o) env s σ H := R.growX h (.inl h0) hg ha ho ap
theorem Rel.lstN (R : Rel c G env s σ H) {p : Addr} {vs : List V} (h : c.H0 p = some (.lst vs)) : ∃ ws, noT H p = some (.lst ws) := by
  by_cases ha : c.a0 = some p
  · obtain ⟨x, b, _, h2⟩ := (R.st p ha).2
    exact ⟨_, noT_of h2 (fun _ z => by cases z)⟩
  · exact ⟨vs, noT_of (R.keep p _ h ha (fun _ z => by cases z)) (fun _ z => by cases z)⟩
theorem Rel.toVal (R : Rel c G env s σ H) {v : V} {r : Sl} (h : RV c G H env σ v r) : ∃ G', Rel c G' env s σ H ∧ Ex G G' ∧ Rep c.K G' r.d v := by
  cases r with
  | no => exact h.elim
  | val d => exact ⟨G, R, Ex.refl G, h⟩
  | own ds =>
    obtain ⟨⟨p, vs, rfl, h2, h3, h4, h5, h6⟩, ap⟩ := h
    refine ⟨upd G p (.lst vs), R.grow h5 h3 h2 h4 (fun _ z => by cases z) ap, Ex.new h2, ?_⟩
    show Rep c.K _ (.lst ds) _
    simp only [Rep]
    exact ⟨p, vs, rfl, upd_same, RepL.mono (Ex.new h2) ds h6⟩
theorem Rel.newTup (R : Rel c G env s σ H) {p : Addr} {vs : List V} {ds : List D} (h : H p = none) (hr : RepL c.K G ds vs) :
    ∃ G', Rel c G' env s σ (upd H p (.tup vs)) ∧ Ex G G' ∧ Rep c.K G' (.tup ds) (.ref p) := by
  have R1 := R.new (o := .tup vs) h (fun _ z => by cases z)
  refine ⟨upd G p (.tup vs), R1.grow upd_same (R.kn p h) (R.g0 h) (R.a0ne h) (fun _ z => by cases z) (R.newApart h), Ex.new (R.g0 h), ?_⟩
  simp only [Rep]
  exact ⟨p, vs, rfl, Or.inl (Or.inl upd_same), RepL.mono (Ex.new (R.g0 h)) ds hr⟩
end
end DL
set_option Elab.async false
set_option linter.all false
set_option maxRecDepth 100000
set_option maxHeartbeats 4000000
namespace DL
open PySem L2
open Evl (Ex)
abbrev FE := EnvD → S → (Sl → EnvD → S → Prop) → Prop
abbrev FP := EnvD → S → (D → EnvD → S → Prop) → Prop
abbrev FT := EnvD → S → (Bool → EnvD → S → Prop) → Prop
abbrev FA := EnvD → S → (List D → EnvD → S → Prop) → Prop
abbrev F2 := D → D → (Sl → Prop) → Prop
abbrev F1 := D → (Sl → Prop) → Prop
abbrev FL := List D → (Sl → Prop) → Prop
def at_ : EnvD → Nat → Sl
  | [], _ => .no
  | x :: _, 0 => x
  | _ :: r, n + 1 => at_ r n
theorem at_val : ∀ {env : EnvD} {i : Nat} {x : Sl}, at_ env i = x → x ≠ .no → env[i]? = some x
  | [], _, x, h, n => absurd h.symm n
  | y :: r, 0, x, h, _ => by simpa [at_] using h
  | y :: r, i + 1, x, h, n => by
    have := at_val (env := r) (i := i) (x := x) h n
    simpa using this
def PR (c : Cxt) (G H : Hp) : D → V → Prop
  | .lst ds, v => ∃ p vs, v = .ref p ∧ H p = some (.lst vs) ∧ RepL c.K G ds vs
  | d, v => Rep c.K G d v
section
variable (c : Cxt)
def DE (t : TE) (f : FE) : Prop := ∀ (G : Hp) (env : EnvD) (s : S) (σ : L2.St) (H : Hp) (k : Sl → EnvD → S → Prop) (Q : VK), Rel c G env s σ H → f env s k →
  (∀ G' H' v r env' s', Rel c G' env' s' σ H' → Ex G G' → RV c G' H' env' σ v r → k r env' s' → Q v H') → t σ H Q
def DP (t : TE) (f : FP) : Prop := ∀ (G : Hp) (env : EnvD) (s : S) (σ : L2.St) (H : Hp) (k : D → EnvD → S → Prop) (Q : VK), Rel c G env s σ H → f env s k →
  (∀ G' H' v d env' s', Rel c G' env' s' σ H' → Ex G G' → PR c G' H' d v → k d env' s' → Q v H') → t σ H Q
def DT (t : TT) (f : FT) : Prop := ∀ (G : Hp) (env : EnvD) (s : S) (σ : L2.St) (H : Hp) (k : Bool → EnvD → S → Prop) (Q : Bool → Hp → Prop), Rel c G env s σ H → f env s k →
  (∀ G' H' b env' s', Rel c G' env' s' σ H' → Ex G G' → k b env' s' → Q b H') → t σ H Q
def DA (t : TA) (f : FA) : Prop := ∀ (G : Hp) (env : EnvD) (s : S) (σ : L2.St) (H : Hp) (k : List D → EnvD → S → Prop) (Q : List V → Hp → Prop), Rel c G env s σ H → f env s k →
  (∀ G' H' vs ds env' s', Rel c G' env' s' σ H' → Ex G G' → RepL c.K G' ds vs → k ds env' s' → Q vs H') → t σ H Q
def D2 (r : R2) (g : F2) : Prop := ∀ (G : Hp) (env : EnvD) (s : S) (σ : L2.St) (H : Hp) (x y : V) (d e : D) (k : Sl → Prop) (Q : VK), Rel c G env s σ H → PR c G H d x → PR c G H e y → g d e k →
  (∀ G' H' v r', Rel c G' env s σ H' → Ex G G' → RV c G' H' env σ v r' → k r' → Q v H') → r x y H Q
def D1 (r : V → Hp → VK → Prop) (g : F1) : Prop := ∀ (G : Hp) (env : EnvD) (s : S) (σ : L2.St) (H : Hp) (x : V) (d : D) (k : Sl → Prop) (Q : VK), Rel c G env s σ H → PR c G H d x → g d k →
  (∀ G' H' v r', Rel c G' env s σ H' → Ex G G' → RV c G' H' env σ v r' → k r' → Q v H') → r x H Q
def DB (r : List V → Hp → VK → Prop) (g : FL) : Prop := ∀ (G : Hp) (env : EnvD) (s : S) (σ : L2.St) (H : Hp) (xs : List V) (ds : List D) (k : Sl → Prop) (Q : VK), Rel c G env s σ H → RepL c.K G ds xs → g ds k →
  (∀ G' H' v r', Rel c G' env s σ H' → Ex G G' → RV c G' H' env σ v r' → k r' → Q v H') → r xs H Q
end
section
variable {c : Cxt} {G H : Hp} {env : EnvD} {s : S} {σ : L2.St}
theorem Rel.pr (R : Rel c G env s σ H) {d : D} {v : V} (h : Rep c.K G d v) : PR c G H d v := by
  cases d with
  | lst ds =>
    simp only [Rep] at h
    obtain ⟨p, vs, h1, h2, h3⟩ := h
    exact ⟨p, vs, h1, R.ex _ _ h2, h3⟩
  | _ => exact h
theorem RV.pr (R : Rel c G env s σ H) {r : Sl} {v : V} (h : RV c G H env σ v r) : PR c G H r.d v := by
  cases r with
  | no => exact h.elim
  | val d => exact R.pr h
  | own ds =>
    obtain ⟨⟨p, vs, h1, h2, h3, h4, h5, h6⟩, _⟩ := h
    exact ⟨p, vs, h1, h5, h6⟩
theorem at_rel (R : Rel c G env s σ H) {i : Nat} (h : at_ env i ≠ .no) : ∃ v, σ[i]? = some (some v) ∧ PR c G H (at_ env i).d v := by
  cases e : at_ env i with
  | no => exact absurd e h
  | val d =>
    obtain ⟨v, h1, h2⟩ := R.vals i d (at_val e (by simp))
    exact ⟨v, h1, R.pr h2⟩
  | own ds =>
    obtain ⟨v, h1, p, vs, h2, h3, h4, h5, h6, h7⟩ := R.owns i ds (at_val e (by simp))
    exact ⟨v, h1, p, vs, h2, h6, h7⟩
theorem Rel.freeze (R : Rel c G env s σ H) {i : Nat} {ds : List D} (h : env[i]? = some (.own ds)) :
    ∃ G' v, σ[i]? = some (some v) ∧ Rel c G' (env.set i (.val (.lst ds))) s σ H ∧ Ex G G' ∧ Rep c.K G' (.lst ds) v := by
  obtain ⟨v, h1, p, vs, rfl, h3, h4, h5, h6, h7⟩ := R.owns i ds h
  have hi : i < env.length := (List.getElem?_eq_some_iff.mp h).1
  have e : Ex G (upd G p (.lst vs)) := Ex.new h3
  have rp : Rep c.K (upd G p (.lst vs)) (.lst ds) (.ref p) := by
    simp only [Rep]
    exact ⟨p, vs, rfl, upd_same, RepL.mono e ds h7⟩
  have get : ∀ j (x : Sl), j ≠ i → (env.set i (.val (.lst ds)))[j]? = some x → env[j]? = some x := fun j x hj q => by
    rw [List.getElem?_set_ne (Ne.symm hj)] at q; exact q
  have at_i : ∀ x, (env.set i (.val (.lst ds)))[i]? = some x → x = .val (.lst ds) := fun x q => by
    rw [List.getElem?_set_self hi] at q; exact (Option.some.inj q).symm
  refine ⟨upd G p (.lst vs), .ref p, h1, ?_, e, rp⟩
  refine { ex := fun q u hq => ?_, st := fun a ha => ⟨?_, (R.st a ha).2⟩, sn := R.sn, keep := R.keep, kn := R.kn, h0n := R.h0n, tab := R.tab, gnew := fun q ws a b => ?_, gx := R.gx.trans e, gtb := fun q ps hq => ?_,
           len := by rw [List.length_set]; exact R.len, vals := fun j d hj => ?_, owns := fun j es hj => ?_, dist := fun j l es fs w h8 h9 ha hb => ?_ }
  · by_cases hb : q = p
    · subst hb; rw [upd_same] at hq; cases hq; exact h6
    · rw [upd_ne hb] at hq; exact R.ex q u hq
  · rw [upd_ne (fun z => h5 (by rw [← z]; exact ha))]
    exact (R.st a ha).1
  · have hb : q ≠ p := fun z => by rw [z, h4] at a; cases a
    rw [upd_ne hb]
    exact R.gnew q ws a b
  · by_cases hb : q = p
    · subst hb; rw [upd_same] at hq; cases hq
    · rw [upd_ne hb] at hq; exact R.gtb q ps hq
  · by_cases hji : j = i
    · subst hji
      have := at_i _ hj
      cases this
      exact ⟨.ref p, h1, rp⟩
    · obtain ⟨v, e1, e2⟩ := R.vals j d (get j _ hji hj)
      exact ⟨v, e1, Rep.mono e d e2⟩
  · by_cases hji : j = i
    · subst hji
      have := at_i _ hj
      cases this
    · obtain ⟨v, e1, q, ws, rfl, e3, e4, e5, e6, e7⟩ := R.owns j es (get j _ hji hj)
      have hb : q ≠ p := fun z => hji (R.dist j i es ds (.ref q) (get j _ hji hj) h e1 (by rw [z]; exact h1))
      exact ⟨_, e1, q, ws, rfl, by rw [upd_ne hb]; exact e3, e4, e5, e6, RepL.mono e es e7⟩
  · by_cases hji : j = i
    · subst hji
      have := at_i _ h8
      cases this
    · by_cases hli : l = i
      · subst hli
        have := at_i _ h9
        cases this
      · exact R.dist j l es fs w (get j _ hji h8) (get l _ hli h9) ha hb
end
def wV (i : Nat) : FE := fun env s k => match at_ env i with
  | .no => False
  | .val d => k (.val d) env s
  | .own ds => k (.val (.lst ds)) (env.set i (.val (.lst ds))) s
def wPV (i : Nat) : FP := fun env s k => match at_ env i with
  | .no => False
  | .val d => k d env s
  | .own ds => k (.lst ds) env s
def wC (d : D) : FE := fun env s k => k (.val d) env s
def wP (f : FE) : FP := fun env s k => f env s fun r env s => k r.d env s
section
variable {c : Cxt}
theorem de_var (i : Nat) : DE c (tVar i) (wV i) := by
  intro G env s σ H k Q R h q
  unfold wV at h
  cases e : at_ env i with
  | no => rw [e] at h; exact h.elim
  | val d =>
    rw [e] at h
    obtain ⟨v, h1, h2⟩ := R.vals i d (at_val e (by simp))
    exact ⟨v, h1, q G H v (.val d) env s R (Ex.refl G) h2 h⟩
  | own ds =>
    rw [e] at h
    obtain ⟨G', v, h1, h2, h3, h4⟩ := R.freeze (at_val e (by simp))
    exact ⟨v, h1, q G' H v (.val (.lst ds)) _ s h2 h3 h4 h⟩
theorem dp_var (i : Nat) : DP c (tVar i) (wPV i) := by
  intro G env s σ H k Q R h q
  unfold wPV at h
  have ne : at_ env i ≠ .no := fun e => by rw [e] at h; exact h
  obtain ⟨v, h1, h2⟩ := at_rel R ne
  refine ⟨v, h1, q G H v _ env s R (Ex.refl G) h2 ?_⟩
  cases e : at_ env i with
  | no => exact absurd e ne
  | val d => rw [e] at h; exact h
  | own ds => rw [e] at h; exact h
theorem DE.dp {t : TE} {f : FE} (h : DE c t f) : DP c t (wP f) := by
  intro G env s σ H k Q R hf q
  exact h G env s σ H _ Q R hf fun G' H' v r env' s' R' e rv kk => q G' H' v r.d env' s' R' e (RV.pr R' rv) kk
theorem de_c {v : V} {d : D} (h : ∀ G, Rep c.K G d v) : DE c (tC v) (wC d) := fun G env s σ H k Q R hf q => q G H v (.val d) env s R (Ex.refl G) (h G) hf
theorem de_int (i : Int) : DE c (tC (.int i)) (wC (.int i)) := de_c fun _ => by simp only [Rep]
theorem de_bl (b : Bool) : DE c (tC (.bl b)) (wC (.bl b)) := de_c fun _ => by simp only [Rep]
theorem de_str (x : Str) : DE c (tC (.str x)) (wC (.str x)) := de_c fun _ => by simp only [Rep]
theorem de_non : DE c (tC .non) (wC .non) := de_c fun _ => by simp only [Rep]
end
def wOp (g : F2) (fa : FE) (fb : FP) : FE := fun env s k => fa env s fun ra env1 s1 => fb env1 s1 fun db env2 s2 => g ra.d db fun r => k r env2 s2
def wOpv (g : F2) (i : Nat) (fb : FP) : FE := fun env s k => at_ env i ≠ .no ∧ fb env s fun db env2 s2 => at_ env2 i ≠ .no ∧ g (at_ env2 i).d db fun r => k r env2 s2
def wUn (g : F1) (fa : FP) : FE := fun env s k => fa env s fun da env1 s1 => g da fun r => k r env1 s1
section
variable {c : Cxt} {ta tb : TE} {fa : FE} {fb fp : FP}
theorem de_op {r : R2} {g : F2} (hr : D2 c r g) (ha : DE c ta fa) (hb : DP c tb fb) : DE c (tOp r ta tb) (wOp g fa fb) := by
  intro G env s σ H k Q R hf q
  refine ha G env s σ H _ _ R hf fun G1 H1 x ra env1 s1 R1 e1 rv1 k1 => ?_
  obtain ⟨G2, R2, e2, rp⟩ := R1.toVal rv1
  refine hb G2 env1 s1 σ H1 _ _ R2 k1 fun G3 H3 y db env3 s3 R3 e3 p3 k3 => ?_
  exact hr G3 env3 s3 σ H3 x y ra.d db _ Q R3 (R3.pr (Rep.mono e3 _ rp)) p3 k3 fun G4 H4 v r' R4 e4 rv4 k4 => q G4 H4 v r' env3 s3 R4 (((e1.trans e2).trans e3).trans e4) rv4 k4
theorem de_opv {r : R2} {g : F2} {i : Nat} (hr : D2 c r g) (hb : DP c tb fb) : DE c (tOp r (tVar i) tb) (wOpv g i fb) := by
  intro G env s σ H k Q R hf q
  obtain ⟨h0, h⟩ := hf
  obtain ⟨v, h1, _⟩ := at_rel R h0
  refine ⟨v, h1, hb G env s σ H _ _ R h fun G3 H3 y db env3 s3 R3 e3 p3 k3 => ?_⟩
  obtain ⟨h2, k4⟩ := k3
  obtain ⟨v', h3, h4⟩ := at_rel R3 h2
  have e : v' = v := by rw [h1] at h3; cases h3; rfl
  subst e
  exact hr G3 env3 s3 σ H3 v' y _ db _ Q R3 h4 p3 k4 fun G4 H4 w r' R4 e4 rv4 k4 => q G4 H4 w r' env3 s3 R4 (e3.trans e4) rv4 k4
theorem de_un {r : V → Hp → VK → Prop} {g : F1} (hr : D1 c r g) (ha : DP c ta fp) : DE c (tUn r ta) (wUn g fp) := by
  intro G env s σ H k Q R hf q
  refine ha G env s σ H _ _ R hf fun G1 H1 x da env1 s1 R1 e1 p1 k1 => ?_
  exact hr G1 env1 s1 σ H1 x da _ Q R1 p1 k1 fun G4 H4 v r' R4 e4 rv4 k4 => q G4 H4 v r' env1 s1 R4 (e1.trans e4) rv4 k4
end
def gI (g : Int → Int → D) : F2 := fun d e k => match d, e with
  | .int i, .int j => k (.val (g i j))
  | _, _ => False
def gIC (C : Int → Int → Prop) (g : Int → Int → D) : F2 := fun d e k => match d, e with
  | .int i, .int j => C i j ∧ k (.val (g i j))
  | _, _ => False
def MulOk (i j : Int) : Prop := IntMulOk i j
def DivOk (_ j : Int) : Prop := j ≠ 0
def gAdd : F2 := gI fun i j => .int (i + j)
def gMin : F2 := gI fun i j => .int (i - j)
def gMul : F2 := gIC MulOk fun i j => .int (i * j)
def gDiv : F2 := gIC DivOk fun i j => .int (i.fdiv j)
def gMod : F2 := gIC (fun _ j => j ≠ 0) fun i j => .int (i.fmod j)
def gPow : F2 := gIC CPow fun i j => .int (i ^ j.toNat)
def gLt : F2 := gI fun i j => .bl (decide (i < j))
def gLe : F2 := gI fun i j => .bl (decide (i ≤ j))
def gGt : F2 := gI fun i j => .bl (decide (j < i))
def gGe : F2 := gI fun i j => .bl (decide (j ≤ i))
def gNeg : F1 := fun d k => match d with
  | .int i => k (.val (.int (-i)))
  | _ => False
theorem op_mulX {X : Cx} : OpR X (binaryOp .Mult) (rI MulOk fun i j => .int (i * j)) := opI fun _ _ _ _ _ _ _ hc q => PyProof.Rows.mul_int q hc
structure SeerB (P : Program) (base : Heap) : Prop where
  stat : ∃ m, base.Ns cStatics m ∧ m "sys.audit-hooks" = none ∧ m "sys.dict" = none
  mods : ∃ m, base.Ns sysModules m ∧ m "_pylong" = none
  main : ∃ g a o, base.Ns mainGlobals g ∧ g "__builtins__" = some (.ref a) ∧ base.get? a = some o ∧ o.cls = .type "module" ∧ o.dict = some builtinsNs
  tree : P.given.tree = none
structure SeerX (X : Cx) : Prop where
  b : SeerB X.prog X.base
  gen : X.env.scope.isGenerator = false
  co : X.env.scope.isCoroutine = false
  stk : ∃ l, X.stack = X.env :: l
  room : X.A.depth + Builtin.pylongFrames < recursionLimit
theorem op_divX {X : Cx} (S : SeerX X) : OpR X (binaryOp .FloorDiv) (rI DivOk fun i j => .int (i.fdiv j)) := by
  intro pins s σ H x y v u Q I rx ry h
  obtain ⟨i, j, rfl, rfl, hc, q⟩ := h
  obtain ⟨t, rfl⟩ := rx
  obtain ⟨t', rfl⟩ := ry
  obtain ⟨l, hl⟩ := S.stk
  have ns : s.heap.NoSeer := (Heap.NoSeer.mk S.b.stat S.b.mods I.ok.mod.blt S.b.main).keeps I.bk
  have sa : SeerAt (model X.prog X.w) X.A s.heap := SeerAt.of ns S.b.tree (by rw [I.ok.frames, hl]) S.gen S.co I.ok.blt I.ok.glob
  exact PyProof.Rows.floordiv_int hc ⟨.int (i.fdiv j), H, I.tok _, ⟨_, rfl⟩, q⟩ (.inr (PylongRoom.of I.nolimit S.room sa))
section
variable {c : Cxt}
theorem pr_int {G H : Hp} {d : D} {v : V} {i : Int} (h : PR c G H d v) (e : d = .int i) : v = .int i := by
  subst e
  have h' : Rep c.K G (.int i) v := h
  simpa only [Rep] using h'
theorem d2_I {g : Int → Int → V} {g' : Int → Int → D} (hg : ∀ G i j, Rep c.K G (g' i j) (g i j)) : D2 c (rI0 g) (gI g') := by
  intro G env s σ H x y d e k Q R p1 p2 h q
  unfold gI at h
  split at h
  · rename_i i j
    exact ⟨i, j, pr_int p1 rfl, pr_int p2 rfl, q G H _ (.val (g' i j)) R (Ex.refl G) (hg G i j) h⟩
  · exact h.elim
theorem d2_IC {C : Int → Int → Prop} {g : Int → Int → V} {g' : Int → Int → D} (hg : ∀ G i j, Rep c.K G (g' i j) (g i j)) : D2 c (rI C g) (gIC C g') := by
  intro G env s σ H x y d e k Q R p1 p2 h q
  unfold gIC at h
  split at h
  · rename_i i j
    exact ⟨i, j, pr_int p1 rfl, pr_int p2 rfl, h.1, q G H _ (.val (g' i j)) R (Ex.refl G) (hg G i j) h.2⟩
  · exact h.elim
theorem d2_add : D2 c (rI0 fun i j => .int (i + j)) gAdd := d2_I fun _ _ _ => by simp only [Rep]
theorem d2_sub : D2 c (rI0 fun i j => .int (i - j)) gMin := d2_I fun _ _ _ => by simp only [Rep]
theorem d2_mul : D2 c (rI MulOk fun i j => .int (i * j)) gMul := d2_IC fun _ _ _ => by simp only [Rep]
theorem d2_div : D2 c (rI DivOk fun i j => .int (i.fdiv j)) gDiv := d2_IC fun _ _ _ => by simp only [Rep]
theorem d2_mod : D2 c (rI (fun _ j => j ≠ 0) fun i j => .int (i.fmod j)) gMod := d2_IC fun _ _ _ => by simp only [Rep]
theorem d2_pow : D2 c (rI CPow fun i j => .int (i ^ j.toNat)) gPow := d2_IC fun _ _ _ => by simp only [Rep]
theorem d2_lt : D2 c (rI0 fun i j => .bl (decide (i < j))) gLt := d2_I fun _ _ _ => by simp only [Rep]
theorem d2_le : D2 c (rI0 fun i j => .bl (decide (i ≤ j))) gLe := d2_I fun _ _ _ => by simp only [Rep]
theorem d2_gt : D2 c (rI0 fun i j => .bl (decide (j < i))) gGt := d2_I fun _ _ _ => by simp only [Rep]
theorem d2_ge : D2 c (rI0 fun i j => .bl (decide (j ≤ i))) gGe := d2_I fun _ _ _ => by simp only [Rep]
theorem d1_neg : D1 c (rU fun i => .int (-i)) gNeg := by
  intro G env s σ H x d k Q R p1 h q
  unfold gNeg at h
  split at h
  · rename_i i
    exact ⟨i, pr_int p1 rfl, q G H _ _ R (Ex.refl G) (by simp only [RV, Rep]) h⟩
  · exact h.elim
end
mutual
theorem Rep.dp {K : PySem.W.Frag} {G : Hp} : ∀ (d : D) {v : V}, Rep K G d v → PyData.canLay0 d.py = true → Dp K G v d.py
  | .non, _, h, _ => by simp only [Rep] at h; subst h; exact .non
  | .bl b, _, h, _ => by simp only [Rep] at h; subst h; exact .bl b
  | .int i, _, h, _ => by simp only [Rep] at h; subst h; exact .int i
  | .str x, _, h, _ => by simp only [Rep] at h; subst h; exact .str x
  | .lst ds, _, h, sh => by
    simp only [Rep] at h
    obtain ⟨p, vs, rfl, h2, h3⟩ := h
    simp only [D.py]
    exact .lst (.inl (.inl h2)) (RepL.dp ds h3 (by simpa only [D.py, PyData.canLay0] using sh))
  | .tup ds, _, h, sh => by
    simp only [Rep] at h
    obtain ⟨p, vs, rfl, h2, h3⟩ := h
    simp only [D.py]
    exact .tup h2 (RepL.dp ds h3 (by simpa only [D.py, PyData.canLay0] using sh))
  | .dic, _, _, sh => by simp [D.py, PyData.canLay0] at sh
  | .scr _, _, _, sh => by simp [D.py, PyData.canLay0] at sh
  | .st _, _, _, sh => by simp [D.py, PyData.canLay0] at sh
  | .exc _, _, _, sh => by simp [D.py, PyData.canLay0] at sh
  | .fn .., _, _, sh => by simp [D.py, PyData.canLay0] at sh
theorem RepL.dp {K : PySem.W.Frag} {G : Hp} : ∀ (ds : List D) {vs : List V}, RepL K G ds vs → PyData.canLayAll0 (D.pyL ds) = true → DpAll K G vs (D.pyL ds)
  | [], _, h, _ => by simp only [RepL] at h; subst h; simp only [D.pyL]; exact .nil
  | d :: ds, _, h, sh => by
    simp only [RepL] at h
    obtain ⟨v, r, rfl, h2, h3⟩ := h
    simp only [D.pyL, PyData.canLayAll0, Bool.and_eq_true] at sh ⊢
    exact .cons (Rep.dp d h2 sh.1) (RepL.dp ds h3 sh.2)
end
mutual
theorem Dp.mono {K : PySem.W.Frag} {H H' : Hp} (e : Ex H H') : ∀ {d : PyData} {v : V}, Dp K H v d → Dp K H' v d
  | _, _, .non => .non
  | _, _, .bl b => .bl b
  | _, _, .int i => .int i
  | _, _, .str x => .str x
  | _, _, .lst h1 h2 => .lst (Evl.ex_l e h1) (DpAll.mono e h2)
  | _, _, .tup h1 h2 => .tup (Evl.ex_t e h1) (DpAll.mono e h2)
theorem DpAll.mono {K : PySem.W.Frag} {H H' : Hp} (e : Ex H H') : ∀ {ds : List PyData} {vs : List V}, DpAll K H vs ds → DpAll K H' vs ds
  | _, _, .nil => .nil
  | _, _, .cons h1 h2 => .cons (Dp.mono e h1) (DpAll.mono e h2)
end
def EqOk (d : D) : Prop := SeqAt.shaped d.py = true
def D.eqv (d e : D) : Bool := PyData.eqv d.py e.py
def gEq : F2 := fun d e k => match d, e with
  | .int i, .int j => k (.val (.bl (i == j)))
  | d, e => (EqOk d ∧ EqOk e) ∧ k (.val (.bl (d.eqv e)))
def gNe : F2 := fun d e k => match d, e with
  | .int i, .int j => k (.val (.bl (!(i == j))))
  | d, e => (EqOk d ∧ EqOk e) ∧ k (.val (.bl (!d.eqv e)))
theorem eqOk_int (i : Int) : EqOk (.int i) := rfl
theorem PR.dp {c : Cxt} {G H : Hp} {env : EnvD} {s : S} {σ : L2.St} (R : Rel c G env s σ H) {d : D} {v : V} (h : PR c G H d v) (sh : EqOk d) : Dp c.K H v d.py := by
  have sh' := SeqAt.canLay_of_shaped sh
  cases d with
  | lst ds =>
    obtain ⟨p, vs, rfl, h2, h3⟩ := h
    simp only [D.py]
    exact .lst (.inl (.inl h2)) (DpAll.mono R.ex (RepL.dp ds h3 (by simpa only [D.py, PyData.canLay0] using sh')))
  | _ => exact Dp.mono R.ex (Rep.dp _ h sh')
theorem d2_eq {c : Cxt} : D2 c (rEqD c.K) gEq := by
  intro G env s σ H x y d e k Q R p1 p2 h q
  have h' : (EqOk d ∧ EqOk e) ∧ k (.val (.bl (d.eqv e))) := by
    unfold gEq at h
    split at h
    · exact ⟨⟨eqOk_int _, eqOk_int _⟩, h⟩
    · exact h
  obtain ⟨⟨h1, h2⟩, h3⟩ := h'
  exact ⟨_, _, PR.dp R p1 h1, PR.dp R p2 h2, h1, h2, q G H _ (.val (.bl (d.eqv e))) R (Ex.refl G) (by simp only [RV, Rep]; rfl) h3⟩
theorem d2_ne {c : Cxt} : D2 c (rNeD c.K) gNe := by
  intro G env s σ H x y d e k Q R p1 p2 h q
  have h' : (EqOk d ∧ EqOk e) ∧ k (.val (.bl (!d.eqv e))) := by
    unfold gNe at h
    split at h
    · exact ⟨⟨eqOk_int _, eqOk_int _⟩, h⟩
    · exact h
  obtain ⟨⟨h1, h2⟩, h3⟩ := h'
  exact ⟨_, _, PR.dp R p1 h1, PR.dp R p2 h2, h1, h2, q G H _ (.val (.bl (!d.eqv e))) R (Ex.refl G) (by simp only [RV, Rep]; rfl) h3⟩
def D.isNon : D → Bool
  | .non => true
  | _ => false
def gIsN : F2 := fun d e k => match e with
  | .non => k (.val (.bl d.isNon))
  | _ => False
def gNotN : F2 := fun d e k => match e with
  | .non => k (.val (.bl (!d.isNon)))
  | _ => False
theorem isNon_of {c : Cxt} {G H : Hp} {d : D} {v : V} (h : PR c G H d v) : decide (v = .non) = d.isNon := by
  cases d with
  | lst ds => obtain ⟨p, vs, rfl, _, _⟩ := h; rfl
  | non => have h' : Rep c.K G .non v := h; simp only [Rep] at h'; subst h'; rfl
  | bl b => have h' : Rep c.K G (.bl b) v := h; simp only [Rep] at h'; subst h'; rfl
  | int b => have h' : Rep c.K G (.int b) v := h; simp only [Rep] at h'; subst h'; rfl
  | str b => have h' : Rep c.K G (.str b) v := h; simp only [Rep] at h'; subst h'; rfl
  | tup b => have h' : Rep c.K G (.tup b) v := h; simp only [Rep] at h'; obtain ⟨p, vs, rfl, _⟩ := h'; rfl
  | dic => have h' : Rep c.K G .dic v := h; simp only [Rep] at h'; obtain ⟨p, vs, rfl, _⟩ := h'; rfl
  | scr b => have h' : Rep c.K G (.scr b) v := h; simp only [Rep] at h'; obtain ⟨p, rfl, _⟩ := h'; rfl
  | st a => have h' : Rep c.K G (.st a) v := h; simp only [Rep] at h'; subst h'; rfl
  | exc b => have h' : Rep c.K G (.exc b) v := h; simp only [Rep] at h'; obtain ⟨p, rfl, _⟩ := h'; rfl
  | fn f a o u => have h' : Rep c.K G (.fn f a o u) v := h; simp only [Rep] at h'; obtain ⟨rfl, _⟩ := h'; rfl
theorem d2_notN {c : Cxt} : D2 c (fun x y H Q => y = .non ∧ Q (.bl (!decide (x = .non))) H) gNotN := by
  intro G env s σ H x y d e k Q R p1 p2 h q
  unfold gNotN at h
  split at h
  · have h' : Rep c.K G .non y := p2
    simp only [Rep] at h'
    rw [isNon_of p1]
    exact ⟨h', q G H _ (.val (.bl (!d.isNon))) R (Ex.refl G) (by simp only [RV, Rep]) h⟩
  · exact h.elim
def gIsB : F2 := fun d e k => match d, e with
  | .bl a, .bl b => k (.val (.bl (decide (a = b))))
  | _, _ => False
def gNotB : F2 := fun d e k => match d, e with
  | .bl a, .bl b => k (.val (.bl (!decide (a = b))))
  | _, _ => False
theorem pr_bl {c : Cxt} {G H : Hp} {d : D} {v : V} {i : Bool} (h : PR c G H d v) (e : d = .bl i) : v = .bl i := by
  subst e
  have h' : Rep c.K G (.bl i) v := h
  simpa only [Rep] using h'
def wB (f : FE) : FT := fun env s k => f env s fun r env1 s1 => match r.d with
  | .bl b => k b env1 s1
  | _ => False
def wNot (f : FT) : FT := fun env s k => f env s fun b env1 s1 => k (!b) env1 s1
def wAnd (f g : FT) : FT := fun env s k => f env s fun b env1 s1 => if b = true then g env1 s1 k else k false env1 s1
def wOr (f g : FT) : FT := fun env s k => f env s fun b env1 s1 => if b = true then k true env1 s1 else g env1 s1 k
def wAndV (f g : FE) : FE := fun env s k => f env s fun r env1 s1 => match r.d with
  | .bl b => if b = true then g env1 s1 k else k (.val (.bl false)) env1 s1
  | _ => False
def wOrV (f g : FE) : FE := fun env s k => f env s fun r env1 s1 => match r.d with
  | .bl b => if b = true then k (.val (.bl true)) env1 s1 else g env1 s1 k
  | _ => False
def wNotV (f : FE) : FE := fun env s k => f env s fun r env1 s1 => match r.d with
  | .bl b => k (.val (.bl (!b))) env1 s1
  | _ => False
def wIf (t : FT) (f g : FE) : FE := fun env s k => t env s fun b env1 s1 => if b = true then f env1 s1 k else g env1 s1 k
section
variable {c : Cxt} {ta tb : TE} {fa fb : FE} {t u : TT} {f g : FT}
theorem RV.bl {G H : Hp} {env : EnvD} {s : S} {σ : L2.St} {r : Sl} {v : V} {b : Bool} (h : RV c G H env σ v r) (e : r.d = .bl b) : v = .bl b := by
  cases r with
  | no => exact h.elim
  | val d => exact pr_bl (c := c) (G := G) (H := H) (d := d) (by
      have e' : d = .bl b := e
      subst e'
      exact h) e
  | own ds => cases e
theorem dt_test (h : DE c ta fa) : DT c (tTest ta) (wB fa) := by
  intro G env s σ H k Q R hf q
  refine h G env s σ H _ _ R hf fun G1 H1 v r env1 s1 R1 e1 rv1 k1 => ?_
  cases hd : r.d with
  | bl b =>
    rw [hd] at k1
    exact ⟨b, RV.bl (s := s1) rv1 hd, q G1 H1 b env1 s1 R1 e1 k1⟩
  | _ => rw [hd] at k1; exact k1.elim
theorem dt_B (h : DE c ta fa) : DT c (tB ta) (wB fa) := dt_test h
theorem dt_not (h : DT c t f) : DT c (tNot t) (wNot f) := fun G env s σ H k Q R hf q => h G env s σ H _ _ R hf fun G1 H1 b env1 s1 R1 e1 k1 => q G1 H1 (!b) env1 s1 R1 e1 k1
theorem dt_and (h : DT c t f) (h' : DT c u g) : DT c (tAnd t u) (wAnd f g) := by
  intro G env s σ H k Q R hf q
  refine h G env s σ H _ _ R hf fun G1 H1 b env1 s1 R1 e1 k1 => ?_
  cases b with
  | true => exact h' G1 env1 s1 σ H1 k Q R1 k1 fun G2 H2 b2 env2 s2 R2 e2 k2 => q G2 H2 b2 env2 s2 R2 (e1.trans e2) k2
  | false => exact q G1 H1 false env1 s1 R1 e1 k1
theorem dt_or (h : DT c t f) (h' : DT c u g) : DT c (tOr t u) (wOr f g) := by
  intro G env s σ H k Q R hf q
  refine h G env s σ H _ _ R hf fun G1 H1 b env1 s1 R1 e1 k1 => ?_
  cases b with
  | false => exact h' G1 env1 s1 σ H1 k Q R1 k1 fun G2 H2 b2 env2 s2 R2 e2 k2 => q G2 H2 b2 env2 s2 R2 (e1.trans e2) k2
  | true => exact q G1 H1 true env1 s1 R1 e1 k1
theorem de_andV (h : DE c ta fa) (h' : DE c tb fb) : DE c (tAndV ta tb) (wAndV fa fb) := by
  intro G env s σ H k Q R hf q
  refine h G env s σ H _ _ R hf fun G1 H1 v r env1 s1 R1 e1 rv1 k1 => ?_
  cases hd : r.d with
  | bl b =>
    rw [hd] at k1
    refine ⟨b, RV.bl (s := s1) rv1 hd, ?_⟩
    cases b with
    | true => exact h' G1 env1 s1 σ H1 k Q R1 k1 fun G2 H2 b2 r2 env2 s2 R2 e2 rv2 k2 => q G2 H2 b2 r2 env2 s2 R2 (e1.trans e2) rv2 k2
    | false => exact q G1 H1 _ (.val (.bl false)) env1 s1 R1 e1 (by simp only [RV, Rep]) k1
  | _ => rw [hd] at k1; exact k1.elim
theorem de_orV (h : DE c ta fa) (h' : DE c tb fb) : DE c (tOrV ta tb) (wOrV fa fb) := by
  intro G env s σ H k Q R hf q
  refine h G env s σ H _ _ R hf fun G1 H1 v r env1 s1 R1 e1 rv1 k1 => ?_
  cases hd : r.d with
  | bl b =>
    rw [hd] at k1
    refine ⟨b, RV.bl (s := s1) rv1 hd, ?_⟩
    cases b with
    | false => exact h' G1 env1 s1 σ H1 k Q R1 k1 fun G2 H2 b2 r2 env2 s2 R2 e2 rv2 k2 => q G2 H2 b2 r2 env2 s2 R2 (e1.trans e2) rv2 k2
    | true => exact q G1 H1 _ (.val (.bl true)) env1 s1 R1 e1 (by simp only [RV, Rep]) k1
  | _ => rw [hd] at k1; exact k1.elim
theorem de_notV (h : DE c ta fa) : DE c (tNotV ta) (wNotV fa) := by
  intro G env s σ H k Q R hf q
  refine h G env s σ H _ _ R hf fun G1 H1 v r env1 s1 R1 e1 rv1 k1 => ?_
  cases hd : r.d with
  | bl b =>
    rw [hd] at k1
    exact ⟨b, RV.bl (s := s1) rv1 hd, q G1 H1 _ (.val (.bl (!b))) env1 s1 R1 e1 (by simp only [RV, Rep]) k1⟩
  | _ => rw [hd] at k1; exact k1.elim
end
def wChain (g g' : F2) (fa fb : FE) (fc : FP) : FE := fun env s k => fa env s fun ra env1 s1 => fb env1 s1 fun rb env2 s2 => g ra.d rb.d fun z => match z.d with
  | .bl true => fc env2 s2 fun dc env3 s3 => g' rb.d dc fun r => k r env3 s3
  | .bl false => k (.val (.bl false)) env2 s2
  | _ => False
def wNil : FA := fun env s k => k [] env s
def wCons (f : FE) (g : FA) : FA := fun env s k => f env s fun r env1 s1 => g env1 s1 fun ds env2 s2 => k (r.d :: ds) env2 s2
def wTup (f : FA) : FE := fun env s k => f env s fun ds env1 s1 => ds.length ≤ sizeLine ∧ k (.val (.tup ds)) env1 s1
def wLst (f : FA) : FE := fun env s k => f env s fun ds env1 s1 => ds.length ≤ sizeLine ∧ k (.own ds) env1 s1
section
variable {c : Cxt} {ta : TE} {fa : FE} {t : TA} {f : FA}
theorem da_nil : DA c tNil wNil := fun G env s σ H k Q R hf q => q G H [] [] env s R (Ex.refl G) RepL.nil hf
theorem da_cons (h : DE c ta fa) (h' : DA c t f) : DA c (tCons ta t) (wCons fa f) := by
  intro G env s σ H k Q R hf q
  refine h G env s σ H _ _ R hf fun G1 H1 v r env1 s1 R1 e1 rv1 k1 => ?_
  obtain ⟨G2, R2, e2, rp⟩ := R1.toVal rv1
  exact h' G2 env1 s1 σ H1 _ _ R2 k1 fun G3 H3 vs ds env3 s3 R3 e3 rl k3 => q G3 H3 (v :: vs) (r.d :: ds) env3 s3 R3 ((e1.trans e2).trans e3) (RepL.cons (Rep.mono e3 _ rp) rl) k3
theorem de_tup (h : DA c t f) : DE c (tTup t) (wTup f) := by
  intro G env s σ H k Q R hf q
  refine h G env s σ H _ _ R hf fun G1 H1 vs ds env1 s1 R1 e1 rl k1 => ⟨by rw [rl.length]; exact k1.1, fun p hp => ?_⟩
  obtain ⟨G2, R2, e2, rp⟩ := R1.newTup hp rl
  exact q G2 _ _ (.val (.tup ds)) env1 s1 R2 (e1.trans e2) rp k1.2
theorem de_lst (h : DA c t f) : DE c (tLst t) (wLst f) := by
  intro G env s σ H k Q R hf q
  refine h G env s σ H _ _ R hf fun G1 H1 vs ds env1 s1 R1 e1 rl k1 => ⟨by rw [rl.length]; exact k1.1, fun p hp => ?_⟩
  obtain ⟨R2, rv⟩ := R1.newOwn hp rl
  exact q G1 _ _ (.own ds) env1 s1 R2 e1 rv k1.2
end
def wCB (g : FL) (f : FA) : FE := fun env s k => f env s fun ds env1 s1 => g ds fun r => k r env1 s1
theorem de_cb {c : Cxt} {r : List V → Hp → VK → Prop} {g : FL} {t : TA} {f : FA} (hr : DB c r g) (h : DA c t f) : DE c (tCB r t) (wCB g f) := by
  intro G env s σ H k Q R hf q
  refine h G env s σ H _ _ R hf fun G1 H1 vs ds env1 s1 R1 e1 rl k1 => ?_
  exact hr G1 env1 s1 σ H1 vs ds _ Q R1 rl k1 fun G2 H2 v r' R2 e2 rv k2 => q G2 H2 v r' env1 s1 R2 (e1.trans e2) rv k2
def wCB1 (g : F1) (f : FP) : FE := fun env s k => f env s fun d env1 s1 => g d fun r => k r env1 s1
theorem de_cb1 {c : Cxt} {r : List V → Hp → VK → Prop} {g : F1} {te : TE} {f : FP} (hr : D1 c (fun x => r [x]) g) (h : DP c te f) : DE c (tCB r (tCons te tNil)) (wCB1 g f) := by
  intro G env s σ H k Q R hf q
  refine h G env s σ H _ _ R hf fun G1 H1 x d env1 s1 R1 e1 p1 k1 => ?_
  exact hr G1 env1 s1 σ H1 x d _ Q R1 p1 k1 fun G2 H2 v r' R2 e2 rv k2 => q G2 H2 v r' env1 s1 R2 (e1.trans e2) rv k2
end DL
set_option Elab.async false
set_option linter.all false
set_option maxRecDepth 100000
set_option maxHeartbeats 4000000
namespace DL
open PySem L2
open Evl (Ex)
inductive Fl where
  | nx (e : EnvD) (s : S) | rt (r : Sl) (s : S) | bk (e : EnvD) (s : S) | ct (e : EnvD) (s : S)
abbrev FS := EnvD → S → (Fl → Prop) → Prop
abbrev FG := Sl → EnvD → S → (EnvD → S → Prop) → Prop
abbrev FGs := List D → EnvD → S → (EnvD → S → Prop) → Prop
structure DEnd (c : Cxt) (G : Hp) (k : Fl → Prop) (E : Ends) : Prop where
  nx : ∀ G' H' env' s' σ', Rel c G' env' s' σ' H' → Ex G G' → k (.nx env' s') → E.nx σ' H'
  rt : ∀ G' H' s' v r, Rel c G' [] s' [] H' → Ex G G' → RV c G' H' [] [] v r → k (.rt r s') → E.rt v H'
  bk : ∀ G' H' env' s' σ', Rel c G' env' s' σ' H' → Ex G G' → k (.bk env' s') → E.bk σ' H'
  ct : ∀ G' H' env' s' σ', Rel c G' env' s' σ' H' → Ex G G' → k (.ct env' s') → E.ct σ' H'
section
variable (c : Cxt)
def DS (t : TS) (f : FS) : Prop := ∀ (G : Hp) (env : EnvD) (s : S) (σ : L2.St) (H : Hp) (k : Fl → Prop) (E : Ends), Rel c G env s σ H → f env s k → DEnd c G k E → t E σ H
def DG (g : TG) (f : FG) : Prop := ∀ (G : Hp) (env : EnvD) (s : S) (σ : L2.St) (H : Hp) (v : V) (r : Sl) (k : EnvD → S → Prop) (Q : L2.St → Hp → Prop), Rel c G env s σ H → RV c G H env σ v r → f r env s k →
  (∀ G' H' env' s' σ', Rel c G' env' s' σ' H' → Ex G G' → k env' s' → Q σ' H') → g v σ H Q
def DGs (g : TGs) (f : FGs) : Prop := ∀ (G : Hp) (env : EnvD) (s : S) (σ : L2.St) (H : Hp) (vs : List V) (ds : List D) (k : EnvD → S → Prop) (Q : L2.St → Hp → Prop), Rel c G env s σ H → RepL c.K G ds vs → f ds env s k →
  (∀ G' H' env' s' σ', Rel c G' env' s' σ' H' → Ex G G' → k env' s' → Q σ' H') → g vs σ H Q
end
section
variable {c : Cxt} {G G' H : Hp} {env : EnvD} {s : S} {σ : L2.St} {k : Fl → Prop} {E : Ends}
theorem DEnd.mono (e : Ex G G') (h : DEnd c G k E) : DEnd c G' k E :=
  ⟨fun _ _ _ _ _ R x => h.nx _ _ _ _ _ R (e.trans x), fun _ _ _ _ _ R x => h.rt _ _ _ _ _ R (e.trans x), fun _ _ _ _ _ R x => h.bk _ _ _ _ _ R (e.trans x), fun _ _ _ _ _ R x => h.ct _ _ _ _ _ R (e.trans x)⟩
theorem Rel.bare (R : Rel c G env s σ H) : Rel c G [] s [] H :=
  { R with len := rfl, vals := fun i d h => by simp at h, owns := fun i d h => by simp at h, dist := fun i j d e v h => by simp at h }
theorem RV.bare {v : V} {r : Sl} (h : RV c G H env σ v r) : RV c G H [] [] v r := by
  cases r with
  | no => exact h
  | val d => exact h
  | own ds => exact ⟨h.1, fun i es q => by simp at q⟩
theorem Rel.set (R : Rel c G env s σ H) {v : V} {r : Sl} (h : RV c G H env σ v r) (i : Nat) : Rel c G (env.set i r) s (σ.set i (some v)) H := by
  have hl : (env.set i r).length = (σ.set i (some v)).length := by rw [List.length_set, List.length_set]; exact R.len
  by_cases hi : i < env.length
  · have hi' : i < σ.length := by rw [← R.len]; exact hi
    have at1 : ∀ x, (env.set i r)[i]? = some x → x = r := fun x q => by rw [List.getElem?_set_self hi] at q; exact (Option.some.inj q).symm
    have at2 : (σ.set i (some v))[i]? = some (some v) := by rw [List.getElem?_set_self hi']
    have o1 : ∀ j (x : Sl), j ≠ i → (env.set i r)[j]? = some x → env[j]? = some x := fun j x hj q => by rw [List.getElem?_set_ne (Ne.symm hj)] at q; exact q
    have o2 : ∀ j, j ≠ i → (σ.set i (some v))[j]? = σ[j]? := fun j hj => by rw [List.getElem?_set_ne (Ne.symm hj)]
    refine { R with len := hl, vals := fun j d hj => ?_, owns := fun j ds hj => ?_, dist := fun j l ds es w h1 h2 h3 h4 => ?_ }
    · by_cases hji : j = i
      · subst hji
        have e := at1 _ hj
        subst e
        exact ⟨v, at2, h⟩
      · obtain ⟨w, e1, e2⟩ := R.vals j d (o1 j _ hji hj)
        exact ⟨w, by rw [o2 j hji]; exact e1, e2⟩
    · by_cases hji : j = i
      · subst hji
        have e := at1 _ hj
        subst e
        exact ⟨v, at2, h.1⟩
      · obtain ⟨w, e1, e2⟩ := R.owns j ds (o1 j _ hji hj)
        exact ⟨w, by rw [o2 j hji]; exact e1, e2⟩
    · by_cases hji : j = i
      · by_cases hli : l = i
        · rw [hji, hli]
        · subst hji
          have e := at1 _ h1
          subst e
          rw [at2] at h3
          cases h3
          rw [o2 l hli] at h4
          exact absurd h4 (h.2 l es (o1 l _ hli h2))
      · by_cases hli : l = i
        · subst hli
          have e := at1 _ h2
          subst e
          rw [at2] at h4
          cases h4
          rw [o2 j hji] at h3
          exact absurd h3 (h.2 j ds (o1 j _ hji h1))
        · rw [o2 j hji] at h3
          rw [o2 l hli] at h4
          exact R.dist j l ds es w (o1 j _ hji h1) (o1 l _ hli h2) h3 h4
  · have e1 : env.set i r = env := List.set_eq_of_length_le (by omega)
    have e2 : σ.set i (some v) = σ := List.set_eq_of_length_le (by rw [← R.len]; omega)
    rw [e1, e2]
    exact R
theorem Rel.write (R : Rel c G env s σ H) {i : Nat} {ds es : List D} {p : Addr} {vs : List V} (h : env[i]? = some (.own ds)) (hs : σ[i]? = some (some (.ref p))) (hr : RepL c.K G es vs) :
    Rel c G (env.set i (.own es)) s σ (upd H p (.lst vs)) := by
  obtain ⟨v, h1, p', vs0, rfl, h3, h4, h5, h6, h7⟩ := R.owns i ds h
  rw [hs] at h1
  cases h1
  have hi : i < env.length := (List.getElem?_eq_some_iff.mp h).1
  have at1 : ∀ x, (env.set i (.own es))[i]? = some x → x = .own es := fun x q => by rw [List.getElem?_set_self hi] at q; exact (Option.some.inj q).symm
  have o1 : ∀ j (x : Sl), j ≠ i → (env.set i (.own es))[j]? = some x → env[j]? = some x := fun j x hj q => by rw [List.getElem?_set_ne (Ne.symm hj)] at q; exact q
  refine { ex := R.ex.mut h3, st := fun a ha => ⟨(R.st a ha).1, ?_⟩, sn := R.sn, keep := fun q o h8 h9 h10 => ?_, kn := fun q hq => ?_, h0n := R.h0n, tab := Tabs.updL R.tab h6, gnew := R.gnew, gx := R.gx, gtb := R.gtb,
           len := by rw [List.length_set]; exact R.len, vals := fun j d hj => ?_, owns := fun j fs hj => ?_, dist := fun j l fs gs w h8 h9 ha hb => ?_ }
  · obtain ⟨x, b, e1, e2⟩ := (R.st a ha).2
    exact ⟨x, b, e1, by rw [upd_ne (fun z => h5 (by rw [← z]; exact ha))]; exact e2⟩
  · have hb : q ≠ p := fun z => by rw [z, h4] at h8; cases h8
    rw [upd_ne hb]
    exact R.keep q o h8 h9 h10
  · by_cases hb : q = p
    · subst hb; rw [upd_same] at hq; cases hq
    · rw [upd_ne hb] at hq; exact R.kn q hq
  · by_cases hji : j = i
    · subst hji
      have e := at1 _ hj
      cases e
    · exact R.vals j d (o1 j _ hji hj)
  · by_cases hji : j = i
    · subst hji
      have e := at1 _ hj
      cases e
      exact ⟨_, hs, p, vs, rfl, h3, h4, h5, upd_same, hr⟩
    · obtain ⟨w, e1, q, ws, rfl, e3, e4, e5, e6, e7⟩ := R.owns j fs (o1 j _ hji hj)
      have hb : q ≠ p := fun z => hji (R.dist j i fs ds (.ref q) (o1 j _ hji hj) h e1 (by rw [z]; exact hs))
      exact ⟨_, e1, q, ws, rfl, e3, e4, e5, by rw [upd_ne hb]; exact e6, e7⟩
  · have g : ∀ (j : Nat) (fs : List D), (env.set i (.own es))[j]? = some (.own fs) → ∃ fs' : List D, env[j]? = some (Sl.own fs') := fun j fs hj => by
      by_cases hji : j = i
      · subst hji; exact ⟨ds, h⟩
      · exact ⟨fs, o1 j _ hji hj⟩
    obtain ⟨f1, e1⟩ := g j fs h8
    obtain ⟨f2, e2⟩ := g l gs h9
    exact R.dist j l f1 f2 w e1 e2 ha hb
end
def wNext : FS := fun env s k => k (.nx env s)
def wSeq (f g : FS) : FS := fun env s k => f env s fun fl => match fl with
  | .nx e s1 => g e s1 k
  | .rt r s1 => k (.rt r s1)
  | .bk e s1 => k (.bk e s1)
  | .ct e s1 => k (.ct e s1)
def wRet (f : FE) : FS := fun env s k => f env s fun r _ s1 => k (.rt r s1)
def wRetV (i : Nat) : FS := fun env s k => match at_ env i with
  | .no => False
  | .val d => k (.rt (.val d) s)
  | .own ds => k (.rt (.own ds) s)
def wRetN : FS := fun env s k => k (.rt (.val .non) s)
def wIfS (t : FT) (f g : FS) : FS := fun env s k => t env s fun b env1 s1 => if b = true then f env1 s1 k else g env1 s1 k
def wDrop (f : FE) : FS := fun env s k => f env s fun _ env1 s1 => k (.nx env1 s1)
def wAsg (f : FE) (g : FG) : FS := fun env s k => f env s fun r env1 s1 => g r env1 s1 fun env2 s2 => k (.nx env2 s2)
def wName (i : Nat) : FG := fun r env s k => k (env.set i r) s
def wTupT (n : Nat) (f : FGs) : FG := fun r env s k => match r.d with
  | .tup ds => ds.length = n ∧ f ds env s k
  | _ => False
def wGNil : FGs := fun ds env s k => ds = [] ∧ k env s
def wGCons (g : FG) (h : FGs) : FGs := fun ds env s k => match ds with
  | [] => False
  | d :: ds => g (.val d) env s fun env1 s1 => h ds env1 s1 k
def wPar (i j : Nat) (f : FA) : FS := fun env s k => f env s fun ds env1 s1 => match ds with
  | [d, e] => k (.nx ((env1.set i (.val d)).set j (.val e)) s1)
  | _ => False
section
variable {c : Cxt} {ta : TE} {fa : FE} {t u : TS} {f g : FS} {tt : TT} {ft : FT}
theorem ds_next : DS c tNext wNext := fun G env s σ H k E R h q => q.nx G H env s σ R (Ex.refl G) h
theorem ds_seq (h : DS c t f) (h' : DS c u g) : DS c (tSeq t u) (wSeq f g) := by
  intro G env s σ H k E R hf q
  exact h G env s σ H _ { E with nx := u E } R hf ⟨fun G' H' env' s' σ' R' e kk => h' G' env' s' σ' H' k E R' kk (q.mono e), q.rt, q.bk, q.ct⟩
theorem ds_ret (h : DE c ta fa) : DS c (tRet ta) (wRet fa) := by
  intro G env s σ H k E R hf q
  exact h G env s σ H _ _ R hf fun G' H' v r env' s' R' e rv kk => q.rt G' H' s' v r R'.bare e rv.bare kk
theorem ds_retV (i : Nat) : DS c (tRet (tVar i)) (wRetV i) := by
  intro G env s σ H k E R hf q
  unfold wRetV at hf
  cases e : at_ env i with
  | no => rw [e] at hf; exact hf.elim
  | val d =>
    rw [e] at hf
    obtain ⟨v, h1, h2⟩ := R.vals i d (at_val e (by simp))
    exact ⟨v, h1, q.rt G H s v (.val d) R.bare (Ex.refl G) h2 hf⟩
  | own ds =>
    rw [e] at hf
    obtain ⟨v, h1, h2⟩ := R.owns i ds (at_val e (by simp))
    exact ⟨v, h1, q.rt G H s v (.own ds) R.bare (Ex.refl G) ⟨h2, fun i es z => by simp at z⟩ hf⟩
theorem ds_if (h : DT c tt ft) (h1 : DS c t f) (h2 : DS c u g) : DS c (tIfS tt t u) (wIfS ft f g) := by
  intro G env s σ H k E R hf q
  refine h G env s σ H _ _ R hf fun G1 H1 b env1 s1 R1 e1 k1 => ?_
  cases b with
  | true => exact h1 G1 env1 s1 σ H1 k E R1 k1 (q.mono e1)
  | false => exact h2 G1 env1 s1 σ H1 k E R1 k1 (q.mono e1)
theorem ds_drop (h : DE c ta fa) : DS c (tDrop ta) (wDrop fa) := by
  intro G env s σ H k E R hf q
  exact h G env s σ H _ _ R hf fun G' H' v r env' s' R' e rv kk => q.nx G' H' env' s' σ R' e kk
theorem ds_asg {tg : TG} {fg : FG} (h : DE c ta fa) (h' : DG c tg fg) : DS c (tAsg ta tg) (wAsg fa fg) := by
  intro G env s σ H k E R hf q
  refine h G env s σ H _ _ R hf fun G1 H1 v r env1 s1 R1 e1 rv1 k1 => ?_
  exact h' G1 env1 s1 σ H1 v r _ _ R1 rv1 k1 fun G2 H2 env2 s2 σ2 R2 e2 k2 => q.nx G2 H2 env2 s2 σ2 R2 (e1.trans e2) k2
theorem dg_name (i : Nat) : DG c (gName i) (wName i) := fun G env s σ H v r k Q R rv h q => q G H _ s _ (R.set rv i) (Ex.refl G) h
theorem dgs_nil : DGs c gNil wGNil := by
  intro G env s σ H vs ds k Q R rl h q
  obtain ⟨rfl, h⟩ := h
  simp only [RepL] at rl
  exact ⟨rl, q G H env s σ R (Ex.refl G) h⟩
theorem dgs_cons {tg : TG} {fg : FG} {ts : TGs} {fs : FGs} (h : DG c tg fg) (h' : DGs c ts fs) : DGs c (gCons tg ts) (wGCons fg fs) := by
  intro G env s σ H vs ds k Q R rl hf q
  cases ds with
  | nil => exact hf.elim
  | cons d ds =>
    simp only [RepL] at rl
    obtain ⟨v, r, rfl, h2, h3⟩ := rl
    refine ⟨v, r, rfl, h G env s σ H v (.val d) _ _ R h2 hf fun G1 H1 env1 s1 σ1 R1 e1 k1 => ?_⟩
    exact h' G1 env1 s1 σ1 H1 r ds k Q R1 (RepL.mono e1 ds h3) k1 fun G2 H2 env2 s2 σ2 R2 e2 k2 => q G2 H2 env2 s2 σ2 R2 (e1.trans e2) k2
theorem dg_tup {n : Nat} {ts : TGs} {fs : FGs} (h : DGs c ts fs) : DG c (gTup c.K n ts) (wTupT n fs) := by
  intro G env s σ H v r k Q R rv hf q
  unfold wTupT at hf
  cases r with
  | no => exact rv.elim
  | own ds => exact hf.elim
  | val d =>
    cases d with
    | tup ds =>
      have h' : Rep c.K G (.tup ds) v := rv
      simp only [Rep] at h'
      obtain ⟨p, vs, rfl, h2, h3⟩ := h'
      exact ⟨p, vs, rfl, Evl.ex_t R.ex h2, by rw [h3.length]; exact hf.1, h G env s σ H vs ds k Q R h3 hf.2 q⟩
    | _ => exact hf.elim
theorem ds_par {ta : TA} {fa : FA} (i j : Nat) (h : DA c ta fa) : DS c (tPar i j ta) (wPar i j fa) := by
  intro G env s σ H k E R hf q
  refine h G env s σ H _ _ R hf fun G1 H1 vs ds env1 s1 R1 e1 rl k1 => ?_
  match ds, rl, k1 with
  | [d, e], rl, k1 =>
    simp only [RepL] at rl
    obtain ⟨v, r, rfl, h2, w, r', rfl, h3, rfl⟩ := rl
    exact ⟨v, w, rfl, q.nx G1 H1 _ s1 _ ((R1.set (r := .val d) h2 i).set (r := .val e) h3 j) e1 k1⟩
end
def wApp (j : Nat) (f : FE) : FS := fun env s k => match at_ env j with
  | .own _ => f env s fun r env1 s1 => match at_ env1 j with
    | .own ds => ds.length < sizeLine ∧ k (.nx (env1.set j (.own (ds ++ [r.d]))) s1)
    | _ => False
  | _ => False
def wExt (j : Nat) (f : FE) : FS := fun env s k => match at_ env j with
  | .own _ => f env s fun r env1 s1 => match at_ env1 j, r.d with
    | .own ds, .lst es => ds.length + es.length ≤ sizeLine ∧ k (.nx (env1.set j (.own (ds ++ es))) s1)
    | _, _ => False
  | _ => False
def wPop (j : Nat) : FE := fun env s k => match at_ env j with
  | .own ds => ∃ d, ds[ds.length - 1]? = some d ∧ k (.val d) (env.set j (.own ds.dropLast)) s
  | _ => False
def setSt (s : S) (a : Addr) (i : Int) (d : D) (k : S → Prop) : Prop := match s, d with
  | some t, .int x => (i = 0 ∧ a = t.a) ∧ k (some { t with x := x })
  | _, _ => False
def wSub (j : Nat) (fi : FP) : FG := fun r env s k => match at_ env j with
  | .no => False
  | _ => fi env s fun di env1 s1 => match at_ env1 j, di with
    | .own ds, .int i => ∃ n, ixN ds.length i = some n ∧ k (env1.set j (.own (ds.set n r.d))) s1
    | .val (.st a), .int i => setSt s1 a i r.d fun s2 => k env1 s2
    | _, _ => False
section
variable {c : Cxt} {ta ti : TE} {fa : FE} {fi : FP}
theorem RepL.dropLast {K : PySem.W.Frag} {G : Hp} {ds : List D} {vs : List V} (h : RepL K G ds vs) : RepL K G ds.dropLast vs.dropLast := by
  rw [List.dropLast_eq_take, List.dropLast_eq_take, h.length]
  exact RepL.take _ h
theorem ds_app (j : Nat) (h : DE c ta fa) : DS c (tDrop (tBM c.K "list" rAppend (tVar j) (tCons ta tNil))) (wApp j fa) := by
  intro G env s σ H k E R hf q
  unfold wApp at hf
  cases e : at_ env j with
  | no => rw [e] at hf; exact hf.elim
  | val d => rw [e] at hf; exact hf.elim
  | own ds0 =>
    rw [e] at hf
    obtain ⟨v, h1, p, vs0, rfl, h3, h4, h5, h6, h7⟩ := R.owns j ds0 (at_val e (by simp))
    refine ⟨_, h1, Or.inl ⟨rfl, vs0, Evl.sq_of h6⟩, ?_⟩
    refine h G env s σ H _ _ R hf fun G1 H1 x r env1 s1 R1 e1 rv1 k1 => ?_
    obtain ⟨G2, R2, e2, rp⟩ := R1.toVal rv1
    cases e3 : at_ env1 j with
    | no => rw [e3] at k1; exact k1.elim
    | val d => rw [e3] at k1; exact k1.elim
    | own ds =>
      rw [e3] at k1
      obtain ⟨v, g1, p', vs, rfl, g3, g4, g5, g6, g7⟩ := R2.owns j ds (at_val e3 (by simp))
      rw [h1] at g1
      cases g1
      have R3 := R2.write (es := ds ++ [r.d]) (vs := vs ++ [x]) (at_val e3 (by simp)) h1 (RepL.append g7 (RepL.one rp))
      exact ⟨p, vs, x, rfl, rfl, g6, by rw [g7.length]; exact k1.1, q.nx G2 _ _ s1 σ R3 (e1.trans e2) k1.2⟩
theorem dg_sub (j : Nat) (h : DP c ti fi) : DG c (gSub (tVar j) ti rSetL) (wSub j fi) := by
  intro G env s σ H v r k Q R rv hf q
  unfold wSub at hf
  obtain ⟨G0, R0, e0, rp⟩ := R.toVal rv
  have ne : at_ env j ≠ .no := fun e => by rw [e] at hf; exact hf
  have hf' : fi env s fun di env1 s1 => match at_ env1 j, di with
    | .own ds, .int i => ∃ n, ixN ds.length i = some n ∧ k (env1.set j (.own (ds.set n r.d))) s1
    | .val (.st a), .int i => setSt s1 a i r.d fun s2 => k env1 s2
    | _, _ => False := by
    cases e : at_ env j with
    | no => exact absurd e ne
    | val d => rw [e] at hf; exact hf
    | own ds => rw [e] at hf; exact hf
  obtain ⟨w, h1, _⟩ := at_rel R0 ne
  refine ⟨w, h1, h G0 env s σ H _ _ R0 hf' fun G1 H1 y di env1 s1 R1 e1 p1 k1 => ?_⟩
  have rp1 := Rep.mono e1 _ rp
  cases e2 : at_ env1 j with
  | no => rw [e2] at k1; exact k1.elim
  | own ds =>
    rw [e2] at k1
    cases di with
    | int i =>
      obtain ⟨n, hn, hk⟩ := k1
      obtain ⟨w', g1, p, vs, rfl, g3, g4, g5, g6, g7⟩ := R1.owns j ds (at_val e2 (by simp))
      rw [h1] at g1
      cases g1
      have R3 := R1.write (es := ds.set n r.d) (vs := vs.set n v) (at_val e2 (by simp)) h1 (RepL.set n g7 rp1)
      exact ⟨p, vs, i, n, rfl, pr_int p1 rfl, g6, by rw [g7.length]; exact hn, q G1 _ _ s1 σ R3 (e0.trans e1) hk⟩
    | _ => exact k1.elim
  | val d =>
    rw [e2] at k1
    cases d with
    | st a0 =>
      cases di with
      | int i =>
        have k2 : setSt s1 a0 i r.d fun s2 => k env1 s2 := k1
        clear k1
        unfold setSt at k2
        split at k2
        · rename_i t x hrd
          obtain ⟨⟨hi, ha0⟩, k3⟩ := k2
          subst hi ha0
          obtain ⟨w', g1, g2⟩ := R1.vals j (.st t.a) (at_val e2 (by simp))
          simp only [Rep] at g2
          subst g2
          rw [h1] at g1
          cases g1
          cases hc : c.a0 with
          | none => have := R1.sn hc; cases this
          | some a =>
            obtain ⟨s1a, x0, b0, e5, s1b⟩ := R1.st a hc
            cases e5
            rw [hrd] at rp1
            simp only [Rep] at rp1
            subst rp1
            refine ⟨a, _, 0, 0, rfl, pr_int p1 rfl, s1b, rfl, q G1 _ env1 (some ⟨x, b0, a⟩) σ ?_ (e0.trans e1) k3⟩
            refine { ex := R1.ex.mut s1a, st := fun b hb => ?_, sn := fun z => (by rw [hc] at z; cases z), keep := fun p o k1' k2 k3 => ?_, kn := fun p hp => ?_, h0n := R1.h0n, tab := Tabs.updL R1.tab s1b, gnew := R1.gnew, gx := R1.gx, gtb := R1.gtb, len := R1.len, vals := R1.vals,
                     owns := fun l es hl => ?_, dist := R1.dist }
            · rw [hc] at hb
              cases hb
              exact ⟨s1a, x, b0, rfl, upd_same⟩
            · rw [upd_ne (fun z => k2 (by rw [z]; exact hc))]
              exact R1.keep p o k1' k2 k3
            · by_cases hb : p = a
              · subst hb; rw [upd_same] at hp; cases hp
              · rw [upd_ne hb] at hp; exact R1.kn p hp
            · obtain ⟨w2, e1', p, vs, rfl, e3, e4, e5, e6, e7⟩ := R1.owns l es hl
              have hb : p ≠ a := fun z => e5 (by rw [z]; exact hc)
              exact ⟨_, e1', p, vs, rfl, e3, e4, e5, by rw [upd_ne hb]; exact e6, e7⟩
        · exact k2.elim
      | _ => exact k1.elim
    | _ => cases di <;> exact k1.elim
end
end DL
set_option Elab.async false
set_option linter.all false
set_option maxRecDepth 100000
set_option maxHeartbeats 4000000
namespace DL
open PySem L2
open Evl (Ex)
abbrev FI := EnvD → S → (List D → EnvD → S → Prop) → Prop
abbrev Cxt.h0 (c : Cxt) (H0 : Hp) : Cxt := { c with H0 := H0 }
structure Wk (c : Cxt) (G : Hp) (J : It) (ds : List D) : Prop where
  ex : ∃ (n : Nat) (Gd : Hp → Prop) (Y : Nat → Hp → V → Hp → Prop), n = ds.length ∧ Walk J n Gd Y ∧
    (∀ (H0 : {h : Hp // Ex c.H0 h}) G' H' env' s' σ', Rel (c.h0 H0.1) G' env' s' σ' H' → Ex G G' → Gd H') ∧
    ∀ i (H0 : {h : Hp // Ex c.H0 h}) G' H' env' s' σ' x H3, i < n → Rel (c.h0 H0.1) G' env' s' σ' H' → Ex G G' → Y i H' x H3 → ∃ G3 d, Rel (c.h0 H0.1) G3 env' s' σ' H3 ∧ Ex G' G3 ∧ ds[i]? = some d ∧ Rep c.K G3 d x
def DI (c : Cxt) (wi : TI) (f : FI) : Prop := ∀ (G : Hp) (env : EnvD) (s : S) (σ : L2.St) (H : Hp) (k : List D → EnvD → S → Prop) (R : It → Hp → Prop), Rel c G env s σ H → f env s k →
  (∀ G' H' J ds env' s', Rel c G' env' s' σ H' → Ex G G' → Wk c G' J ds → k ds env' s' → R J H') → wi σ H R
def forW (fg : FG) (fb : FS) (k : Fl → Prop) : List D → EnvD → S → Prop
  | [], env, s => k (.nx env s)
  | d :: ds, env, s => fg (.val d) env s fun env1 s1 => fb env1 s1 fun fl => match fl with
    | .nx e s2 => forW fg fb k ds e s2
    | .ct e s2 => forW fg fb k ds e s2
    | .bk e s2 => k (.nx e s2)
    | .rt r s2 => k (.rt r s2)
def wFor (fi : FI) (fg : FG) (fb : FS) : FS := fun env s k => fi env s fun ds env1 s1 => forW fg fb k ds env1 s1
def whileW (ft : FT) (fb : FS) (k : Fl → Prop) : Nat → EnvD → S → Prop
  | 0, _, _ => False
  | n + 1, env, s => ft env s fun b env1 s1 => if b = true then fb env1 s1 fun fl => match fl with
    | .nx e s2 => whileW ft fb k n e s2
    | .ct e s2 => whileW ft fb k n e s2
    | .bk e s2 => k (.nx e s2)
    | .rt r s2 => k (.rt r s2)
    else k (.nx env1 s1)
def wWhile (ft : FT) (fb : FS) : FS := fun env s k => ∃ n, whileW ft fb k n env s
section
variable {c : Cxt}
theorem ds_for {wi : TI} {fi : FI} {g : TG} {fg : FG} {tb : TS} {fb : FS} (hi : DI c wi fi) (hg : DG c g fg) (hb : DS c tb fb) : DS c (tFor wi g tb) (wFor fi fg fb) := by
  intro G env s σ H k E R hf q
  refine hi G env s σ H _ _ R hf fun G1 H1 J ds env1 s1 R1 e1 w k1 => ?_
  obtain ⟨n, Gd, Y, hn, wk, hG, hY⟩ := w.ex
  have q1 := q.mono e1
  refine for_it wk (fun i σ' H' => ∃ G' env' s', Rel c G' env' s' σ' H' ∧ Ex G1 G' ∧ forW fg fb k (ds.drop i) env' s') ⟨G1, env1, s1, R1, Ex.refl G1, by simpa using k1⟩
    (fun i σ' H' _ ⟨G', env', s', R', e', _⟩ => hG ⟨c.H0, Ex.refl _⟩ G' H' env' s' σ' R' e') ?_ ?_
  · rintro i x σ' H' H3 hin ⟨G', env', s', R', e', kk⟩ y
    obtain ⟨G3, d, R3, e3, hd, rd⟩ := hY i ⟨c.H0, Ex.refl _⟩ G' H' env' s' σ' x H3 hin R' e' y
    have hdrop : ds.drop i = d :: ds.drop (i + 1) := by
      obtain ⟨hl, hx⟩ := List.getElem?_eq_some_iff.mp hd
      rw [List.drop_eq_getElem_cons hl, hx]
    rw [hdrop] at kk
    refine hg G3 env' s' σ' H3 x (.val d) _ _ R3 rd kk fun G4 H4 env4 s4 σ4 R4 e4 k4 => ?_
    have eG : Ex G1 G4 := (e'.trans e3).trans e4
    refine hb G4 env4 s4 σ4 H4 _ _ R4 k4 ⟨fun G5 H5 env5 s5 σ5 R5 e5 k5 => ⟨G5, env5, s5, R5, eG.trans e5, k5⟩, fun G5 H5 s5 v r R5 e5 rv5 k5 => q1.rt G5 H5 s5 v r R5 (eG.trans e5) rv5 k5,
      fun G5 H5 env5 s5 σ5 R5 e5 k5 => q1.nx G5 H5 env5 s5 σ5 R5 (eG.trans e5) k5, fun G5 H5 env5 s5 σ5 R5 e5 k5 => ⟨G5, env5, s5, R5, eG.trans e5, k5⟩⟩
  · rintro σ' H' ⟨G', env', s', R', e', kk⟩
    rw [hn, List.drop_length] at kk
    exact q1.nx G' H' env' s' σ' R' e' kk
theorem ds_while {t : TT} {ft : FT} {tb : TS} {fb : FS} (ht : DT c t ft) (hb : DS c tb fb) : DS c (tWhile t tb) (wWhile ft fb) := by
  intro G env s σ H k E R hf q
  obtain ⟨n0, hf⟩ := hf
  refine ⟨fun n σ' H' => ∃ G' env' s', Rel c G' env' s' σ' H' ∧ Ex G G' ∧ whileW ft fb k n env' s', ⟨n0, G, env, s, R, Ex.refl G, hf⟩, ?_⟩
  rintro n σ' H' ⟨G', env', s', R', e', kk⟩
  cases n with
  | zero => exact kk.elim
  | succ n =>
    refine ht G' env' s' σ' H' _ _ R' kk fun G1 H1 b env1 s1 R1 e1 k1 => ?_
    have eG := e'.trans e1
    cases b with
    | true =>
      refine ⟨fun σ2 H2 => ∃ G2 env2 s2, Rel c G2 env2 s2 σ2 H2 ∧ Ex G G2 ∧ whileW ft fb k n env2 s2, fun σ2 H2 h2 => ⟨n, Nat.lt_succ_self n, h2⟩, ?_⟩
      exact hb G1 env1 s1 σ' H1 _ _ R1 k1 ⟨fun G5 H5 env5 s5 σ5 R5 e5 k5 => ⟨G5, env5, s5, R5, eG.trans e5, k5⟩, fun G5 H5 s5 v r R5 e5 rv5 k5 => q.rt G5 H5 s5 v r R5 (eG.trans e5) rv5 k5,
        fun G5 H5 env5 s5 σ5 R5 e5 k5 => q.nx G5 H5 env5 s5 σ5 R5 (eG.trans e5) k5, fun G5 H5 env5 s5 σ5 R5 e5 k5 => ⟨G5, env5, s5, R5, eG.trans e5, k5⟩⟩
    | false => exact q.nx G1 H1 env1 s1 σ' R1 eG k1
end
def wIt (f : FE) : FI := fun env s k => f env s fun r env1 s1 => match r.d with
  | .lst ds => k ds env1 s1
  | _ => False
def wItT (f : FE) : FI := fun env s k => f env s fun r env1 s1 => match r.d with
  | .tup ds => k ds env1 s1
  | _ => False
def intL (lo : Int) (n : Nat) : List D := (List.range n).map fun i => .int (lo + (i : Nat))
def intLC (lo c : Int) (n : Nat) : List D := (List.range n).map fun i => .int (lo + (i : Nat) * c)
def wRng1 (f : FA) : FI := fun env s k => f env s fun ds env1 s1 => match ds with
  | [.int j] => (-(2 ^ 62) ≤ j ∧ j < 2 ^ 62) ∧ k (intL 0 j.toNat) env1 s1
  | _ => False
def wRng2 (f : FA) : FI := fun env s k => f env s fun ds env1 s1 => match ds with
  | [.int i, .int j] => (-(2 ^ 62) ≤ i ∧ i < 2 ^ 62 ∧ -(2 ^ 62) ≤ j ∧ j < 2 ^ 62) ∧ k (intL i (j - i).toNat) env1 s1
  | _ => False
def wRng3 (f : FA) : FI := fun env s k => f env s fun ds env1 s1 => match ds with
  | [.int i, .int j, .int c] => ∃ n, RgC i j c n ∧ k (intLC i c n) env1 s1
  | _ => False
def enumD (ds : List D) : List D := ds.zipIdx.map fun p => .tup [.int (p.2 : Nat), p.1]
def zipD (ds es : List D) : List D := (ds.zip es).map fun p => .tup [p.1, p.2]
def wEnum (f : FA) : FI := fun env s k => f env s fun ds env1 s1 => match ds with
  | [.lst es] => k (enumD es) env1 s1
  | _ => False
def wZip (f : FA) : FI := fun env s k => f env s fun ds env1 s1 => match ds with
  | [.lst es, .lst fs] => k (zipD es fs) env1 s1
  | [.tup es, .tup fs] => k (zipD es fs) env1 s1
  | _ => False
def wRev (f : FA) : FI := fun env s k => f env s fun ds env1 s1 => match ds with
  | [.lst es] => k es.reverse env1 s1
  | _ => False
def chars (x : Str) : List D := x.cps.toList.map fun c => .str ⟨#[c]⟩
def wItS (f : FE) : FI := fun env s k => f env s fun r env1 s1 => match r.d with
  | .str x => k (chars x) env1 s1
  | _ => False
section
variable {c : Cxt} {G : Hp}
theorem wk_at {J : It} {ds : List D} {vs : List V} {Gd : Hp → Prop} (h : RepL c.K G ds vs) (w : Walk J vs.length Gd (YAt vs)) (hG : ∀ (H0 : {h : Hp // Ex c.H0 h}) G' H' env' s' σ', Rel (c.h0 H0.1) G' env' s' σ' H' → Ex G G' → Gd H') : Wk c G J ds :=
  ⟨vs.length, Gd, YAt vs, h.length, w, hG, fun i H0 G' H' env' s' σ' x H3 hi R' e' y => by
    obtain ⟨rfl, hx⟩ := y
    obtain ⟨d, h1, h2⟩ := RepL.getV h hx
    exact ⟨G', d, R', Ex.refl G', h1, Rep.mono e' d h2⟩⟩
theorem wk_fn {J : It} {ds : List D} {n : Nat} {f : Nat → V} (hn : n = ds.length) (w : Walk J n (fun _ => True) (YFn f)) (hd : ∀ i, i < n → ∃ d, ds[i]? = some d ∧ ∀ G, Rep c.K G d (f i)) : Wk c G J ds :=
  ⟨n, _, _, hn, w, fun _ _ _ _ _ _ _ _ => True.intro, fun i H0 G' H' env' s' σ' x H3 hi R' e' y => by
    obtain ⟨rfl, rfl⟩ := y
    obtain ⟨d, h1, h2⟩ := hd i hi
    exact ⟨G', d, R', Ex.refl G', h1, h2 G'⟩⟩
theorem wk_pair {J : It} {ds : List D} {n : Nat} {Gd : Hp → Prop} {xs ys : Nat → Option V} {df dg : Nat → D} (hn : n = ds.length) (w : Walk J n Gd (YPair xs ys)) (hG : ∀ (H0 : {h : Hp // Ex c.H0 h}) G' H' env' s' σ', Rel (c.h0 H0.1) G' env' s' σ' H' → Ex G G' → Gd H')
    (hd : ∀ i, i < n → ds[i]? = some (.tup [df i, dg i])) (h1 : ∀ i x, i < n → xs i = some x → Rep c.K G (df i) x) (h2 : ∀ i x, i < n → ys i = some x → Rep c.K G (dg i) x) : Wk c G J ds :=
  ⟨n, _, _, hn, w, hG, fun i H0 G' H' env' s' σ' x H3 hi R' e' y => by
    obtain ⟨T, a, b, rfl, hT, rfl, ha, hb⟩ := y
    obtain ⟨G3, R3, e3, rp⟩ := R'.newTup (vs := [a, b]) (ds := [df i, dg i]) hT (RepL.cons (Rep.mono e' _ (h1 i a hi ha)) (RepL.one (Rep.mono e' _ (h2 i b hi hb))))
    exact ⟨G3, _, R3, e3, hd i hi, rp⟩⟩
variable {te : TE} {fe : FE} {ta : TA} {fa : FA}
theorem di_list (h : DE c te fe) : DI c (iList c.K te) (wIt fe) := by
  intro G env s σ H k Q R hf q
  refine h G env s σ H _ _ R hf fun G1 H1 v r env1 s1 R1 e1 rv1 k1 => ?_
  obtain ⟨G2, R2, e2, rp⟩ := R1.toVal rv1
  cases hd : r.d with
  | lst ds =>
    rw [hd] at k1 rp
    simp only [Rep] at rp
    obtain ⟨p, vs, rfl, h2, h3⟩ := rp
    exact ⟨p, rfl, ⟨vs, Evl.sq_of (R2.ex _ _ h2)⟩, q G2 H1 _ ds env1 s1 R2 (e1.trans e2) (wk_at h3 (walk_list (K := c.K)) fun _ G' H' _ _ _ R' e' => Evl.sq_of (R'.ex _ _ (e' _ _ h2))) k1⟩
  | _ => rw [hd] at k1; exact k1.elim
theorem intL_get {lo : Int} {n i : Nat} (h : i < n) : (intL lo n)[i]? = some (.int (lo + (i : Nat))) := by
  unfold intL
  rw [List.getElem?_map, List.getElem?_range h]
  rfl
theorem intL_length {lo : Int} {n : Nat} : (intL lo n).length = n := by unfold intL; simp
theorem repL1 {K : PySem.W.Frag} {G : Hp} {d : D} {vs : List V} (h : RepL K G [d] vs) : ∃ v, vs = [v] ∧ Rep K G d v := by
  simp only [RepL] at h
  obtain ⟨v, r, rfl, h2, rfl⟩ := h
  exact ⟨v, rfl, h2⟩
theorem repL2 {K : PySem.W.Frag} {G : Hp} {d e : D} {vs : List V} (h : RepL K G [d, e] vs) : ∃ v w, vs = [v, w] ∧ Rep K G d v ∧ Rep K G e w := by
  simp only [RepL] at h
  obtain ⟨v, r, rfl, h2, w, r', rfl, h3, rfl⟩ := h
  exact ⟨v, w, rfl, h2, h3⟩
theorem rep_int {K : PySem.W.Frag} {G : Hp} {i : Int} {v : V} (h : Rep K G (.int i) v) : v = .int i := by simpa only [Rep] using h
theorem di_rng1 (h : DA c ta fa) : DI c (iRng1 ta) (wRng1 fa) := by
  intro G env s σ H k Q R hf q
  refine h G env s σ H _ _ R hf fun G1 H1 vs ds env1 s1 R1 e1 rl k1 => ?_
  split at k1
  · rename_i j
    obtain ⟨v, rfl, rv⟩ := repL1 rl
    have := rep_int rv
    subst this
    exact ⟨j, rfl, k1.1.1, k1.1.2, q G1 H1 _ _ env1 s1 R1 e1 (wk_fn (by rw [intL_length]) walk_range fun i hi => ⟨_, intL_get hi, fun _ => by simp only [Rep]⟩) k1.2⟩
  · exact k1.elim
theorem di_rng2 (h : DA c ta fa) : DI c (iRng2 ta) (wRng2 fa) := by
  intro G env s σ H k Q R hf q
  refine h G env s σ H _ _ R hf fun G1 H1 vs ds env1 s1 R1 e1 rl k1 => ?_
  split at k1
  · rename_i i j
    obtain ⟨v, w, rfl, rv, rw'⟩ := repL2 rl
    have := rep_int rv
    subst this
    have := rep_int rw'
    subst this
    exact ⟨i, j, rfl, k1.1, q G1 H1 _ _ env1 s1 R1 e1 (wk_fn (by rw [intL_length]) walk_range fun i hi => ⟨_, intL_get hi, fun _ => by simp only [Rep]⟩) k1.2⟩
  · exact k1.elim
theorem enumD_length (ds : List D) : (enumD ds).length = ds.length := by unfold enumD; simp
theorem enumD_get {ds : List D} {i : Nat} (h : i < ds.length) : (enumD ds)[i]? = some (.tup [.int (i : Nat), ds[i]]) := by
  unfold enumD
  rw [List.getElem?_map, List.getElem?_zipIdx, List.getElem?_eq_getElem h]
  simp
theorem zipD_length (ds es : List D) : (zipD ds es).length = min ds.length es.length := by unfold zipD; simp
theorem zipD_get {ds es : List D} {i : Nat} (h : i < ds.length) (h' : i < es.length) : (zipD ds es)[i]? = some (.tup [ds[i], es[i]]) := by
  unfold zipD
  rw [List.getElem?_map, List.getElem?_eq_getElem (by simp; omega)]
  simp
theorem rep_lst {K : PySem.W.Frag} {G : Hp} {ds : List D} {v : V} (h : Rep K G (.lst ds) v) : ∃ p vs, v = .ref p ∧ G p = some (.lst vs) ∧ RepL K G ds vs := by simpa only [Rep] using h
theorem di_enum (h : DA c ta fa) : DI c (iEnum c.K ta) (wEnum fa) := by
  intro G env s σ H k Q R hf q
  refine h G env s σ H _ _ R hf fun G1 H1 vs ds env1 s1 R1 e1 rl k1 => ?_
  split at k1
  · rename_i es
    obtain ⟨v, rfl, rv⟩ := repL1 rl
    obtain ⟨p, ws, rfl, h2, h3⟩ := rep_lst rv
    refine ⟨p, ws, rfl, Evl.sq_of (R1.ex _ _ h2), q G1 H1 _ _ env1 s1 R1 e1 (wk_pair (df := fun i => .int (i : Nat)) (dg := fun i => es.getD i .non) (by rw [enumD_length]; exact h3.length) walk_enum (fun _ G' H' _ _ _ R' e' => Evl.sq_of (R'.ex _ _ (e' _ _ h2))) (fun i hi => ?_) (fun i x hi hx => ?_) (fun i x hi hx => ?_)) k1⟩
    · rw [h3.length] at hi
      rw [enumD_get hi, List.getD_eq_getElem?_getD, List.getElem?_eq_getElem hi]
      rfl
    · cases hx
      simp only [Rep]
    · obtain ⟨d, e2, e3⟩ := RepL.getV h3 hx
      rw [List.getD_eq_getElem?_getD, e2]
      exact e3
  · exact k1.elim
theorem walk_zipT {K : PySem.W.Frag} {a b : Addr} {xs ys : List V} {n : Nat} (hn : n = min xs.length ys.length) : Walk (RZ.ItzT K a b) n (fun H => SqT K H a xs ∧ SqT K H b ys) (YPair (fun i => xs[i]?) (fun i => ys[i]?)) := by
  subst hn
  refine ⟨fun i H hi q => ?_, fun H q => ⟨xs, ys, q.1, q.2, by omega⟩, fun i H x H' hi q y => ?_⟩
  · have h1 : i < xs.length := by omega
    have h2 : i < ys.length := by omega
    exact ⟨xs, ys, xs[i], ys[i], q.1, q.2, by simp [h1], by simp [h2]⟩
  · obtain ⟨T, x', y', h1, h2, h3, h4, h5⟩ := y
    exact ⟨T, x', y', h1, h2, h3, h4 xs q.1, h5 ys q.2⟩
theorem rep_tup {K : PySem.W.Frag} {G : Hp} {ds : List D} {v : V} (h : Rep K G (.tup ds) v) : ∃ p vs, v = .ref p ∧ SqT K G p vs ∧ RepL K G ds vs := by simpa only [Rep] using h
theorem zip_pair {es fs : List D} {ws ws' : List V} (h3 : RepL c.K G es ws) (h3' : RepL c.K G fs ws') {J : It} {Gd : Hp → Prop} (w : Walk J (min ws.length ws'.length) Gd (YPair (fun i => ws[i]?) (fun i => ws'[i]?))) (hG : ∀ (H0 : {h : Hp // Ex c.H0 h}) G' H' env' s' σ', Rel (c.h0 H0.1) G' env' s' σ' H' → Ex G G' → Gd H') : Wk c G J (zipD es fs) := by
  refine wk_pair (df := fun i => es.getD i .non) (dg := fun i => fs.getD i .non) (n := min ws.length ws'.length) (by rw [zipD_length, h3.length, h3'.length]) w hG (fun i hi => ?_) (fun i x hi hx => ?_) (fun i x hi hx => ?_)
  · rw [h3.length, h3'.length] at hi
    rw [zipD_get (by omega) (by omega), List.getD_eq_getElem?_getD, List.getElem?_eq_getElem (by omega), List.getD_eq_getElem?_getD, List.getElem?_eq_getElem (by omega)]
    rfl
  · obtain ⟨d, e2, e3⟩ := RepL.getV h3 hx
    rw [List.getD_eq_getElem?_getD, e2]
    exact e3
  · obtain ⟨d, e2, e3⟩ := RepL.getV h3' hx
    rw [List.getD_eq_getElem?_getD, e2]
    exact e3
theorem di_zip (h : DA c ta fa) : DI c (RZ.iZipA c.K ta) (wZip fa) := by
  intro G env s σ H k Q R hf q
  refine h G env s σ H _ _ R hf fun G1 H1 vs ds env1 s1 R1 e1 rl k1 => ?_
  split at k1
  · rename_i es fs
    obtain ⟨v, w, rfl, rv, rw'⟩ := repL2 rl
    obtain ⟨p, ws, rfl, h2, h3⟩ := rep_lst rv
    obtain ⟨p', ws', rfl, h2', h3'⟩ := rep_lst rw'
    exact ⟨p, p', ws, ws', rfl, Or.inl ⟨Evl.sq_of (R1.ex _ _ h2), Evl.sq_of (R1.ex _ _ h2'), q G1 H1 _ _ env1 s1 R1 e1 (zip_pair h3 h3' (walk_zip rfl) fun _ G' H' _ _ _ R' e' => ⟨Evl.sq_of (R'.ex _ _ (e' _ _ h2)), Evl.sq_of (R'.ex _ _ (e' _ _ h2'))⟩) k1⟩⟩
  · rename_i es fs
    obtain ⟨v, w, rfl, rv, rw'⟩ := repL2 rl
    obtain ⟨p, ws, rfl, h2, h3⟩ := rep_tup rv
    obtain ⟨p', ws', rfl, h2', h3'⟩ := rep_tup rw'
    exact ⟨p, p', ws, ws', rfl, Or.inr ⟨Evl.ex_t R1.ex h2, Evl.ex_t R1.ex h2', q G1 H1 _ _ env1 s1 R1 e1 (zip_pair h3 h3' (walk_zipT rfl) fun _ G' H' _ _ _ R' e' => ⟨Evl.ex_t (e'.trans R'.ex) h2, Evl.ex_t (e'.trans R'.ex) h2'⟩) k1⟩⟩
  · exact k1.elim
theorem di_rev (h : DA c ta fa) : DI c (iRev c.K ta) (wRev fa) := by
  intro G env s σ H k Q R hf q
  refine h G env s σ H _ _ R hf fun G1 H1 vs ds env1 s1 R1 e1 rl k1 => ?_
  split at k1
  · rename_i es
    obtain ⟨v, rfl, rv⟩ := repL1 rl
    obtain ⟨p, ws, rfl, h2, h3⟩ := rep_lst rv
    refine ⟨p, ws, rfl, Evl.sq_of (R1.ex _ _ h2), q G1 H1 _ _ env1 s1 R1 e1 ⟨ws.length, _, _, by rw [List.length_reverse]; exact h3.length, walk_rev, (fun _ G' H' _ _ _ R' e' => Evl.sq_of (R'.ex _ _ (e' _ _ h2))), fun i H0 G' H' env' s' σ' x H3 hi R' e' y => ?_⟩ k1⟩
    obtain ⟨rfl, hx⟩ := y
    obtain ⟨d, e2, e3⟩ := RepL.getV h3 hx
    refine ⟨G', d, R', Ex.refl G', ?_, Rep.mono e' d e3⟩
    rw [h3.length] at hi e2
    rw [List.getElem?_reverse hi]
    exact e2
  · exact k1.elim
end
end DL
set_option Elab.async false
set_option linter.all false
set_option maxRecDepth 100000
set_option maxHeartbeats 1000000
namespace DL
open PySem L2
open Evl (Ex)
def gIx : F2 := fun d e k => match d, e with
  | .lst ds, .int i => ∃ x, atI ds i = some x ∧ k (.val x)
  | .tup ds, .int i => ∃ x, atI ds i = some x ∧ k (.val x)
  | .scr ns, .int i => ∃ n, atI ns i = some n ∧ k (.val (.int n))
  | _, _ => False
def stIx (s : S) (a : Addr) (e : D) (k : Sl → Prop) : Prop := match s, e with
  | some t, .int 0 => a = t.a ∧ k (.val (.int t.x))
  | some t, .int 1 => a = t.a ∧ k (.val (.bl t.b))
  | _, _ => False
def wIxv (i : Nat) (fb : FP) : FE := fun env s k => match at_ env i with
  | .no => False
  | _ => fb env s fun db env2 s2 => match at_ env2 i with
    | .no => False
    | .own ds => gIx (.lst ds) db fun r => k r env2 s2
    | .val (.st a) => stIx s2 a db fun r => k r env2 s2
    | .val d => gIx d db fun r => k r env2 s2
section
variable {c : Cxt}
theorem RepL.atI {K : PySem.W.Frag} {G : Hp} {ds : List D} {vs : List V} {i : Int} {x : D} (h : RepL K G ds vs) (e : atI ds i = some x) : ∃ v, L2.atI vs i = some v ∧ Rep K G x v := by
  unfold L2.atI at e ⊢
  rw [h.length]
  cases q : ixN ds.length i with
  | none => rw [q] at e; cases e
  | some j =>
    rw [q] at e
    exact RepL.get h e
theorem atI_map {α β : Type} {f : α → β} {xs : List α} {i : Int} {x : α} (e : atI xs i = some x) : atI (xs.map f) i = some (f x) := by
  unfold L2.atI at e ⊢
  rw [List.length_map]
  cases q : ixN xs.length i with
  | none => rw [q] at e; cases e
  | some j =>
    rw [q] at e
    have e' : xs[j]? = some x := e
    show (xs.map f)[j]? = some (f x)
    rw [List.getElem?_map, e']
    rfl
theorem d2_ix : D2 c (rIx c.K) gIx := by
  intro G env s σ H x y d e k Q R p1 p2 h q
  unfold gIx at h
  split at h
  · rename_i ds i
    obtain ⟨z, h1, h2⟩ := h
    obtain ⟨p, vs, rfl, h3, h4⟩ := p1
    obtain ⟨v, h5, h6⟩ := RepL.atI h4 h1
    exact Or.inl ⟨p, vs, i, v, rfl, pr_int p2 rfl, Evl.sq_of h3, h5, q G H v (.val z) R (Ex.refl G) h6 h2⟩
  · rename_i ds i
    obtain ⟨z, h1, h2⟩ := h
    have p1' : Rep c.K G (.tup ds) x := p1
    simp only [Rep] at p1'
    obtain ⟨p, vs, rfl, h3, h4⟩ := p1'
    obtain ⟨v, h5, h6⟩ := RepL.atI h4 h1
    exact Or.inr (Or.inl ⟨p, vs, i, v, rfl, pr_int p2 rfl, Evl.ex_t R.ex h3, h5, q G H v (.val z) R (Ex.refl G) h6 h2⟩)
  · rename_i ns i
    obtain ⟨z, h1, h2⟩ := h
    have p1' : Rep c.K G (.scr ns) x := p1
    simp only [Rep] at p1'
    obtain ⟨p, rfl, h3⟩ := p1'
    exact Or.inl ⟨p, _, i, _, rfl, pr_int p2 rfl, Evl.ex_l R.ex h3, atI_map (f := V.int) h1, q G H _ (.val (.int z)) R (Ex.refl G) (by simp only [RV, Rep]) h2⟩
  · exact h.elim
theorem de_ixv {ti : TE} {fi : FP} (i : Nat) (h : DP c ti fi) : DE c (tOp (rIx c.K) (tVar i) ti) (wIxv i fi) := by
  intro G env s σ H k Q R hf q
  unfold wIxv at hf
  have ne : at_ env i ≠ .no := fun e => by rw [e] at hf; exact hf
  have hf' : fi env s fun db env2 s2 => match at_ env2 i with
    | .no => False
    | .own ds => gIx (.lst ds) db fun r => k r env2 s2
    | .val (.st a) => stIx s2 a db fun r => k r env2 s2
    | .val d => gIx d db fun r => k r env2 s2 := by
    cases e : at_ env i with
    | no => exact absurd e ne
    | val d => rw [e] at hf; exact hf
    | own ds => rw [e] at hf; exact hf
  obtain ⟨v, h1, _⟩ := at_rel R ne
  refine ⟨v, h1, h G env s σ H _ _ R hf' fun G3 H3 y db env3 s3 R3 e3 p3 k3 => ?_⟩
  have ne3 : at_ env3 i ≠ .no := fun e => by rw [e] at k3; exact k3
  obtain ⟨v', h3, h4⟩ := at_rel R3 ne3
  have e : v' = v := by rw [h1] at h3; cases h3; rfl
  subst e
  have go : ∀ d : D, PR c G3 H3 d v' → gIx d db (fun r => k r env3 s3) → rIx c.K v' y H3 Q := fun d pd g =>
    d2_ix G3 env3 s3 σ H3 v' y d db _ Q R3 pd p3 g fun G4 H4 w r' R4 e4 rv4 k4 => q G4 H4 w r' env3 s3 R4 (e3.trans e4) rv4 k4
  cases e4 : at_ env3 i with
  | no => exact absurd e4 ne3
  | own ds =>
    rw [e4] at h4 k3
    exact go _ h4 k3
  | val d =>
    rw [e4] at h4 k3
    cases d with
    | st a0 =>
      have h4' : Rep c.K G3 (.st a0) v' := h4
      simp only [Rep] at h4'
      subst h4'
      have k4 : stIx s3 a0 db fun r => k r env3 s3 := k3
      clear k3
      have st : ∀ t, s3 = some t → a0 = t.a → SqL c.K H3 a0 [.int t.x, .bl t.b] := fun t ht ha => by
        subst ht
        cases hc : c.a0 with
        | none => have := R3.sn hc; cases this
        | some a =>
          obtain ⟨s1a, x0, b0, e5, s1b⟩ := R3.st a hc
          cases e5
          subst ha
          exact Evl.sq_of s1b
      unfold stIx at k4
      split at k4
      · rename_i t
        exact Or.inl ⟨a0, _, 0, _, rfl, pr_int p3 rfl, st t rfl k4.1, rfl, q G3 H3 _ (.val (.int t.x)) env3 (some t) R3 e3 (by simp only [RV, Rep]) k4.2⟩
      · rename_i t
        exact Or.inl ⟨a0, _, 1, _, rfl, pr_int p3 rfl, st t rfl k4.1, rfl, q G3 H3 _ (.val (.bl t.b)) env3 (some t) R3 e3 (by simp only [RV, Rep]) k4.2⟩
      · exact k4.elim
    | _ => exact go _ h4 k3
end
def cutD (ds : List D) (lo hi : Option Int) : List D := (ds.drop (HT.sIx ds.length 0 lo)).take (HT.sIx ds.length ds.length hi - HT.sIx ds.length 0 lo)
abbrev FO := EnvD → S → (Option Int → EnvD → S → Prop) → Prop
def DO (c : Cxt) (t : TO) (f : FO) : Prop := ∀ (G : Hp) (env : EnvD) (s : S) (σ : L2.St) (H : Hp) (k : Option Int → EnvD → S → Prop) (Q : Option Int → Hp → Prop), Rel c G env s σ H → f env s k →
  (∀ G' H' o env' s', Rel c G' env' s' σ H' → Ex G G' → k o env' s' → Q o H') → t σ H Q
def wNoPart : FO := fun env s k => k none env s
def wPart (f : FP) : FO := fun env s k => f env s fun d env1 s1 => match d with
  | .int i => k (some i) env1 s1
  | _ => False
def wSl (f : FE) (fl fh : FO) : FE := fun env s k => f env s fun r env1 s1 => fl env1 s1 fun lo env2 s2 => fh env2 s2 fun hi env3 s3 => match r.d with
  | .lst ds => k (.own (cutD ds lo hi)) env3 s3
  | _ => False
def wSlv (i : Nat) (fl fh : FO) : FE := fun env s k => match at_ env i with
  | .no => False
  | _ => fl env s fun lo env2 s2 => fh env2 s2 fun hi env3 s3 => match (at_ env3 i).d with
    | .lst ds => k (.own (cutD ds lo hi)) env3 s3
    | _ => False
section
variable {c : Cxt}
theorem do_none : DO c tNoPart wNoPart := fun G env s σ H k Q R hf q => q G H none env s R (Ex.refl G) hf
theorem do_some {te : TE} {f : FP} (h : DP c te f) : DO c (tPart te) (wPart f) := by
  intro G env s σ H k Q R hf q
  refine h G env s σ H _ _ R hf fun G1 H1 v d env1 s1 R1 e1 p1 k1 => ?_
  cases d with
  | int i => exact ⟨i, pr_int p1 rfl, q G1 H1 (some i) env1 s1 R1 e1 k1⟩
  | _ => exact k1.elim
theorem RepL.cut {K : PySem.W.Frag} {G : Hp} {ds : List D} {vs : List V} {lo hi : Option Int} (h : RepL K G ds vs) : RepL K G (cutD ds lo hi) (cutV vs lo hi) := by
  unfold cutD cutV
  rw [h.length]
  exact RepL.take _ (RepL.drop _ h)
theorem de_slv {i : Nat} {tl th : TO} {fl fh : FO} (h1 : DO c tl fl) (h2 : DO c th fh) : DE c (tSl (rSlL c.K) (tVar i) tl th) (wSlv i fl fh) := by
  intro G env s σ H k Q R hf q
  unfold wSlv at hf
  have ne : at_ env i ≠ .no := fun e => by rw [e] at hf; exact hf
  have hf' : fl env s fun lo env2 s2 => fh env2 s2 fun hi env3 s3 => match (at_ env3 i).d with
    | .lst ds => k (.own (cutD ds lo hi)) env3 s3
    | _ => False := by
    cases e : at_ env i with
    | no => exact absurd e ne
    | val d => rw [e] at hf; exact hf
    | own ds => rw [e] at hf; exact hf
  obtain ⟨v, g1, _⟩ := at_rel R ne
  refine ⟨v, g1, h1 G env s σ H _ _ R hf' fun G3 H3 lo env3 s3 R3 e3 k3 => ?_⟩
  refine h2 G3 env3 s3 σ H3 _ _ R3 k3 fun G4 H4 hi env4 s4 R4 e4 k4 => ?_
  have ne4 : at_ env4 i ≠ .no := fun e => by rw [e] at k4; exact k4
  obtain ⟨v', g3, g4⟩ := at_rel R4 ne4
  have e : v' = v := by rw [g1] at g3; cases g3; rfl
  subst e
  cases hd : (at_ env4 i).d with
  | lst ds =>
    rw [hd] at k4 g4
    obtain ⟨p, vs, rfl, g5, g6⟩ := g4
    refine ⟨p, vs, rfl, Evl.sq_of g5, fun l hl => ?_⟩
    obtain ⟨R5, rv5⟩ := R4.newOwn hl (RepL.cut (lo := lo) (hi := hi) g6)
    exact q G4 _ _ (.own _) env4 s4 R5 (e3.trans e4) rv5 k4
  | _ => rw [hd] at k4; exact k4.elim
end
def rLenX (K : PySem.W.Frag) : List V → Hp → VK → Prop := fun xs H Q => ∃ x n, xs = [x] ∧ LenV K x H n ∧ Q (.int n) H
def rListX (K : PySem.W.Frag) : List V → Hp → VK → Prop := fun xs H Q => ∃ p ys, xs = [.ref p] ∧ (SqL K H p ys ∨ SqT K H p ys) ∧ ∀ l, H l = none → Q (.ref l) (upd H l (.lst ys))
def gLen : F1 := fun d k => match d with
  | .lst ds => k (.val (.int ds.length))
  | .tup ds => k (.val (.int ds.length))
  | .scr ns => k (.val (.int ns.length))
  | .str x => x.length ≤ sizeLine ∧ k (.val (.int x.length))
  | _ => False
def gList : F1 := fun d k => match d with
  | .lst ds => k (.own ds)
  | .tup ds => k (.own ds)
  | _ => False
def gTuple : F1 := fun d k => match d with
  | .lst ds => k (.val (.tup ds))
  | .tup ds => k (.val (.tup ds))
  | _ => False
section
variable {c : Cxt}
theorem d1_len : D1 c (fun x => rLenX c.K [x]) gLen := by
  intro G env s σ H x d k Q R p1 h q
  cases d with
  | lst ds =>
    obtain ⟨p, vs, rfl, h3, h4⟩ := p1
    exact ⟨_, vs.length, rfl, Or.inl ⟨vs, Evl.sq_of h3, rfl⟩, by rw [h4.length]; exact q G H _ (.val (.int ds.length)) R (Ex.refl G) (by simp only [RV, Rep]) h⟩
  | tup ds =>
    have p1' : Rep c.K G (.tup ds) x := p1
    simp only [Rep] at p1'
    obtain ⟨p, vs, rfl, h3, h4⟩ := p1'
    exact ⟨_, vs.length, rfl, Or.inr ⟨vs, Evl.ex_t R.ex h3, rfl⟩, by rw [h4.length]; exact q G H _ (.val (.int ds.length)) R (Ex.refl G) (by simp only [RV, Rep]) h⟩
  | scr ns =>
    have p1' : Rep c.K G (.scr ns) x := p1
    simp only [Rep] at p1'
    obtain ⟨p, rfl, h3⟩ := p1'
    exact ⟨_, (ns.map V.int).length, rfl, Or.inl ⟨_, Evl.ex_l R.ex h3, rfl⟩, by rw [List.length_map]; exact q G H _ (.val (.int ns.length)) R (Ex.refl G) (by simp only [RV, Rep]) h⟩
  | str z =>
    have p1' : Rep c.K G (.str z) x := p1
    simp only [Rep] at p1'
    subst p1'
    exact ⟨_, z.length, rfl, ⟨h.1, rfl⟩, q G H _ (.val (.int z.length)) R (Ex.refl G) (by simp only [RV, Rep]) h.2⟩
  | _ => exact h.elim
theorem d1_list : D1 c (fun x => rListX c.K [x]) gList := by
  intro G env s σ H x d k Q R p1 h q
  cases d with
  | lst ds =>
    obtain ⟨p, vs, rfl, h3, h4⟩ := p1
    refine ⟨p, vs, rfl, Or.inl (Evl.sq_of h3), fun l hl => ?_⟩
    obtain ⟨R5, rv5⟩ := R.newOwn hl h4
    exact q G _ _ (.own ds) R5 (Ex.refl G) rv5 h
  | tup ds =>
    have p1' : Rep c.K G (.tup ds) x := p1
    simp only [Rep] at p1'
    obtain ⟨p, vs, rfl, h3, h4⟩ := p1'
    refine ⟨p, vs, rfl, Or.inr (Evl.ex_t R.ex h3), fun l hl => ?_⟩
    obtain ⟨R5, rv5⟩ := R.newOwn hl h4
    exact q G _ _ (.own ds) R5 (Ex.refl G) rv5 h
  | _ => exact h.elim
def gCat : F2 := fun d e k => match d, e with
  | .lst ds, .lst es => ds.length + es.length ≤ sizeLine ∧ k (.own (ds ++ es))
  | _, _ => False
def gRep : F2 := fun d e k => match d, e with
  | .lst ds, .int i => (-(2 ^ 63) ≤ i ∧ i < 2 ^ 63 ∧ ds.length * i.toNat ≤ sizeLine) ∧ k (.own (List.replicate i.toNat ds).flatten)
  | _, _ => False
def gCatT : F2 := fun d e k => match d, e with
  | .tup ds, .tup es => ds.length + es.length ≤ sizeLine ∧ k (.val (.tup (ds ++ es)))
  | _, _ => False
def gCatS : F2 := fun d e k => match d, e with
  | .str x, .str y => x.length + y.length ≤ sizeLine ∧ k (.val (.str (x ++ y)))
  | _, _ => False
theorem pr_str {G H : Hp} {x : Str} {v : V} (h : PR c G H (.str x) v) : v = .str x := by
  have h' : Rep c.K G (.str x) v := h
  simpa only [Rep] using h'
theorem d2_cat : D2 c rCat gCat := by
  intro G env s σ H x y d e k Q R p1 p2 h q
  unfold gCat at h
  split at h
  · rename_i ds es
    obtain ⟨p, vs, rfl, h3, h4⟩ := p1
    obtain ⟨p', vs', rfl, h3', h4'⟩ := p2
    refine ⟨p, p', vs, vs', rfl, rfl, h3, h3', by rw [h4.length, h4'.length]; exact h.1, fun l hl => ?_⟩
    obtain ⟨R5, rv5⟩ := R.newOwn hl (RepL.append h4 h4')
    exact q G _ _ (.own _) R5 (Ex.refl G) rv5 h.2
  · exact h.elim
theorem d2_rep : D2 c rRep gRep := by
  intro G env s σ H x y d e k Q R p1 p2 h q
  unfold gRep at h
  split at h
  · rename_i ds i
    obtain ⟨p, vs, rfl, h3, h4⟩ := p1
    refine ⟨p, i, vs, rfl, pr_int p2 rfl, h3, h.1.1, h.1.2.1, by rw [h4.length]; exact h.1.2.2, fun l hl => ?_⟩
    obtain ⟨R5, rv5⟩ := R.newOwn hl (RepL.replicate i.toNat h4)
    exact q G _ _ (.own _) R5 (Ex.refl G) rv5 h.2
  · exact h.elim
end
def rAbsX : List V → Hp → VK → Prop := fun xs H Q => ∃ i, xs = [.int i] ∧ Q (.int (if i < 0 then -i else i)) H
def rIntX : List V → Hp → VK → Prop := fun xs H Q => (∃ i, xs = [.int i] ∧ Q (.int i) H) ∨ ∃ k, xs = [.bl k] ∧ Q (.int (if k then 1 else 0)) H
def rMaxX : List V → Hp → VK → Prop := fun xs H Q => ∃ i j, xs = [.int i, .int j] ∧ Q (.int (if j > i then j else i)) H
def rMinX : List V → Hp → VK → Prop := fun xs H Q => ∃ i j, xs = [.int i, .int j] ∧ Q (.int (if j < i then j else i)) H
def gAbs : F1 := fun d k => match d with
  | .int i => k (.val (.int (if i < 0 then -i else i)))
  | _ => False
def gInt : F1 := fun d k => match d with
  | .int i => k (.val (.int i))
  | .bl b => k (.val (.int (if b then 1 else 0)))
  | _ => False
def gMax2 : FL := fun ds k => match ds with
  | [.int i, .int j] => k (.val (.int (if j > i then j else i)))
  | _ => False
def gMin2 : FL := fun ds k => match ds with
  | [.int i, .int j] => k (.val (.int (if j < i then j else i)))
  | _ => False
def gAll : F1 := fun d k => match d with
  | .lst ds => ∃ bs : List Bool, ds = bs.map D.bl ∧ k (.val (.bl (bs.all id)))
  | _ => False
def gAny : F1 := fun d k => match d with
  | .lst ds => ∃ bs : List Bool, ds = bs.map D.bl ∧ k (.val (.bl (bs.any id)))
  | _ => False
section
variable {c : Cxt}
theorem d1_abs : D1 c (fun x => rAbsX [x]) gAbs := by
  intro G env s σ H x d k Q R p1 h q
  unfold gAbs at h
  split at h
  · rename_i i
    exact ⟨i, by rw [pr_int p1 rfl], q G H _ (.val (.int _)) R (Ex.refl G) (by simp only [RV, Rep]) h⟩
  · exact h.elim
theorem d1_int : D1 c (fun x => rIntX [x]) gInt := by
  intro G env s σ H x d k Q R p1 h q
  unfold gInt at h
  split at h
  · rename_i i
    exact Or.inl ⟨i, by rw [pr_int p1 rfl], q G H _ (.val (.int _)) R (Ex.refl G) (by simp only [RV, Rep]) h⟩
  · rename_i b
    exact Or.inr ⟨b, by rw [pr_bl p1 rfl], q G H _ (.val (.int _)) R (Ex.refl G) (by simp only [RV, Rep]) h⟩
  · exact h.elim
theorem db_max2 : DB c rMaxX gMax2 := by
  intro G env s σ H xs ds k Q R rl h q
  unfold gMax2 at h
  split at h
  · rename_i i j
    obtain ⟨v, w, rfl, h1, h2⟩ := repL2 rl
    exact ⟨i, j, by rw [rep_int h1, rep_int h2], q G H _ (.val (.int _)) R (Ex.refl G) (by simp only [RV, Rep]) h⟩
  · exact h.elim
theorem db_min2 : DB c rMinX gMin2 := by
  intro G env s σ H xs ds k Q R rl h q
  unfold gMin2 at h
  split at h
  · rename_i i j
    obtain ⟨v, w, rfl, h1, h2⟩ := repL2 rl
    exact ⟨i, j, by rw [rep_int h1, rep_int h2], q G H _ (.val (.int _)) R (Ex.refl G) (by simp only [RV, Rep]) h⟩
  · exact h.elim
theorem repL_bls {G : Hp} : ∀ {bs : List Bool} {vs : List V}, RepL c.K G (bs.map D.bl) vs → vs = bs.map V.bl
  | [], _, h => by simpa only [List.map_nil, RepL] using h
  | b :: bs, _, h => by
    simp only [List.map_cons, RepL] at h
    obtain ⟨v, r, rfl, h2, h3⟩ := h
    simp only [Rep] at h2
    rw [h2, repL_bls h3]
    rfl
theorem d1_all : D1 c (fun x => rAll c.K [x]) gAll := by
  intro G env s σ H x d k Q R p1 h q
  unfold gAll at h
  split at h
  · obtain ⟨bs, rfl, h⟩ := h
    obtain ⟨p, vs, rfl, h3, h4⟩ := p1
    rw [repL_bls h4] at h3
    exact ⟨p, bs, rfl, Evl.sq_of h3, q G H _ (.val (.bl _)) R (Ex.refl G) (by simp only [RV, Rep]) h⟩
  · exact h.elim
end
def D.tyN : D → String
  | .non => "NoneType"
  | .bl _ => "bool"
  | .int _ => "int"
  | .str _ => "str"
  | .lst _ => "list"
  | .tup _ => "tuple"
  | .dic => "dict"
  | .scr _ => "list"
  | .st _ => "list"
  | .exc _ => "list"
  | .fn .. => "list"
def tyB (n t : String) : Bool := n == t || (n == "bool" && t == "int")
def isTy (d : D) (t : String) : Bool := tyB d.tyN t
theorem kit_all : ∀ n ∈ ["NoneType", "bool", "int", "str", "list", "tuple", "dict"], ∀ t ∈ ["int", "bool", "str", "list", "tuple"], kitB n t = some (tyB n t) := by decide +kernel
inductive TyOk : String → Prop where
  | int : TyOk "int" | bool : TyOk "bool" | str : TyOk "str" | list : TyOk "list" | tuple : TyOk "tuple"
theorem kit_is {K : PySem.W.Frag} {t : String} (h : TyOk t) (d : D) : PySem.W.kitOne K (.type d.tyN) (.type t) = some (isTy d t) := by
  refine kit_ty ?_
  exact kit_all _ (by cases d <;> simp [D.tyN]) _ (by cases h <;> simp)
def notScr : D → Prop
  | .scr _ => False
  | .st _ => False
  | .exc _ => False
  | .fn .. => False
  | _ => True
theorem tyX_of {c : Cxt} {G H : Hp} {env : EnvD} {s : S} {σ : L2.St} (R : Rel c G env s σ H) {d : D} {v : V} (h : PR c G H d v) (hk : notScr d) : TyX c.K H v (.type d.tyN) := by
  cases d with
  | non => have h' : Rep c.K G .non v := h; simp only [Rep] at h'; subst h'; exact .base .non
  | bl b => rw [pr_bl h rfl]; exact .base (.bl b)
  | int b => rw [pr_int h rfl]; exact .base (.int b)
  | str b => rw [pr_str h]; exact .base (.str b)
  | lst ds => obtain ⟨p, vs, rfl, h3, h4⟩ := h; exact .base (.lst h3)
  | tup ds =>
    have h' : Rep c.K G (.tup ds) v := h
    simp only [Rep] at h'
    obtain ⟨p, vs, rfl, h3, h4⟩ := h'
    rcases Evl.ex_t R.ex h3 with (h5 | ⟨o, h5⟩) | ⟨o, its, n, h5, h6, _⟩
    · exact .base (.tup h5)
    · exact .fTuple h5
    · exact .kTuple h5 h6
  | dic => have h' : Rep c.K G .dic v := h; simp only [Rep] at h'; obtain ⟨p, kvs, rfl, h3⟩ := h'; exact .base (.dK (R.ex _ _ h3))
  | scr ns => exact hk.elim
  | st a => exact hk.elim
  | exc a => exact hk.elim
  | fn f a o u => exact hk.elim
def wIsi (t : String) (f : FP) : FE := fun env s k => f env s fun d env1 s1 => notScr d ∧ k (.val (.bl (isTy d t))) env1 s1
def wIsi2 (t u : String) (f : FP) : FE := fun env s k => f env s fun d env1 s1 => notScr d ∧ k (.val (.bl (isTy d t || isTy d u))) env1 s1
theorem de_isi {c : Cxt} {te : TE} {f : FP} {t : String} (ht : TyOk t) (h : DP c te f) : DE c (tCB (rIsi c.K) (tCons te (tCons (tC (.ty t)) tNil))) (wIsi t f) := by
  intro G env s σ H k Q R hf q
  refine h G env s σ H _ _ R hf fun G1 H1 v d env1 s1 R1 e1 p1 k1 => ?_
  exact ⟨v, .ty t, _, .type t, isTy d t, rfl, .ty t, tyX_of R1 p1 k1.1, kit_is ht d, q G1 H1 _ (.val (.bl _)) env1 s1 R1 e1 (by simp only [RV, Rep]) k1.2⟩
theorem de_isi2 {c : Cxt} {te : TE} {f : FP} {t u : String} (ht : TyOk t) (hu : TyOk u) (h : DP c te f) : DE c (tCB (rIsiT c.K) (tCons te (tCons (tTup (tCons (tC (.ty t)) (tCons (tC (.ty u)) tNil))) tNil))) (wIsi2 t u f) := by
  intro G env s σ H k Q R hf q
  refine h G env s σ H _ _ R hf fun G1 H1 v d env1 s1 R1 e1 p1 k1 => ⟨by show 2 ≤ sizeLine; decide, fun tp htp => ?_⟩
  have R2 := R1.new (o := .tup [.ty t, .ty u]) htp (fun _ z => by cases z)
  have p2 : PR c G1 (upd H1 tp (.tup [.ty t, .ty u])) d v := by
    cases d with
    | lst ds =>
      obtain ⟨p, vs, g1, g2, g3⟩ := p1
      exact ⟨p, vs, g1, Ex.new htp _ _ g2, g3⟩
    | _ => exact p1
  refine ⟨v, tp, [.ty t, .ty u], .type d.tyN, [.type t, .type u], (isTy d t || isTy d u), rfl, upd_same, .cons (.ty t) (.cons (.ty u) .nil), tyX_of R2 p2 k1.1, ?_, q G1 _ _ (.val (.bl (isTy d t || isTy d u))) env1 s1 R2 e1 (by simp only [RV, Rep]) k1.2⟩
  refine kitAny_cons (kit_is ht d) (fun z => ?_) (fun z => by rw [z]; rfl)
  rw [z, Bool.false_or]
  refine kitAny_cons (kit_is hu d) (fun z => ?_) (fun z => z)
  rw [z]
  exact kitAny_nil
end DL
set_option Elab.async false
set_option linter.all false
set_option maxRecDepth 100000
set_option maxHeartbeats 1000000
namespace DL
open PySem L2 PySem.Spec PyProof.Rows
open Evl (Ex)
abbrev Fn := List D → S → (Sl → S → Prop) → (Str → S → Prop) → Prop
def spD (K : PySem.W.Frag) (T : List (Addr × Str)) (cl : Str → Addr) (F : Fn) : Sp := fun vs H Q E =>
  ∃ (c : Cxt) (G : Hp) (s : S) (ds : List D) (k : Sl → S → Prop) (xq : Str → S → Prop), c.K = K ∧ c.T = T ∧ Rel c G [] s [] H ∧ RepL c.K G ds vs ∧ F ds s k xq ∧
    (∀ G' H' v r s', Rel c G' [] s' [] H' → RV c G' H' [] [] v r → k r s' → Q v H') ∧ (∀ G' H' cn s', Rel c G' [] s' [] H' → xq cn s' → E (.ref (cl cn)) none H')
def EOk (c : Cxt) (cl : Str → Addr) (E : XK) (xq : Str → S → Prop) : Prop := ∀ G H cn s, Rel c G [] s [] H → xq cn s → E (.ref (cl cn)) none H
section
variable {c : Cxt} {G H : Hp} {env : EnvD} {s : S} {σ : L2.St}
def Cxt.inn (c : Cxt) (H G : Hp) : Cxt := { c with H0 := noT H, G0 := G }
theorem Rel.inn (R : Rel c G env s σ H) : Rel (c.inn H G) G [] s [] H :=
  { ex := R.ex, st := R.st, sn := R.sn, keep := fun _ _ h _ _ => (noT_some h).1, kn := fun _ h => noT_none h, h0n := fun p ps z => (noT_some z).2 ps rfl, tab := R.tab, gnew := fun _ _ _ h => h, gx := Ex.refl G, gtb := R.gtb, len := rfl,
    vals := fun i d h => by simp at h, owns := fun i d h => by simp at h, dist := fun i j d e v h => by simp at h }
theorem Rel.out (R : Rel c G env s σ H) {G' H' : Hp} {s' : S} (R' : Rel (c.inn H G) G' [] s' [] H') : Rel c G' env s' σ H' := by
  have e : Ex G G' := R'.gx
  refine { ex := R'.ex, st := R'.st, sn := R'.sn, keep := fun p o h1 h2 h3 => R'.keep p o (noT_of (R.keep p o h1 h2 h3) h3) h2 h3, kn := fun p h => R.knN (R'.kn p h), h0n := R.h0n, tab := R'.tab, gnew := fun p ws h1 h2 => ?_, gx := R.gx.trans e, gtb := R'.gtb, len := R.len,
           vals := fun i d hi => ?_, owns := fun i ds hi => ?_, dist := R.dist }
  · obtain ⟨us, hu⟩ := R.lstN h1
    exact R'.gnew p us hu (R.gnew p ws h1 h2)
  · obtain ⟨v, h1, h2⟩ := R.vals i d hi
    exact ⟨v, h1, Rep.mono e d h2⟩
  · obtain ⟨v, h1, p, vs, rfl, h3, h4, h5, h6, h7⟩ := R.owns i ds hi
    have h6n := noT_of h6 (fun _ z => by cases z)
    have hn : noT H p ≠ none := fun z => by rw [z] at h6n; cases h6n
    exact ⟨_, h1, p, vs, rfl, R'.gnew p vs h6n h3, h4, h5, R'.keep p _ h6n h5 (fun _ z => by cases z), RepL.mono e ds h7⟩
theorem RV.out (R : Rel c G env s σ H) {G' H' : Hp} {s' : S} (R' : Rel (c.inn H G) G' [] s' [] H') {v : V} {r : Sl} (h : RV (c.inn H G) G' H' [] [] v r) : RV c G' H' env σ v r := by
  cases r with
  | no => exact h
  | val d => exact h
  | own ds =>
    obtain ⟨⟨p, vs, rfl, h3, h4, h5, h6, h7⟩, _⟩ := h
    have h4' : noT H p = none := h4
    exact ⟨⟨p, vs, rfl, h3, R.knN h4', h5, h6, h7⟩, R.newApartN h4'⟩
end
def wCall (F : Fn) (xq : Str → S → Prop) (fa : FA) : FE := fun env s k => fa env s fun ds env1 s1 => F ds s1 (fun r s2 => k r env1 s2) xq
def wCallLend (F : Fn) (xq : Str → S → Prop) (j : Nat) (fa : FA) : FE := fun env s k => match at_ env j with
  | .own _ => fa env s fun ds env1 s1 => match at_ env1 j with
    | .own [.int x, .bl b] => ∀ a, F (.st a :: ds) (some ⟨x, b, a⟩) (fun r s2 => ∃ x' b', s2 = some ⟨x', b', a⟩ ∧ k r (env1.set j (.own [.int x', .bl b'])) s1) (fun cn _ => xq cn s1)
    | _ => False
  | _ => False
abbrev FB := EnvD → S → (List D → EnvD → S → Prop) → Prop
def PQ (c : Cxt) (G H : Hp) : D → V → Prop
  | .lst ds, v => ∃ p vs, v = .ref p ∧ c.a0 ≠ some p ∧ H p = some (.lst vs) ∧ RepL c.K G ds vs
  | d, v => Rep c.K G d v
def PQL (c : Cxt) (G H : Hp) : List D → List V → Prop
  | [], vs => vs = []
  | d :: ds, vs => ∃ v r, vs = v :: r ∧ PQ c G H d v ∧ PQL c G H ds r
def DAB (c : Cxt) (t : TA) (f : FB) : Prop := ∀ (G : Hp) (env : EnvD) (s : S) (σ : L2.St) (H : Hp) (k : List D → EnvD → S → Prop) (Q : List V → Hp → Prop), Rel c G env s σ H → f env s k →
  (∀ G' H' vs ds env' s', Rel c G' env' s' σ H' → Ex G G' → PQL c G' H' ds vs → k ds env' s' → Q vs H') → t σ H Q
def wBNil : FB := fun env s k => k [] env s
def wBVar (i : Nat) (g : FB) : FB := fun env s k => at_ env i ≠ .no ∧ g env s fun ds env1 s1 => at_ env1 i ≠ .no ∧ k ((at_ env1 i).d :: ds) env1 s1
def wBCons (f : FE) (g : FB) : FB := fun env s k => f env s fun r env1 s1 => g env1 s1 fun ds env2 s2 => k (r.d :: ds) env2 s2
def isScal : D → Prop
  | .non => True
  | .bl _ => True
  | .int _ => True
  | .str _ => True
  | _ => False
def wCallB (F : Fn) (xq : Str → S → Prop) (fa : FB) : FE := fun env s k => fa env s fun ds env1 s1 => F ds s1 (fun r s2 => isScal r.d ∧ k r env1 s2) xq
section
variable {c : Cxt}
theorem Rel.pq {G H : Hp} {env : EnvD} {s : S} {σ : L2.St} (R : Rel c G env s σ H) {d : D} {v : V} (h : Rep c.K G d v) : PQ c G H d v := by
  cases d with
  | lst ds =>
    obtain ⟨p, vs, rfl, h2, h3⟩ := rep_lst h
    exact ⟨p, vs, rfl, (fun z => by rw [(R.st p z).1] at h2; cases h2), R.ex _ _ h2, h3⟩
  | _ => exact h
theorem at_relQ {G H : Hp} {env : EnvD} {s : S} {σ : L2.St} (R : Rel c G env s σ H) {i : Nat} (h : at_ env i ≠ .no) : ∃ v, σ[i]? = some (some v) ∧ PQ c G H (at_ env i).d v := by
  cases e : at_ env i with
  | no => exact absurd e h
  | val d =>
    obtain ⟨v, h1, h2⟩ := R.vals i d (at_val e (by simp))
    exact ⟨v, h1, R.pq h2⟩
  | own ds =>
    obtain ⟨v, h1, p, vs, h2, h3, h4, h5, h6, h7⟩ := R.owns i ds (at_val e (by simp))
    exact ⟨v, h1, p, vs, h2, h5, h6, h7⟩
theorem dab_nil : DAB c tNil wBNil := fun G env s σ H k Q R hf q => q G H [] [] env s R (Ex.refl G) rfl hf
theorem dab_var {t : TA} {g : FB} (i : Nat) (h : DAB c t g) : DAB c (tCons (tVar i) t) (wBVar i g) := by
  intro G env s σ H k Q R hf q
  obtain ⟨h0, hf⟩ := hf
  obtain ⟨v, h1, _⟩ := at_relQ R h0
  refine ⟨v, h1, h G env s σ H _ _ R hf fun G1 H1 vs ds env1 s1 R1 e1 p1 k1 => ?_⟩
  obtain ⟨v', h3, h4⟩ := at_relQ R1 k1.1
  have e : v' = v := by rw [h1] at h3; cases h3; rfl
  subst e
  exact q G1 H1 _ ((at_ env1 i).d :: ds) env1 s1 R1 e1 ⟨v', vs, rfl, h4, p1⟩ k1.2
theorem dab_cons {ta : TE} {fa : FE} {t : TA} {g : FB} (ha : DE c ta fa) (h : DAB c t g) : DAB c (tCons ta t) (wBCons fa g) := by
  intro G env s σ H k Q R hf q
  refine ha G env s σ H _ _ R hf fun G1 H1 v r env1 s1 R1 e1 rv1 k1 => ?_
  obtain ⟨G2, R2, e2, rp⟩ := R1.toVal rv1
  exact h G2 env1 s1 σ H1 _ _ R2 k1 fun G3 H3 vs ds env3 s3 R3 e3 p3 k3 => q G3 H3 (v :: vs) (r.d :: ds) env3 s3 R3 ((e1.trans e2).trans e3) ⟨v, vs, rfl, R3.pq (Rep.mono e3 _ rp), p3⟩ k3
theorem pql_known {G H : Hp} (ex : Ex G H) (ga : ∀ a, c.a0 = some a → G a = none) (gt : ∀ p ps, G p ≠ some (.tbl ps)) : ∀ {ds : List D} {vs : List V}, PQL c G H ds vs →
    ∃ G', Ex G G' ∧ Ex G' H ∧ (∀ a, c.a0 = some a → G' a = none) ∧ (∀ p ps, G' p ≠ some (.tbl ps)) ∧ RepL c.K G' ds vs
  | [], _, h => ⟨G, Ex.refl G, ex, ga, gt, by have h' : _ = [] := h; subst h'; exact RepL.nil⟩
  | d :: ds, _, h => by
    obtain ⟨v, r, rfl, h1, h2⟩ := h
    obtain ⟨G', e1, e2, e3, e4, e5⟩ := pql_known ex ga gt h2
    cases d with
    | lst es =>
      obtain ⟨p, vs, rfl, g1, g2, g3⟩ := h1
      have e6 : Ex G' (upd G' p (.lst vs)) := fun q o hq => by
        by_cases hb : q = p
        · subst hb
          rw [upd_same]
          have := e2 _ _ hq
          rw [g2] at this
          exact this
        · rw [upd_ne hb]; exact hq
      refine ⟨upd G' p (.lst vs), e1.trans e6, fun q o hq => ?_, fun a ha => ?_, fun q ps hq => ?_, RepL.cons ?_ (RepL.mono e6 ds e5)⟩
      · by_cases hb : q = p
        · subst hb; rw [upd_same] at hq; cases hq; exact g2
        · rw [upd_ne hb] at hq; exact e2 q o hq
      · rw [upd_ne (fun z => g1 (by rw [← z]; exact ha))]; exact e3 a ha
      · by_cases hb : q = p
        · subst hb; rw [upd_same] at hq; cases hq
        · rw [upd_ne hb] at hq; exact e4 q ps hq
      · simp only [Rep]
        exact ⟨p, vs, rfl, upd_same, RepL.mono (e1.trans e6) es g3⟩
    | _ => exact ⟨G', e1, e2, e3, e4, RepL.cons (Rep.mono e1 _ h1) e5⟩
theorem rep_scal {G G' : Hp} {d : D} {v : V} (h : isScal d) (r : Rep c.K G d v) : Rep c.K G' d v := by
  cases d with
  | non => simpa only [Rep] using r
  | bl b => simpa only [Rep] using r
  | int b => simpa only [Rep] using r
  | str b => simpa only [Rep] using r
  | _ => exact h.elim
end
section
variable {c : Cxt} {cl : Str → Addr} {E : XK} {xq : Str → S → Prop} {F : Fn} {t : TA} {fa : FA}
theorem de_call (hE : EOk c cl E xq) (h : DA c t fa) : DE c (tCall (spD c.K c.T cl F) [] E t) (wCall F xq fa) := by
  intro G env s σ H k Q R hf q
  refine h G env s σ H _ _ R hf fun G1 H1 vs ds env1 s1 R1 e1 rl k1 => ?_
  show spD c.K c.T cl F (vs ++ []) H1 Q E
  rw [List.append_nil]
  refine ⟨c.inn H1 G1, G1, s1, ds, _, xq, rfl, rfl, R1.inn, rl, k1, fun G' H' v r s' R' rv kk => ?_, fun G' H' cn s' R' hx => ?_⟩
  · exact q G' H' v r env1 s' (R1.out R') (e1.trans R'.gx) (RV.out R1 R' rv) kk
  · exact hE G' H' cn s' (R1.bare.out (G' := G') (H' := H') (s' := s') R') hx
theorem de_callLend (j : Nat) (hE : EOk c cl E xq) (h : DA c t fa) : DE c (tCall (spD c.K c.T cl F) [] E (tCons (tVar j) t)) (wCallLend F xq j fa) := by
  intro G env s σ H k Q R hf q
  unfold wCallLend at hf
  cases e : at_ env j with
  | no => rw [e] at hf; exact hf.elim
  | val d => rw [e] at hf; exact hf.elim
  | own ds0 =>
    rw [e] at hf
    obtain ⟨v, h1, _⟩ := R.owns j ds0 (at_val e (by simp))
    refine ⟨v, h1, h G env s σ H _ _ R hf fun G1 H1 vs ds env1 s1 R1 e1 rl k1 => ?_⟩
    show spD c.K c.T cl F ((v :: vs) ++ []) H1 Q E
    rw [List.append_nil]
    cases e3 : at_ env1 j with
    | no => rw [e3] at k1; exact k1.elim
    | val d => rw [e3] at k1; exact k1.elim
    | own ds1 =>
      rw [e3] at k1
      split at k1
      · rename_i x b heq
        cases heq
        obtain ⟨v', g1, p, ws, rfl, g3, g4, g5, g6, g7⟩ := R1.owns j _ (at_val e3 (by simp))
        rw [h1] at g1
        cases g1
        obtain ⟨w1, w2, rfl, r1, r2⟩ := repL2 g7
        have ew1 := rep_int r1
        subst ew1
        simp only [Rep] at r2
        subst r2
        have hn : H1 p ≠ none := fun z => by rw [z] at g6; cases g6
        have Ri : Rel { c with a0 := some p, H0 := noT H1, G0 := G1 } G1 [] (some ⟨x, b, p⟩) [] H1 :=
          { ex := R1.ex, st := fun a ha => (by cases ha; exact ⟨g3, x, b, rfl, g6⟩), sn := fun z => (by cases z), keep := fun _ _ h _ _ => (noT_some h).1, kn := fun _ h => noT_none h, h0n := fun p ps z => (noT_some z).2 ps rfl, tab := R1.tab, gnew := fun _ _ _ h => h, gx := Ex.refl G1, gtb := R1.gtb, len := rfl,
            vals := fun i d h => by simp at h, owns := fun i d h => by simp at h, dist := fun i j d e v h => by simp at h }
        have back : ∀ G' H' s', Rel { c with a0 := some p, H0 := noT H1, G0 := G1 } G' [] s' [] H' → ∃ x' b', s' = some ⟨x', b', p⟩ ∧ Rel c G' (env1.set j (.own [.int x', .bl b'])) s1 σ H' := by
          intro G' H' s' R'
          obtain ⟨kg, x', b', k2, k3⟩ := R'.st p rfl
          have eG : Ex G1 G' := R'.gx
          have kp : ∀ a o, H1 a = some o → a ≠ p → (∀ ps, o ≠ .tbl ps) → H' a = some o := fun a o e1 e2 e3 => R'.keep a o (noT_of e1 e3) (fun z => e2 (Option.some.inj z).symm) e3
          have at1 : ∀ i (y : Sl), i ≠ j → (env1.set j (.own [.int x', .bl b']))[i]? = some y → env1[i]? = some y := fun i y hi q => by rw [List.getElem?_set_ne (Ne.symm hi)] at q; exact q
          have atj : ∀ y, (env1.set j (.own [.int x', .bl b']))[j]? = some y → y = .own [.int x', .bl b'] := fun y q => by
            rw [List.getElem?_set_self (List.getElem?_eq_some_iff.mp (at_val e3 (by simp))).1] at q
            exact (Option.some.inj q).symm
          refine ⟨x', b', k2, { ex := R'.ex, st := fun a ha => ?_, sn := R1.sn, keep := fun a o h2 h3 h4 => ?_, kn := fun a h => R1.knN (R'.kn a h), h0n := R1.h0n, tab := R'.tab, gnew := fun a ws h2 h3 => (by obtain ⟨us, hu⟩ := R1.lstN h2; exact R'.gnew a us hu (R1.gnew a ws h2 h3)), gx := R1.gx.trans eG, gtb := R'.gtb, len := (by rw [List.length_set]; exact R1.len), vals := fun i d hi => ?_, owns := fun i es hi => ?_, dist := fun i l es fs w h8 h9 ha hb => ?_ }⟩
          · obtain ⟨m1, y, z, m2, m3⟩ := R1.st a ha
            have hap : a ≠ p := fun z => g5 (by rw [← z]; exact ha)
            exact ⟨R'.gnew a _ (noT_of m3 (fun _ z => by cases z)) m1, y, z, m2, kp a _ m3 hap (fun _ z => by cases z)⟩
          · have hap : a ≠ p := fun z => by rw [z, g4] at h2; cases h2
            exact kp a o (R1.keep a o h2 h3 h4) hap h4
          · have hij : i ≠ j := fun z => by
              rw [z] at hi
              have := atj _ hi
              cases this
            obtain ⟨w, m1, m2⟩ := R1.vals i d (at1 i _ hij hi)
            exact ⟨w, m1, Rep.mono eG d m2⟩
          · by_cases hij : i = j
            · subst hij
              have := atj _ hi
              cases this
              exact ⟨_, h1, p, _, rfl, kg, g4, g5, k3, RepL.cons (by simp only [Rep]) (RepL.one (by simp only [Rep]))⟩
            · obtain ⟨w, m1, a, us, rfl, m3, m4, m5, m6, m7⟩ := R1.owns i es (at1 i _ hij hi)
              have hap : a ≠ p := fun z => hij (R1.dist i j es _ (.ref a) (at1 i _ hij hi) (at_val e3 (by simp)) m1 (by rw [z]; exact h1))
              exact ⟨_, m1, a, us, rfl, R'.gnew a _ (noT_of m6 (fun _ z => by cases z)) m3, m4, m5, kp a _ m6 hap (fun _ z => by cases z), RepL.mono eG es m7⟩
          · have g : ∀ (i : Nat) (es : List D), (env1.set j (.own [.int x', .bl b']))[i]? = some (.own es) → ∃ es' : List D, env1[i]? = some (Sl.own es') := fun i es hi => by
              by_cases hij : i = j
              · subst hij; exact ⟨_, at_val e3 (by simp)⟩
              · exact ⟨es, at1 i _ hij hi⟩
            obtain ⟨f1, e1⟩ := g i es h8
            obtain ⟨f2, e2⟩ := g l fs h9
            exact R1.dist i l f1 f2 w e1 e2 ha hb
        refine ⟨{ c with a0 := some p, H0 := noT H1, G0 := G1 }, G1, some ⟨x, b, p⟩, .st p :: ds, _, _, rfl, rfl, Ri, RepL.cons (by simp only [Rep]) rl, k1 p, fun G' H' v r s' R' rv kk => ?_, fun G' H' cn s' R' hx => ?_⟩
        · obtain ⟨x', b', e5, kk⟩ := kk
          obtain ⟨x2, b2, e6, R2⟩ := back G' H' s' R'
          rw [e5] at e6
          cases e6
          refine q G' H' v r _ s1 R2 (e1.trans R'.gx) ?_ kk
          cases r with
          | no => exact rv
          | val d => exact rv
          | own es =>
            obtain ⟨⟨a, us, rfl, m3, m4, m5, m6, m7⟩, _⟩ := rv
            have m4' : noT H1 a = none := m4
            refine ⟨⟨a, us, rfl, m3, R1.knN m4', R1.a0neN m4', m6, m7⟩, fun i fs hi hv => ?_⟩
            obtain ⟨w, n1, a2, us2, rfl, n3, n4, n5, n6, n7⟩ := R2.owns i fs hi
            rw [n1] at hv
            cases hv
            by_cases hij : i = j
            · subst hij
              rw [h1] at n1
              cases n1
              rw [noT_of g6 (fun _ z => by cases z)] at m4'
              cases m4'
            · have hi' : env1[i]? = some (.own fs) := by rw [List.getElem?_set_ne (Ne.symm hij)] at hi; exact hi
              obtain ⟨w, o1, a3, us3, rfl, o3, o4, o5, o6, o7⟩ := R1.owns i fs hi'
              rw [n1] at o1
              cases o1
              rw [noT_of o6 (fun _ z => by cases z)] at m4'
              cases m4'
        · obtain ⟨x2, b2, e6, R2⟩ := back G' H' s' R'
          exact hE G' H' cn s1 R2.bare hx
      · exact k1.elim
theorem de_callB {g : FB} (hE : EOk c cl E xq) (h : DAB c t g) : DE c (tCall (spD c.K c.T cl F) [] E t) (wCallB F xq g) := by
  intro G env s σ H k Q R hf q
  refine h G env s σ H _ _ R hf fun G1 H1 vs ds env1 s1 R1 e1 rl k1 => ?_
  show spD c.K c.T cl F (vs ++ []) H1 Q E
  rw [List.append_nil]
  obtain ⟨G2, x1, x2, x3, x4, x5⟩ := pql_known R1.ex (fun a ha => (R1.st a ha).1) R1.gtb rl
  have Ri : Rel (c.inn H1 G2) G2 [] s1 [] H1 :=
    { ex := x2, st := fun a ha => ⟨x3 a ha, (R1.st a ha).2⟩, sn := R1.sn, keep := fun _ _ h _ _ => (noT_some h).1, kn := fun _ h => noT_none h, h0n := fun p ps z => (noT_some z).2 ps rfl, tab := R1.tab, gnew := fun _ _ _ h => h, gx := Ex.refl G2, gtb := x4, len := rfl,
      vals := fun i d h => by simp at h, owns := fun i d h => by simp at h, dist := fun i j d e v h => by simp at h }
  have back : ∀ {G' H' s'}, Rel (c.inn H1 G2) G' [] s' [] H' → Rel c G1 env1 s' σ H' := fun {G' H' s'} R' => by
    refine { ex := (x1.trans R'.gx).trans R'.ex, st := fun a ha => ⟨(R1.st a ha).1, (R'.st a ha).2⟩, sn := R'.sn, keep := fun p o h1 h2 h3 => R'.keep p o (noT_of (R1.keep p o h1 h2 h3) h3) h2 h3, kn := fun p h => R1.knN (R'.kn p h), h0n := R1.h0n, tab := R'.tab, gnew := R1.gnew, gx := R1.gx, gtb := R1.gtb, len := R1.len,
             vals := R1.vals, owns := fun i es hi => ?_, dist := R1.dist }
    obtain ⟨v, h1, p, us, rfl, h3, h4, h5, h6, h7⟩ := R1.owns i es hi
    exact ⟨_, h1, p, us, rfl, h3, h4, h5, R'.keep p _ (noT_of h6 (fun _ z => by cases z)) h5 (fun _ z => by cases z), h7⟩
  refine ⟨c.inn H1 G2, G2, s1, ds, _, xq, rfl, rfl, Ri, x5, k1, fun G' H' v r s' R' rv kk => ?_, fun G' H' cn s' R' hx => ?_⟩
  · refine q G1 H' v r env1 s' (back R') e1 ?_ kk.2
    cases r with
    | no => exact rv
    | val d => exact rep_scal kk.1 rv
    | own es => exact kk.1.elim
  · exact hE G1 H' cn s' (back R').bare hx
def wRaise (xq : Str → S → Prop) (cn : Str) : FS := fun _ s _ => xq cn s
theorem ds_raise (hE : EOk c cl E xq) (cn : Str) : DS c (fun _ _ H => E (.ref (cl cn)) none H) (wRaise xq cn) := fun G env s σ H k D' R hf q => hE G H cn s R.bare hf
end
def wipeD (env : EnvD) : List Nat → EnvD
  | [] => env
  | v :: vs => (wipeD env vs).set v .no
def noOwn (env : EnvD) : List Nat → Prop
  | [] => True
  | v :: vs => (match at_ env v with | .own _ => False | _ => True) ∧ noOwn env vs
def compW (fg : FG) (ft : FT) (fe : FE) (vs : List Nat) (k : List D → EnvD → S → Prop) : List D → List D → EnvD → S → Prop
  | [], acc, env, s => k acc env s
  | d :: ds, acc, env, s => fg (.val d) env s fun env1 s1 => ft env1 s1 fun b env2 s2 => if b = true then fe env2 s2 fun r env3 s3 => compW fg ft fe vs k ds (acc ++ [r.d]) (wipeD env3 vs) s3 else compW fg ft fe vs k ds acc (wipeD env2 vs) s2
def backD (env0 env : EnvD) : List Nat → EnvD
  | [] => env
  | v :: vs => (backD env0 env vs).set v (at_ env0 v)
def wComp (fi : FI) (fg : FG) (ft : FT) (fe : FE) (vs : List Nat) : FE := fun env s k => fi env s fun ds env1 s1 => noOwn env1 vs ∧ ds.length < sizeLine ∧ compW fg ft fe vs (fun acc env2 s2 => k (.own acc) (backD env1 env2 vs) s2) ds [] (wipeD env1 vs) s1
def wYes : FT := fun env s k => k true env s
def GW (g : TG) (vs : List Nat) : Prop := ∀ (v : V) (σ : L2.St) (H : Hp) (Q : L2.St → Hp → Prop), g v σ H (fun σ2 H2 => wipe σ2 vs = wipe σ vs → Q σ2 H2) → g v σ H fun σ2 H2 => wipe σ2 vs = wipe σ vs ∧ Q σ2 H2
section
variable {c : Cxt}
theorem dt_yes : DT c tYes wYes := fun G env s σ H k Q R hf q => q G H true env s R (Ex.refl G) hf
theorem wipe_get_mem {σ : L2.St} {i : Nat} : ∀ {vs : List Nat}, i ∈ vs → i < σ.length → (wipe σ vs)[i]? = some none
  | [], h, _ => by simp at h
  | v :: vs, h, hl => by
    unfold wipe
    by_cases hv : v = i
    · subst hv
      rw [List.getElem?_set_self (by rw [wipe_length]; exact hl)]
    · rw [List.getElem?_set_ne hv]
      rcases List.mem_cons.mp h with e | h
      · exact absurd e.symm hv
      · exact wipe_get_mem h hl
theorem wipe_keep {σ : L2.St} {i : Nat} : ∀ {vs : List Nat}, i ∉ vs → (wipe σ vs)[i]? = σ[i]?
  | [], _ => rfl
  | v :: vs, h => by
    simp only [List.mem_cons, not_or] at h
    unfold wipe
    rw [List.getElem?_set_ne (fun e => h.1 e.symm)]
    exact wipe_keep h.2
theorem wipe_ext {σ τ : L2.St} {vs : List Nat} (hl : σ.length = τ.length) (h : ∀ i, i ∉ vs → σ[i]? = τ[i]?) : wipe σ vs = wipe τ vs := by
  refine List.ext_getElem? fun i => ?_
  by_cases hi : i ∈ vs
  · by_cases hl2 : i < σ.length
    · rw [wipe_get_mem hi hl2, wipe_get_mem hi (by rw [← hl]; exact hl2)]
    · rw [List.getElem?_eq_none (by rw [wipe_length]; omega), List.getElem?_eq_none (by rw [wipe_length]; omega)]
  · rw [wipe_keep hi, wipe_keep hi]
    exact h i hi
theorem wipe_set {σ : L2.St} {i : Nat} {x : Option V} {vs : List Nat} (h : i ∈ vs) : wipe (σ.set i x) vs = wipe σ vs :=
  wipe_ext (by rw [List.length_set]) fun j hj => by rw [List.getElem?_set_ne (fun e => hj (by rw [← e]; exact h))]
theorem wipe_wipe {σ : L2.St} {vs : List Nat} : wipe (wipe σ vs) vs = wipe σ vs := wipe_ext (wipe_length _ _) fun j hj => wipe_keep hj
theorem gw_name {i : Nat} {vs : List Nat} (h : i ∈ vs) : GW (gName i) vs := fun v σ H Q q => ⟨wipe_set h, q (wipe_set h)⟩
theorem gw_tup2 {i j n : Nat} {vs : List Nat} (hi : i ∈ vs) (hj : j ∈ vs) : GW (gTup c.K n (gCons (gName i) (gCons (gName j) gNil))) vs := by
  intro v σ H Q q
  obtain ⟨a, xs, e, h1, h2, x, r, e2, y, r2, e3, e4, q⟩ := q
  have e5 : wipe ((σ.set i (some x)).set j (some y)) vs = wipe σ vs := by rw [wipe_set hj, wipe_set hi]
  exact ⟨a, xs, e, h1, h2, x, r, e2, y, r2, e3, e4, e5, q e5⟩
theorem wipeD_length (env : EnvD) : ∀ vs : List Nat, (wipeD env vs).length = env.length
  | [] => rfl
  | v :: vs => by unfold wipeD; rw [List.length_set, wipeD_length env vs]
theorem wipeD_some {env : EnvD} {i : Nat} {x : Sl} (hx : x ≠ .no) : ∀ {vs : List Nat}, (wipeD env vs)[i]? = some x → env[i]? = some x ∧ i ∉ vs
  | [], h => ⟨h, by simp⟩
  | v :: vs, h => by
    unfold wipeD at h
    by_cases hi : v = i
    · subst hi
      by_cases hv : v < (wipeD env vs).length
      · rw [List.getElem?_set_self hv] at h; cases h; exact absurd rfl hx
      · rw [List.getElem?_eq_none (by simpa using hv)] at h; cases h
    · rw [List.getElem?_set_ne hi] at h
      obtain ⟨h1, h2⟩ := wipeD_some hx h
      exact ⟨h1, by simp only [List.mem_cons, not_or]; exact ⟨fun e => hi e.symm, h2⟩⟩
theorem Rel.wipe {G H : Hp} {env : EnvD} {s : S} {σ : L2.St} (R : Rel c G env s σ H) (vs : List Nat) : Rel c G (wipeD env vs) s (L2.wipe σ vs) H :=
  { R with len := (by rw [wipeD_length, wipe_length]; exact R.len)
           vals := fun i d hi => (by
             obtain ⟨h1, h2⟩ := wipeD_some (by simp) hi
             rw [wipe_keep h2]
             exact R.vals i d h1)
           owns := fun i ds hi => (by
             obtain ⟨h1, h2⟩ := wipeD_some (by simp) hi
             rw [wipe_keep h2]
             exact R.owns i ds h1)
           dist := fun i j ds es v h1 h2 h3 h4 => (by
             obtain ⟨a1, a2⟩ := wipeD_some (by simp) h1
             obtain ⟨b1, b2⟩ := wipeD_some (by simp) h2
             rw [wipe_keep a2] at h3
             rw [wipe_keep b2] at h4
             exact R.dist i j ds es v a1 b1 h3 h4) }
theorem at_of : ∀ {env : EnvD} {i : Nat} {x : Sl}, env[i]? = some x → at_ env i = x
  | [], i, x, h => by simp at h
  | y :: r, 0, x, h => by simpa [at_] using h
  | y :: r, i + 1, x, h => at_of (env := r) (i := i) (by simpa using h)
theorem noOwn_at {env : EnvD} : ∀ {vs : List Nat} {i : Nat} {es : List D}, noOwn env vs → i ∈ vs → env[i]? ≠ some (.own es)
  | [], i, es, _, h => by simp at h
  | v :: vs, i, es, hn, h => by
    rcases List.mem_cons.mp h with rfl | h
    · intro e
      have h1 := hn.1
      rw [at_of e] at h1
      exact h1
    · exact noOwn_at hn.2 h
theorem backD_length (env0 env : EnvD) : ∀ vs : List Nat, (backD env0 env vs).length = env.length
  | [] => rfl
  | v :: vs => by unfold backD; rw [List.length_set, backD_length env0 env vs]
theorem backD_keep {env0 env : EnvD} {i : Nat} : ∀ {vs : List Nat}, i ∉ vs → (backD env0 env vs)[i]? = env[i]?
  | [], _ => rfl
  | v :: vs, h => by
    simp only [List.mem_cons, not_or] at h
    unfold backD
    rw [List.getElem?_set_ne (fun e => h.1 e.symm)]
    exact backD_keep h.2
theorem backD_mem {env0 env : EnvD} {i : Nat} {x : Sl} : ∀ {vs : List Nat}, i ∈ vs → (backD env0 env vs)[i]? = some x → x = at_ env0 i
  | [], h, _ => by simp at h
  | v :: vs, h, e => by
    unfold backD at e
    by_cases hv : v = i
    · subst hv
      by_cases hl : v < (backD env0 env vs).length
      · rw [List.getElem?_set_self hl] at e; exact (Option.some.inj e).symm
      · rw [List.getElem?_eq_none (by rw [List.length_set]; omega)] at e; cases e
    · rw [List.getElem?_set_ne hv] at e
      rcases List.mem_cons.mp h with q | q
      · exact absurd q.symm hv
      · exact backD_mem q e
theorem Rel.unwipe {G G' H H' : Hp} {env env2 : EnvD} {s s' : S} {σ : L2.St} {vs : List Nat} (R : Rel c G env s σ H) (e : Ex G G') (hn : noOwn env vs) (R' : Rel c G' env2 s' (L2.wipe σ vs) H') : Rel c G' (backD env env2 vs) s' σ H' := by
  have own : ∀ (i : Nat) (ds : List D), (backD env env2 vs)[i]? = some (.own ds) → i ∉ vs ∧ env2[i]? = some (.own ds) := fun i ds hi => by
    by_cases hv : i ∈ vs
    · have h1 := backD_mem hv hi
      exact absurd (at_val h1.symm (by simp)) (noOwn_at hn hv)
    · exact ⟨hv, by rw [backD_keep hv] at hi; exact hi⟩
  exact { R' with len := (by rw [backD_length, R'.len, wipe_length])
                  vals := fun i d hi => (by
                    by_cases hv : i ∈ vs
                    · have h1 := backD_mem hv hi
                      obtain ⟨v, h1, h2⟩ := R.vals i d (at_val h1.symm (by simp))
                      exact ⟨v, h1, Rep.mono e d h2⟩
                    · rw [backD_keep hv] at hi
                      have := R'.vals i d hi
                      rwa [wipe_keep hv] at this)
                  owns := fun i ds hi => (by
                    obtain ⟨hv, h1⟩ := own i ds hi
                    have := R'.owns i ds h1
                    rwa [wipe_keep hv] at this)
                  dist := fun i j ds es v h1 h2 h3 h4 => (by
                    obtain ⟨a1, a2⟩ := own i ds h1
                    obtain ⟨b1, b2⟩ := own j es h2
                    exact R'.dist i j ds es v a2 b2 (by rw [wipe_keep a1]; exact h3) (by rw [wipe_keep b1]; exact h4)) }
theorem Rel.hide {G H : Hp} {env : EnvD} {s : S} {σ : L2.St} (R : Rel c G env s σ H) {p : Addr} {o : HO} (h : H p = some o) (hg : G p = none) (h0 : c.H0 p = none) (ap : Apart env σ (.ref p)) (ho : ∀ ps, o ≠ .tbl ps := by intro _ z; cases z) : Rel (c.h0 (upd c.H0 p o)) G env s σ H :=
  { R with keep := fun q u h1 h2 h3 => (by
             have h1 : upd c.H0 p o q = some u := h1
             by_cases hb : q = p
             · subst hb
               rw [upd_same] at h1
               cases h1
               exact h
             · rw [upd_ne hb] at h1
               exact R.keep q u h1 h2 h3)
           kn := fun q hq => (by
             have hb : q ≠ p := fun z => by rw [z, h] at hq; cases hq
             show upd c.H0 p o q = none
             rw [upd_ne hb]
             exact R.kn q hq)
           h0n := fun q ps z => (by
             have z : upd c.H0 p o q = some (.tbl ps) := z
             by_cases hb : q = p
             · subst hb; rw [upd_same] at z; exact ho ps (Option.some.inj z)
             · rw [upd_ne hb] at z; exact R.h0n q ps z)
           gnew := fun q ws h1 h2 => (by
             by_cases hb : q = p
             · rw [hb]; exact hg
             · have h1' : upd c.H0 p o q = some (.lst ws) := h1
               rw [upd_ne hb] at h1'
               exact R.gnew q ws h1' h2)
           owns := fun i ds hi => (by
             obtain ⟨v, e1, q, vs, rfl, e3, e4, e5⟩ := R.owns i ds hi
             have hb : q ≠ p := fun z => ap i ds hi (by rw [e1, z])
             exact ⟨_, e1, q, vs, rfl, e3, by show upd c.H0 p o q = none; rw [upd_ne hb]; exact e4, e5⟩) }
theorem Rel.unhide {G H : Hp} {env : EnvD} {s : S} {σ : L2.St} {p : Addr} {o : HO} (h0 : c.H0 p = none) (R : Rel (c.h0 (upd c.H0 p o)) G env s σ H) : Rel c G env s σ H := by
  have up : ∀ q u, c.H0 q = some u → (upd c.H0 p o) q = some u := fun q u e => by rw [upd_ne (fun z => by rw [z, h0] at e; cases e)]; exact e
  have dn : ∀ q, upd c.H0 p o q = none → c.H0 q = none := fun q e => by
    by_cases hb : q = p
    · rw [hb, upd_same] at e; cases e
    · rw [upd_ne hb] at e; exact e
  exact { R with keep := fun q u h1 h2 h3 => R.keep q u (up q u h1) h2 h3
                 kn := fun q hq => dn q (R.kn q hq)
                 h0n := fun q ps z => R.h0n q ps (up q _ z)
                 gnew := fun q ws h1 h2 => R.gnew q ws (up q _ h1) h2
                 owns := fun i ds hi => (by
                   obtain ⟨v, e1, q, vs, rfl, e3, e4, e5⟩ := R.owns i ds hi
                   exact ⟨_, e1, q, vs, rfl, e3, dn q e4, e5⟩) }
theorem de_comp {wi : TI} {fi : FI} {g : TG} {fg : FG} {tt : TT} {ft : FT} {te : TE} {fe : FE} {vs : List Nat} (hi : DI c wi fi) (hg : ∀ H0, DG (c.h0 H0) g fg) (ht : ∀ H0, DT (c.h0 H0) tt ft) (he : ∀ H0, DE (c.h0 H0) te fe) (hw : GW g vs) :
    DE c (tLc wi g tt te vs) (wComp fi fg ft fe vs) := by
  intro G env s σ H k Q R hf q
  refine hi G env s σ H _ _ R hf fun G1 H1 J ds env1 s1 R1 e1 w k1 => ?_
  obtain ⟨hn, hlen, k1⟩ := k1
  obtain ⟨n, Gd, Y, hnn, wk, hG, hY⟩ := w.ex
  intro Dl hD
  have h0 : c.H0 Dl = none := R1.kn Dl hD
  have ha0 : c.a0 ≠ some Dl := R1.a0ne hD
  have R1n := R1.new (o := .lst []) hD (fun _ z => by cases z)
  have ap0 := R1.newApart hD
  have apw : Apart (wipeD env1 vs) (L2.wipe σ vs) (.ref Dl) := fun i es h1 h2 => by
    obtain ⟨a1, a2⟩ := wipeD_some (by simp) h1
    rw [wipe_keep a2] at h2
    exact ap0 i es a1 h2
  have apo : ∀ {avs G4 env4 s4 σ4 H4}, Rel (c.h0 (upd c.H0 Dl (.lst avs))) G4 env4 s4 σ4 H4 → Apart env4 σ4 (.ref Dl) := fun {avs G4 env4 s4 σ4 H4} R4 i es h1 h2 => by
    obtain ⟨v, e1, q, us, rfl, e3, e4, _⟩ := R4.owns i es h1
    rw [e1] at h2
    cases h2
    have e4' : upd c.H0 Dl (.lst avs) Dl = none := e4
    rw [upd_same] at e4'
    cases e4'
  have HDl : ∀ {avs G4 env4 s4 σ4 H4}, Rel (c.h0 (upd c.H0 Dl (.lst avs))) G4 env4 s4 σ4 H4 → H4 Dl = some (.lst avs) ∧ G4 Dl = none := fun {avs G4 env4 s4 σ4 H4} R4 =>
    ⟨R4.keep Dl _ upd_same ha0 (fun _ z => by cases z), R4.gnew Dl avs (by show upd c.H0 Dl _ Dl = some (.lst avs); rw [upd_same]) (by
      have : c.G0 Dl = none := by
        cases q : c.G0 Dl with
        | none => rfl
        | some o => have := R1.ex _ _ (R1.gx _ _ q); rw [hD] at this; cases this
      exact this)⟩
  refine lc_it wk (fun i H' => ∃ G' acc avs env' s', Rel (c.h0 (upd c.H0 Dl (.lst avs))) G' env' s' (L2.wipe σ vs) H' ∧ Ex G1 G' ∧ RepL c.K G' acc avs ∧ acc.length ≤ i ∧
      compW fg ft fe vs (fun acc env2 s2 => k (.own acc) (backD env1 env2 vs) s2) (ds.drop i) acc env' s') ?_ ?_ ?_ ?_
  · exact ⟨G1, [], [], _, s1, (R1n.wipe vs).hide upd_same (R1.g0 hD) h0 apw, Ex.refl G1, RepL.nil, Nat.le_refl _, by simpa using k1⟩
  · rintro i H' _ ⟨G', acc, avs, env', s', R', e', _⟩
    exact hG ⟨_, Ex.new h0⟩ G' H' _ s' _ R' e'
  · rintro i x H' H3 hin ⟨G', acc, avs, env', s', R', e', hacc, hal, kk⟩ y
    obtain ⟨G3, d, R3, e3, hd, rd⟩ := hY i ⟨_, Ex.new h0⟩ G' H' _ s' _ x H3 hin R' e' y
    have hdrop : ds.drop i = d :: ds.drop (i + 1) := by
      obtain ⟨hl, hx⟩ := List.getElem?_eq_some_iff.mp hd
      rw [List.drop_eq_getElem_cons hl, hx]
    rw [hdrop] at kk
    have hw' : ∀ (Q : L2.St → Hp → Prop), g x (L2.wipe σ vs) H3 (fun σ2 H2 => L2.wipe σ2 vs = L2.wipe σ vs → Q σ2 H2) → g x (L2.wipe σ vs) H3 (fun σ2 H2 => L2.wipe σ2 vs = L2.wipe σ vs ∧ Q σ2 H2) := by
      intro Q q
      have := hw x (L2.wipe σ vs) H3 Q (by rw [wipe_wipe]; exact q)
      rw [wipe_wipe] at this
      exact this
    refine hw' _ ?_
    refine hg _ G3 _ s' _ H3 x (.val d) _ _ R3 rd kk fun G4 H4 env4 s4 σ4 R4 e4 k4 => ?_
    intro hwipe
    refine ht _ G4 env4 s4 σ4 H4 _ _ R4 k4 fun G5 H5 b env5 s5 R5 e5 k5 => ?_
    have fin : ∀ {G6 env6 s6 H6}, Rel (c.h0 (upd c.H0 Dl (.lst avs))) G6 env6 s6 σ4 H6 → Rel (c.h0 (upd c.H0 Dl (.lst avs))) G6 (wipeD env6 vs) s6 (L2.wipe σ vs) H6 := fun {G6 env6 s6 H6} R6 => by
      have := R6.wipe vs
      rw [hwipe] at this
      exact this
    cases b with
    | true =>
      refine he _ G5 env5 s5 σ4 H5 _ _ R5 k5 fun G6 H6 v r env6 s6 R6 e6 rv6 k6 => ?_
      obtain ⟨G7, R7, e7, rp⟩ := R6.toVal rv6
      have R8 := fin R7
      obtain ⟨hl, hg7⟩ := HDl R8
      have eAll : Ex G' G7 := (((e3.trans e4).trans e5).trans e6).trans e7
      have hacc7 : RepL c.K G7 (acc ++ [r.d]) (avs ++ [v]) := RepL.append (RepL.mono eAll acc hacc) (RepL.one rp)
      refine ⟨avs, hl, by rw [hacc.length]; omega, G7, acc ++ [r.d], avs ++ [v], _, s6, ?_, e'.trans eAll, hacc7, by simp; omega, k6⟩
      have ap9 := apo R8
      have R9 := R8.unhide h0
      have R10 : Rel c G7 (wipeD env6 vs) s6 (L2.wipe σ vs) (upd H6 Dl (.lst (avs ++ [v]))) :=
        { R9 with ex := R9.ex.mut hg7
                  st := fun a ha => (by
                    obtain ⟨m1, y, z, m2, m3⟩ := R9.st a ha
                    exact ⟨m1, y, z, m2, by rw [upd_ne (fun z => ha0 (by rw [← z]; exact ha))]; exact m3⟩)
                  keep := fun p o h1 h2 h3 => (by
                    rw [upd_ne (fun z => by rw [z, h0] at h1; cases h1)]
                    exact R9.keep p o h1 h2 h3)
                  kn := fun p hp => (by
                    by_cases hb : p = Dl
                    · rw [hb]; exact h0
                    · rw [upd_ne hb] at hp; exact R9.kn p hp)
                  tab := Tabs.updL R9.tab hl
                  owns := fun i es hi => (by
                    obtain ⟨w, n1, p, us, rfl, n3, n4, n5, n6, n7⟩ := R9.owns i es hi
                    have hb : p ≠ Dl := fun z => ap9 i es hi (by rw [n1, z])
                    exact ⟨_, n1, p, us, rfl, n3, n4, n5, by rw [upd_ne hb]; exact n6, n7⟩) }
      exact R10.hide upd_same hg7 h0 ap9
    | false =>
      exact ⟨G5, acc, avs, _, s5, fin R5, e'.trans ((e3.trans e4).trans e5), RepL.mono ((e3.trans e4).trans e5) acc hacc, by omega, k5⟩
  · rintro H' ⟨G', acc, avs, env', s', R', e', hacc, hal, kk⟩
    rw [hnn, List.drop_length] at kk
    obtain ⟨hl, hgD⟩ := HDl R'
    have ap9 := apo R'
    have R2 := R1.unwipe e' hn (R'.unhide h0)
    refine q G' H' _ (.own acc) _ s' R2 (e1.trans e') ⟨⟨Dl, avs, rfl, hgD, h0, ha0, hl, hacc⟩, fun i es h1 h2 => ?_⟩ kk
    by_cases hv : i ∈ vs
    · exact absurd (at_val (backD_mem hv h1).symm (by simp)) (noOwn_at hn hv)
    · rw [backD_keep hv] at h1
      exact ap9 i es h1 (by rw [wipe_keep hv]; exact h2)
end
def start_ (N : List Str) (ds : List D) : EnvD := ds.map Sl.val ++ List.replicate (N.length - ds.length) Sl.no
def kBody (k : Sl → S → Prop) : Fl → Prop := fun fl => match fl with
  | .rt r s => k r s
  | .nx _ s => k (.val .non) s
  | _ => False
section
variable {P : Program} {w : World} {K : PySem.W.Frag} {mg : Str → Option Value} {base : Heap} {T : List (Addr × Str)} {cl : Str → Addr}
theorem rel_start {c : Cxt} {G H : Hp} {s : S} {ds : List D} {vs : List V} {N : List Str} (R : Rel c G [] s [] H) (rl : RepL c.K G ds vs) : Rel c G (start_ N ds) s (L2.start N vs) H := by
  have hl := rl.length
  refine { R with len := ?_, vals := fun i d hi => ?_, owns := fun i es hi => ?_, dist := fun i j es fs v h1 _ _ _ => ?_ }
  · unfold start_ L2.start
    simp [hl]
  · unfold start_ at hi
    unfold L2.start
    by_cases h : i < ds.length
    · rw [List.getElem?_append_left (by simpa using h), List.getElem?_map] at hi
      cases e : ds[i]? with
      | none => rw [e] at hi; cases hi
      | some d' =>
        rw [e] at hi
        cases hi
        obtain ⟨v, h1, h2⟩ := RepL.get rl e
        refine ⟨v, ?_, h2⟩
        rw [List.getElem?_append_left (by simpa [hl] using h), List.getElem?_map, h1]
        rfl
    · rw [List.getElem?_append_right (by simpa using h), List.getElem?_replicate] at hi
      split at hi <;> cases hi
  · unfold start_ at hi
    by_cases h : i < ds.length
    · rw [List.getElem?_append_left (by simpa using h), List.getElem?_map] at hi
      cases e : ds[i]? with
      | none => rw [e] at hi; cases hi
      | some d' => rw [e] at hi; cases hi
    · rw [List.getElem?_append_right (by simpa using h), List.getElem?_replicate] at hi
      split at hi <;> cases hi
  · unfold start_ at h1
    by_cases h : i < ds.length
    · rw [List.getElem?_append_left (by simpa using h), List.getElem?_map] at h1
      cases e : ds[i]? with
      | none => rw [e] at h1; cases h1
      | some d' => rw [e] at h1; cases h1
    · rw [List.getElem?_append_right (by simpa using h), List.getElem?_replicate] at h1
      split at h1 <;> cases h1
end
end DL
set_option Elab.async false
set_option linter.all false
set_option maxRecDepth 100000
set_option maxHeartbeats 1000000
namespace DL
open PySem L2 PySem.Spec PyProof.Rows
open Evl (Ex)
structure Def (P : Program) (w : World) (K : PySem.W.Frag) (mg : Str → Option Value) (base : Heap) (T : List (Addr × Str)) (f : Str) (ps : List Str) (k : Nat) (F : Fn) : Prop where
  ex : ∃ (fa : Addr) (fd : FuncData), mg f = some (.ref fa) ∧ PySem.W.keepIn K (.ref fa) = true ∧ Binds K fd ps [] ∧ FnOk P w K mg base (L2.CX P w) k fa fd ps (spD K T (He.ga K) F) ∧
    ∃ oc od osl, K.lookup fa = some ⟨oc, od, .func fd, osl⟩
theorem Def.mono {P : Program} {w : World} {K : PySem.W.Frag} {mg : Str → Option Value} {base : Heap} {T : List (Addr × Str)} {f : Str} {ps : List Str} {j k : Nat} {F : Fn} (d : Def P w K mg base T f ps j F) (h : j ≤ k) : Def P w K mg base T f ps k F := by
  obtain ⟨fa, fd, h1, h2, h3, h4, h5⟩ := d.ex
  exact ⟨fa, fd, h1, h2, h3, h4.mono h, h5⟩
section
variable {X : Cx} {K : PySem.W.Frag} {T : List (Addr × Str)} {f : Str} {ps : List Str} {k : Nat} {F : Fn} {E : XK} {e e1 e2 e3 o : Expr} {es : List Expr} {t : TA} {te : TE} {p pos p1 p2 p3 apos cpos tpos : Pos} {tg : Expr} {elts : List Expr} {kk : Nat}
theorem pe_def (Dd : Def X.prog X.w K X.mg X.base T f ps k F) (hr : Room k X.A) (hx : Passes (L2.CX X.prog X.w) X E) (ha : PA X (e :: es) t) (hK : X.K = K := by rfl) (hg : Gl X f := by rfl) (hdb : (f == ("__debug__" : Str)) = false := by decide)
    (he : starEach (e :: es) X.env = (false, eval e X.env) :: starEach es X.env := by rfl) (hpl : (backTo pos (starEach es X.env)).any (·.1) = false := by rfl) : PE X (.Call (.Name f p) (e :: es) [] pos) (tCall (spD K T (He.ga K) F) [] E t) := by
  subst hK
  obtain ⟨fa, fd, h1, h2, h3, h4, _⟩ := Dd.ex
  exact pe_call h4 hr hg h1 h2 h3 .nil hx ha hdb he hpl
variable (K)
theorem pe_len (hm : X.mg "len" = none) (ha : PE X e te) (hK : X.K = K := by rfl) (hg : Gl X "len" := by rfl) (hs : starEach [e] X.env = (false, eval e X.env) :: starEach [] X.env := by rfl) : PE X (.Call (.Name "len" p) [e] [] pos) (tCB (rLenX K) (tCons te tNil)) := by
  subst hK
  exact pe_callB call_len hg hm PySem.boot_len (pa_cons ha pa_nil hs) (he := hs)
theorem pe_list (hm : X.mg "list" = none) (ha : PE X e te) (hK : X.K = K := by rfl) (hg : Gl X "list" := by rfl) (hs : starEach [e] X.env = (false, eval e X.env) :: starEach [] X.env := by rfl) : PE X (.Call (.Name "list" p) [e] [] pos) (tCB (rListX K) (tCons te tNil)) := by
  subst hK
  exact pe_callTy call_list_of hg hm boot_list (pa_cons ha pa_nil hs) (he := hs)
theorem pe_abs (hm : X.mg "abs" = none) (ha : PE X e te) (hg : Gl X "abs" := by rfl) (hs : starEach [e] X.env = (false, eval e X.env) :: starEach [] X.env := by rfl) : PE X (.Call (.Name "abs" p) [e] [] pos) (tCB rAbsX (tCons te tNil)) :=
  pe_callB call_abs hg hm boot_abs (pa_cons ha pa_nil hs) (he := hs)
theorem pe_int' (hm : X.mg "int" = none) (ha : PE X e te) (hg : Gl X "int" := by rfl) (hs : starEach [e] X.env = (false, eval e X.env) :: starEach [] X.env := by rfl) : PE X (.Call (.Name "int" p) [e] [] pos) (tCB rIntX (tCons te tNil)) :=
  pe_callTy call_int1 hg hm PyProof.Rows.boot_int (pa_cons ha pa_nil hs) (he := hs)
theorem pe_all (hm : X.mg "all" = none) (ha : PE X e te) (hc : X.calm = true := by rfl) (hK : X.K = K := by rfl) (hg : Gl X "all" := by rfl) (hs : starEach [e] X.env = (false, eval e X.env) :: starEach [] X.env := by rfl) : PE X (.Call (.Name "all" p) [e] [] pos) (tCB (rAll K) (tCons te tNil)) := by
  subst hK
  exact pe_callB (cr_all hc) hg hm (by decide +kernel) (pa_cons ha pa_nil hs) (he := hs)
theorem pe_max2 (hm : X.mg "max" = none) (ha : PA X [e1, e2] t) (hc : X.calm = true := by rfl) (hg : Gl X "max" := by rfl) (he : starEach [e1, e2] X.env = (false, eval e1 X.env) :: starEach [e2] X.env := by rfl) (hpl : (backTo pos (starEach [e2] X.env)).any (·.1) = false := by rfl) : PE X (.Call (.Name "max" p) [e1, e2] [] pos) (tCB rMaxX t) :=
  pe_callB (call_max2 hc) hg hm (by decide +kernel) ha (he := he) (hpl := hpl)
theorem pe_min2 (hm : X.mg "min" = none) (ha : PA X [e1, e2] t) (hc : X.calm = true := by rfl) (hg : Gl X "min" := by rfl) (he : starEach [e1, e2] X.env = (false, eval e1 X.env) :: starEach [e2] X.env := by rfl) (hpl : (backTo pos (starEach [e2] X.env)).any (·.1) = false := by rfl) : PE X (.Call (.Name "min" p) [e1, e2] [] pos) (tCB rMinX t) :=
  pe_callB (call_min2 hc) hg hm (by decide +kernel) ha (he := he) (hpl := hpl)
theorem pe_ty {n : Str} {s : String} (hm : X.mg n = none) (hv : bootBuiltins n = some (.type s)) (hg : Gl X n := by rfl) (hn : n ≠ "__name__" := by decide) (hd : (n == ("__debug__" : Str)) = false := by decide) : PE X (.Name n p) (tC (.ty s)) :=
  pe_bltn (v := .ty s) hg hm hv rfl hn hd
theorem pe_isi {n : Str} {s : String} (hi : X.mg "isinstance" = none) (hm : X.mg n = none) (hv : bootBuiltins n = some (.type s)) (ha : PE X e te) (hK : X.K = K := by rfl) (hg : Gl X "isinstance" := by rfl) (hg2 : Gl X n := by rfl) (hn : n ≠ "__name__" := by decide) (hd : (n == ("__debug__" : Str)) = false := by decide)
    (he : starEach [e, .Name n p2] X.env = (false, eval e X.env) :: starEach [.Name n p2] X.env := by rfl) (hs2 : starEach [.Name n p2] X.env = (false, eval (.Name n p2) X.env) :: starEach [] X.env := by rfl) (hpl : (backTo pos (starEach [.Name n p2] X.env)).any (·.1) = false := by rfl) :
    PE X (.Call (.Name "isinstance" p) [e, .Name n p2] [] pos) (tCB (rIsi K) (tCons te (tCons (tC (.ty s)) tNil))) := by
  subst hK
  exact pe_callB call_isi hg hi boot_isinstance (pa_cons ha (pa_cons (pe_ty hm hv hg2 hn hd) pa_nil hs2) he) (he := he) (hpl := hpl)
theorem pe_isi2 {n m : Str} {s u : String} {kk : Nat} (hi : X.mg "isinstance" = none) (hm : X.mg n = none) (hv : bootBuiltins n = some (.type s)) (hm' : X.mg m = none) (hv' : bootBuiltins m = some (.type u)) (ha : PE X e te) (hK : X.K = K := by rfl) (hg : Gl X "isinstance" := by rfl) (hg2 : Gl X n := by rfl) (hg3 : Gl X m := by rfl)
    (hn : n ≠ "__name__" := by decide) (hd : (n == ("__debug__" : Str)) = false := by decide) (hn' : m ≠ "__name__" := by decide) (hd' : (m == ("__debug__" : Str)) = false := by decide)
    (he : starEach [e, .Tuple [.Name n p1, .Name m p2] kk p3] X.env = (false, eval e X.env) :: starEach [.Tuple [.Name n p1, .Name m p2] kk p3] X.env := by rfl) (hs2 : starEach [.Tuple [.Name n p1, .Name m p2] kk p3] X.env = (false, eval (.Tuple [.Name n p1, .Name m p2] kk p3) X.env) :: starEach [] X.env := by rfl)
    (hs3 : starEach [.Name n p1, .Name m p2] X.env = (false, eval (.Name n p1) X.env) :: starEach [.Name m p2] X.env := by rfl) (hs4 : starEach [.Name m p2] X.env = (false, eval (.Name m p2) X.env) :: starEach [] X.env := by rfl)
    (hpl : (backTo pos (starEach [.Tuple [.Name n p1, .Name m p2] kk p3] X.env)).any (·.1) = false := by rfl) :
    PE X (.Call (.Name "isinstance" p) [e, .Tuple [.Name n p1, .Name m p2] kk p3] [] pos) (tCB (rIsiT K) (tCons te (tCons (tTup (tCons (tC (.ty s)) (tCons (tC (.ty u)) tNil))) tNil))) := by
  subst hK
  exact pe_callB call_isiT hg hi boot_isinstance (pa_cons ha (pa_cons (pe_tup (pa_cons (pe_ty hm hv hg2 hn hd) (pa_cons (pe_ty hm' hv' hg3 hn' hd') pa_nil hs4) hs3)) pa_nil hs2) he) (he := he) (hpl := hpl)
theorem ix_K (hK : X.K = K := by rfl) : IxR X (rIx K) := by subst hK; exact ix_seq
theorem sl_K (hK : X.K = K := by rfl) : SlR X (rSlL K) := by subst hK; exact sl_list
theorem eq_K (hu : X.A.units + 64 < cLine) (hK : X.K = K := by rfl) : OpR X (compareOp .Eq) (rEqD K) := by subst hK; exact op_eqD hu
theorem ne_K (hu : X.A.units + 64 < cLine) (hK : X.K = K := by rfl) : OpR X (compareOp .NotEq) (rNeD K) := by subst hK; exact op_neD hu
theorem it_list {tl : TE} (ha : PE X e tl) (hK : X.K = K := by rfl) : PI X tg e (iList K tl) := by subst hK; exact pi_list ha
theorem it_enum (hm : X.mg "enumerate" = none) (ha : PA X [e] t) (hK : X.K = K := by rfl) (hg : Gl X "enumerate" := by rfl) (hs : starEach [e] X.env = [(false, eval e X.env)] := by rfl) : PI X (.Tuple elts kk tpos) (.Call (.Name "enumerate" p) [e] [] pos) (iEnum K t) := by subst hK; exact pi_enum hg hm ha hs
theorem it_zip (hm : X.mg "zip" = none) (ha : PA X [e1, e2] t) (hK : X.K = K := by rfl) (hg : Gl X "zip" := by rfl) (hs : starEach [e1, e2] X.env = (false, eval e1 X.env) :: starEach [e2] X.env := by rfl) (hpl : (backTo pos (starEach [e2] X.env)).any (·.1) = false := by rfl) :
    PI X (.Tuple elts kk tpos) (.Call (.Name "zip" p) [e1, e2] [] pos) (RZ.iZipA K t) := by subst hK; exact RZ.pi_zipA hg hm ha hs hpl
theorem it_rev (hm : X.mg "reversed" = none) (ha : PA X [e] t) (hK : X.K = K := by rfl) (hg : Gl X "reversed" := by rfl) (hs : starEach [e] X.env = [(false, eval e X.env)] := by rfl) : PI X tg (.Call (.Name "reversed" p) [e] [] pos) (iRev K t) := by subst hK; exact pi_reversed hg hm ha hs
theorem tg_tup {es : List Expr} {k : Nat} {t : TGs} {n : Nat} (h : PGs X es t) (hK : X.K = K := by rfl) (hc : X.calm = true := by rfl) (hn : (assignEach es X.env).length = n := by rfl) (hst : (assignEach es X.env).findIdx? (·.1) = none := by rfl) : PG X (.Tuple es k pos) (gTup K n t) := by
  subst hK; exact pg_tup hc h hn hst
theorem pe_app (ho : PE X o te) (ha : PA X [e] t) (hK : X.K = K := by rfl) (hbase : attributeBase o "append" X.env (eval o X.env) = eval o X.env := by rfl)
    (hfew : ((backTo cpos (starEach [e] X.env)).all (fun x => !x.1) && (backToKw cpos (keywordEach [] X.env)).all (fun x => x.1.isSome) && decide ([e].length + ([] : List Keyword).length + (if ([] : List Keyword).isEmpty then 0 else 1) < 30)) = true := by rfl)
    (hline : (apos.endLine == cpos.line) = true := by rfl) (hs : starEach [e] X.env = (false, eval e X.env) :: starEach [] X.env := by rfl) (hplain : (backTo cpos (starEach [] X.env)).any (·.1) = false := by rfl) :
    PE X (.Call (.Attribute o "append" apos) [e] [] cpos) (tBM K "list" rAppend te t) := by
  subst hK; exact pe_bm PySem.F.plainAttrs_list PySem.F.slot_list_append PySem.F.type_list_append mt_append ho ha hbase hfew hline hs hplain
end
theorem eok0 {c : Cxt} {cl : Str → Addr} : EOk c cl E0 (fun _ _ => False) := fun _ _ _ _ _ h => h
theorem seerB_ok {K : PySem.W.Frag} {P : Program} {base : Heap} {mg : Str → Option Value} (h : seerB K = true) (hK : K.In base) (hG : base.Ns mainGlobals mg) (ht : P.given.tree = none) : SeerB P base := by
  obtain ⟨h1, h2⟩ := He.ba h
  obtain ⟨a1, a2⟩ := He.ba h1
  obtain ⟨a3, a4⟩ := He.ba a2
  obtain ⟨b1, b2⟩ := He.ba h2
  obtain ⟨b3, b4⟩ := He.ba b1
  obtain ⟨c1, c2⟩ := He.ba b2
  have n1 := Heap.Ns.of_isNs (PySem.W.isNs_of_in hK a1)
  have n2 := Heap.Ns.of_isNs (PySem.W.isNs_of_in hK b3)
  refine ⟨⟨_, n1, PySem.W.ns_none_of hK n1 (He.eqO_ok a3), PySem.W.ns_none_of hK n1 (He.eqO_ok a4)⟩, ⟨_, n2, PySem.W.ns_none_of hK n2 (He.eqO_ok b4)⟩, ?_, ht⟩
  split at c2
  · rename_i c d dt sl q
    obtain ⟨rfl, rfl⟩ := of_decide_eq_true c2
    exact ⟨mg, _, _, hG, PySem.W.mg_of hK hG (He.eqO_ok c1), hK _ _ q, rfl, rfl⟩
  · cases c2
abbrev SaysM (b : Book) (w : World) (h : Heap) (K : PySem.W.Frag) : Prop := He.SaysX b.fa b.fn [] b.tf (exB b) w h K
def tabT (b : Book) (K : PySem.W.Frag) : List (Addr × Str) := b.tf.map fun p => ((He.cT K p).2, p.1 ++ ".<locals>." ++ "<lambda>")
structure Txt (b : Book) (K : PySem.W.Frag) (mg : Str → Option Value) : Prop where
  d : He.SaysD b.fa b.fn K
  nd : (b.tf.map fun p => (He.cT K p).2).Nodup
  ck : b.ck K = true
  seer : seerB K = true
  glo : ∀ (i : Nat) (x : Str), b.fa[i]? = some (.glo x) → mg x = some (.ref (He.ga K x))
  free : ∀ (i : Nat) (x : Str), b.fa[i]? = some (.free x) → mg x = none
  tup : ∀ (i : Nat) (x : Str) (vs : List He.Dv), b.tu[i]? = some (x, vs) → mg x = some (.ref (He.ga K x)) ∧ ∀ H, SqT K H (He.ga K x) (vs.map (He.Dv.v K))
  exc : ∀ (i : Nat) (x : Str), b.fa[i]? = some (.exc x) → PySem.W.excIn K (He.ga K x) He.veBase "ValueError.__new__" = true ∧ PySem.W.keepIn K (.ref (He.ga K x)) = true ∧ PySem.W.subIn K (.ref (He.ga K x)) (.type "BaseException") = some true ∧ PySem.W.typeIn K (.ref (He.ga K x)) = some (.type "type")
  str : ∀ (i : Nat) (x z : Str), b.fa[i]? = some (.str x z) → ∃ t, mg x = some (.str z t)
  int : ∀ (i : Nat) (x : Str) (z : Int), b.fa[i]? = some (.int x z) → ∃ t, mg x = some (.int z t)
theorem Txt.mk' {b : Book} {K : PySem.W.Frag} {w : World} {mg : Str → Option Value} {h : Heap} (X : K.In h) (G : h.Ns mainGlobals mg) (c : SaysM b w h K) : Txt b K mg :=
  have hx := He.ba (show (b.tt K && (decide ((b.tf.map fun p => (He.cT K p).2).Nodup) && (b.ck K && seerB K))) = true from c.more)
  ⟨c.t.d, of_decide_eq_true (He.ba hx.2).1, (He.ba (He.ba hx.2).2).1, (He.ba (He.ba hx.2).2).2, fun i x hx => He.glo_ok X G (c.t.d.fact i hx), fun i x hx => He.free_ok X G (c.t.d.fact i hx), fun i x vs hi => (by
    have h1 := List.all_eq_true.mp hx.1 (x, vs) (List.mem_of_getElem? hi)
    obtain ⟨h2, h3⟩ := He.ba h1
    exact ⟨PySem.W.mg_of X G (He.eqO_ok h2), He.tupB_ok h3⟩), fun i x hx => He.exc_ok (c.t.d.fact i hx), fun i x z hx => He.str_ok X G (c.t.d.fact i hx), fun i x z hx => He.int_ok X G (c.t.d.fact i hx)⟩
structure TBs (b : Book) (K : PySem.W.Frag) (mg : Str → Option Value) (base : Heap) (T : List (Addr × Str)) (P : Program) : Prop where
  eq : T = tabT b K
  tb : ∀ p ∈ b.tf, LamX.TabB base mg (He.cT K p).1 (He.cT K p).2
  seer : SeerB P base
section
variable {b : Book} {K : PySem.W.Frag} {mg : Str → Option Value}
theorem Txt.fun_ (X : Txt b K mg) (i : Nat) {d : He.DefD} (h : b.fn[i]? = some d := by rfl) : ∃ fd, FunD K d.name d.qual d.params d.body d.scope (d.dvs K) (d.kws K) (He.fAd K d.at_) fd := X.d.def_ i h
end
theorem Txt.def_ {b : Book} {P : Program} {w : World} {K : PySem.W.Frag} {mg : Str → Option Value} {base : Heap} {T : List (Addr × Str)} (X : Txt b K mg) (i j : Nat) {st : Stmt} {f : Str} {N ps : List Str} {k : Nat} {F : Fn} {fs : (Str → S → Prop) → FS}
    (hd : b.fn[i]? = some ⟨(f, none), f, f, defArgs st, defBody st, defScope st, [], []⟩) (hg : b.fa[j]? = some (.glo f)) (Sc : FnScope N ps (defScope st))
    (hbind : ∀ (kV doc pm : Value) (an : Option Addr) (cdv ct : Value) (us : List Value), us.length = ps.length → bindArgs (PySem.W.fnOf f f (defArgs st) (defBody st) (defScope st) .none kV doc pm an cdv ct) ⟨us, []⟩ = pure (ps.zip us))
    (len : ∀ ds s k xq, F ds s k xq → ds.length = ps.length) (hF : ∀ ds s k xq, F ds s k xq → fs xq (start_ N ds) s (kBody k))
    (hbody : ∀ (fa : Addr) (cdv : Value) (A : Around) (outer : List Env) (s : Shared) (H : Hp) (E : XK), cdv = .ref (He.cT K (f, none)).1 → Room k (A.deeper (envOfC f (defScope st) s.heap.objs.size fa cdv)) →
      ∃ t, PSs (cxOf (L2.CX P w) P w K mg base N f (defScope st) fa cdv A outer s H E) (defBody st) t ∧ ∀ (c : Cxt) (xq : Str → DL.S → Prop), c.K = K → c.T = T → EOk c (He.ga K) E xq → DS c t (fs xq)) :
    Def P w K mg base T f ps (k + 1) F := by
  obtain ⟨fd, FD⟩ := X.fun_ i hd
  refine ⟨He.ga K f, fd, X.glo j f hg, FD.kp, FD.bindsN hbind, ?_, let ⟨oc, od, _, _, _, _, _, _, _, osl, _, lk, _⟩ := FD.ex; ⟨oc, od, osl, lk⟩⟩
  have FD' : FunD K f f (defArgs st) (defBody st) (defScope st) [] [] (He.ga K f) fd := FD
  obtain ⟨oc, od, dV, kV, doc, pm, an, cdv, ct, osl, rfl, lk, hcd, _, _⟩ := FD'.ex
  have hcv : cdv = .ref (He.cT K (f, none)).1 := by
    obtain ⟨c, e⟩ := He.codeIn_ref hcd
    have e2 : He.codeOf K (f, none) = c := He.codeOf_eq (fd := PySem.W.fnOf f f (defArgs st) (defBody st) (defScope st) dV kV doc pm an cdv ct) lk (by rw [← e] <;> rfl)
    show cdv = .ref (He.codeOf K (f, none))
    rw [e2, e]
  refine fn_of lk hcd Sc (fun vs H Q E h => ?_) (fun A outer s H vs Q E hr h => ?_)
  · obtain ⟨c, G, s, ds, k, xq, _, _, _, rl, hf, _⟩ := h
    rw [rl.length]
    exact len ds s k xq hf
  · obtain ⟨t, h1, h2⟩ := hbody _ cdv A outer s H E hcv hr
    obtain ⟨c, G, s', ds, k, xq, hK, hT, R, rl, hf, hq, hx⟩ := h
    refine ⟨t, h1, ?_⟩
    refine h2 c xq hK hT (fun G' H' cn s2 R' hc => ?_) G (start_ N ds) s' (L2.start N vs) H (kBody k) _ (rel_start R rl) (hF ds s' k xq hf) ⟨fun G' H' env' s2 σ' R' e kk => ?_, fun G' H' s2 v r R' e rv kk => hq G' H' v r s2 R' rv kk, fun _ _ _ _ _ _ _ kk => kk.elim, fun _ _ _ _ _ _ _ kk => kk.elim⟩
    · exact hx G' H' cn s2 R' hc
    · exact hq G' H' .non (.val .non) s2 R'.bare (by simp only [RV, Rep]) kk
theorem Txt.def0 {b : Book} {P : Program} {w : World} {K : PySem.W.Frag} {mg : Str → Option Value} {base : Heap} {T : List (Addr × Str)} (X : Txt b K mg) (i j : Nat) {st : Stmt} {f : Str} {ps : List Str}
    (hd : b.fn[i]? = some ⟨(f, none), f, f, defArgs st, defBody st, defScope st, [], []⟩) (hg : b.fa[j]? = some (.glo f))
    (hbind : ∀ (kV doc pm : Value) (an : Option Addr) (cdv ct : Value) (us : List Value), us.length = ps.length → bindArgs (PySem.W.fnOf f f (defArgs st) (defBody st) (defScope st) .none kV doc pm an cdv ct) ⟨us, []⟩ = pure (ps.zip us)) :
    Def P w K mg base T f ps 0 (fun _ _ _ _ => False) := by
  obtain ⟨fd, FD⟩ := X.fun_ i hd
  refine ⟨He.ga K f, fd, X.glo j f hg, FD.kp, FD.bindsN hbind, ?_, let ⟨oc, od, _, _, _, _, _, _, _, osl, _, lk, _⟩ := FD.ex; ⟨oc, od, osl, lk⟩⟩
  exact ⟨fun vs H Q E h => by obtain ⟨c, G, s, ds, k, xq, _, _, _, rl, hf, _⟩ := h; exact hf.elim, fun A outer s H args us vs Q E hr he hb hv h => by obtain ⟨c, G, s, ds, k, xq, _, _, _, rl, hf, _⟩ := h; exact hf.elim⟩
theorem TBs.sx {b : Book} {X : Cx} {T : List (Addr × Str)} {k : Nat} (B : TBs b X.K X.mg X.base T X.prog) (hr : Room k X.A) (hk : 32 ≤ k := by decide) (h1 : X.env.scope.isGenerator = false := by rfl) (h2 : X.env.scope.isCoroutine = false := by rfl) (h3 : ∃ l, X.stack = X.env :: l := by exact ⟨_, rfl⟩) : SeerX X :=
  ⟨B.seer, h1, h2, h3, by have := hr.dp; have e : Builtin.pylongFrames = 100 := rfl; rw [e]; omega⟩
theorem ps_raiseD {b : Book} {X : Cx} (Tx : Txt b X.K X.mg) (i j : Nat) {C m : Str} {E : XK} {jj : Nat} {p p2 pos pos2 : Pos} (hx : b.fa[i]? = some (.exc C)) (hg0 : b.fa[j]? = some (.glo C)) (hc : X.calm = true) (tk : Takes X (fun cls d _ H => E cls d H)) (hg : Gl X C := by rfl) (hdb : (C == ("__debug__" : Str)) = false := by decide) :
    PS X (.Raise (some (.Call (.Name C p) [.Constant (.str m) jj p2] [] pos)) none pos2) (fun _ _ H => E (.ref (He.ga X.K C)) none H) := by
  obtain ⟨h1, h2, h3, h4⟩ := Tx.exc i C hx
  exact ps_raise hc tk (pmk_own PySem.F.excBase_ValueError h1 (Tx.glo j C hg0) h2 (raises_own h3 h4) hg hdb)
open Classical in
theorem only_at {K : PySem.W.Frag} {H : Hp} {a : Addr} {xs : List V} (hS : SqL K H a xs) : ∃ G : Hp, Ex G H ∧ (∀ p ps, G p ≠ some (.tbl ps)) ∧ SqL K G a xs := by
  refine ⟨fun p => if p = a ∧ ∀ ps, H a ≠ some (.tbl ps) then H a else none, fun p o hp => ?_, fun p ps hp => ?_, ?_⟩
  · dsimp only at hp
    split at hp
    · rename_i q; rw [q.1]; exact hp
    · cases hp
  · dsimp only at hp
    split at hp
    · rename_i q; exact q.2 ps hp
    · cases hp
  · rcases hS with (h | ⟨o, h⟩) | h
    · exact .inl (.inl (by dsimp only; rw [if_pos ⟨rfl, fun ps z => by rw [h] at z; cases z⟩]; exact h))
    · exact .inl (.inr ⟨o, by dsimp only; rw [if_pos ⟨rfl, fun ps z => by rw [h] at z; cases z⟩]; exact h⟩)
    · exact .inr h
theorem entry {K : PySem.W.Frag} {T : List (Addr × Str)} {H : Hp} {a : Addr} {ns : List Int} {F : Fn} (hT : ∀ p ∈ T, H p.1 = some (.tbl #[])) (hS : SqL K H a (ns.map V.int)) (h : F [.scr ns] none (fun r _ => r.d = .bl true) (fun _ _ => False)) : spD K T (He.ga K) F [.ref a] H (fun v _ => v = .bl true) fun _ _ _ => False := by
  obtain ⟨G, g1, g2, g3⟩ := only_at hS
  refine ⟨⟨K, none, noT H, G, T⟩, G, none, [.scr ns], _, _, rfl, rfl, ?_, RepL.one (by simp only [Rep]; exact ⟨a, rfl, g3⟩), h, fun G' H' v r s' R' rv kk => ?_, fun G' H' cn s' R' hx => hx⟩
  · exact { ex := g1, st := fun _ z => (by cases z), sn := fun _ => rfl, keep := fun _ _ h _ _ => (noT_some h).1, kn := fun _ h => noT_none h, h0n := fun p ps z => (noT_some z).2 ps rfl, tab := fun q hq => LamX.TabS.nil (hT q hq), gnew := fun _ _ _ h => h, gx := Evl.Ex.refl _, gtb := g2, len := rfl, vals := fun i d h => (by simp at h), owns := fun i d h => (by simp at h), dist := fun i j d e v h => (by simp at h) }
  · exact RV.bl (s := s') rv kk
theorem repL_ints {K : PySem.W.Frag} {G : Hp} : ∀ ns : List Int, RepL K G (ns.map D.int) (ns.map V.int)
  | [] => RepL.nil
  | n :: r => RepL.cons (by simp only [Rep]) (repL_ints r)
theorem de_tup0 {c : Cxt} {a : Addr} {ns : List Int} (h : ∀ H, SqT c.K H a (ns.map V.int)) : DE c (tC (.ref a)) (wC (.tup (ns.map D.int))) := de_c fun G => by
  simp only [Rep]
  exact ⟨a, _, rfl, h G, repL_ints ns⟩
end DL
set_option Elab.async false
set_option linter.all false
set_option maxRecDepth 100000
set_option maxHeartbeats 1000000
namespace DL
open PySem L2 PySem.Spec PyProof.Rows
open Evl (Ex)
section
variable {c : Cxt}
def wRevL (f : FP) : FE := fun env s k => f env s fun d env1 s1 => match d with
  | .lst ds => k (.own ds.reverse) env1 s1
  | _ => False
theorem de_revL {te : TE} {f : FP} (h : DP c te f) : DE c (tRevL c.K te) (wRevL f) := by
  intro G env s σ H k Q R hf q
  refine h G env s σ H _ _ R hf fun G1 H1 v d env1 s1 R1 e1 p1 k1 => ?_
  cases d with
  | lst ds =>
    obtain ⟨p, vs, rfl, h3, h4⟩ := p1
    refine ⟨p, vs, rfl, SqL.of h3, fun l hl => ?_⟩
    obtain ⟨R2, rv⟩ := R1.newOwn hl (RepL.reverse h4)
    exact q G1 _ _ (.own ds.reverse) env1 s1 R2 e1 rv k1
  | _ => exact k1.elim
abbrev Cxt.h1 (c : Cxt) (H0 G0 : Hp) : Cxt := { c with H0 := H0, G0 := G0 }
def wCompB (i : Nat) (fg : FG) (ft : FT) (fe : FE) (vs : List Nat) : FE := fun env s k => match at_ env i with
  | .own ds => wComp (fun env s k => k ds env s) fg ft fe vs (env.set i .no) s fun r env2 s2 => k r (env2.set i (.own ds)) s2
  | _ => wComp (wIt (wV i)) fg ft fe vs env s k
theorem de_compB {i : Nat} {g : TG} {fg : FG} {tt : TT} {ft : FT} {te : TE} {fe : FE} {vs : List Nat} (hg : ∀ H0 G0, DG (c.h1 H0 G0) g fg) (ht : ∀ H0 G0, DT (c.h1 H0 G0) tt ft) (he : ∀ H0 G0, DE (c.h1 H0 G0) te fe) (hw : GW g vs) :
    DE c (tLc (iList c.K (tVar i)) g tt te vs) (wCompB i fg ft fe vs) := by
  intro G env s σ H k Q R hf q
  unfold wCompB at hf
  cases ei : at_ env i with
  | own ds =>
    rw [ei] at hf
    have hi := at_val ei (by simp)
    have hil : i < env.length := by
      rcases Nat.lt_or_ge i env.length with h | h
      · exact h
      · rw [List.getElem?_eq_none h] at hi; cases hi
    obtain ⟨v, e1, p, us, rfl, g0, h0, a0, hp, hr⟩ := R.owns i ds hi
    have get : ∀ {j : Nat} {x : Sl}, (env.set i .no)[j]? = some x → x ≠ .no → j ≠ i ∧ env[j]? = some x := fun {j x} h hx => by
      by_cases hb : i = j
      · subst hb
        rw [List.getElem?_set_self hil] at h
        cases h
        exact absurd rfl hx
      · rw [List.getElem?_set_ne hb] at h
        exact ⟨fun e => hb e.symm, h⟩
    have c0 : ∀ q, c.H0 q ≠ none → G q = none → True := fun _ _ _ => trivial
    have R0 : Rel c G (env.set i .no) s σ H := { R with
      len := by rw [List.length_set]; exact R.len
      vals := fun j d hj => R.vals j d (get hj (by simp)).2
      owns := fun j es hj => R.owns j es (get hj (by simp)).2
      dist := fun j j' es es' v h1 h2 => R.dist j j' es es' v (get h1 (by simp)).2 (get h2 (by simp)).2 }
    have ap : Apart (env.set i .no) σ (.ref p) := fun j es h1 h2 => by
      obtain ⟨n1, n2⟩ := get h1 (by simp)
      exact n1 (R.dist j i es ds _ n2 hi h2 e1)
    have Rh := R0.hide hp g0 h0 ap
    have R1 : Rel (c.h1 (upd c.H0 p (.lst us)) G) G (env.set i .no) s σ H := { Rh with
      gnew := fun q _ _ h => h
      gx := Ex.refl G }
    have DC : DI (c.h1 (upd c.H0 p (.lst us)) G) (fun σ' H' Rr => Rr (Itl c.K p) H') (fun env s k => k ds env s) := fun G' env' s' σ' H' k' Rr R' hf' q' => by
      have keepP : ∀ (H0 : {h : Hp // Ex (upd c.H0 p (.lst us)) h}) G' H' env' s' σ', Rel ((c.h1 (upd c.H0 p (.lst us)) G).h0 H0.1) G' env' s' σ' H' → SqL c.K H' p us := fun H0 G' H' env' s' σ' R' =>
        SqL.of (R'.keep p _ (H0.2 p _ upd_same) a0 (fun _ z => by cases z))
      exact q' G' H' _ ds env' s' R' (Ex.refl G') (wk_at (c := c.h1 (upd c.H0 p (.lst us)) G) (RepL.mono R'.gx ds hr) (walk_list (K := c.K)) fun H0 G' H' _ _ _ R' _ => keepP H0 G' H' _ _ _ R') hf'
    have main := de_comp (c := c.h1 (upd c.H0 p (.lst us)) G) DC (fun H0 => hg H0 G) (fun H0 => ht H0 G) (fun H0 => he H0 G) hw
    have fin := main G (env.set i .no) s σ H _ Q R1 hf fun G2 H2 v r env2 s2 R2 e2 rv2 k2 => by
      have hp2 : H2 p = some (.lst us) := R2.keep p _ upd_same a0 (fun _ z => by cases z)
      have hg2 : G2 p = none := R2.gnew p us (by show upd c.H0 p _ p = some (.lst us); rw [upd_same]) g0
      have ap2 : Apart env2 σ (.ref p) := fun j es h1 h2 => by
        obtain ⟨w, n1, q, us', rfl, n3, n4, _⟩ := R2.owns j es h1
        rw [n1] at h2
        cases h2
        have n4' : upd c.H0 p (.lst us) p = none := n4
        rw [upd_same] at n4'
        cases n4'
      have R2' : Rel (c.h0 (upd c.H0 p (.lst us))) G2 env2 s2 σ H2 := { R2 with
        gnew := fun q ws h1 h2 => R2.gnew q ws h1 (Rh.gnew q ws h1 h2)
        gx := R.gx.trans R2.gx }
      have R3 : Rel c G2 env2 s2 σ H2 := R2'.unhide h0
      have hil2 : i < env2.length := by rw [R3.len, ← R.len]; exact hil
      have get2 : ∀ {j : Nat} {x : Sl}, (env2.set i (.own ds))[j]? = some x → (j = i ∧ x = .own ds) ∨ (j ≠ i ∧ env2[j]? = some x) := fun {j x} h => by
        by_cases hb : i = j
        · subst hb
          rw [List.getElem?_set_self hil2] at h
          cases h
          exact .inl ⟨rfl, rfl⟩
        · rw [List.getElem?_set_ne hb] at h
          exact .inr ⟨fun e => hb e.symm, h⟩
      have R4 : Rel c G2 (env2.set i (.own ds)) s2 σ H2 := { R3 with
        len := by rw [List.length_set]; exact R3.len
        vals := fun j d hj => by
          rcases get2 hj with ⟨_, h⟩ | ⟨_, h⟩
          · cases h
          · exact R3.vals j d h
        owns := fun j es hj => by
          rcases get2 hj with ⟨h1, h⟩ | ⟨_, h⟩
          · cases h
            subst h1
            exact ⟨_, e1, p, us, rfl, hg2, h0, a0, hp2, RepL.mono e2 ds hr⟩
          · exact R3.owns j es h
        dist := fun j j' es es' v h1 h2 h3 h4 => by
          rcases get2 h1 with ⟨a1, _⟩ | ⟨a1, b1⟩
          · rcases get2 h2 with ⟨a2, _⟩ | ⟨a2, b2⟩
            · rw [a1, a2]
            · subst a1
              rw [e1] at h3
              cases h3
              exact absurd h4 (ap2 j' es' b2)
          · rcases get2 h2 with ⟨a2, _⟩ | ⟨a2, b2⟩
            · subst a2
              rw [e1] at h4
              cases h4
              exact absurd h3 (ap2 j es b1)
            · exact R3.dist j j' es es' v b1 b2 h3 h4 }
      refine q G2 H2 v r _ s2 R4 e2 ?_ k2
      cases r with
      | no => exact rv2.elim
      | val d => exact rv2
      | own es =>
        obtain ⟨⟨q', ws, rfl, m2, m3, m4, m5, m6⟩, m7⟩ := rv2
        have hne : q' ≠ p := fun z => by
          have m3' : upd c.H0 p (.lst us) q' = none := m3
          rw [z, upd_same] at m3'
          cases m3'
        have m3' : c.H0 q' = none := by
          have h : upd c.H0 p (.lst us) q' = none := m3
          rwa [upd_ne hne] at h
        refine ⟨⟨q', ws, rfl, m2, m3', m4, m5, m6⟩, fun j fs h1 h2 => ?_⟩
        rcases get2 h1 with ⟨a1, _⟩ | ⟨_, b1⟩
        · subst a1
          rw [e1] at h2
          cases h2
          exact hne rfl
        · exact m7 j fs b1 h2
    exact ⟨.ref p, e1, p, rfl, ⟨us, SqL.of hp⟩, fin⟩
  | no =>
    rw [ei] at hf
    exact de_comp (di_list (de_var i)) (fun H0 => hg H0 c.G0) (fun H0 => ht H0 c.G0) (fun H0 => he H0 c.G0) hw G env s σ H k Q R hf q
  | val d =>
    rw [ei] at hf
    exact de_comp (di_list (de_var i)) (fun H0 => hg H0 c.G0) (fun H0 => ht H0 c.G0) (fun H0 => he H0 c.G0) hw G env s σ H k Q R hf q
def gIn : F2 := fun d e k => match e with
  | .lst ds => (EqOk d ∧ EqOk (.lst ds)) ∧ k (.val (.bl (ds.any fun z => z.eqv d)))
  | _ => False
def gNotIn : F2 := fun d e k => match e with
  | .lst ds => (EqOk d ∧ EqOk (.lst ds)) ∧ k (.val (.bl (!ds.any fun z => z.eqv d)))
  | _ => False
end
def rEqE (K : PySem.W.Frag) : R2 := fun x y H Q => (∃ a b xs, x = .ref a ∧ y = .ref b ∧ SqL K H a xs ∧ SqL K H b [] ∧ Q (.bl xs.isEmpty) H) ∨ rEqD K x y H Q
def rNeE (K : PySem.W.Frag) : R2 := fun x y H Q => (∃ a b xs, x = .ref a ∧ y = .ref b ∧ SqL K H a xs ∧ SqL K H b [] ∧ Q (.bl (!xs.isEmpty)) H) ∨ rNeD K x y H Q
section
variable {X : Cx}
theorem op_eqE (hu : X.A.units + 64 < cLine) : OpR X (compareOp .Eq) (rEqE X.K) := by
  intro pins s σ H x y v u Q I rx ry h
  rcases h with ⟨a, b, xs, rfl, rfl, h1, h2, q⟩ | h
  · cases rx
    cases ry
    obtain ⟨its, r1, p1, _⟩ := I.list h1
    obtain ⟨its2, r2, p2, _⟩ := I.list h2
    have e2 : its2 = [] := by cases r2; rfl
    subst e2
    by_cases hx : xs = []
    · subst hx
      have e1 : its = [] := by cases r1; rfl
      subst e1
      exact SeqAt.RcAt.lists (e := fun _ => true) p1.isList p2.isList rfl (by omega) (fun j h1 => absurd h1 (by simp)) _ _ _ _ ⟨.bl _, H, I, rfl, q⟩
    · have hl : its.length ≠ 0 := by
        rw [← r1.length]
        simpa using hx
      have e : xs.isEmpty = false := by simpa using hx
      rw [e] at q
      exact SeqAt.RcAt.lists_lengths p1.isList p2.isList (by simpa using hl) (by omega) _ _ _ _ ⟨.bl _, H, I, rfl, q⟩
  · exact op_eqD hu pins s σ H x y v u Q I rx ry h
theorem op_neE (hu : X.A.units + 64 < cLine) : OpR X (compareOp .NotEq) (rNeE X.K) := by
  intro pins s σ H x y v u Q I rx ry h
  rcases h with ⟨a, b, xs, rfl, rfl, h1, h2, q⟩ | h
  · cases rx
    cases ry
    obtain ⟨its, r1, p1, _⟩ := I.list h1
    obtain ⟨its2, r2, p2, _⟩ := I.list h2
    have e2 : its2 = [] := by cases r2; rfl
    subst e2
    by_cases hx : xs = []
    · subst hx
      have e1 : its = [] := by cases r1; rfl
      subst e1
      exact SeqAt.RcNeAt.lists (e := fun _ => true) p1.isList p2.isList rfl (by omega) (fun j h1 => absurd h1 (by simp)) _ _ _ _ ⟨.bl _, H, I, rfl, q⟩
    · have hl : its.length ≠ 0 := by
        rw [← r1.length]
        simpa using hx
      have e : xs.isEmpty = false := by simpa using hx
      rw [e] at q
      exact SeqAt.RcNeAt.lists_lengths p1.isList p2.isList (by simpa using hl) (by omega) _ _ _ _ ⟨.bl _, H, I, rfl, q⟩
  · exact op_neD hu pins s σ H x y v u Q I rx ry h
end
def gEqE : F2 := fun d e k => match d, e with
  | .lst ds, .lst [] => k (.val (.bl ds.isEmpty))
  | d, e => (EqOk d ∧ EqOk e) ∧ k (.val (.bl (d.eqv e)))
def gNeE : F2 := fun d e k => match d, e with
  | .lst ds, .lst [] => k (.val (.bl (!ds.isEmpty)))
  | d, e => (EqOk d ∧ EqOk e) ∧ k (.val (.bl (!d.eqv e)))
section
variable {c : Cxt}
theorem repL_empty {K : PySem.W.Frag} {G : Hp} {ds : List D} {vs : List V} (h : RepL K G ds vs) : vs.isEmpty = ds.isEmpty := by
  have := h.length
  cases ds <;> cases vs <;> simp at this ⊢
theorem d2_eqE : D2 c (rEqE c.K) gEqE := by
  intro G env s σ H x y d e k Q R p1 p2 h q
  unfold gEqE at h
  split at h
  · obtain ⟨p, vs, rfl, h3, h4⟩ := p1
    obtain ⟨p', vs', rfl, h3', h4'⟩ := p2
    have e : vs' = [] := by simpa only [RepL] using h4'
    subst e
    refine .inl ⟨p, p', vs, rfl, rfl, SqL.of h3, SqL.of h3', ?_⟩
    rw [repL_empty h4]
    exact q G H _ (.val (.bl _)) R (Ex.refl G) (by simp only [RV, Rep]) h
  · obtain ⟨⟨h1, h2⟩, h3⟩ := h
    exact .inr ⟨_, _, PR.dp R p1 h1, PR.dp R p2 h2, h1, h2, q G H _ (.val (.bl _)) R (Ex.refl G) (by simp only [RV, Rep]; rfl) h3⟩
theorem d2_neE : D2 c (rNeE c.K) gNeE := by
  intro G env s σ H x y d e k Q R p1 p2 h q
  unfold gNeE at h
  split at h
  · obtain ⟨p, vs, rfl, h3, h4⟩ := p1
    obtain ⟨p', vs', rfl, h3', h4'⟩ := p2
    have e : vs' = [] := by simpa only [RepL] using h4'
    subst e
    refine .inl ⟨p, p', vs, rfl, rfl, SqL.of h3, SqL.of h3', ?_⟩
    rw [repL_empty h4]
    exact q G H _ (.val (.bl _)) R (Ex.refl G) (by simp only [RV, Rep]) h
  · obtain ⟨⟨h1, h2⟩, h3⟩ := h
    exact .inr ⟨_, _, PR.dp R p1 h1, PR.dp R p2 h2, h1, h2, q G H _ (.val (.bl _)) R (Ex.refl G) (by simp only [RV, Rep]; rfl) h3⟩
end
section
variable {X : Cx}
variable (K : PySem.W.Frag)
theorem eqE_K (hu : X.A.units + 64 < cLine) (hK : X.K = K := by rfl) : OpR X (compareOp .Eq) (rEqE K) := by subst hK; exact op_eqE hu
theorem neE_K (hu : X.A.units + 64 < cLine) (hK : X.K = K := by rfl) : OpR X (compareOp .NotEq) (rNeE K) := by subst hK; exact op_neE hu
theorem pe_revK {e : Expr} {te : TE} {k : Nat} {p1 p2 p3 pos : Pos} (he : PE X e te) (hK : X.K = K := by rfl) : PE X (.Subscript e (.Slice none none (some (.UnaryOp .USub (.Constant (.int 1) k p1) p2)) p3) pos) (tRevL K te) := by subst hK; exact pe_revL he
end
end DL
set_option Elab.async false
set_option linter.all false
set_option maxRecDepth 100000
set_option maxHeartbeats 2000000
namespace DL
open PySem L2 PySem.Spec PyProof.Rows
open Evl (Ex)
section
variable {X : Cx} {pins : List (Addr × Obj)} {σ : L2.St} {H : Hp} {s : Shared}
theorem errO_ok {P : Program} {w : World} {h : Heap} {a : Addr} {cls : Value} {o : Obj} {us : Array Value} (e : h.get? a = some o) (z : Zc cls none o) (d : o.data = .fields us) : ObjOk P w H h a (ErrO a cls) :=
  ⟨⟨o, us, e, z, d⟩, ⟨o, e⟩, fun _ _ ⟨o2, v, q, r⟩ k => ⟨o2, v, k o2 q, r⟩⟩
theorem track {a : Addr} {φ : Heap → Prop} (I : Inv X pins σ H s) (hn : H a = none) (n0 : X.s_0.heap.get? a = none) (nL : a ≠ X.env.locals) (nC : ∀ y q, X.env.cells.lookup y = some q → q ≠ a) (nP : ∀ p ∈ X.pn ++ pins, p.1 ≠ a)
    (new : ObjOk X.prog X.w H s.heap a (.ext φ)) : Inv X pins σ (upd H a (.ext φ)) s := by
  have old : ∀ b o, X.s_0.heap.get? b = some o → b ≠ a := fun b o e z => by rw [z, n0] at e; cases e
  have ne : ∀ b o, H b = some o → b ≠ a := fun b o e => ne_of_none e hn
  refine { I with base := ?_, free := ?_, freeC := ?_, pin := ?_, hok := ?_ }
  · exact { I.base with
      free := fun b o e n hx => by rw [upd_ne (old b o e)]; exact I.base.free b o e n hx
      tups := fun b xs e => by have q := I.base.tups b xs e; rw [upd_ne (ne _ _ q)]; exact q
      frzs := fun b o u e => by have q := I.base.frzs b o u e; rw [upd_ne (ne _ _ q)]; exact q
      tbls := fun b ps e => by obtain ⟨m, q⟩ := I.base.tbls b ps e; exact ⟨m, by rw [upd_ne (ne _ _ q)]; exact q⟩ }
  · rw [upd_ne (Ne.symm nL)]; exact I.free
  · intro y q e
    rw [upd_ne (nC y q e)]; exact I.freeC y q e
  · intro p hp
    obtain ⟨p1, p2, p3⟩ := I.pin p hp
    exact ⟨p1, by rw [upd_ne (nP p hp)]; exact p2, p3⟩
  · intro b u e
    by_cases hb : b = a
    · subst hb
      rw [upd_same] at e
      cases e
      exact new
    · rw [upd_ne hb] at e
      exact (I.hok b u e).stay (fun _ _ _ q => q) (fun b' q => by rw [upd_ne (ne _ _ q)]; exact q) fun b' _ q => by rw [upd_ne (ne _ _ q)]; exact q
end
def wErr (K : PySem.W.Frag) (c : Value) (i j n : Nat) (D : Ends) : WX := fun cls d σ H =>
  PySem.W.exmOne K cls c = some true ∧ d = none ∧ ∀ a, H a = none → σ.length = n → D.nx (((σ.set i (some (.ref a))).set j (some (.ref a))).set i none) (upd H a (ErrO a cls))
section
variable {X : Cx} {x n m : Str} {c : Value} {i j : Nat} {body : List Stmt} {p1 p2 p3 p4 p5 p6 : Pos} {tb : WX → TS}
theorem ps_try_err (hs : X.stack = X.env :: X.outer) (hf : X.env.frame = some X.env.locals) (hN : X.N.Nodup) (hi : X.N[i]? = some n) (hj : X.N[j]? = some m) (hln : X.env.kindOf n = some .local) (hlm : X.env.kindOf m = some .local) (hx0 : X.ex = []) (hc : Names X x c)
    (hdn : (n == ("__debug__" : Str)) = false) (hcn : (n == ("__classdict__" : Str)) = false)
    (hb : ∀ (W : WX) (pn : List (Addr × Obj)) (xe : Value → Shared → Prop), Takes (X.tr pn xe) W → PassesOwn (model X.prog X.w) X.A X.env xe → PSs (X.tr pn xe) body (tb W)) :
    PS X (.Try body [.ExceptHandler (some (.Name x p1)) (some n) [.Assign [.Name m p2] (.Name n p3) p4] p5] [] [] p6) (fun D σ H => tb (wErr X.K c i j X.N.length D) D σ H) := by
  refine ⟨fun pins st σ H D I start => wpAny_Try_except ?_⟩
  have ok := I.ok
  have frames : X.A.frames = some (X.env :: X.outer) := by rw [ok.frames, hs]
  let back : Value → Shared → Prop := fun u t1 => wpAny (model X.prog X.w) X.A (noteFrame u X.env) (fun _ t2 => wpAny (model X.prog X.w) X.A (setFlight u none)
    (fun _ t3 => wpAny (model X.prog X.w) X.A (handleBy u X.env [.ExceptHandler (some (.Name x p1)) (some n) [.Assign [.Name m p2] (.Name n p3) p4] p5]) (SP X pins D) X.xe t3) X.xe t2) X.xe t1
  have caught : Takes (X.tr (X.pn ++ pins) back) (wErr X.K c i j X.N.length D) := by
    rintro u t1 ⟨a, B, t0, qs, σ1, H1, cls, d, rfl, J0, inB, slots, sky, na, sameOs, gens, hm, rfl, hnx⟩
    have J1 : Inv X pins σ1 H1 t0 := J0.ofTry ok
    show back (.ref a) t1
    refine Sky.land Zc.steady frames hf (by rw [← hs]; exact sky) fun h1 fly1 up1 => ?_
    have J2 : Inv X pins σ1 H1 { t1 with heap := h1 } := J1.landed inB fly1.1 (slots.trans up1) sameOs gens
    obtain ⟨o1, f1, at1, z1, d1⟩ := fly1.there
    have notFrame : a ∉ frs (X.env :: X.outer) := fun hm => by
      obtain ⟨_, o2, e2, nf⟩ := fly1.2.2.1.mem hm
      rw [at1] at e2
      cases e2
      exact nf _ d1
    have nL : a ≠ X.env.locals := fun z => notFrame (List.mem_filterMap.mpr ⟨X.env, List.mem_cons_self, by rw [hf, z]⟩)
    have nF : a ∉ X.fs := fun hm => by
      obtain ⟨e, he, q⟩ := List.mem_filterMap.mp hm
      exact notFrame (List.mem_filterMap.mpr ⟨e, List.mem_cons_of_mem _ he, q⟩)
    have new0 : t0.heap.get? a = none := by
      cases q : t0.heap.get? a with
      | none => rfl
      | some o =>
        have z := inB a o q (by rw [hs]; exact notFrame)
        rw [fly1.2.1] at z
        cases z
    have newS : X.s_0.heap.get? a = none := by
      cases q : X.s_0.heap.get? a with
      | none => rfl
      | some o =>
        obtain ⟨o', e⟩ := J1.base.there a o q (by rw [hx0]; exact fun z => nomatch z)
        rw [new0] at e
        cases e
    refine wpAny_handleBy_cons (codeAny_handlers_test ?_) (fun q => nomatch q)
    have S1 := J2.suite at1 d1 na nL nF
    have ask : ∀ {Q E : Value → Shared → Prop}, Q c { t1 with heap := h1 } → wpAny (model X.prog X.w) (X.A.mark (some (.ref a))) (eval (.Name x p1) X.env) Q E { t1 with heap := h1 } := fun {Q E} q => by
      obtain ⟨g1, g2, g3 | ⟨g3, g4, g5⟩⟩ := hc
      · exact ld_glob (X := X.suite a ((a, o1) :: (X.pn ++ pins))) S1 g1 g3 q g2
      · exact ld_blt (X := X.suite a ((a, o1) :: (X.pn ++ pins))) S1 g1 g3 g4 q g5 g2
    have LT : PySem.W.Looks (model X.prog X.w) h1 (typeOf (.ref a)) cls := fun A Q E t k q => wpAny_typeOf_ref (k _ _ at1) (by rw [z1.1]; exact q)
    refine ask ((PySem.W.exm_one (M := model X.prog X.w) J2.kIn LT hm).here ?_)
    refine codeAny_handlers_suite_as (HandSPX.lands_againZ fly1 fun h2 fly2 up2 => ?_)
    have J3 : Inv X pins σ1 H1 { t1 with heap := h2 } := J1.landed inB fly2.1 ((slots.trans up1).trans up2) sameOs gens
    obtain ⟨o2, f2, at2, z2, d2⟩ := fly2.there
    have S2 := J3.suite at2 d2 na nL nF
    refine store_ok (X := X.suite a ((a, o2) :: (X.pn ++ pins))) (v := .ref a) S2 hN hi (.inl hln) rfl (fun t4 S4 => ?_) (.inr hln)
    have il : i < σ1.length := by rw [J1.len]; exact (List.getElem?_eq_some_iff.mp hi).1
    have suite : PSs (X.suite a ((a, o2) :: (X.pn ++ pins))) [.Assign [.Name m p2] (.Name n p3) p4] (tAsg (tVar i) (gName j)) :=
      pss_one (ps_set (i := j) hN hj (.inl hlm) (pe_var (i := i) hi (.inl hln) hdn hcn) (by rfl) (.inr hlm))
    refine wpAny_mono (suite.run [] t4 (σ1.set i (some (.ref a))) H1 { nx := fun σ' H' => σ' = (σ1.set i (some (.ref a))).set j (some (.ref a)) ∧ H' = H1, rt := fun _ _ => False } S4 ⟨.ref a, List.getElem?_set_self il, rfl, rfl⟩) (fun fl t5 hsp => ?_) (fun _ _ z => False.elim z)
    cases fl with
    | next =>
      obtain ⟨σ5, H5, S5, rfl, rfl⟩ := hsp
      obtain ⟨at5, n5, _⟩ := S5.pin (a, o2) (List.mem_append.mpr (.inl List.mem_cons_self))
      have J5 : Inv X pins _ H5 t5 := S5.unsuite ok
      have J6 : Inv X pins ((σ1.set i (some (.ref a))).set j (some (.ref a))) (upd H5 a (ErrO a cls)) t5 := track J5 n5 newS nL
        (fun y q e z => by
          obtain ⟨v, ob, ho, _⟩ := J1.cell y q e
          rw [z, new0] at ho
          cases ho)
        (fun p hp z => by
          have h1 := (J1.pin p hp).1
          rw [z, new0] at h1
          cases h1) (errO_ok at5 z2 d2)
      exact gone_ok J6 hN hi hln fun t7 J7 => ⟨_, _, J7, hnx a n5 J1.len⟩
    | brk => obtain ⟨_, _, _, z⟩ := hsp; exact z.elim
    | cont => obtain ⟨_, _, _, z⟩ := hsp; exact z.elim
    | ret u => obtain ⟨_, _, _, _, _, z⟩ := hsp; exact z.elim
  refine wpAny_mono ((hb (wErr X.K c i j X.N.length D) (X.pn ++ pins) back caught PassesOwn.looking).run [] st σ H D (I.toTry _) start) (fun fl t1 hsp => ?_) (fun _ _ z => z)
  cases fl with
  | next => obtain ⟨σ', H', J, q⟩ := hsp; exact wpAny_execs_nil ⟨σ', H', J.ofTry ok, q⟩
  | brk => obtain ⟨σ', H', J, q⟩ := hsp; exact ⟨σ', H', J.ofTry ok, q⟩
  | cont => obtain ⟨σ', H', J, q⟩ := hsp; exact ⟨σ', H', J.ofTry ok, q⟩
  | ret u => obtain ⟨v, σ', H', J, r, q⟩ := hsp; exact ⟨v, σ', H', J.ofTry ok, r, q⟩
end
def idx9 (x : Str) : Option Int := (nine.findIdx? fun y => x == y).map fun n => (n : Int)
structure ErrF (K : PySem.W.Frag) : Prop where
  c : ∀ x ∈ nine, ExcC K (He.ga K x)
  no : ∀ y ∈ nine, PySem.W.kitOne K (.type "NoneType") (.ref (He.ga K y)) = some false
  kit : ∀ x ∈ nine, ∀ y ∈ nine, PySem.W.kitOne K (.ref (He.ga K x)) (.ref (He.ga K y)) = some (x == y)
  ve : ∀ x ∈ nine, PySem.W.kitOne K (.ref (He.ga K x)) (.type "ValueError") = some true
  ex : ∀ x ∈ nine, PySem.W.exmOne K (.ref (He.ga K x)) (.ref (He.ga K "MomentError")) = some true
theorem errB_ok {K : PySem.W.Frag} (h : errB K = true) : ErrF K := by
  have h' := List.all_eq_true.mp h
  have p := fun x hx => He.ba (h' x hx)
  have p2 := fun x hx => He.ba (p x hx).2
  have p3 := fun x hx => He.ba (p2 x hx).2
  have p4 := fun x hx => He.ba (p3 x hx).2
  refine ⟨fun x hx => ?_, fun x hx => of_decide_eq_true (p2 x hx).1, fun x hx y hy => of_decide_eq_true (List.all_eq_true.mp (p3 x hx).1 y hy), fun x hx => of_decide_eq_true (p4 x hx).1, fun x hx => of_decide_eq_true (p4 x hx).2⟩
  obtain ⟨a1, b1⟩ := He.ba (p x hx).1
  obtain ⟨a2, b2⟩ := He.ba b1
  obtain ⟨a3, b3⟩ := He.ba b2
  obtain ⟨a4, b4⟩ := He.ba b3
  obtain ⟨a5, b5⟩ := He.ba b4
  obtain ⟨a6, b6⟩ := He.ba b5
  obtain ⟨a7, a8⟩ := He.ba b6
  exact ⟨of_decide_eq_true a1, of_decide_eq_true a2, of_decide_eq_true a3, a4, of_decide_eq_true a5, of_decide_eq_true a6, of_decide_eq_true a7, of_decide_eq_true a8⟩
def rIsErr (K : PySem.W.Frag) (y : V) (u : Value) : List V → Hp → VK → Prop := fun xs H Q => ∃ (x : V) (b : Bool), xs = [x, y] ∧ ClsV y u ∧
  ((x = .non ∧ PySem.W.kitOne K (.type "NoneType") u = some b) ∨ ∃ a C, x = .ref a ∧ H a = some (ErrO a (.ref C)) ∧ ExcC K C ∧ PySem.W.kitOne K (.ref C) u = some b) ∧ Q (.bl b) H
theorem call_isErr {X : Cx} {y : V} {u : Value} : CallR X (.builtin "isinstance") (rIsErr X.K y u) := by
  intro pins s σ H xs us Q I r h
  obtain ⟨x, b, rfl, k, hx, q⟩ := h
  obtain ⟨u1, u2, rfl, r1, r2⟩ := vals2 r
  have e2 := k.eq r2
  subst e2
  rcases hx with ⟨rfl, e⟩ | ⟨a, C, rfl, hH, Cc, e⟩
  · obtain ⟨P, Z, p, hx⟩ := kit_of (t := .type "NoneType") I r1 (.base .non)
    exact PySem.W.kia_one Z I.kIn p e hx fun tk => ⟨.bl b, H, I.tok tk, rfl, q⟩
  · cases (show u1 = Value.ref a from r1)
    obtain ⟨⟨o, vs, e1, z, d1⟩, _⟩ := (show ObjOk X.prog X.w H s.heap a (ErrO a (.ref C)) from I.hok a _ hH)
    have J : PySem.W.InstAt s.heap a o C none := by
      obtain ⟨oc, od, dt, osl⟩ := o
      obtain ⟨z1, z2⟩ := z
      dsimp only at z1 z2 d1
      subst z1 z2 d1
      exact ⟨e1, rfl, rfl, trivial⟩
    exact PySem.W.kia_one (PySem.W.handS_kitx_exc Cc.hg Cc.hk Cc.hs Cc.hd Cc.ha Cc.hn Cc.ht Cc.hm) I.kIn J e (fun z => nomatch z) fun tk => ⟨.bl b, H, I.tok tk, rfl, q⟩
theorem pe_isErr (K : PySem.W.Frag) {X : Cx} {y : V} (u : Value) {e e2 : Expr} {te : TE} {p pos : Pos} (hi : X.mg "isinstance" = none) (ha : PE X e te) (hb : PE X e2 (tC y)) (hK : X.K = K := by rfl) (hg : Gl X "isinstance" := by rfl)
    (he : starEach [e, e2] X.env = (false, eval e X.env) :: starEach [e2] X.env := by rfl) (hs2 : starEach [e2] X.env = (false, eval e2 X.env) :: starEach [] X.env := by rfl) (hpl : (backTo pos (starEach [e2] X.env)).any (·.1) = false := by rfl) :
    PE X (.Call (.Name "isinstance" p) [e, e2] [] pos) (tCB (rIsErr K y u) (tCons te (tCons (tC y) tNil))) := by
  subst hK
  exact pe_callB call_isErr hg hi boot_isinstance (pa_cons ha (pa_cons hb pa_nil hs2) he) (he := he) (hpl := hpl)
def wIsE (j : Nat) (x : Str) : FE := fun env s k => match at_ env j with
  | .val .non => k (.val (.bl false)) env s
  | .val (.exc y) => y ∈ nine ∧ k (.val (.bl (y == x))) env s
  | _ => False
def wIsV (j : Nat) : FE := fun env s k => match at_ env j with
  | .val .non => k (.val (.bl false)) env s
  | .val (.exc y) => y ∈ nine ∧ k (.val (.bl true)) env s
  | _ => False
section
variable {c : Cxt}
theorem de_isErr {j : Nat} {f : FE} {y : V} {u : Value} (ky : ClsV y u) (hf : ∀ env s k, f env s k → (at_ env j = .val .non ∧ PySem.W.kitOne c.K (.type "NoneType") u = some false ∧ k (.val (.bl false)) env s) ∨
    ∃ x b, at_ env j = .val (.exc x) ∧ ExcC c.K (He.ga c.K x) ∧ PySem.W.kitOne c.K (.ref (He.ga c.K x)) u = some b ∧ k (.val (.bl b)) env s) : DE c (tCB (rIsErr c.K y u) (tCons (tVar j) (tCons (tC y) tNil))) f := by
  intro G env s σ H k Q R h q
  rcases hf env s k h with ⟨e1, e2, e3⟩ | ⟨x, b, e1, e2, e3, e4⟩
  · obtain ⟨v, h1, h2⟩ := R.vals j _ (at_val e1 (by simp))
    simp only [Rep] at h2
    subst h2
    exact ⟨_, h1, .non, false, rfl, ky, .inl ⟨rfl, e2⟩, q G H _ (.val (.bl false)) env s R (Ex.refl G) (by simp only [RV, Rep]) e3⟩
  · obtain ⟨v, h1, h2⟩ := R.vals j _ (at_val e1 (by simp))
    simp only [Rep] at h2
    obtain ⟨p, rfl, h3⟩ := h2
    exact ⟨_, h1, .ref p, b, rfl, ky, .inr ⟨p, _, rfl, R.ex _ _ h3, e2, e3⟩, q G H _ (.val (.bl b)) env s R (Ex.refl G) (by simp only [RV, Rep]) e4⟩
theorem de_isE {j : Nat} {x : Str} (E : ErrF c.K) (hx : x ∈ nine) : DE c (tCB (rIsErr c.K (.ref (He.ga c.K x)) (.ref (He.ga c.K x))) (tCons (tVar j) (tCons (tC (.ref (He.ga c.K x))) tNil))) (wIsE j x) :=
  de_isErr (.own _) fun env s k h => by
    unfold wIsE at h
    split at h
    · rename_i e; exact .inl ⟨e, E.no x hx, h⟩
    · rename_i y e; exact .inr ⟨y, _, e, E.c y h.1, E.kit y h.1 x hx, h.2⟩
    · exact h.elim
theorem kit_noVE {K : PySem.W.Frag} : PySem.W.kitOne K (.type "NoneType") (.type "ValueError") = some false := kit_ty (by decide +kernel)
theorem de_isV {j : Nat} (E : ErrF c.K) : DE c (tCB (rIsErr c.K (.ty "ValueError") (.type "ValueError")) (tCons (tVar j) (tCons (tC (.ty "ValueError")) tNil))) (wIsV j) :=
  de_isErr (.ty _) fun env s k h => by
    unfold wIsV at h
    split at h
    · rename_i e; exact .inl ⟨e, kit_noVE, h⟩
    · rename_i y e; exact .inr ⟨y, _, e, E.c y h.1, E.ve y h.1, h.2⟩
    · exact h.elim
end
def TTref (K : PySem.W.Frag) (T : List (Addr × Str)) : (XK → Hp → VK → Prop) → Hp → VK → Prop := fun tl H Q => ∃ (c : Cxt) (G : Hp) (s0 : S) (k : Sl → S → Prop), c.K = K ∧ c.T = T ∧ Rel c G [] s0 [] H ∧
  (∀ G' H' v r s', Rel c G' [] s' [] H' → RV c G' H' [] [] v r → k r s' → Q v H') ∧
  ∀ (Ech : XK) (Qn : VK), (∀ G' H' x i s', Rel c G' [] s' [] H' → idx9 x = some i → k (.own [.int i]) s' → Ech (.ref (He.ga K x)) none H') → (∀ G' H' v s', Rel c G' [] s' [] H' → k (.val .non) s' → Qn v H') → tl Ech H Qn
def blank : EnvD → EnvD
  | [] => []
  | _ :: r => .no :: blank r
def pick (env : EnvD) : List Nat → EnvD → EnvD
  | [], acc => acc
  | i :: is, acc => pick env is (acc.set i (at_ env i))
def frz : List Nat → EnvD → EnvD
  | [], env => env
  | i :: is, env => frz is (env.set i (.val (at_ env i).d))
def has : List Nat → EnvD → Prop
  | [], _ => True
  | i :: is, env => at_ env i ≠ .no ∧ has is env
def wRef (caps : List Nat) (fe : (Str → S → Prop) → FE) : FE := fun env s k => has caps env ∧
  fe (fun x s' => ∃ i, idx9 x = some i ∧ k (.own [.int i]) (frz caps env) s') (pick (frz caps env) caps (blank env)) s (fun _ _ s' => k (.val .non) (frz caps env) s')
section
variable {c : Cxt}
theorem Rel.ext {G H H1 : Hp} {env : EnvD} {s : S} {σ : L2.St} (R : Rel c G env s σ H) (eN : LamX.ExtN H H1) (t : LamX.Tabs c.T H1) : Rel c G env s σ H1 :=
  { R with ex := fun p o h => eN p o (R.ex p o h) (fun ps z => R.gtb p ps (by rw [h, z]))
           st := fun a ha => ⟨(R.st a ha).1, let ⟨x, b, h1, h2⟩ := (R.st a ha).2; ⟨x, b, h1, eN _ _ h2 (fun _ z => by cases z)⟩⟩
           keep := fun p o h1 h2 h3 => eN p o (R.keep p o h1 h2 h3) h3
           kn := fun p hp => R.knN (by
             cases e : noT H p with
             | none => rfl
             | some o =>
               obtain ⟨h1, h2⟩ := noT_some e
               rw [eN p o h1 h2] at hp
               cases hp)
           tab := t
           owns := fun i ds hi => (by
             obtain ⟨v, h1, p, vs, h2, h3, h4, h5, h6, h7⟩ := R.owns i ds hi
             exact ⟨v, h1, p, vs, h2, h3, h4, h5, eN _ _ h6 (fun _ z => by cases z), h7⟩) }
theorem frz_rel {H : Hp} {s : S} {σ : L2.St} : ∀ {caps : List Nat} {G : Hp} {env : EnvD}, Rel c G env s σ H → has caps env → ∃ G', Rel c G' (frz caps env) s σ H ∧ Ex G G'
  | [], G, env, R, _ => ⟨G, R, Ex.refl G⟩
  | i :: is, G, env, R, h => by
    have hs : ∀ (js : List Nat) (x : Sl), x ≠ .no → has js env → has js (env.set i x) := fun js x hx => by
      induction js with
      | nil => exact fun z => z
      | cons j js ih =>
        intro z
        refine ⟨?_, ih z.2⟩
        have hl : j < env.length := by
          cases e : at_ env j with
          | no => exact absurd e z.1
          | val d => exact (List.getElem?_eq_some_iff.mp (at_val e (by simp))).1
          | own d => exact (List.getElem?_eq_some_iff.mp (at_val e (by simp))).1
        by_cases hij : i = j
        · subst hij
          have : (env.set i x)[i]? = some x := List.getElem?_set_self hl
          rw [at_of this]
          exact hx
        · intro e
          refine z.1 ?_
          have q : env[j]? = some env[j] := List.getElem?_eq_getElem hl
          have q2 : (env.set i x)[j]? = some env[j] := by rw [List.getElem?_set_ne hij]; exact q
          rw [at_of q2] at e
          rw [at_of q]
          exact e
    cases e : at_ env i with
    | no => exact absurd e h.1
    | val d =>
      have q := at_val e (by simp)
      have e2 : env.set i (.val (at_ env i).d) = env := by
        rw [e]
        obtain ⟨hl, hx⟩ := List.getElem?_eq_some_iff.mp q
        show env.set i (.val d) = env
        rw [← hx]
        exact List.set_getElem_self hl
      show ∃ G', Rel c G' (frz is (env.set i (.val (at_ env i).d))) s σ H ∧ Ex G G'
      rw [e2]
      exact frz_rel R h.2
    | own ds =>
      obtain ⟨G', v, _, R', e', _⟩ := R.freeze (at_val e (by simp))
      show ∃ G', Rel c G' (frz is (env.set i (.val (at_ env i).d))) s σ H ∧ Ex G G'
      rw [e]
      obtain ⟨G2, R2, e2⟩ := frz_rel R' (hs is (.val (.lst ds)) (by simp) h.2)
      exact ⟨G2, R2, e'.trans e2⟩
theorem frz_len : ∀ (caps : List Nat) (env : EnvD), (frz caps env).length = env.length
  | [], _ => rfl
  | i :: is, env => by
    show (frz is (env.set i _)).length = _
    rw [frz_len is, List.length_set]
theorem blank_len : ∀ env : EnvD, (blank env).length = env.length
  | [] => rfl
  | _ :: r => by simp [blank, blank_len r]
theorem blank_at : ∀ {env : EnvD} {i : Nat} {x : Sl}, (blank env)[i]? = some x → x = .no
  | [], _, _, h => by simp [blank] at h
  | _ :: r, 0, x, h => by simpa [blank] using h.symm
  | _ :: r, i + 1, x, h => blank_at (env := r) (i := i) (by simpa [blank] using h)
theorem pick_len (env : EnvD) : ∀ (caps : List Nat) (acc : EnvD), (pick env caps acc).length = acc.length
  | [], _ => rfl
  | i :: is, acc => by
    show (pick env is (acc.set i _)).length = _
    rw [pick_len env is, List.length_set]
theorem pick_at {env : EnvD} {i : Nat} {x : Sl} : ∀ {caps : List Nat} {acc : EnvD}, (pick env caps acc)[i]? = some x → i ∈ caps ∧ x = at_ env i ∨ acc[i]? = some x
  | [], _, h => .inr h
  | j :: js, acc, h => by
    rcases pick_at (caps := js) (acc := acc.set j (at_ env j)) h with ⟨h1, h2⟩ | h1
    · exact .inl ⟨List.mem_cons_of_mem _ h1, h2⟩
    · by_cases hij : j = i
      · subst hij
        by_cases hl : j < acc.length
        · rw [List.getElem?_set_self hl] at h1
          exact .inl ⟨List.mem_cons_self, (Option.some.inj h1).symm⟩
        · rw [List.getElem?_eq_none (by rw [List.length_set]; omega)] at h1; cases h1
      · rw [List.getElem?_set_ne hij] at h1
        exact .inr h1
theorem frz_val {i : Nat} : ∀ {caps : List Nat} {env : EnvD}, i ∈ caps ∨ (∃ d, at_ env i = .val d) ∨ at_ env i = .no → (∃ d, at_ (frz caps env) i = .val d) ∨ at_ (frz caps env) i = .no
  | [], env, h => by
    rcases h with h | h
    · simp at h
    · exact h
  | j :: js, env, h => by
    show (∃ d, at_ (frz js (env.set j _)) i = .val d) ∨ at_ (frz js (env.set j _)) i = .no
    refine frz_val (caps := js) ?_
    by_cases hij : j = i
    · subst hij
      by_cases hl : j < env.length
      · exact .inr (.inl ⟨_, at_of (List.getElem?_set_self hl)⟩)
      · refine .inr (.inr ?_)
        cases e : at_ (env.set j (.val (at_ env j).d)) j with
        | no => rfl
        | val d => have := (List.getElem?_eq_some_iff.mp (at_val e (by simp))).1; rw [List.length_set] at this; exact absurd this hl
        | own d => have := (List.getElem?_eq_some_iff.mp (at_val e (by simp))).1; rw [List.length_set] at this; exact absurd this hl
    · rcases h with h | h
      · rcases List.mem_cons.mp h with h | h
        · exact absurd h.symm hij
        · exact .inl h
      · refine .inr ?_
        have : at_ (env.set j (.val (at_ env j).d)) i = at_ env i := by
          cases e : env[i]? with
          | none =>
            have e2 : (env.set j (.val (at_ env j).d))[i]? = none := by rw [List.getElem?_set_ne hij]; exact e
            have z : ∀ (l : EnvD), l[i]? = none → at_ l i = .no := fun l hl => by
              cases q : at_ l i with
              | no => rfl
              | val d => rw [at_val q (by simp)] at hl; cases hl
              | own d => rw [at_val q (by simp)] at hl; cases hl
            rw [z _ e, z _ e2]
          | some x => rw [at_of e, at_of (show (env.set j (.val (at_ env j).d))[i]? = some x by rw [List.getElem?_set_ne hij]; exact e)]
        rw [this]
        exact h
theorem de_ref {caps : List Nat} {fe : (Str → S → Prop) → FE} {t : XK → TE} (h : ∀ (H0 G0 : Hp) (E : XK) (xq : Str → S → Prop), EOk (c.inn H0 G0) (He.ga c.K) E xq → DE (c.inn H0 G0) (t E) (fe xq)) : DE c (LamX.tLam c.T (TTref c.K c.T) t) (wRef caps fe) := by
  intro G env s σ H k Q R hf q
  obtain ⟨hn, hf⟩ := hf
  obtain ⟨G2, R2, e2⟩ := frz_rel R hn
  refine ⟨R2.tab, fun H1 eN T1 => ?_⟩
  have R3 := R2.ext eN T1
  have Ri := R3.inn
  have Rm : Rel (c.inn H1 G2) G2 (pick (frz caps env) caps (blank env)) s σ H1 :=
    { Ri with len := (by rw [pick_len, blank_len, ← R3.len, frz_len])
              vals := fun i d hi => (by
                rcases pick_at hi with ⟨_, h2⟩ | h1
                · exact R3.vals i d (at_val h2.symm (by simp))
                · have := blank_at h1; cases this)
              owns := fun i ds hi => (by
                rcases pick_at hi with ⟨h1, h2⟩ | h1
                · rcases frz_val (env := env) (.inl h1) with ⟨d, e⟩ | e
                  · rw [← h2] at e; cases e
                  · rw [← h2] at e; cases e
                · have := blank_at h1; cases this)
              dist := fun i j ds es v hi _ _ _ => (by
                rcases pick_at hi with ⟨h1, h2⟩ | h1
                · rcases frz_val (env := env) (.inl h1) with ⟨d, e⟩ | e
                  · rw [← h2] at e; cases e
                  · rw [← h2] at e; cases e
                · have := blank_at h1; cases this) }
  refine ⟨c.inn H1 G2, G2, s, fun r s' => k r (frz caps env) s', rfl, rfl, Ri, fun G' H' v r s' R' rv kk => q G' H' v r _ s' (R3.out R') (e2.trans R'.gx) (RV.out R3 R' rv) kk, fun Ech Qn hE hN => ?_⟩
  exact h H1 G2 Ech (fun x s' => ∃ i, idx9 x = some i ∧ k (.own [.int i]) (frz caps env) s') (fun G' H' x s' R' ⟨i, hi, kk⟩ => hE G' H' x i s' R' hi kk) G2 _ s σ H1 _ Qn Rm hf fun G' H' v r env' s' R' e rv kk => hN G' H' v s' R'.bare kk
end
abbrev nRef : List Str := ["_law_call", "_law_error", "e", "_law_kinds", "_law_k"]
theorem nRef_nd : nRef.Nodup := by decide
def BRef : FS :=
  (wSeq (wAsg (wLst (wCons (wIsE 1 "NoFraction") (wCons (wIsE 1 "NoPolynomial") (wCons (wIsE 1 "NoSums") wNil)))) (wName 3))
  (wSeq (wAsg (wOpv gCat 3 (wP (wLst (wCons (wIsE 1 "NoFlock") (wCons (wIsE 1 "NoWalk") (wCons (wIsE 1 "NoSum") wNil)))))) (wName 3))
  (wSeq (wAsg (wOpv gCat 3 (wP (wLst (wCons (wIsE 1 "NoDeed") (wCons (wIsE 1 "NoText") (wCons (wIsE 1 "NoRow") wNil)))))) (wName 3))
  (wSeq (wIfS (wNot (wB (wIsV 1)))
  (wRet (wC .non))
  wNext)
  (wRet (wComp (wRng1 (wCons (wC (.int 9)) wNil)) (wName 4) (wB (wIxv 3 (wPV 4))) (wV 4) [4]))))))
def tbRef (f c' : Addr) (q : Str) (tl : XK → Hp → VK → Prop) : WX → TS := fun W D σ H => ∃ Ech : XK, (∀ cls d σ' H', Ech cls d H' → W cls d σ' H') ∧ σ[0]? = some (some (.ref f)) ∧ H c' = some (LamX.CodeO c' q) ∧ tl Ech H (fun _ H' => D.nx σ H')
def envE (d : D) : EnvD := [.no, .val d, .no, .no, .no]
theorem rel_env {c : Cxt} {G H : Hp} {s : S} {d : D} {v : V} {σ : L2.St} (R : Rel c G [] s [] H) (hl : σ.length = 5) (h1 : σ[1]? = some (some v)) (h2 : Rep c.K G d v) : Rel c G (envE d) s σ H :=
  { R with len := hl.symm
           vals := fun i e hi => (by
             have hi' : ([.no, .val d, .no, .no, .no] : EnvD)[i]? = some (.val e) := hi
             match i with
             | 0 => simp at hi'
             | 1 => simp at hi'; subst hi'; exact ⟨v, h1, h2⟩
             | 2 => simp at hi'
             | 3 => simp at hi'
             | 4 => simp at hi'
             | n + 5 => simp at hi')
           owns := fun i e hi => (by
             have hi' : ([.no, .val d, .no, .no, .no] : EnvD)[i]? = some (.own e) := hi
             match i with
             | 0 => simp at hi'
             | 1 => simp at hi'
             | 2 => simp at hi'
             | 3 => simp at hi'
             | 4 => simp at hi'
             | n + 5 => simp at hi')
           dist := fun i j e es w hi _ _ _ => (by
             have hi' : ([.no, .val d, .no, .no, .no] : EnvD)[i]? = some (.own e) := hi
             match i with
             | 0 => simp at hi'
             | 1 => simp at hi'
             | 2 => simp at hi'
             | 3 => simp at hi'
             | 4 => simp at hi'
             | n + 5 => simp at hi') }
theorem gives_ref {X : Cx} {T : List (Addr × Str)} {sg : Scope} {g : Addr} {cdg : Value} {q : Str} {p1 p2 p3 p4 p5 p6 p7 p8 p9 p10 p11 p12 : Pos} {jj : Nat} {rest : List Stmt} {trest : TS}
    (E : ErrF X.K) (hln : sg.names.lookup ("e" : Str) = some NameKind.local) (hlm : sg.names.lookup ("_law_error" : Str) = some NameKind.local) (hx : sg.names.lookup ("MomentError" : Str) = some NameKind.globalImplicit)
    (hmx : X.mg "MomentError" = some (.ref (He.ga X.K "MomentError")))
    (hf1 : ∀ y i s k, idx9 y = some i → k (.own [.int i]) s → BRef (envE (.exc y)) s (kBody k)) (hf2 : ∀ s k, k (.val .non) s → BRef (envE .non) s (kBody k))
    (hd : ∀ c : Cxt, c.K = X.K → c.T = T → DS c trest BRef)
    (hrest : ∀ (s : Shared) (H : Hp), PSs (cxOf C8.CX0 X.prog X.w X.K X.mg X.base nRef "_law_refused" sg g cdg X.A X.stack s H C8.E0).nox rest trest) :
    LamX.GivesTo X nRef "_law_refused" sg g cdg (.Assign [.Name "_law_error" p1] (.Constant .none jj p2) p3 :: .Try [.Expr (.Call (.Name "_law_call" p4) [] [] p5) p6] [.ExceptHandler (some (.Name "MomentError" p7)) (some "e") [.Assign [.Name "_law_error" p8] (.Name "e" p9) p10] p11] [] [] p12 :: rest) "_law_call" q (TTref X.K T) := by
  intro f c' s H Q tl act hc h
  obtain ⟨c, G, s0, k, hK, hT, R, hq, htl⟩ := h
  refine ⟨_, pss_cons (ps_set (i := 1) nRef_nd rfl (.inl hlm) pe_non rfl (.inr hlm)) (pss_cons (ps_try_err (X := (cxOf C8.CX0 X.prog X.w X.K X.mg X.base nRef "_law_refused" sg g cdg X.A X.stack s H C8.E0).nox) (i := 2) (j := 1) (tb := tbRef f c' q tl) rfl rfl nRef_nd rfl rfl hln hlm rfl ⟨hx, by decide, .inl hmx⟩ (by decide) (by decide) (fun W pn xe tk _ => ?_)) (hrest s H)), ?_⟩
  · refine ⟨fun pins s' σ H' D I h' => ?_⟩
    obtain ⟨Ech, hW, h1, h2, h3⟩ := h'
    exact (pss_one (ps_expr (pos := p6) (act W pn xe Ech p4 p5 tk hW))).run pins s' σ H' D I ⟨h1, h2, h3⟩
  · have DE0 : ∀ (G' : Hp) (kk : Sl → S → Prop), (∀ G'' H' v r s', Rel c G'' [] s' [] H' → RV c G'' H' [] [] v r → kk r s' → Q v H') → DEnd c G' (kBody kk) { nx := fun _ H' => Q .non H', rt := Q } := fun G' kk hq =>
      ⟨fun G' H' env' s2 σ' R' e z => hq G' H' .non (.val .non) s2 R'.bare (by simp only [RV, Rep]) z, fun G' H' s2 v r R' e rv z => hq G' H' v r s2 R' rv z, fun _ _ _ _ _ _ _ z => z.elim, fun _ _ _ _ _ _ _ z => z.elim⟩
    refine ⟨fun cls d H' => ∃ G' x i s', cls = .ref (He.ga X.K x) ∧ d = none ∧ Rel c G' [] s' [] H' ∧ idx9 x = some i ∧ k (.own [.int i]) s', fun cls d σ' H' z => ?_, rfl, hc, htl _ _ (fun G' H' x i s' R' hi kk => ⟨G', x, i, s', rfl, rfl, R', hi, kk⟩) (fun G' H' v s' R' kk => ?_)⟩
    · obtain ⟨G', x, i, s', rfl, rfl, R', hi, kk⟩ := z
      have hx9 : x ∈ nine := by
        unfold idx9 at hi
        cases e : nine.findIdx? fun y => x == y with
        | none => rw [e] at hi; cases hi
        | some n =>
          obtain ⟨h1, h2, _⟩ := List.findIdx?_eq_some_iff_getElem.mp e
          rw [beq_iff_eq.mp h2]
          exact List.getElem_mem h1
      refine ⟨E.ex x hx9, rfl, fun a ha hl => ?_⟩
      have hl5 : σ'.length = 5 := hl
      have R1 := R'.new (o := ErrO a (.ref (He.ga X.K x))) ha (fun ps z => by unfold ErrO at z; cases z)
      have R2 := R1.grow upd_same (R'.kn a ha) (R'.g0 ha) (R'.a0ne ha) (fun ps z => by unfold ErrO at z; cases z) (R'.newApart ha)
      refine hd c hK hT _ (envE (.exc x)) s' _ _ (kBody k) _ (rel_env (d := .exc x) (v := .ref a) R2 (by simp [hl5]) (by rw [List.getElem?_set_ne (by decide), List.getElem?_set_self (by rw [List.length_set, hl5]; decide)]) ?_) (hf1 x i s' k hi kk) (DE0 _ k hq)
      simp only [Rep]
      exact ⟨a, rfl, by rw [hK, upd_same]⟩
    · refine hd c hK hT _ (envE .non) s' _ _ (kBody k) _ (rel_env (d := .non) (v := .non) R' rfl rfl (by simp only [Rep])) (hf2 s' k kk) (DE0 _ k hq)
theorem pe_ref {b : Book} {X : Cx} {T : List (Addr × Str)} {st : Stmt} {f0 : Str} {k : Nat} {t : XK → TE} {params : Arguments} {body : Expr} {scope : Scope} {p lpos pos : Pos} (TX : Txt b X.K X.mg) (TB : TBs b X.K X.mg X.base T X.prog) (i j : Nat)
    (hd : b.fn[i]? = some ⟨("_law_refused", none), "_law_refused", "_law_refused", defArgs st, defBody st, defScope st, [], []⟩) (hg : b.fa[j]? = some (.glo "_law_refused")) (Sg : FnScope nRef ["_law_call"] (defScope st))
    (hbind : ∀ (kV doc pm : Value) (an : Option Addr) (cdv ct : Value) (us : List Value), us.length = 1 → bindArgs (PySem.W.fnOf "_law_refused" "_law_refused" (defArgs st) (defBody st) (defScope st) .none kV doc pm an cdv ct) ⟨us, []⟩ = pure ((["_law_call"] : List Str).zip us))
    (hva : Vis (defScope st) "_law_call") (hG : ∀ cdg, LamX.GivesTo X nRef "_law_refused" (defScope st) (He.ga X.K "_law_refused") cdg (defBody st) "_law_call" (X.env.qual ++ "<lambda>") (TTref X.K T))
    (hit : (f0, none) ∈ b.tf) (hcv : X.env.code = .ref (He.cT X.K (f0, none)).1) (hq : X.env.qual = f0 ++ ".<locals>.") (hr : Room (k + 2) X.A) (L : LamX.lamSB X.env.scope scope = true)
    (hbody : ∀ (A : Around) (outer : List Env) (s : Shared) (H : Hp) (E : XK) (f c' : Addr), Room k (A.deeper (LamX.lamEnv X scope s.heap.objs.size f c')) → PE (LamX.lamCx X A outer s H E scope f c') body (t E))
    (hgl : Gl X "_law_refused" := by rfl) (hdef : defaultsOf params X.env = ([], []) := by rfl)
    (hbind2 : ∀ (q : Str) (cl : List (Str × Addr)) (pm cv ctv : Value), bindArgs (PySem.W.kla_fn "<lambda>" q params body scope cl pm cv ctv) ⟨[], []⟩ = pure [] := by intros; rfl) :
    PE X (.Call (.Name "_law_refused" p) [.Lambda params body scope lpos] [] pos) (LamX.tLam T (TTref X.K T) t) := by
  obtain ⟨fd, FD⟩ := TX.fun_ i hd
  have FD' : FunD X.K "_law_refused" "_law_refused" (defArgs st) (defBody st) (defScope st) [] [] (He.ga X.K "_law_refused") fd := FD
  obtain ⟨oc, od, dV, kV, doc, pm, an, cdv, ct, osl, e, lk, hcd, _, _⟩ := FD'.ex
  subst e
  have hmem : ((He.cT X.K (f0, none)).2, X.env.qual ++ "<lambda>") ∈ T := by
    rw [TB.eq, hq]
    exact List.mem_map.mpr ⟨(f0, none), hit, rfl⟩
  refine LamX.pe_lamcall (a := "_law_call") hgl (TX.glo j _ hg) FD'.kp lk hcd (FD'.bindsN (ps := ["_law_call"]) hbind) Sg rfl hva (hG cdv) (TB.tb _ hit) hcv hmem (fun r hr' e => ?_) hr (LamX.lamS_by L) hdef hbind2 hbody
  rw [TB.eq] at hr'
  obtain ⟨r0, hr0, rfl⟩ := List.mem_map.mp hr'
  have nd := TX.nd
  have : r0 = (f0, none) := by
    have key : ∀ {l : List He.Defn}, (l.map fun p => (He.cT X.K p).2).Nodup → r0 ∈ l → (f0, none) ∈ l → (He.cT X.K r0).2 = (He.cT X.K (f0, none)).2 → r0 = (f0, none) := by
      intro l
      induction l with
      | nil => intro _ h; simp at h
      | cons x xs ih =>
        intro n h1 h2 e
        rw [List.map_cons, List.nodup_cons] at n
        rcases List.mem_cons.mp h1 with h1 | h1 <;> rcases List.mem_cons.mp h2 with h2 | h2
        · rw [h1, h2]
        · exact absurd (List.mem_map.mpr ⟨_, h2, by rw [← h1]; exact e.symm⟩) n.1
        · exact absurd (List.mem_map.mpr ⟨_, h1, by rw [← h2]; exact e⟩) n.1
        · exact ih n.2 h1 h2 e
    exact key nd hr0 hit e
  rw [this, hq]
end DL
set_option Elab.async false
set_option linter.all false
set_option maxRecDepth 100000
set_option maxHeartbeats 1000000
namespace DL
open PySem L2
def fr (q : Rat) : D := .tup [.int q.num, .int q.den]
def Sz (n : Nat) (q : Rat) : Prop := q.num.natAbs < 2 ^ n ∧ q.den < 2 ^ n
theorem Sz.mono {n m : Nat} {q : Rat} (h : Sz n q) (e : n ≤ m) : Sz m q :=
  ⟨Nat.lt_of_lt_of_le h.1 (Nat.pow_le_pow_right (by decide) e), Nat.lt_of_lt_of_le h.2 (Nat.pow_le_pow_right (by decide) e)⟩
theorem bits_lt {i : Int} {n : Nat} (h : i.natAbs < 2 ^ n) : Builtin.Int.intBits i ≤ n := by
  unfold Builtin.Int.intBits
  split
  · exact Nat.zero_le _
  · rename_i h0
    have h1 : i.natAbs ≠ 0 := by
      intro z
      simp [Int.natAbs_eq_zero] at z
      subst z
      simp at h0
    have := (Nat.log2_lt h1).mpr h
    omega
theorem mulOk {i j : Int} {n m : Nat} (hi : i.natAbs < 2 ^ n) (hj : j.natAbs < 2 ^ m) (h : n + m ≤ 134217728) : DL.MulOk i j := by
  unfold DL.MulOk IntMulOk
  intro z
  rw [Bool.and_eq_true] at z
  have z2 := z.2
  unfold Builtin.Int.intTooBig at z2
  have z3 := of_decide_eq_true z2
  have e : bitsLine = 134217728 := by decide
  rw [e] at z3
  have h1 := bits_lt hi
  have h2 := bits_lt hj
  omega
theorem divOk {i j : Int} {n : Nat} (h : j ≠ 0) (_ : j.natAbs < 2 ^ n) (_ : n ≤ 60000000) : DL.DivOk i j := h
theorem natAbs_mul_lt {i j : Int} {n m : Nat} (hi : i.natAbs < 2 ^ n) (hj : j.natAbs < 2 ^ m) : (i * j).natAbs < 2 ^ (n + m) := by
  rw [Int.natAbs_mul, Nat.pow_add]
  exact Nat.mul_lt_mul'' hi hj
theorem natAbs_add_lt {i j : Int} {n : Nat} (hi : i.natAbs < 2 ^ n) (hj : j.natAbs < 2 ^ n) : (i + j).natAbs < 2 ^ (n + 1) := by
  have := Int.natAbs_add_le i j
  rw [Nat.pow_succ]
  omega
theorem natAbs_sub_lt {i j : Int} {n : Nat} (hi : i.natAbs < 2 ^ n) (hj : j.natAbs < 2 ^ n) : (i - j).natAbs < 2 ^ (n + 1) := by
  have := Int.natAbs_sub_le i j
  rw [Nat.pow_succ]
  omega
theorem fmod_lt {a b : Int} (h : b ≠ 0) : (a.fmod b).natAbs < b.natAbs := by
  rcases Int.lt_trichotomy b 0 with hb | hb | hb
  · have h1 := Int.fmod_def a b
    have e : a.fmod b = -((-a).fmod (-b)) := by
      rw [Int.fmod_def, Int.fmod_def]
      have : a.fdiv b = (-a).fdiv (-b) := (Int.neg_fdiv_neg a b).symm
      rw [this, Int.neg_mul]
      omega
    have h2 := Int.fmod_nonneg_of_pos (-a) (show 0 < -b by omega)
    have h3 := Int.fmod_lt_of_pos (-a) (show 0 < -b by omega)
    omega
  · exact absurd hb h
  · have h2 := Int.fmod_nonneg_of_pos a hb
    have h3 := Int.fmod_lt_of_pos a hb
    omega
theorem gcd_fmod (a b : Int) : Int.gcd b (a.fmod b) = Int.gcd a b := by
  have e : a = a.fmod b + b * a.fdiv b := (Int.fmod_add_mul_fdiv a b).symm
  refine Nat.dvd_antisymm (Int.dvd_gcd ?_ (Int.gcd_dvd_left ..)) (Int.dvd_gcd (Int.gcd_dvd_right ..) ?_)
  · have h1 : ((Int.gcd b (a.fmod b) : Nat) : Int) ∣ b := Int.gcd_dvd_left ..
    have h2 : ((Int.gcd b (a.fmod b) : Nat) : Int) ∣ a.fmod b := Int.gcd_dvd_right ..
    conv => rhs; rw [e]
    exact Int.dvd_add h2 (Int.dvd_trans h1 (Int.dvd_mul_right ..))
  · have h1 : ((Int.gcd a b : Nat) : Int) ∣ a := Int.gcd_dvd_left ..
    have h2 : ((Int.gcd a b : Nat) : Int) ∣ b := Int.gcd_dvd_right ..
    rw [Int.fmod_def]
    exact Int.dvd_sub h1 (Int.dvd_trans h2 (Int.dvd_mul_right ..))
theorem ratio_num_den {t b : Int} (hb : b ≠ 0) :
    (if b < 0 then t.fdiv (0 - (Int.gcd t b : Int)) else t.fdiv (Int.gcd t b : Int)) = ((t : Rat) / (b : Rat)).num ∧
    (if b < 0 then b.fdiv (0 - (Int.gcd t b : Int)) else b.fdiv (Int.gcd t b : Int)) = (((t : Rat) / (b : Rat)).den : Int) := by
  rw [← Rat.divInt_eq_div]
  have hg : (Int.gcd t b : Int) ≠ 0 := by
    intro z
    have : Int.gcd t b = 0 := by omega
    exact hb (Int.gcd_eq_zero_iff.mp this).2
  have hgp : 0 < (Int.gcd t b : Int) := by omega
  obtain ⟨t', ht⟩ : (Int.gcd t b : Int) ∣ t := Int.gcd_dvd_left ..
  obtain ⟨b', hb'⟩ : (Int.gcd t b : Int) ∣ b := Int.gcd_dvd_right ..
  generalize hG : (Int.gcd t b : Int) = g at *
  have ft : t.fdiv g = t' := by
    rw [Int.fdiv_eq_ediv_of_nonneg _ (by omega), ht, Int.mul_ediv_cancel_left _ hg]
  have fb : b.fdiv g = b' := by
    rw [Int.fdiv_eq_ediv_of_nonneg _ (by omega), hb', Int.mul_ediv_cancel_left _ hg]
  have ft' : t.fdiv (0 - g) = -t' := by
    rw [Int.zero_sub, ht, Int.mul_comm, ← Int.neg_mul_neg t' g, Int.mul_fdiv_cancel _ (by omega)]
  have fb' : b.fdiv (0 - g) = -b' := by
    rw [Int.zero_sub, hb', Int.mul_comm, ← Int.neg_mul_neg b' g, Int.mul_fdiv_cancel _ (by omega)]
  have hgc : (b.gcd t : Int) = g := by rw [Int.gcd_comm]; exact hG
  have h1 : (Rat.divInt t b).num = b.sign * t / (b.gcd t : Int) := Rat.num_divInt t b
  have h2 := Rat.den_divInt t b
  have hden : ((b.natAbs / b.gcd t : Nat) : Int) = b'.natAbs := by
    have e1 : b.natAbs = b.gcd t * b'.natAbs := by
      have e2 : b.natAbs = g.natAbs * b'.natAbs := by rw [← Int.natAbs_mul, ← hb']
      rw [e2, ← hgc]
      rfl
    rw [e1, Nat.mul_div_cancel_left _ (by omega)]
  rw [if_neg hb] at h2
  by_cases hlt : b < 0
  · have hb2 : b' < 0 := by
      rcases Int.lt_trichotomy b' 0 with h | h | h
      · exact h
      · rw [h, Int.mul_zero] at hb'; omega
      · have := Int.mul_pos hgp h; omega
    rw [if_pos hlt, if_pos hlt, ft', fb', h1, h2, hgc]
    have hs : b.sign = -1 := Int.sign_eq_neg_one_of_neg hlt
    constructor
    · rw [hs, Int.neg_one_mul, Int.neg_ediv_of_dvd ⟨t', ht⟩, ht, Int.mul_ediv_cancel_left _ hg]
    · rw [hden]
      omega
  · have hb2 : 0 < b' := by
      rcases Int.lt_trichotomy b' 0 with h | h | h
      · have := Int.mul_neg_of_pos_of_neg hgp h; omega
      · rw [h, Int.mul_zero] at hb'; omega
      · exact h
    rw [if_neg hlt, if_neg hlt, ft, fb, h1, h2, hgc]
    have hs : b.sign = 1 := Int.sign_eq_one_of_pos (by omega)
    constructor
    · rw [hs, Int.one_mul, ht, Int.mul_ediv_cancel_left _ hg]
    · rw [hden]
      omega
theorem fr_ratio {t b : Int} (hb : b ≠ 0) : fr ((t : Rat) / (b : Rat)) = .tup [.int (if b < 0 then t.fdiv (0 - (Int.gcd t b : Int)) else t.fdiv (Int.gcd t b : Int)), .int (if b < 0 then b.fdiv (0 - (Int.gcd t b : Int)) else b.fdiv (Int.gcd t b : Int))] := by
  unfold fr
  rw [(ratio_num_den hb).1, (ratio_num_den hb).2]
theorem rat_add (p q : Rat) : ((p.num * q.den + q.num * p.den : Int) : Rat) / ((p.den * q.den : Int) : Rat) = p + q := by
  have h1 := p.num_divInt_den
  have h2 := q.num_divInt_den
  have hp : (p.den : Int) ≠ 0 := by have := p.den_nz; omega
  have hq : (q.den : Int) ≠ 0 := by have := q.den_nz; omega
  rw [← Rat.divInt_eq_div]
  conv => rhs; rw [← h1, ← h2]
  rw [Rat.divInt_add_divInt _ _ hp hq]
theorem rat_mul (p q : Rat) : ((p.num * q.num : Int) : Rat) / ((p.den * q.den : Int) : Rat) = p * q := by
  have h1 := p.num_divInt_den
  have h2 := q.num_divInt_den
  rw [← Rat.divInt_eq_div]
  conv => rhs; rw [← h1, ← h2]
  rw [Rat.divInt_mul_divInt]
theorem rat_sub (p q : Rat) : ((p.num * q.den - q.num * p.den : Int) : Rat) / ((p.den * q.den : Int) : Rat) = p - q := by
  have h1 := p.num_divInt_den
  have h2 := q.num_divInt_den
  have hp : (p.den : Int) ≠ 0 := by have := p.den_nz; omega
  have hq : (q.den : Int) ≠ 0 := by have := q.den_nz; omega
  rw [← Rat.divInt_eq_div]
  conv => rhs; rw [← h1, ← h2]
  rw [Rat.divInt_sub_divInt _ _ hp hq]
theorem num_ne {q : Rat} (h : q ≠ 0) : q.num ≠ 0 := fun z => h (Rat.num_eq_zero.mp z)
theorem rat_div (p q : Rat) (h : q ≠ 0) : ((p.num * q.den : Int) : Rat) / ((p.den * q.num : Int) : Rat) = p / q := by
  have h1 := p.num_divInt_den
  have h2 := q.num_divInt_den
  rw [← Rat.divInt_eq_div]
  conv => rhs; rw [← h1, ← h2]
  rw [Rat.div_def, Rat.inv_divInt, Rat.divInt_mul_divInt]
theorem sz_div {t b : Int} {n : Nat} (hb : b ≠ 0) (h1 : t.natAbs < 2 ^ n) (h2 : b.natAbs < 2 ^ n) : Sz n ((t : Rat) / (b : Rat)) := by
  rw [← Rat.divInt_eq_div]
  refine ⟨?_, ?_⟩
  · rw [Rat.num_divInt]
    have : (b.sign * t / (b.gcd t : Int)).natAbs ≤ t.natAbs := by
      have e1 : (b.sign * t / (b.gcd t : Int)).natAbs ≤ (b.sign * t).natAbs := Int.natAbs_ediv_le_natAbs _ _
      have e2 : (b.sign * t).natAbs ≤ t.natAbs := by
        rw [Int.natAbs_mul, Int.natAbs_sign_of_ne_zero hb, Nat.one_mul]
        exact Nat.le_refl _
      omega
    omega
  · rw [Rat.den_divInt, if_neg hb]
    have : b.natAbs / b.gcd t ≤ b.natAbs := Nat.div_le_self _ _
    omega
theorem sz_add {p q : Rat} {n m : Nat} (hp : Sz n p) (hq : Sz m q) : Sz (n + m + 1) (p + q) := by
  rw [← rat_add]
  have hp0 := p.den_nz
  have hq0 := q.den_nz
  refine sz_div (by simp; omega) (natAbs_add_lt (natAbs_mul_lt hp.1 (by simpa using hq.2)) ?_) ?_
  · have := natAbs_mul_lt (i := q.num) (j := p.den) hq.1 (by simpa using hp.2)
    rwa [Nat.add_comm] at this
  · have := natAbs_mul_lt (i := p.den) (j := q.den) (n := n) (m := m) (by simpa using hp.2) (by simpa using hq.2)
    exact Nat.lt_of_lt_of_le this (Nat.pow_le_pow_right (by decide) (by omega))
theorem sz_sub {p q : Rat} {n m : Nat} (hp : Sz n p) (hq : Sz m q) : Sz (n + m + 1) (p - q) := by
  rw [← rat_sub]
  have hp0 := p.den_nz
  have hq0 := q.den_nz
  refine sz_div (by simp; omega) (natAbs_sub_lt (natAbs_mul_lt hp.1 (by simpa using hq.2)) ?_) ?_
  · have := natAbs_mul_lt (i := q.num) (j := p.den) hq.1 (by simpa using hp.2)
    rwa [Nat.add_comm] at this
  · have := natAbs_mul_lt (i := p.den) (j := q.den) (n := n) (m := m) (by simpa using hp.2) (by simpa using hq.2)
    exact Nat.lt_of_lt_of_le this (Nat.pow_le_pow_right (by decide) (by omega))
theorem sz_mul {p q : Rat} {n m : Nat} (hp : Sz n p) (hq : Sz m q) : Sz (n + m) (p * q) := by
  rw [← rat_mul]
  have hp0 := p.den_nz
  have hq0 := q.den_nz
  exact sz_div (by simp; omega) (natAbs_mul_lt hp.1 hq.1) (natAbs_mul_lt (by simpa using hp.2) (by simpa using hq.2))
theorem sz_quot {p q : Rat} {n m : Nat} (hp : Sz n p) (hq : Sz m q) (h : q ≠ 0) : Sz (n + m) (p / q) := by
  rw [← rat_div _ _ h]
  have hp0 := p.den_nz
  exact sz_div (Int.mul_ne_zero (by omega) (num_ne h)) (natAbs_mul_lt hp.1 (by simpa using hq.2)) (natAbs_mul_lt (by simpa using hp.2) hq.1)
theorem gcd_ok {t b : Int} {n : Nat} (hb : b ≠ 0) (hz : b.natAbs < 2 ^ n) (hn : n ≤ 60000000) (i : Int) : DL.DivOk i (Int.gcd t b : Int) ∧ DL.DivOk i (0 - (Int.gcd t b : Int)) := by
  have h0 : Int.gcd t b ≠ 0 := fun z => hb (Int.gcd_eq_zero_iff.mp z).2
  have h1 : Int.gcd t b ≤ b.natAbs := Int.gcd_le_natAbs_right t hb
  exact ⟨divOk (n := n) (by omega) (by omega) hn, divOk (n := n) (by omega) (by omega) hn⟩
theorem sz_zero : Sz 1 0 := ⟨by decide, by decide⟩
theorem sz_one : Sz 1 1 := ⟨by decide, by decide⟩
theorem atI_nat' {α : Type} {l : List α} {n : Nat} (hn : n < l.length) : atI l (n : Int) = l[n]? := by
  unfold atI ixN
  rw [if_pos (by omega), if_pos (by omega)]
  simp
section
variable {α : Type} {a b c d e f g h i j : α} {l : List α}
theorem atI0 : atI (a :: l) 0 = some a := by
  unfold atI ixN
  simp
theorem atI1 : atI (a :: b :: l) 1 = some b := by
  have := atI_nat' (l := a :: b :: l) (n := 1) (by simp)
  simpa using this
theorem atI2 : atI (a :: b :: c :: l) 2 = some c := by
  have := atI_nat' (l := a :: b :: c :: l) (n := 2) (by simp)
  simpa using this
theorem atI3 : atI (a :: b :: c :: d :: l) 3 = some d := by
  have := atI_nat' (l := a :: b :: c :: d :: l) (n := 3) (by simp)
  simpa using this
theorem ex_some {p : α → Prop} {x : α} : (∃ y, some x = some y ∧ p y) ↔ p x := ⟨fun ⟨_, e, h⟩ => by cases e; exact h, fun h => ⟨x, rfl, h⟩⟩
end
theorem forW_inv {α : Type} {l : List α} {f : α → D} {fg : FG} {fb : FS} {k : Fl → Prop} (I : Nat → EnvD → S → Prop)
    (hs : ∀ i (hi : i < l.length) env s, I i env s → ∀ KN : EnvD → S → Prop, (∀ e s', I (i + 1) e s' → KN e s') → fg (.val (f l[i])) env s (fun env1 s1 => fb env1 s1 (fun fl => match fl with
      | .nx e s2 => KN e s2
      | .ct e s2 => KN e s2
      | .bk e s2 => k (.nx e s2)
      | .rt r s2 => k (.rt r s2))))
    {env : EnvD} {s : S} (h0 : I 0 env s) (he : ∀ env s, I l.length env s → k (.nx env s)) : forW fg fb k (l.map f) env s := by
  have H : ∀ n i, i + n = l.length → ∀ env s, I i env s → forW fg fb k ((l.drop i).map f) env s := by
    intro n
    induction n with
    | zero =>
      intro i hi env s h
      rw [List.drop_eq_nil_of_le (by omega)]
      have : i = l.length := by omega
      subst this
      exact he _ _ h
    | succ n ih =>
      intro i hi env s h
      have hi' : i < l.length := by omega
      rw [List.drop_eq_getElem_cons hi']
      exact hs i hi' env s h _ (fun e s' h' => ih (i + 1) (by omega) e s' h')
  simpa using H l.length 0 (by omega) env s h0
theorem forW_int {lo : Int} {n : Nat} {fg : FG} {fb : FS} {k : Fl → Prop} (I : Nat → EnvD → S → Prop)
    (hs : ∀ i, i < n → ∀ env s, I i env s → ∀ KN : EnvD → S → Prop, (∀ e s', I (i + 1) e s' → KN e s') → fg (.val (.int (lo + (i : Nat)))) env s (fun env1 s1 => fb env1 s1 (fun fl => match fl with
      | .nx e s2 => KN e s2
      | .ct e s2 => KN e s2
      | .bk e s2 => k (.nx e s2)
      | .rt r s2 => k (.rt r s2))))
    {env : EnvD} {s : S} (h0 : I 0 env s) (he : ∀ env s, I n env s → k (.nx env s)) : forW fg fb k (intL lo n) env s := by
  unfold intL
  refine forW_inv (α := Nat) (l := List.range n) (f := fun i => .int (lo + (i : Nat))) I (fun i hi env s h KN hk => ?_) h0 (by simpa using he)
  rw [List.getElem_range]
  exact hs i (by simpa using hi) env s h KN hk
theorem compW_map {α : Type} {f g : α → D} {fg : FG} {fe : FE} {vs : List Nat} {k : List D → EnvD → S → Prop} {env : EnvD} {s : S} :
    ∀ (l : List α) (acc : List D), (∀ a ∈ l, ∀ K : D → EnvD → S → Prop, K (g a) env s → fg (.val (f a)) env s (fun env1 s1 => fe env1 s1 fun r env3 s3 => K r.d (wipeD env3 vs) s3)) →
    k (acc ++ l.map g) env s → compW fg wYes fe vs k (l.map f) acc env s := by
  intro l
  induction l with
  | nil => intro acc _ h; simpa [compW] using h
  | cons a l ih =>
    intro acc hs h
    refine hs a (List.mem_cons_self ..) (fun d e s' => compW fg wYes fe vs k (l.map f) (acc ++ [d]) e s') (ih _ (fun a ha => hs a (List.mem_cons_of_mem _ ha)) ?_)
    simpa using h
theorem compW_int {lo : Int} {n : Nat} {g : Nat → D} {fg : FG} {fe : FE} {vs : List Nat} {k : List D → EnvD → S → Prop} {env : EnvD} {s : S} {acc : List D}
    (hs : ∀ i, i < n → ∀ K : D → EnvD → S → Prop, K (g i) env s → fg (.val (.int (lo + (i : Nat)))) env s (fun env1 s1 => fe env1 s1 fun r env3 s3 => K r.d (wipeD env3 vs) s3))
    (h : k (acc ++ (List.range n).map g) env s) : compW fg wYes fe vs k (intL lo n) acc env s :=
  compW_map (f := fun i : Nat => .int (lo + (i : Nat))) (List.range n) acc (fun a ha => hs a (by simpa using ha)) h
theorem compW_fr {α : Type} {f : α → D} {g : α → Rat} {fg : FG} {fe : FE} {vs : List Nat} {k : List D → EnvD → S → Prop} {env : EnvD} {s : S} {l : List α}
    (hs : ∀ a ∈ l, ∀ K : D → EnvD → S → Prop, K (fr (g a)) env s → fg (.val (f a)) env s (fun env1 s1 => fe env1 s1 fun r env3 s3 => K r.d (wipeD env3 vs) s3))
    (h : k ((l.map g).map fr) env s) : compW fg wYes fe vs k (l.map f) [] env s :=
  compW_map (g := fun a => fr (g a)) l [] hs (by rw [List.map_map] at h; exact h)
theorem compW_ifr {lo : Int} {n : Nat} {g : Nat → Rat} {fg : FG} {fe : FE} {vs : List Nat} {k : List D → EnvD → S → Prop} {env : EnvD} {s : S}
    (hs : ∀ i, i < n → ∀ K : D → EnvD → S → Prop, K (fr (g i)) env s → fg (.val (.int (lo + (i : Nat)))) env s (fun env1 s1 => fe env1 s1 fun r env3 s3 => K r.d (wipeD env3 vs) s3))
    (h : k (((List.range n).map g).map fr) env s) : compW fg wYes fe vs k (intL lo n) [] env s :=
  compW_int (g := fun a => fr (g a)) hs (by rw [List.map_map] at h; exact h)
theorem forW_rng {n : Nat} {fg : FG} {fb : FS} {k : Fl → Prop} (I : Nat → EnvD → S → Prop)
    (hs : ∀ i, i < n → ∀ env s, I i env s → ∀ KN : EnvD → S → Prop, (∀ e s', I (i + 1) e s' → KN e s') → fg (.val (.int (i : Nat))) env s (fun env1 s1 => fb env1 s1 (fun fl => match fl with
      | .nx e s2 => KN e s2
      | .ct e s2 => KN e s2
      | .bk e s2 => k (.nx e s2)
      | .rt r s2 => k (.rt r s2))))
    {env : EnvD} {s : S} (h0 : I 0 env s) (he : ∀ env s, I n env s → k (.nx env s)) : forW fg fb k (intL 0 n) env s :=
  forW_int I (fun i hi env s h KN hk => by rw [Int.zero_add]; exact hs i hi env s h KN hk) h0 he
theorem compW_rfr {n : Nat} {g : Nat → Rat} {fg : FG} {fe : FE} {vs : List Nat} {k : List D → EnvD → S → Prop} {env : EnvD} {s : S}
    (hs : ∀ i, i < n → ∀ K : D → EnvD → S → Prop, K (fr (g i)) env s → fg (.val (.int (i : Nat))) env s (fun env1 s1 => fe env1 s1 fun r env3 s3 => K r.d (wipeD env3 vs) s3))
    (h : k (((List.range n).map g).map fr) env s) : compW fg wYes fe vs k (intL 0 n) [] env s :=
  compW_ifr (fun i hi K hK => by rw [Int.zero_add]; exact hs i hi K hK) h
theorem compW_invE {α : Type} {f : α → D} {fg : FG} {fe : FE} {vs : List Nat} {k : List D → EnvD → S → Prop} (I : List D → EnvD → S → Prop) :
    ∀ (l : List α) (acc : List D) (env : EnvD) (s : S), (∀ a ∈ l, ∀ acc env s, I acc env s → ∀ K : D → EnvD → S → Prop, (∀ d e s', I (acc ++ [d]) e s' → K d e s') → fg (.val (f a)) env s (fun env1 s1 => fe env1 s1 fun r env3 s3 => K r.d (wipeD env3 vs) s3)) →
    I acc env s → (∀ acc' e s', I acc' e s' → acc'.length = acc.length + l.length → k acc' e s') → compW fg wYes fe vs k (l.map f) acc env s := by
  intro l
  induction l with
  | nil => intro acc env s _ h0 h; exact h acc env s h0 rfl
  | cons a l ih =>
    intro acc env s hs h0 h
    exact hs a (List.mem_cons_self ..) acc env s h0 (fun d e s' => compW fg wYes fe vs k (l.map f) (acc ++ [d]) e s') (fun d e s' h' => ih _ _ _ (fun a ha => hs a (List.mem_cons_of_mem _ ha)) h' fun acc' e' s'' h2 h3 => h acc' e' s'' h2 (by simp at h3 ⊢; omega))
theorem compW_filter {α : Type} {f g : α → D} {p : α → Bool} {fg : FG} {ft : FT} {fe : FE} {vs : List Nat} {k : List D → EnvD → S → Prop} {env : EnvD} {s : S} :
    ∀ (l : List α) (acc : List D), (∀ a ∈ l, ∀ (K1 : D → EnvD → S → Prop) (K2 : EnvD → S → Prop), (p a = true → K1 (g a) env s) → (p a = false → K2 env s) →
      fg (.val (f a)) env s (fun env1 s1 => ft env1 s1 fun b env2 s2 => if b = true then fe env2 s2 (fun r env3 s3 => K1 r.d (wipeD env3 vs) s3) else K2 (wipeD env2 vs) s2)) →
    k (acc ++ (l.filter p).map g) env s → compW fg ft fe vs k (l.map f) acc env s := by
  intro l
  induction l with
  | nil => intro acc _ h; simpa [compW] using h
  | cons a l ih =>
    intro acc hs h
    have hs' := fun b hb => hs b (List.mem_cons_of_mem a hb)
    refine hs a (List.mem_cons_self ..) (fun d e s' => compW fg ft fe vs k (l.map f) (acc ++ [d]) e s') (fun e s' => compW fg ft fe vs k (l.map f) acc e s') (fun hp => ih _ hs' ?_) (fun hp => ih _ hs' ?_)
    · rw [List.filter_cons_of_pos hp] at h
      simpa using h
    · rw [List.filter_cons_of_neg (by simp [hp])] at h
      exact h
theorem compW_filterD {g : D → D} {p : D → Bool} {fg : FG} {ft : FT} {fe : FE} {vs : List Nat} {k : List D → EnvD → S → Prop} {env : EnvD} {s : S} (l : List D) (acc : List D)
    (hs : ∀ a ∈ l, ∀ (K1 : D → EnvD → S → Prop) (K2 : EnvD → S → Prop), (p a = true → K1 (g a) env s) → (p a = false → K2 env s) →
      fg (.val a) env s (fun env1 s1 => ft env1 s1 fun b env2 s2 => if b = true then fe env2 s2 (fun r env3 s3 => K1 r.d (wipeD env3 vs) s3) else K2 (wipeD env2 vs) s2))
    (h : k (acc ++ (l.filter p).map g) env s) : compW fg ft fe vs k l acc env s := by
  have := compW_filter (f := fun d => d) l acc hs h
  rwa [List.map_id'] at this
def Nice : Nat → D → Prop
  | _, .non => True
  | _, .bl _ => True
  | _, .int _ => True
  | _, .str x => PyData.strOk x = true
  | n + 1, .lst ds => ds.length < sizeLine ∧ ∀ d ∈ ds, Nice n d
  | n + 1, .tup ds => ds.length < sizeLine ∧ ∀ d ∈ ds, Nice n d
  | _, _ => False
theorem Nice.mono : ∀ {n m : Nat} {d : D}, Nice n d → n ≤ m → Nice m d
  | 0, m, d, h, _ => by
    cases d <;> first | exact h.elim | (cases m <;> exact h)
  | n + 1, 0, d, h, e => by omega
  | n + 1, m + 1, d, h, e => by
    cases d with
    | lst ds => exact ⟨h.1, fun d hd => (h.2 d hd).mono (by omega)⟩
    | tup ds => exact ⟨h.1, fun d hd => (h.2 d hd).mono (by omega)⟩
    | _ => first | exact h | exact h.elim
theorem canAll_of : ∀ {ds : List D}, (∀ d ∈ ds, d.py.canLay0 = true) → PyData.canLayAll0 (D.pyL ds) = true
  | [], _ => by simp [D.pyL, PyData.canLayAll0]
  | d :: ds, h => by
    have h1 := h d (List.mem_cons_self ..)
    have h2 := canAll_of (ds := ds) fun d hd => h d (List.mem_cons_of_mem _ hd)
    simp [D.pyL, PyData.canLayAll0, h1, h2]
theorem depAll_of : ∀ {ds : List D} {n : Nat}, (∀ d ∈ ds, d.py.depth ≤ n) → PyData.depthAll (D.pyL ds) ≤ n
  | [], _, _ => by simp [D.pyL, PyData.depthAll]
  | d :: ds, n, h => by
    have h1 := h d (List.mem_cons_self ..)
    have h2 := depAll_of (ds := ds) fun d hd => h d (List.mem_cons_of_mem _ hd)
    simp only [D.pyL, PyData.depthAll]
    omega
theorem Nice.can : ∀ {n : Nat} {d : D}, Nice n d → d.py.canLay0 = true ∧ d.py.depth ≤ n + 1
  | 0, d, h => by
    cases d <;> first | exact h.elim | (refine ⟨?_, ?_⟩ <;> simp [D.py, PyData.canLay0, PyData.depth] <;> exact h)
  | n + 1, d, h => by
    cases d with
    | lst ds =>
      refine ⟨by simpa only [D.py, PyData.canLay0] using canAll_of fun d hd => (h.2 d hd).can.1, ?_⟩
      have := depAll_of fun d hd => (h.2 d hd).can.2
      simp only [D.py, PyData.depth]
      omega
    | tup ds =>
      refine ⟨by simpa only [D.py, PyData.canLay0] using canAll_of fun d hd => (h.2 d hd).can.1, ?_⟩
      have := depAll_of fun d hd => (h.2 d hd).can.2
      simp only [D.py, PyData.depth]
      omega
    | str x => exact ⟨by simpa [D.py, PyData.canLay0, Nice] using h, by simp [D.py, PyData.depth]⟩
    | _ => first | exact h.elim | (refine ⟨?_, ?_⟩ <;> simp [D.py, PyData.canLay0, PyData.depth])
theorem Nice.eqOk {n : Nat} {d : D} (h : Nice n d) (hn : n ≤ 60) : EqOk d := by
  unfold EqOk SeqAt.shaped
  have := h.can
  simp [this.1]
  omega
theorem Nice.eqv {n : Nat} {d : D} (h : Nice n d) : d.eqv d = true := SeqAt.eqv_refl _ h.can.1
theorem nice_fr (q : Rat) : Nice 1 (fr q) := ⟨by show 2 < sizeLine; decide, by intro d hd; simp at hd; rcases hd with rfl | rfl <;> exact trivial⟩
theorem eqv_fr (p q : Rat) : (fr p).eqv (fr q) = decide (p = q) := by
  unfold fr D.eqv
  simp only [D.py, D.pyL, PyData.eqv, PyData.eqvAll, Bool.and_true]
  by_cases h : p = q
  · subst h; simp
  · rw [decide_eq_false h]
    by_cases h1 : p.num = q.num
    · have : (p.den : Int) ≠ q.den := fun z => h (Rat.ext h1 (by omega))
      simp [this]
    · simp [h1]
def crD (p : Rat × Rat) : D := .tup [fr p.1, fr p.2]
def sumQ (l : List Rat) : Rat := l.foldl (· + ·) 0
theorem sumQ_snoc (l : List Rat) (q : Rat) : sumQ (l ++ [q]) = sumQ l + q := by simp [sumQ]
theorem sumQ_take {l : List Rat} {i : Nat} (hi : i < l.length) : sumQ (l.take (i + 1)) = sumQ (l.take i) + l[i] := by
  rw [List.take_succ_eq_append_getElem hi, sumQ_snoc]
def sumAt (c : List (Rat × Rat)) (j : Nat) : Rat := sumQ (c.map fun p => p.2 * p.1 ^ j)
theorem sz_pow {q : Rat} {n : Nat} (h : Sz n q) : ∀ j, Sz (1 + j * n) (q ^ j)
  | 0 => by rw [Rat.pow_zero]; exact sz_one.mono (by omega)
  | j + 1 => by
    rw [Rat.pow_succ]
    exact (sz_mul (sz_pow h j) h).mono (by rw [Nat.add_mul]; omega)
theorem size_big : 1000000 < sizeLine := by decide
theorem rat_div_pos {t b : Int} (ht : 0 < t) (hb : 0 < b) : (0 : Rat) < (t : Rat) / (b : Rat) := by
  have h1 : (0 : Rat) < t := by exact_mod_cast ht
  have h2 : (0 : Rat) < b := by exact_mod_cast hb
  rw [Rat.div_def]
  exact Rat.mul_pos h1 (Rat.inv_pos.mpr h2)
def clean : List Rat → List Rat
  | [] => []
  | a :: l => if a = 0 ∧ clean l = [] then [] else a :: clean l
theorem clean_take : ∀ {l : List Rat} {m : Nat}, m ≤ l.length → (∀ i, m ≤ i → l.getD i 0 = 0) → (m = 0 ∨ l.getD (m - 1) 0 ≠ 0) → clean l = l.take m
  | [], m, h, _, _ => by simp [clean]
  | a :: l, 0, h, h1, h2 => by
    have e : clean l = l.take 0 := clean_take (Nat.zero_le _) (fun i _ => by simpa using h1 (i + 1) (Nat.zero_le _)) (.inl rfl)
    have ha : a = 0 := by simpa using h1 0 (Nat.le_refl _)
    simp [clean, e, ha]
  | a :: l, m + 1, h, h1, h2 => by
    have e : clean l = l.take m := clean_take (by simpa using h) (fun i hi => by simpa using h1 (i + 1) (by omega)) (by
      rcases Nat.eq_zero_or_pos m with z | z
      · exact .inl z
      · refine .inr ?_
        rcases h2 with h2 | h2
        · omega
        · have : m + 1 - 1 = (m - 1) + 1 := by omega
          rw [this] at h2
          simpa using h2)
    have hn : ¬ (a = 0 ∧ clean l = []) := by
      rintro ⟨ha, hc⟩
      rw [e] at hc
      rcases Nat.eq_zero_or_pos m with z | z
      · subst z
        rcases h2 with h2 | h2
        · omega
        · exact h2 (by simpa using ha)
      · have : l = [] := by
          have := congrArg List.length hc
          simp at this h
          rcases this with z2 | z2
          · omega
          · exact List.eq_nil_of_length_eq_zero (by simp [z2])
        subst this
        simp at h
        omega
    unfold clean
    rw [if_neg hn, e]
    rfl
theorem clean_len {l : List Rat} : (clean l).length ≤ l.length := by
  induction l with
  | nil => exact Nat.le_refl _
  | cons a l ih =>
    unfold clean
    split
    · exact Nat.zero_le _
    · simpa using ih
def Clean (l : List Rat) : Prop := l = [] ∨ l.getLast? ≠ some 0
theorem clean_clean : ∀ l : List Rat, Clean (clean l)
  | [] => .inl rfl
  | a :: l => by
    have ih := clean_clean l
    unfold clean
    split
    · exact .inl rfl
    · rename_i h
      refine .inr ?_
      by_cases hc : clean l = []
      · rw [hc]
        simp
        exact fun ha => h ⟨ha, hc⟩
      · rcases ih with z | z
        · exact absurd z hc
        · rw [List.getLast?_cons_of_ne_nil hc] <;> exact z
theorem clean_getD : ∀ (l : List Rat) (i : Nat), (clean l).getD i 0 = l.getD i 0
  | [], i => rfl
  | a :: l, i => by
    have ih := clean_getD l
    unfold clean
    split
    · rename_i h
      have hz : ∀ j, l.getD j 0 = 0 := fun j => by rw [← ih j, h.2]; rfl
      cases i with
      | zero => simp [h.1]
      | succ i => simpa using (hz i).symm
    · cases i with
      | zero => rfl
      | succ i => simpa using ih i
theorem getD_nil' (i : Nat) : ([] : List Rat).getD i 0 = 0 := rfl
theorem clean_idem : ∀ {l : List Rat}, Clean l → clean l = l
  | [], _ => rfl
  | a :: l, h => by
    rcases h with h | h
    · cases h
    · unfold clean
      by_cases hl : l = []
      · subst hl
        have ha : a ≠ 0 := by simpa using h
        simp [ha, clean]
      · have hc : Clean l := .inr (by rwa [List.getLast?_cons_of_ne_nil hl] at h)
        rw [clean_idem hc, if_neg (fun z => hl z.2)]
theorem clean_zero : ∀ {l : List Rat}, (∀ i, l.getD i 0 = 0) → clean l = []
  | [], _ => rfl
  | a :: l, h => by
    have h0 : a = 0 := by simpa using h 0
    have h1 : clean l = [] := clean_zero fun i => by simpa using h (i + 1)
    unfold clean
    rw [if_pos ⟨h0, h1⟩]
theorem clean_congr : ∀ {f g : List Rat}, (∀ i, f.getD i 0 = g.getD i 0) → clean f = clean g
  | [], g, h => (clean_zero fun i => (h i).symm).symm
  | f, [], h => clean_zero h
  | a :: f, b :: g, h => by
    have h0 : a = b := by simpa using h 0
    have h1 : clean f = clean g := clean_congr fun i => by simpa using h (i + 1)
    unfold clean
    rw [h0, h1]
theorem clean_ext {f g : List Rat} (hf : Clean f) (hg : Clean g) (h : ∀ i, f.getD i 0 = g.getD i 0) : f = g := by
  rw [← clean_idem hf, ← clean_idem hg]
  exact clean_congr h
theorem getD_range {n i : Nat} {g : Nat → Rat} : ((List.range n).map g).getD i 0 = if i < n then g i else 0 := by
  by_cases h : i < n
  · simp [h]
  · simp [h, Nat.le_of_not_lt h]
theorem getD_big {l : List Rat} {i : Nat} (h : l.length ≤ i) : l.getD i 0 = 0 := by simp [h]
def CfS (n : Nat) (l : List Rat) : Prop := ∀ i, Sz n (l.getD i 0)
theorem cfS_mono {n m : Nat} {l : List Rat} (h : CfS n l) (e : n ≤ m) : CfS m l := fun i => (h i).mono e
theorem cfS_mem {n : Nat} {l : List Rat} (h : CfS n l) : ∀ q ∈ l, Sz n q := fun q hq => by
  obtain ⟨i, hi, rfl⟩ := List.mem_iff_getElem.mp hq
  have := h i
  have e : l.getD i 0 = l[i] := by simp [hi]
  rwa [e] at this
theorem cfS_of {n : Nat} {l : List Rat} (hn : 0 < n) (h : ∀ q ∈ l, Sz n q) : CfS n l := fun i => by
  by_cases hi : i < l.length
  · have e : l.getD i 0 = l[i] := by simp [hi]
    rw [e]
    exact h _ (List.getElem_mem hi)
  · rw [getD_big (by omega)]
    exact sz_zero.mono hn
def addP (f g : List Rat) : List Rat := clean ((List.range (max f.length g.length)).map fun i => f.getD i 0 + g.getD i 0)
def subP (f g : List Rat) : List Rat := clean ((List.range (max f.length g.length)).map fun i => f.getD i 0 - g.getD i 0)
def mulC (f : List Rat) (c : Rat) : List Rat := clean (f.map fun q => q * c)
def shiftP (f : List Rat) (j : Nat) : List Rat := if f = [] then [] else List.replicate j 0 ++ f
theorem addP_getD (f g : List Rat) (i : Nat) : (addP f g).getD i 0 = f.getD i 0 + g.getD i 0 := by
  unfold addP
  rw [clean_getD, getD_range]
  split
  · rfl
  · rename_i h
    rw [getD_big (show f.length ≤ i by omega), getD_big (show g.length ≤ i by omega)]
    grind
theorem subP_getD (f g : List Rat) (i : Nat) : (subP f g).getD i 0 = f.getD i 0 - g.getD i 0 := by
  unfold subP
  rw [clean_getD, getD_range]
  split
  · rfl
  · rename_i h
    rw [getD_big (show f.length ≤ i by omega), getD_big (show g.length ≤ i by omega)]
    grind
theorem mulC_getD (f : List Rat) (c : Rat) (i : Nat) : (mulC f c).getD i 0 = f.getD i 0 * c := by
  unfold mulC
  rw [clean_getD]
  by_cases h : i < f.length
  · simp [h]
  · rw [getD_big (l := f) (by omega), getD_big (by simp; omega), Rat.zero_mul]
theorem shiftP_getD (f : List Rat) (j i : Nat) : (shiftP f j).getD i 0 = if i < j then 0 else f.getD (i - j) 0 := by
  unfold shiftP
  split
  · rename_i h
    subst h
    split <;> rfl
  · by_cases h : i < j
    · simp [List.getElem?_append, h]
    · simp [List.getElem?_append, h]
theorem addP_len (f g : List Rat) : (addP f g).length ≤ max f.length g.length := by
  have := clean_len (l := (List.range (max f.length g.length)).map fun i => f.getD i 0 + g.getD i 0)
  simpa [addP] using this
theorem mulC_len (f : List Rat) (c : Rat) : (mulC f c).length ≤ f.length := by
  have := clean_len (l := f.map fun q => q * c)
  simpa [mulC] using this
theorem shiftP_len (f : List Rat) (j : Nat) : (shiftP f j).length ≤ j + f.length := by
  unfold shiftP
  split
  · exact Nat.zero_le _
  · simp
def mulGo (f : List Rat) : List Rat → Nat → List Rat → List Rat
  | acc, _, [] => acc
  | acc, j, c :: g => mulGo f (addP acc (shiftP (mulC f c) j)) (j + 1) g
def mulP (f g : List Rat) : List Rat := mulGo f [] 0 g
def cvl (f : List Rat) (k : Nat) : Nat → List Rat → Rat
  | _, [] => 0
  | j, c :: g => (if k < j then 0 else f.getD (k - j) 0 * c) + cvl f k (j + 1) g
theorem mulGo_getD (f : List Rat) : ∀ (g acc : List Rat) (j k : Nat), (mulGo f acc j g).getD k 0 = acc.getD k 0 + cvl f k j g
  | [], acc, j, k => by simp only [mulGo, cvl]; grind
  | c :: g, acc, j, k => by
    rw [mulGo, mulGo_getD f g, addP_getD, shiftP_getD, mulC_getD, cvl]
    split <;> grind
theorem mulP_getD (f g : List Rat) (k : Nat) : (mulP f g).getD k 0 = cvl f k 0 g := by
  unfold mulP
  rw [mulGo_getD, getD_nil', Rat.zero_add]
theorem addP_clean (f g : List Rat) : Clean (addP f g) := clean_clean _
theorem subP_clean (f g : List Rat) : Clean (subP f g) := clean_clean _
theorem mulC_clean (f : List Rat) (c : Rat) : Clean (mulC f c) := clean_clean _
theorem mulGo_clean (f : List Rat) : ∀ (g acc : List Rat) (j : Nat), Clean acc → Clean (mulGo f acc j g)
  | [], acc, j, h => h
  | c :: g, acc, j, h => mulGo_clean f g _ _ (addP_clean _ _)
theorem mulP_clean (f g : List Rat) : Clean (mulP f g) := mulGo_clean f g [] 0 (.inl rfl)
def Six (m : Nat) (q : Rat) : Prop := ∃ z : Int, z.natAbs ≤ m ∧ q = (z : Rat) / 6
theorem Six.mono {m n : Nat} {q : Rat} (h : Six m q) (e : m ≤ n) : Six n q := by
  obtain ⟨z, h1, h2⟩ := h
  exact ⟨z, by omega, h2⟩
theorem Six.sz {m n : Nat} {q : Rat} (h : Six m q) (e : m < 2 ^ n) (h3 : 3 ≤ n) : Sz n q := by
  obtain ⟨z, h1, rfl⟩ := h
  refine sz_div (b := 6) (by decide) (by omega) ?_
  have : 2 ^ 3 ≤ 2 ^ n := Nat.pow_le_pow_right (by decide) h3
  show 6 < 2 ^ n
  omega
theorem Six.add {m n : Nat} {p q : Rat} (h : Six m p) (h' : Six n q) : Six (m + n) (p + q) := by
  obtain ⟨z, h1, rfl⟩ := h
  obtain ⟨y, h2, rfl⟩ := h'
  refine ⟨z + y, by omega, ?_⟩
  rw [Rat.intCast_add]
  grind
theorem six_div {t b : Int} (hb : 1 ≤ b ∧ b ≤ 3) {m : Nat} (ht : t.natAbs ≤ m) : Six (6 * m) ((t : Rat) / (b : Rat)) := by
  have : b = 1 ∨ b = 2 ∨ b = 3 := by omega
  rcases this with rfl | rfl | rfl
  · refine ⟨6 * t, by omega, ?_⟩
    rw [Rat.intCast_mul]
    simp
    grind
  · refine ⟨3 * t, by omega, ?_⟩
    rw [Rat.intCast_mul]
    simp
    grind
  · refine ⟨2 * t, by omega, ?_⟩
    rw [Rat.intCast_mul]
    simp
    grind
def Gr (k m : Nat) (q : Rat) : Prop := ∃ z : Int, z.natAbs ≤ m ∧ q = (z : Rat) / (((6 : Int) ^ k : Int) : Rat)
theorem six_ne (k : Nat) : (((6 : Int) ^ k : Int) : Rat) ≠ 0 := by
  intro h
  have : (6 : Int) ^ k = 0 := by exact_mod_cast h
  exact absurd this (Int.pow_ne_zero (by decide))
theorem Gr.mono {k m n : Nat} {q : Rat} (h : Gr k m q) (e : m ≤ n) : Gr k n q := by
  obtain ⟨z, h1, h2⟩ := h
  exact ⟨z, by omega, h2⟩
theorem Six.gr {m : Nat} {q : Rat} (h : Six m q) : Gr 1 m q := by
  obtain ⟨z, h1, h2⟩ := h
  exact ⟨z, h1, by rw [h2]; rfl⟩
theorem gr_zero (k m : Nat) : Gr k m 0 := ⟨0, by simp, by
  have : ((0 : Int) : Rat) = 0 := rfl
  rw [this, Rat.div_def, Rat.zero_mul]⟩
theorem Gr.lift {k m : Nat} {q : Rat} (h : Gr k m q) (j : Nat) : Gr (k + j) (m * 6 ^ j) q := by
  obtain ⟨z, h1, rfl⟩ := h
  refine ⟨z * 6 ^ j, ?_, ?_⟩
  · rw [Int.natAbs_mul, Int.natAbs_pow]
    exact Nat.mul_le_mul_right _ h1
  · have a := six_ne k
    have b := six_ne j
    rw [Int.pow_add, Rat.intCast_mul, Rat.intCast_mul]
    generalize (((6 : Int) ^ k : Int) : Rat) = c at *
    generalize (((6 : Int) ^ j : Int) : Rat) = d at *
    grind
theorem Gr.add {k m n : Nat} {p q : Rat} (h : Gr k m p) (h' : Gr k n q) : Gr k (m + n) (p + q) := by
  obtain ⟨z, h1, rfl⟩ := h
  obtain ⟨y, h2, rfl⟩ := h'
  refine ⟨z + y, by omega, ?_⟩
  have a := six_ne k
  rw [Rat.intCast_add]
  generalize (((6 : Int) ^ k : Int) : Rat) = c at *
  grind
theorem Gr.mul {j k m n : Nat} {p q : Rat} (h : Gr j m p) (h' : Gr k n q) : Gr (j + k) (m * n) (p * q) := by
  obtain ⟨z, h1, rfl⟩ := h
  obtain ⟨y, h2, rfl⟩ := h'
  refine ⟨z * y, by rw [Int.natAbs_mul]; exact Nat.mul_le_mul h1 h2, ?_⟩
  have a := six_ne j
  have b := six_ne k
  rw [Int.pow_add, Rat.intCast_mul, Rat.intCast_mul]
  generalize (((6 : Int) ^ j : Int) : Rat) = c at *
  generalize (((6 : Int) ^ k : Int) : Rat) = d at *
  grind
theorem Gr.sz {k m n : Nat} {q : Rat} (h : Gr k m q) (e : m < 2 ^ n) (h3 : 3 * k ≤ n) (hn : 0 < n) : Sz n q := by
  obtain ⟨z, h1, rfl⟩ := h
  refine sz_div (Int.pow_ne_zero (by decide)) (by omega) ?_
  rw [Int.natAbs_pow]
  have h2 : 6 ^ k ≤ 7 ^ k := Nat.pow_le_pow_left (by decide) k
  have h4 : 6 ^ k < 2 ^ (3 * k) ∨ k = 0 := by
    rcases Nat.eq_zero_or_pos k with z | z
    · exact .inr z
    · refine .inl ?_
      rw [Nat.pow_mul]
      exact Nat.pow_lt_pow_left (by decide) (by omega)
  have h5 : 2 ^ (3 * k) ≤ 2 ^ n := Nat.pow_le_pow_right (by decide) h3
  rcases h4 with h4 | h4
  · exact Nat.lt_of_lt_of_le h4 h5
  · subst h4
    exact Nat.one_lt_two_pow (by omega)
def dotQ (f S : List Rat) : Rat := sumQ ((List.range f.length).map fun i => f.getD i 0 * S.getD i 0)
theorem sum_gr {l : List Rat} {k m : Nat} (h : ∀ q ∈ l, Gr k m q) : ∀ i, i ≤ l.length → Gr k (m * i) (sumQ (l.take i))
  | 0, _ => by rw [List.take_zero]; exact gr_zero _ _
  | i + 1, hi => by
    rw [sumQ_take (by omega)]
    exact (sum_gr h i (by omega)).add (h _ (List.getElem_mem _))
theorem sum_gr' {l : List Rat} {k m : Nat} (h : ∀ q ∈ l, Gr k m q) : Gr k (m * l.length) (sumQ l) := by
  have := sum_gr h l.length (Nat.le_refl _)
  rwa [List.take_length] at this
theorem gr_getD {l : List Rat} {k m : Nat} (h : ∀ q ∈ l, Gr k m q) (i : Nat) : Gr k m (l.getD i 0) := by
  by_cases hi : i < l.length
  · have : l.getD i 0 = l[i] := by simp [hi]
    rw [this]
    exact h _ (List.getElem_mem hi)
  · rw [getD_big (by omega)]
    exact gr_zero _ _
theorem mulGo_len (f : List Rat) : ∀ (g acc : List Rat) (j n : Nat), acc.length ≤ n → (g ≠ [] → j + g.length + f.length ≤ n + 1) → (mulGo f acc j g).length ≤ n
  | [], acc, j, n, h, _ => h
  | c :: g, acc, j, n, h, h2 => by
    rw [mulGo]
    have h2 := h2 (by simp)
    simp only [List.length_cons] at h2
    refine mulGo_len f g _ (j + 1) n ?_ (fun _ => by omega)
    have h3 := addP_len acc (shiftP (mulC f c) j)
    have h4 : (shiftP (mulC f c) j).length ≤ n := by
      unfold shiftP
      split
      · simp
      · rename_i hne
        have h5 := mulC_len f c
        have h6 : 0 < (mulC f c).length := List.length_pos_iff.mpr hne
        simp
        omega
    omega
theorem mulP_len (f g : List Rat) : (mulP f g).length ≤ f.length + g.length - 1 := by
  unfold mulP
  refine mulGo_len f g [] 0 _ (by simp) (fun h => ?_)
  have : 0 < g.length := List.length_pos_iff.mpr h
  omega
def SumsOk (S : List Rat) : Prop := 1 ≤ S.length ∧ S.length ≤ 11 ∧ ∀ q ∈ S, Gr 11 (2 ^ 90) q
theorem SumsOk.sz {S : List Rat} (h : SumsOk S) : CfS 91 S := fun i => (gr_getD h.2.2 i).sz (by decide) (by decide) (by decide)
theorem six_gr11 {q : Rat} (h : Six 36 q) : Gr 11 (2 ^ 32) q := (h.gr.lift 10).mono (by decide)
theorem sumAt_gr {c : List (Rat × Rat)} (hl : c.length ≤ 5) (hc : ∀ p ∈ c, Six 216 p.1 ∧ Six 36 p.2) {j : Nat} (hj : j ≤ 10) : Gr 11 (2 ^ 86) (sumAt c j) := by
  have pw : ∀ {q : Rat}, Six 216 q → ∀ i, Gr i (216 ^ i) (q ^ i) := fun {q} h i => by
    induction i with
    | zero => exact ⟨1, by decide, by rw [Rat.pow_zero]; decide +kernel⟩
    | succ i ih =>
      rw [Rat.pow_succ]
      exact (ih.mul h.gr)
  have h1 : ∀ q ∈ c.map (fun p => p.2 * p.1 ^ j), Gr 11 (2 ^ 83) q := fun q hq => by
    obtain ⟨p, hp, rfl⟩ := List.mem_map.mp hq
    have h2 := ((hc p hp).2.gr.mul (pw (hc p hp).1 j)).lift (10 - j)
    have e : 1 + j + (10 - j) = 11 := by omega
    rw [e] at h2
    refine h2.mono ?_
    have e2 : 216 ^ j * 6 ^ (10 - j) ≤ 216 ^ j * 216 ^ (10 - j) := Nat.mul_le_mul_left _ (Nat.pow_le_pow_left (by decide) _)
    rw [← Nat.pow_add, show j + (10 - j) = 10 by omega] at e2
    rw [Nat.mul_assoc]
    refine Nat.le_trans (Nat.mul_le_mul_left 36 e2) ?_
    decide
  have h3 := sum_gr' h1
  unfold sumAt
  refine h3.mono ?_
  rw [List.length_map]
  refine Nat.le_trans (Nat.mul_le_mul_left _ hl) ?_
  decide
abbrev callK (k : Sl → EnvD → S → Prop) (env : EnvD) : Sl → S → Prop := fun r s => k r env s
theorem callK_ap (k : Sl → EnvD → S → Prop) (env : EnvD) (r : Sl) (s : S) : callK k env r s = k r env s := rfl
theorem wCall_K (F : Fn) (xq : Str → S → Prop) (fa : FA) (env : EnvD) (s : S) (k : Sl → EnvD → S → Prop) : wCall F xq fa env s k = fa env s fun ds env1 s1 => F ds s1 (callK k env1) xq := rfl
abbrev scalK (k : Sl → EnvD → S → Prop) (env : EnvD) : Sl → S → Prop := fun r s => isScal r.d ∧ k r env s
theorem scalK_ap (k : Sl → EnvD → S → Prop) (env : EnvD) (r : Sl) (s : S) : scalK k env r s = (isScal r.d ∧ k r env s) := rfl
theorem wCallB_K (F : Fn) (xq : Str → S → Prop) (fa : FB) (env : EnvD) (s : S) (k : Sl → EnvD → S → Prop) : wCallB F xq fa env s k = fa env s fun ds env1 s1 => F ds s1 (scalK k env1) xq := rfl
abbrev lendK (k : Sl → EnvD → S → Prop) (env1 : EnvD) (j : Nat) (a : Addr) (s1 : S) : Sl → S → Prop := fun r s2 => ∃ x' b', s2 = some ⟨x', b', a⟩ ∧ k r (env1.set j (.own [.int x', .bl b'])) s1
theorem wCallLend_K (F : Fn) (xq : Str → S → Prop) (j : Nat) (fa : FA) (env : EnvD) (s : S) (k : Sl → EnvD → S → Prop) : wCallLend F xq j fa env s k = (match at_ env j with
  | .own _ => fa env s fun ds env1 s1 => match at_ env1 j with
    | .own [.int x, .bl b] => ∀ a, F (.st a :: ds) (some ⟨x, b, a⟩) (lendK k env1 j a s1) (fun cn _ => xq cn s1)
    | _ => False
  | _ => False) := rfl
abbrev compK (k : Sl → EnvD → S → Prop) (env1 : EnvD) (vs : List Nat) : List D → EnvD → S → Prop := fun acc env2 s2 => k (.own acc) (backD env1 env2 vs) s2
theorem compK_ap (k : Sl → EnvD → S → Prop) (env1 : EnvD) (vs : List Nat) (acc : List D) (env2 : EnvD) (s2 : S) : compK k env1 vs acc env2 s2 = k (.own acc) (backD env1 env2 vs) s2 := rfl
theorem wComp_K (fi : FI) (fg : FG) (ft : FT) (fe : FE) (vs : List Nat) (env : EnvD) (s : S) (k : Sl → EnvD → S → Prop) : wComp fi fg ft fe vs env s k = fi env s fun ds env1 s1 => noOwn env1 vs ∧ ds.length < sizeLine ∧ compW fg ft fe vs (compK k env1 vs) ds [] (wipeD env1 vs) s1 := rfl
def seqK (g : FS) (k : Fl → Prop) : Fl → Prop := fun fl => match fl with
  | .nx e s => g e s k
  | .rt r s => k (.rt r s)
  | .bk e s => k (.bk e s)
  | .ct e s => k (.ct e s)
theorem wSeq_K (f g : FS) (env : EnvD) (s : S) (k : Fl → Prop) : wSeq f g env s k = f env s (seqK g k) := by
  unfold wSeq
  congr 1
theorem seqK_nx (g : FS) (k : Fl → Prop) (e : EnvD) (s : S) : seqK g k (.nx e s) = g e s k := rfl
theorem seqK_rt (g : FS) (k : Fl → Prop) (r : Sl) (s : S) : seqK g k (.rt r s) = k (.rt r s) := rfl
theorem seqK_bk (g : FS) (k : Fl → Prop) (e : EnvD) (s : S) : seqK g k (.bk e s) = k (.bk e s) := rfl
theorem seqK_ct (g : FS) (k : Fl → Prop) (e : EnvD) (s : S) : seqK g k (.ct e s) = k (.ct e s) := rfl
theorem wSeq_K' {f g : FS} {env : EnvD} {s : S} {k : Fl → Prop} (h : f env s (seqK g k)) : wSeq f g env s k := (wSeq_K f g env s k).mpr h
theorem seqK_nx' {g : FS} {k : Fl → Prop} {e : EnvD} {s : S} (h : g e s k) : seqK g k (.nx e s) := h
theorem seqK_rt' {g : FS} {k : Fl → Prop} {r : Sl} {s : S} (h : k (.rt r s)) : seqK g k (.rt r s) := h
theorem seqK_bk' {g : FS} {k : Fl → Prop} {e : EnvD} {s : S} (h : k (.bk e s)) : seqK g k (.bk e s) := h
theorem seqK_ct' {g : FS} {k : Fl → Prop} {e : EnvD} {s : S} (h : k (.ct e s)) : seqK g k (.ct e s) := h
end DL
set_option Elab.async false
set_option linter.all false
set_option maxRecDepth 100000
set_option maxHeartbeats 4000000
namespace DL
open PySem L2
local macro_rules | `(tactic| walk_at "wr") => `(tactic| simp (config := {failIfUnchanged := false, maxSteps := 1000000}) only [wNext, wSeq, wRet, wRetV, wIfS, wAsg, wName, wRng1, wV, wPV, wC, wP, wOpv, wB, wNot, wNil, wCons, wLst, wIxv, gIx, stIx, gCat, wComp, wYes, kBody, at_, List.set, Sl.d, wIsE, wIsV, envE,
  List.map_cons, List.map_nil, List.length_cons, List.length_nil, List.cons_append, List.nil_append, Nat.reduceAdd, Nat.reduceSub, ne_eq, reduceCtorEq, not_false_eq_true, true_and, and_true, noOwn, wipeD, backD, if_true, if_false, Bool.not_true, Bool.not_false])
theorem mem9 {x : Str} {i : Int} (h : idx9 x = some i) : ∃ n : Nat, i = n ∧ n < 9 ∧ nine[n]? = some x := by
  unfold idx9 at h
  cases e : nine.findIdx? fun y => x == y with
  | none => rw [e] at h; cases h
  | some n =>
    rw [e] at h
    cases h
    obtain ⟨h1, h2, _⟩ := List.findIdx?_eq_some_iff_getElem.mp e
    exact ⟨n, rfl, h1, by rw [List.getElem?_eq_getElem h1, beq_iff_eq.mp h2]⟩
theorem bref_non (s : S) (k : Sl → S → Prop) (h : k (.val .non) s) : BRef (envE .non) s (kBody k) := by
  unfold BRef
  walk_at "wr"
  exact ⟨by decide, by decide, by decide, by decide, by decide, h⟩
theorem nine_eq : ∀ n, n < 9 → ∀ x, nine[n]? = some x → (nine.map fun y => x == y) = (List.range 9).map fun m => m == n := by decide
theorem bref_go (s : S) (k : Sl → S → Prop) (d : D) (bs : List Bool) : ∀ (l : List Nat) (acc : List D), (∀ i ∈ l, i < bs.length) → k (.own (acc ++ (l.filter fun i => bs.getD i false).map fun i : Nat => D.int i)) s →
    compW (wName 4) (wB (wIxv 3 (wPV 4))) (wV 4) [4] (fun acc _ s2 => k (Sl.own acc) s2) (l.map fun i : Nat => D.int i) acc [Sl.no, Sl.val d, Sl.no, Sl.own (bs.map D.bl), Sl.no] s
  | [], acc, _, h => by simpa [compW] using h
  | i :: l, acc, hl, h => by
    have hi := hl i List.mem_cons_self
    have e : atI (bs.map D.bl) (i : Int) = some (.bl (bs.getD i false)) := by
      rw [DL.atI_nat' (by simpa using hi), List.getElem?_map, List.getElem?_eq_getElem hi]
      simp [hi]
    simp only [List.map_cons, compW, wName, wB, wIxv, wPV, wV, at_, List.set, ne_eq, reduceCtorEq, not_false_eq_true, true_and, gIx, e, stIx, Sl.d, Option.some.injEq, exists_eq_left']
    have ih := fun acc => bref_go s k d bs l acc (fun j hj => hl j (List.mem_cons_of_mem _ hj))
    cases hb : bs.getD i false with
    | true =>
      simp only [if_true, wipeD, List.set]
      refine ih _ ?_
      rw [List.filter_cons_of_pos (by exact hb), List.map_cons] at h
      simpa using h
    | false =>
      simp only [Bool.false_eq_true, if_false, wipeD, List.set]
      refine ih _ ?_
      rw [List.filter_cons_of_neg (by rw [hb]; decide)] at h
      exact h
theorem nine_f : ∀ n, n < 9 → ((List.range 9).filter fun i => ((List.range 9).map fun m => m == n).getD i false) = [n] := by decide
theorem bref_comp (s : S) (k : Sl → S → Prop) (d : D) (n : Nat) (hn : n < 9) (h : k (.own [.int (n : Int)]) s) :
    compW (wName 4) (wB (wIxv 3 (wPV 4))) (wV 4) [4] (fun acc _ s2 => k (Sl.own acc) s2) (intL 0 9) [] [Sl.no, Sl.val d, Sl.no, Sl.own (((List.range 9).map fun m => m == n).map D.bl), Sl.no] s := by
  have e : intL 0 9 = (List.range 9).map fun i : Nat => D.int i := by
    unfold intL
    exact List.map_congr_left fun i _ => by rw [Int.zero_add]
  rw [e]
  refine bref_go s k d _ _ _ (fun i hi => by simpa using hi) ?_
  rw [nine_f n hn]
  exact h
theorem bref_exc (x : Str) (i : Int) (s : S) (k : Sl → S → Prop) (e : idx9 x = some i) (h : k (.own [.int i]) s) : BRef (envE (.exc x)) s (kBody k) := by
  obtain ⟨n, rfl, hn, hx⟩ := mem9 e
  unfold BRef
  walk_at "wr"
  have hm : x ∈ nine := List.mem_of_getElem? hx
  refine ⟨hm, hm, hm, by decide, hm, hm, hm, by decide, by decide, hm, hm, hm, by decide, by decide, hm, by decide, by decide, ?_⟩
  have q := bref_comp s k (.exc x) n hn h
  rw [← nine_eq n hn x hx] at q
  exact q
end DL
set_option Elab.async false
set_option linter.all false
set_option maxRecDepth 100000
set_option maxHeartbeats 1000000
namespace DL
open PySem L2 PySem.Spec PyProof.Rows
end DL
set_option Elab.async false
set_option linter.all false
set_option maxRecDepth 100000
set_option maxHeartbeats 1000000
namespace DL
open PySem L2 PySem.Spec PyProof.Rows
open Evl (Ex)
def wClear (j : Nat) : FS := fun env s k => match at_ env j with
  | .own _ => k (.nx (env.set j (.own [])) s)
  | _ => False
end DL
set_option Elab.async false
set_option linter.all false
set_option maxRecDepth 100000
set_option maxHeartbeats 1000000
namespace DL
open PySem L2 PySem.Spec PyProof.Rows
open Evl (Ex)
section
variable {c : Cxt}
def wOwns : List FE → EnvD → S → (EnvD → S → Prop) → Prop
  | [], env, s, k => k env s
  | f :: fs, env, s, k => f env s fun r env1 s1 => match r with
    | .own es => es.length < sizeLine ∧ wOwns fs env1 s1 k
    | _ => False
def eachW (i : Nat) (fx : FE) : Nat → EnvD → S → (Fl → Prop) → Prop
  | 0, env, s, k => k (.nx env s)
  | n + 1, env, s, k => fx (env.set i .no) s fun _ env2 s2 => eachW i fx n env2 s2 k
def wEach (i : Nat) (fs : List FE) (fx : FE) : FS := fun env s k => i < env.length ∧ wOwns fs env s fun env1 s1 => fs.length ≤ sizeLine ∧ eachW i fx fs.length env1 s1 k
end
def gInT (neg : Bool) : F2 := fun d e k => match d, e with
  | .int i, .tup [.int a, .int b] => k (.val (.bl (if neg then !(i == a || i == b) else (i == a || i == b))))
  | _, _ => False
end DL
set_option Elab.async false
set_option linter.all false
set_option maxRecDepth 100000
set_option maxHeartbeats 1000000
namespace DL
open PySem L2 PySem.Spec PyProof.Rows
open Evl (Ex)
def wTupL (n : Nat) (f : FGs) : FG := fun r env s k => match r.d with
  | .lst ds => ds.length = n ∧ f ds env s k
  | _ => False
def lkD : Option D → List (Key × D) → Key → Option D
  | o, [], _ => o
  | o, (k, d) :: r, j => lkD (if j = k then some d else o) r j
def kyD : D → Option Key
  | .int i => some (.inl i)
  | .str x => some (.inr x)
  | _ => none
def wDSub (ks : List Key) (fa : FA) (fi : FP) : FE := fun env s k => fa env s fun ds env1 s1 => fi env1 s1 fun d env2 s2 => match kyD d with
  | some j => ∃ z, lkD none (ks.zip ds) j = some z ∧ k (.val z) env2 s2
  | none => False
section
variable {c : Cxt}
theorem RepL.lk {K : PySem.W.Frag} {G : Hp} {j : Key} {z : D} : ∀ {ks : List Key} {ds : List D} {vs : List V} {o : Option D} {kvs : List (Key × V)}, RepL K G ds vs → (∀ d, o = some d → ∃ v, valV kvs j = some v ∧ Rep K G d v) → lkD o (ks.zip ds) j = some z →
    ∃ v, valV (mergeK kvs (ks.zip vs)) j = some v ∧ Rep K G z v
  | [], ds, vs, o, kvs, _, ho, h => by
    simp only [List.zip_nil_left, lkD] at h
    exact ho z h
  | k :: ks, [], vs, o, kvs, hr, ho, h => by
    simp only [RepL] at hr
    subst hr
    simp only [List.zip_nil_right, lkD] at h
    exact ho z h
  | k :: ks, d :: ds, vs, o, kvs, hr, ho, h => by
    simp only [RepL] at hr
    obtain ⟨v, r, rfl, h1, h2⟩ := hr
    simp only [List.zip_cons_cons, lkD] at h
    show ∃ w, valV (mergeK (putK kvs k v) (ks.zip r)) j = some w ∧ _
    refine RepL.lk (ks := ks) (ds := ds) h2 (fun d' hd => ?_) h
    rw [valV_put]
    by_cases hjk : j = k
    · rw [if_pos hjk] at hd ⊢
      cases hd
      exact ⟨v, rfl, h1⟩
    · rw [if_neg hjk] at hd ⊢
      exact ho d' hd
mutual
theorem Rep.dic {K : PySem.W.Frag} {G : Hp} {p : Addr} {a b : List (Key × V)} (hp : G p = some (.dK a)) : ∀ (d : D) {v : V}, Rep K G d v → Rep K (upd G p (.dK b)) d v
  | .non, _, h => by simpa only [Rep] using h
  | .bl _, _, h => by simpa only [Rep] using h
  | .int _, _, h => by simpa only [Rep] using h
  | .str _, _, h => by simpa only [Rep] using h
  | .st _, _, h => by simpa only [Rep] using h
  | .lst ds, v, h => by
    simp only [Rep] at h ⊢
    obtain ⟨q, vs, e, h1, h2⟩ := h
    have hb : q ≠ p := fun z => by rw [z, hp] at h1; cases h1
    exact ⟨q, vs, e, by rw [upd_ne hb]; exact h1, RepL.dic hp ds h2⟩
  | .tup ds, v, h => by
    simp only [Rep] at h ⊢
    obtain ⟨q, vs, e, h1, h2⟩ := h
    refine ⟨q, vs, e, ?_, RepL.dic hp ds h2⟩
    rcases h1 with (h1 | h1) | h1
    · have hb : q ≠ p := fun z => by rw [z, hp] at h1; cases h1
      exact .inl (.inl (by rw [upd_ne hb]; exact h1))
    · have hb : q ≠ p := fun z => by
        rw [z, hp] at h1
        obtain ⟨_, w⟩ := h1
        cases w
      exact .inl (.inr (by rw [upd_ne hb]; exact h1))
    · exact .inr h1
  | .dic, v, h => by
    simp only [Rep] at h ⊢
    obtain ⟨q, kvs, e, h1⟩ := h
    by_cases hb : q = p
    · exact ⟨q, b, e, by rw [hb, upd_same]⟩
    · exact ⟨q, kvs, e, by rw [upd_ne hb]; exact h1⟩
  | .scr ns, v, h => by
    simp only [Rep] at h ⊢
    obtain ⟨q, e, h1⟩ := h
    refine ⟨q, e, ?_⟩
    rcases h1 with (h1 | h1) | h1
    · have hb : q ≠ p := fun z => by rw [z, hp] at h1; cases h1
      exact .inl (.inl (by rw [upd_ne hb]; exact h1))
    · have hb : q ≠ p := fun z => by
        rw [z, hp] at h1
        obtain ⟨_, w⟩ := h1
        cases w
      exact .inl (.inr (by rw [upd_ne hb]; exact h1))
    · exact .inr h1
  | .exc x, v, h => by
    simp only [Rep] at h ⊢
    obtain ⟨q, e, h1⟩ := h
    have hb : q ≠ p := fun z => by rw [z, hp] at h1; unfold ErrO at h1; cases h1
    exact ⟨q, e, by rw [upd_ne hb]; exact h1⟩
  | .fn f q o u, v, h => by
    simp only [Rep] at h ⊢
    obtain ⟨e, h1, h2, h3, h4⟩ := h
    have hf : f ≠ p := fun z => by rw [z, hp] at h1; exact h3 _ (Option.some.inj h1).symm
    have hb : q ≠ p := fun z => by rw [z, hp] at h2; exact h4 _ (Option.some.inj h2).symm
    exact ⟨e, by rw [upd_ne hf]; exact h1, by rw [upd_ne hb]; exact h2, h3, h4⟩
theorem RepL.dic {K : PySem.W.Frag} {G : Hp} {p : Addr} {a b : List (Key × V)} (hp : G p = some (.dK a)) : ∀ (ds : List D) {vs : List V}, RepL K G ds vs → RepL K (upd G p (.dK b)) ds vs
  | [], _, h => by simpa only [RepL] using h
  | d :: ds, vs, h => by
    simp only [RepL] at h ⊢
    obtain ⟨v, r, e, h1, h2⟩ := h
    exact ⟨v, r, e, Rep.dic hp d h1, RepL.dic hp ds h2⟩
end
theorem Tabs.updD {T : List (Addr × Str)} {H : Hp} {p : Addr} {a b : List (Key × V)} (h : LamX.Tabs T H) (e : H p = some (.dK a)) : LamX.Tabs T (upd H p (.dK b)) := fun q hq => by
  obtain ⟨ps, h1, h2, h3⟩ := h q hq
  have n1 : q.1 ≠ p := ne_of h1 e (by intro z; cases z)
  refine ⟨ps, by rw [upd_ne n1]; exact h1, h2, fun pos cv hc => ?_⟩
  obtain ⟨x, e1, e2⟩ := h3 pos cv hc
  refine ⟨x, e1, ?_⟩
  rw [upd_ne (ne_of e2 e (by intro z; unfold LamX.CodeO at z; cases z))]
  exact e2
theorem Rel.dic {G H : Hp} {env : EnvD} {s : S} {σ : L2.St} {p : Addr} {a b : List (Key × V)} (R : Rel c G env s σ H) (hg : G p = some (.dK a)) (h0 : c.H0 p = none) (g0 : c.G0 p = none) (ha : c.a0 ≠ some p) : Rel c (upd G p (.dK b)) env s σ (upd H p (.dK b)) := by
  have hH := R.ex _ _ hg
  refine { ex := fun q u hq => ?_, st := fun a h1 => ?_, sn := R.sn, keep := fun q u h1 h2 h3 => ?_, kn := fun q hq => ?_, h0n := R.h0n, tab := Tabs.updD R.tab hH, gnew := fun q ws h1 h2 => ?_, gx := fun q u hq => ?_, gtb := fun q ps hq => ?_, len := R.len,
           vals := fun i d hi => ?_, owns := fun i ds hi => ?_, dist := R.dist }
  · by_cases hb : q = p
    · subst hb; rw [upd_same] at hq ⊢; exact hq
    · rw [upd_ne hb] at hq ⊢; exact R.ex q u hq
  · have hb : a ≠ p := fun z => ha (by rw [← z]; exact h1)
    obtain ⟨m1, y, z, m2, m3⟩ := R.st a h1
    exact ⟨by rw [upd_ne hb]; exact m1, y, z, m2, by rw [upd_ne hb]; exact m3⟩
  · have hb : q ≠ p := fun z => by rw [z, h0] at h1; cases h1
    rw [upd_ne hb]
    exact R.keep q u h1 h2 h3
  · by_cases hb : q = p
    · rw [hb]; exact h0
    · rw [upd_ne hb] at hq; exact R.kn q hq
  · have hb : q ≠ p := fun z => by rw [z, h0] at h1; cases h1
    rw [upd_ne hb]
    exact R.gnew q ws h1 h2
  · have hb : q ≠ p := fun z => by rw [z, g0] at hq; cases hq
    rw [upd_ne hb]
    exact R.gx q u hq
  · by_cases hb : q = p
    · subst hb; rw [upd_same] at hq; cases hq
    · rw [upd_ne hb] at hq; exact R.gtb q ps hq
  · obtain ⟨v, h1, h2⟩ := R.vals i d hi
    exact ⟨v, h1, Rep.dic hg d h2⟩
  · obtain ⟨v, h1, q, vs, h2, h3, h4, h5, h6, h7⟩ := R.owns i ds hi
    have hb : q ≠ p := fun z => by rw [z, hg] at h3; cases h3
    exact ⟨v, h1, q, vs, h2, by rw [upd_ne hb]; exact h3, h4, h5, by rw [upd_ne hb]; exact h6, RepL.dic hg ds h7⟩
end
end DL
set_option linter.all false
namespace DL
open PySem L2
abbrev KE := Sl → EnvD → S → Prop
abbrev KP := D → EnvD → S → Prop
abbrev KA := List D → EnvD → S → Prop
abbrev KT := Bool → EnvD → S → Prop
abbrev KG := EnvD → S → Prop
abbrev KO := Option Int → EnvD → S → Prop
section
variable (f : FE) (fa : FA) (fp fp' : FP) (ft ft' : FT) (g g' : FG) (gs : FGs) (fs fs' : FS) (fi : FI) (fb : FB) (fo fo' : FO) (f' f'' : FE) (env e : EnvD) (s s1 : S) (i j n : Nat) (r r' : Sl) (d : D) (ds es : List D)
variable (ke : KE) (kp : KP) (ka : KA) (kt : KT) (kg : KG) (ks : Fl → Prop) (kl : Sl → Prop) (F : Fn) (xq : Str → S → Prop) (o2 o2' : F2) (o1 : F1) (ol : FL) (vs : List Nat)
def valK : Sl → Prop := fun r => ke r e s
theorem valK_ap : valK e s ke r = ke r e s := rfl
def asg2K : KG := fun e s => ks (.nx e s)
theorem asg2K_ap : asg2K ks e s = ks (.nx e s) := rfl
def asgK : KE := fun r e s => g r e s (asg2K ks)
theorem asgK_ap : asgK g ks r e s = g r e s (asg2K ks) := rfl
theorem wAsg_C : wAsg f g env s ks = f env s (asgK g ks) := rfl
def gconsK : KG := fun e s => gs ds e s kg
theorem gconsK_ap : gconsK gs ds kg e s = gs ds e s kg := rfl
theorem wGCons_C : wGCons g gs (d :: ds) env s kg = g (.val d) env s (gconsK gs ds kg) := rfl
theorem wGCons_N : wGCons g gs [] env s kg = False := rfl
def parK : KA := fun ds e s => match ds with
  | [d, d'] => ks (.nx ((e.set i (.val d)).set j (.val d')) s)
  | _ => False
theorem parK_ap (d' : D) : parK i j ks [d, d'] e s = ks (.nx ((e.set i (.val d)).set j (.val d')) s) := rfl
theorem wPar_C : wPar i j fa env s ks = fa env s (parK i j ks) := rfl
def appK : KE := fun r e s => match at_ e j with
  | .own ds => ds.length < sizeLine ∧ ks (.nx (e.set j (.own (ds ++ [r.d]))) s)
  | _ => False
theorem appK_ap : appK j ks r e s = (match at_ e j with
  | .own ds => ds.length < sizeLine ∧ ks (.nx (e.set j (.own (ds ++ [r.d]))) s)
  | _ => False) := rfl
theorem wApp_C : wApp j f env s ks = (match at_ env j with
  | .own _ => f env s (appK j ks)
  | _ => False) := rfl
def extK : KE := fun r e s => match at_ e j, r.d with
  | .own ds, .lst es => ds.length + es.length ≤ sizeLine ∧ ks (.nx (e.set j (.own (ds ++ es))) s)
  | _, _ => False
theorem extK_ap : extK j ks r e s = (match at_ e j, r.d with
  | .own ds, .lst es => ds.length + es.length ≤ sizeLine ∧ ks (.nx (e.set j (.own (ds ++ es))) s)
  | _, _ => False) := rfl
theorem wExt_C : wExt j f env s ks = (match at_ env j with
  | .own _ => f env s (extK j ks)
  | _ => False) := rfl
def st2K : S → Prop := fun s2 => kg e s2
theorem st2K_ap : st2K e kg s1 = kg e s1 := rfl
def subK : KP := fun di e s => match at_ e j, di with
    | .own ds, .int i => ∃ n, ixN ds.length i = some n ∧ kg (e.set j (.own (ds.set n r.d))) s
    | .val (.st a), .int i => setSt s a i r.d (st2K e kg)
    | _, _ => False
theorem subK_ap : subK j r kg d e s = (match at_ e j, d with
    | .own ds, .int i => ∃ n, ixN ds.length i = some n ∧ kg (e.set j (.own (ds.set n r.d))) s
    | .val (.st a), .int i => setSt s a i r.d (st2K e kg)
    | _, _ => False) := rfl
theorem wSub_C : wSub j fp r env s kg = (match at_ env j with
  | .no => False
  | _ => fp env s (subK j r kg)) := rfl
def forK : KA := fun ds e s => forW g fs ks ds e s
theorem forK_ap : forK g fs ks ds e s = forW g fs ks ds e s := rfl
theorem wFor_C : wFor fi g fs env s ks = fi env s (forK g fs ks) := rfl
def rng1K : KA := fun ds e s => match ds with
  | [.int j] => (-(2 ^ 62) ≤ j ∧ j < 2 ^ 62) ∧ ka (intL 0 j.toNat) e s
  | _ => False
theorem rng1K_ap (x : Int) : rng1K ka [.int x] e s = ((-(2 ^ 62) ≤ x ∧ x < 2 ^ 62) ∧ ka (intL 0 x.toNat) e s) := rfl
theorem wRng1_C : wRng1 fa env s ka = fa env s (rng1K ka) := rfl
def rng2K : KA := fun ds e s => match ds with
  | [.int i, .int j] => (-(2 ^ 62) ≤ i ∧ i < 2 ^ 62 ∧ -(2 ^ 62) ≤ j ∧ j < 2 ^ 62) ∧ ka (intL i (j - i).toNat) e s
  | _ => False
theorem rng2K_ap (x y : Int) : rng2K ka [.int x, .int y] e s = ((-(2 ^ 62) ≤ x ∧ x < 2 ^ 62 ∧ -(2 ^ 62) ≤ y ∧ y < 2 ^ 62) ∧ ka (intL x (y - x).toNat) e s) := rfl
theorem wRng2_C : wRng2 fa env s ka = fa env s (rng2K ka) := rfl
def rng3K : KA := fun ds e s => match ds with
  | [.int i, .int j, .int c] => ∃ n, RgC i j c n ∧ ka (intLC i c n) e s
  | _ => False
theorem rng3K_ap (x y z : Int) : rng3K ka [.int x, .int y, .int z] e s = (∃ n, RgC x y z n ∧ ka (intLC x z n) e s) := rfl
theorem wRng3_C : wRng3 fa env s ka = fa env s (rng3K ka) := rfl
def enumK : KA := fun ds e s => match ds with
  | [.lst es] => ka (enumD es) e s
  | _ => False
theorem enumK_ap : enumK ka [.lst es] e s = ka (enumD es) e s := rfl
theorem wEnum_C : wEnum fa env s ka = fa env s (enumK ka) := rfl
def zipK : KA := fun ds e s => match ds with
  | [.lst es, .lst fs] => ka (zipD es fs) e s
  | [.tup es, .tup fs] => ka (zipD es fs) e s
  | _ => False
theorem zipK_ap : zipK ka [.lst ds, .lst es] e s = ka (zipD ds es) e s := rfl
theorem zipK_ap' : zipK ka [.tup ds, .tup es] e s = ka (zipD ds es) e s := rfl
theorem wZip_C : wZip fa env s ka = fa env s (zipK ka) := rfl
def revK : KA := fun ds e s => match ds with
  | [.lst es] => ka es.reverse e s
  | _ => False
theorem revK_ap : revK ka [.lst es] e s = ka es.reverse e s := rfl
theorem wRev_C : wRev fa env s ka = fa env s (revK ka) := rfl
def itK : KE := fun r e s => match r.d with
  | .lst ds => ka ds e s
  | _ => False
theorem itK_ap : itK ka r e s = (match r.d with
  | .lst ds => ka ds e s
  | _ => False) := rfl
theorem wIt_C : wIt f env s ka = f env s (itK ka) := rfl
def itTK : KE := fun r e s => match r.d with
  | .tup ds => ka ds e s
  | _ => False
theorem itTK_ap : itTK ka r e s = (match r.d with
  | .tup ds => ka ds e s
  | _ => False) := rfl
theorem wItT_C : wItT f env s ka = f env s (itTK ka) := rfl
def pK : KE := fun r e s => kp r.d e s
theorem pK_ap : pK kp r e s = kp r.d e s := rfl
theorem wP_C : wP f env s kp = f env s (pK kp) := rfl
def op2K : KP := fun d e s => o2 r.d d (valK e s ke)
theorem op2K_ap : op2K r ke o2 d e s = o2 r.d d (valK e s ke) := rfl
def opK : KE := fun r e s => fp e s (op2K r ke o2)
theorem opK_ap : opK fp ke o2 r e s = fp e s (op2K r ke o2) := rfl
theorem wOp_C : wOp o2 f fp env s ke = f env s (opK fp ke o2) := rfl
def opvK : KP := fun d e s => at_ e i ≠ .no ∧ o2 (at_ e i).d d (valK e s ke)
theorem opvK_ap : opvK i ke o2 d e s = (at_ e i ≠ .no ∧ o2 (at_ e i).d d (valK e s ke)) := rfl
theorem wOpv_C : wOpv o2 i fp env s ke = (at_ env i ≠ .no ∧ fp env s (opvK i ke o2)) := rfl
def unK : KP := fun d e s => o1 d (valK e s ke)
theorem unK_ap : unK ke o1 d e s = o1 d (valK e s ke) := rfl
theorem wUn_C : wUn o1 fp env s ke = fp env s (unK ke o1) := rfl
theorem wCB1_C : wCB1 o1 fp env s ke = fp env s (unK ke o1) := rfl
def cbK : KA := fun ds e s => ol ds (valK e s ke)
theorem cbK_ap : cbK ke ol ds e s = ol ds (valK e s ke) := rfl
theorem wCB_C : wCB ol fa env s ke = fa env s (cbK ke ol) := rfl
def bK : KE := fun r e s => match r.d with
  | .bl b => kt b e s
  | _ => False
theorem bK_ap : bK kt r e s = (match r.d with
  | .bl b => kt b e s
  | _ => False) := rfl
theorem wB_C : wB f env s kt = f env s (bK kt) := rfl
def notK : KT := fun b e s => kt (!b) e s
theorem notK_ap (b : Bool) : notK kt b e s = kt (!b) e s := rfl
theorem wNot_C : wNot ft env s kt = ft env s (notK kt) := rfl
def andK : KT := fun b e s => if b = true then ft' e s kt else kt false e s
theorem andK_ap (b : Bool) : andK ft' kt b e s = (if b = true then ft' e s kt else kt false e s) := rfl
theorem wAnd_C : wAnd ft ft' env s kt = ft env s (andK ft' kt) := rfl
def orK : KT := fun b e s => if b = true then kt true e s else ft' e s kt
theorem orK_ap (b : Bool) : orK ft' kt b e s = (if b = true then kt true e s else ft' e s kt) := rfl
theorem wOr_C : wOr ft ft' env s kt = ft env s (orK ft' kt) := rfl
def andVK : KE := fun r e s => match r.d with
  | .bl b => if b = true then f' e s ke else ke (.val (.bl false)) e s
  | _ => False
theorem andVK_ap : andVK f' ke r e s = (match r.d with
  | .bl b => if b = true then f' e s ke else ke (.val (.bl false)) e s
  | _ => False) := rfl
theorem wAndV_C : wAndV f f' env s ke = f env s (andVK f' ke) := rfl
def orVK : KE := fun r e s => match r.d with
  | .bl b => if b = true then ke (.val (.bl true)) e s else f' e s ke
  | _ => False
theorem orVK_ap : orVK f' ke r e s = (match r.d with
  | .bl b => if b = true then ke (.val (.bl true)) e s else f' e s ke
  | _ => False) := rfl
theorem wOrV_C : wOrV f f' env s ke = f env s (orVK f' ke) := rfl
def notVK : KE := fun r e s => match r.d with
  | .bl b => ke (.val (.bl (!b))) e s
  | _ => False
theorem notVK_ap : notVK ke r e s = (match r.d with
  | .bl b => ke (.val (.bl (!b))) e s
  | _ => False) := rfl
theorem wNotV_C : wNotV f env s ke = f env s (notVK ke) := rfl
def ifK : KT := fun b e s => if b = true then f e s ke else f' e s ke
theorem ifK_ap (b : Bool) : ifK f f' ke b e s = (if b = true then f e s ke else f' e s ke) := rfl
theorem wIf_C : wIf ft f f' env s ke = ft env s (ifK f f' ke) := rfl
def ifsK : KT := fun b e s => if b = true then fs e s ks else fs' e s ks
theorem ifsK_ap (b : Bool) : ifsK fs fs' ks b e s = (if b = true then fs e s ks else fs' e s ks) := rfl
theorem wIfS_C : wIfS ft fs fs' env s ks = ft env s (ifsK fs fs' ks) := rfl
def cons2K : KA := fun ds e s => ka (r.d :: ds) e s
theorem cons2K_ap : cons2K r ka ds e s = ka (r.d :: ds) e s := rfl
def consK : KE := fun r e s => fa e s (cons2K r ka)
theorem consK_ap : consK fa ka r e s = fa e s (cons2K r ka) := rfl
theorem wCons_C : wCons f fa env s ka = f env s (consK fa ka) := rfl
def tupK : KA := fun ds e s => ds.length ≤ sizeLine ∧ ke (.val (.tup ds)) e s
theorem tupK_ap : tupK ke ds e s = (ds.length ≤ sizeLine ∧ ke (.val (.tup ds)) e s) := rfl
theorem wTup_C : wTup fa env s ke = fa env s (tupK ke) := rfl
def lstK : KA := fun ds e s => ds.length ≤ sizeLine ∧ ke (.own ds) e s
theorem lstK_ap : lstK ke ds e s = (ds.length ≤ sizeLine ∧ ke (.own ds) e s) := rfl
theorem wLst_C : wLst fa env s ke = fa env s (lstK ke) := rfl
def ixvK : KP := fun db e s => match at_ e i with
    | .no => False
    | .own ds => gIx (.lst ds) db (valK e s ke)
    | .val (.st a) => stIx s a db (valK e s ke)
    | .val d => gIx d db (valK e s ke)
theorem ixvK_ap : ixvK i ke d e s = (match at_ e i with
    | .no => False
    | .own ds => gIx (.lst ds) d (valK e s ke)
    | .val (.st a) => stIx s a d (valK e s ke)
    | .val d' => gIx d' d (valK e s ke)) := rfl
theorem wIxv_C : wIxv i fp env s ke = (match at_ env i with
  | .no => False
  | _ => fp env s (ixvK i ke)) := rfl
def sl3K (lo : Option Int) : KO := fun hi e s => match r.d with
  | .lst ds => ke (.own (cutD ds lo hi)) e s
  | _ => False
theorem sl3K_ap (lo hi : Option Int) : sl3K r ke lo hi e s = (match r.d with
  | .lst ds => ke (.own (cutD ds lo hi)) e s
  | _ => False) := rfl
def sl2K : KO := fun lo e s => fo' e s (sl3K r ke lo)
theorem sl2K_ap (lo : Option Int) : sl2K fo' r ke lo e s = fo' e s (sl3K r ke lo) := rfl
def sl1K : KE := fun r e s => fo e s (sl2K fo' r ke)
theorem sl1K_ap : sl1K fo fo' ke r e s = fo e s (sl2K fo' r ke) := rfl
theorem wSl_C : wSl f fo fo' env s ke = f env s (sl1K fo fo' ke) := rfl
def slv2K (lo : Option Int) : KO := fun hi e s => match (at_ e i).d with
    | .lst ds => ke (.own (cutD ds lo hi)) e s
    | _ => False
theorem slv2K_ap (lo hi : Option Int) : slv2K i ke lo hi e s = (match (at_ e i).d with
    | .lst ds => ke (.own (cutD ds lo hi)) e s
    | _ => False) := rfl
def slv1K : KO := fun lo e s => fo' e s (slv2K i ke lo)
theorem slv1K_ap (lo : Option Int) : slv1K fo' i ke lo e s = fo' e s (slv2K i ke lo) := rfl
theorem wSlv_C : wSlv i fo fo' env s ke = (match at_ env i with
  | .no => False
  | _ => fo env s (slv1K fo' i ke)) := rfl
def partK (ko : KO) : KP := fun d e s => match d with
  | .int i => ko (some i) e s
  | _ => False
theorem partK_ap (ko : KO) : partK ko d e s = (match d with
  | .int i => ko (some i) e s
  | _ => False) := rfl
theorem wPart_C (ko : KO) : wPart fp env s ko = fp env s (partK ko) := rfl
def argK : KA := fun ds e s => F ds s (callK ke e) xq
theorem argK_ap : argK ke F xq ds e s = F ds s (callK ke e) xq := rfl
theorem wCall_C : wCall F xq fa env s ke = fa env s (argK ke F xq) := rfl
def argBK : KA := fun ds e s => F ds s (scalK ke e) xq
theorem argBK_ap : argBK ke F xq ds e s = F ds s (scalK ke e) xq := rfl
theorem wCallB_C : wCallB F xq fb env s ke = fb env s (argBK ke F xq) := rfl
def bvarK : KA := fun ds e s => at_ e i ≠ .no ∧ ka ((at_ e i).d :: ds) e s
theorem bvarK_ap : bvarK i ka ds e s = (at_ e i ≠ .no ∧ ka ((at_ e i).d :: ds) e s) := rfl
theorem wBVar_C : wBVar i fb env s ka = (at_ env i ≠ .no ∧ fb env s (bvarK i ka)) := rfl
def bconsK : KE := fun r e s => fb e s (cons2K r ka)
theorem bconsK_ap : bconsK fb ka r e s = fb e s (cons2K r ka) := rfl
theorem wBCons_C : wBCons f fb env s ka = f env s (bconsK fb ka) := rfl
def cmpK : KA := fun ds e s => noOwn e vs ∧ ds.length < sizeLine ∧ compW g ft f vs (compK ke e vs) ds [] (wipeD e vs) s
theorem cmpK_ap : cmpK f ft g ke vs ds e s = (noOwn e vs ∧ ds.length < sizeLine ∧ compW g ft f vs (compK ke e vs) ds [] (wipeD e vs) s) := rfl
theorem wComp_C : wComp fi g ft f vs env s ke = fi env s (cmpK f ft g ke vs) := rfl
def cmpBK : KE := fun r e s => ke r (e.set i (.own ds)) s
theorem cmpBK_ap : cmpBK i ds ke r e s = ke r (e.set i (.own ds)) s := rfl
def itD : FI := fun env s k => k ds env s
theorem itD_ap : itD ds env s ka = ka ds env s := rfl
theorem wCompB_C : wCompB i g ft f vs env s ke = (match at_ env i with
  | .own ds => wComp (itD ds) g ft f vs (env.set i .no) s (cmpBK i ds ke)
  | _ => wComp (wIt (wV i)) g ft f vs env s ke) := rfl
def dropK : KE := fun _ e s => ks (.nx e s)
theorem dropK_ap : dropK ks r e s = ks (.nx e s) := rfl
theorem wDrop_C : wDrop f env s ks = f env s (dropK ks) := rfl
def retK : KE := fun r _ s => ks (.rt r s)
theorem retK_ap : retK ks r e s = ks (.rt r s) := rfl
theorem wRet_C : wRet f env s ks = f env s (retK ks) := rfl
def isiK (t : String) : KP := fun d e s => notScr d ∧ ke (.val (.bl (isTy d t))) e s
theorem isiK_ap (t : String) : isiK ke t d e s = (notScr d ∧ ke (.val (.bl (isTy d t))) e s) := rfl
theorem wIsi_C (t : String) : wIsi t fp env s ke = fp env s (isiK ke t) := rfl
def isi2K (t u : String) : KP := fun d e s => notScr d ∧ ke (.val (.bl (isTy d t || isTy d u))) e s
theorem isi2K_ap (t u : String) : isi2K ke t u d e s = (notScr d ∧ ke (.val (.bl (isTy d t || isTy d u))) e s) := rfl
theorem wIsi2_C (t u : String) : wIsi2 t u fp env s ke = fp env s (isi2K ke t u) := rfl
def ch3K : KP := fun d e s => o2' r.d d (valK e s ke)
theorem ch3K_ap : ch3K r ke o2' d e s = o2' r.d d (valK e s ke) := rfl
def chzK : Sl → Prop := fun z => match z.d with
  | .bl true => fp e s (ch3K r ke o2')
  | .bl false => ke (.val (.bl false)) e s
  | _ => False
theorem chzK_ap (z : Sl) : chzK fp e s r ke o2' z = (match z.d with
  | .bl true => fp e s (ch3K r ke o2')
  | .bl false => ke (.val (.bl false)) e s
  | _ => False) := rfl
def ch2K : KE := fun r' e s => o2 r.d r'.d (chzK fp e s r' ke o2')
theorem ch2K_ap : ch2K fp r ke o2 o2' r' e s = o2 r.d r'.d (chzK fp e s r' ke o2') := rfl
def ch1K : KE := fun r e s => f' e s (ch2K fp r ke o2 o2')
theorem ch1K_ap : ch1K fp f' ke o2 o2' r e s = f' e s (ch2K fp r ke o2 o2') := rfl
theorem wChain_C : wChain o2 o2' f f' fp env s ke = f env s (ch1K fp f' ke o2 o2') := rfl
def dsubK (kk : List Key) : KP := fun d e s => match kyD d with
  | some j => ∃ z, lkD none (kk.zip ds) j = some z ∧ ke (.val z) e s
  | none => False
theorem dsubK_ap (kk : List Key) : dsubK ds ke kk d e s = (match kyD d with
  | some j => ∃ z, lkD none (kk.zip ds) j = some z ∧ ke (.val z) e s
  | none => False) := rfl
def dsub1K (kk : List Key) : KA := fun ds e s => fp e s (dsubK ds ke kk)
theorem dsub1K_ap (kk : List Key) : dsub1K fp ke kk ds e s = fp e s (dsubK ds ke kk) := rfl
theorem wDSub_C (kk : List Key) : wDSub kk fa fp env s ke = fa env s (dsub1K fp ke kk) := rfl
theorem wNext_C : wNext env s ks = ks (.nx env s) := rfl
theorem wNil_C : wNil env s ka = ka [] env s := rfl
theorem wBNil_C : wBNil env s ka = ka [] env s := rfl
theorem wNoPart_C (ko : KO) : wNoPart env s ko = ko none env s := rfl
theorem wRetN_C : wRetN env s ks = ks (.rt (.val .non) s) := rfl
theorem wYes_C : wYes env s kt = kt true env s := rfl
theorem wGNil_C : wGNil ds env s kg = (ds = [] ∧ kg env s) := rfl
theorem wC_C : wC d env s ke = ke (.val d) env s := rfl
theorem wName_C : wName i r env s kg = kg (env.set i r) s := rfl
theorem wV_C : wV i env s ke = (match at_ env i with
  | .no => False
  | .val d => ke (.val d) env s
  | .own ds => ke (.val (.lst ds)) (env.set i (.val (.lst ds))) s) := rfl
theorem wPV_C : wPV i env s kp = (match at_ env i with
  | .no => False
  | .val d => kp d env s
  | .own ds => kp (.lst ds) env s) := rfl
theorem wRetV_C : wRetV i env s ks = (match at_ env i with
  | .no => False
  | .val d => ks (.rt (.val d) s)
  | .own ds => ks (.rt (.own ds) s)) := rfl
end
end DL
set_option Elab.async false
set_option linter.all false
set_option maxRecDepth 100000
set_option maxHeartbeats 1000000
namespace DL
open PySem PySem.Spec PyProof.Rows L2 RT
section
variable {prog : Program} {w : World} {A : Around} {E : Value → Shared → Prop} {s : Shared}
end
def wLRev (f : FP) : FE := fun env s k => f env s fun d env1 s1 => match d with
  | .lst ds => k (.own ds.reverse) env1 s1
  | _ => False
def lrevK (ke : KE) : KP := fun d e s => match d with
  | .lst ds => ke (.own ds.reverse) e s
  | _ => False
theorem lrevK_ap (ke : KE) (d : D) (e : EnvD) (s : S) : lrevK ke d e s = (match d with
  | .lst ds => ke (.own ds.reverse) e s
  | _ => False) := rfl
theorem wLRev_C (f : FP) (env : EnvD) (s : S) (ke : KE) : wLRev f env s ke = f env s (lrevK ke) := rfl
end DL
set_option Elab.async false
set_option linter.all false
set_option maxRecDepth 100000
set_option maxHeartbeats 1000000
namespace DL
open PySem L2 PySem.Spec PyProof.Rows
open Evl (Ex)
mutual
def flatD : D → Prop
  | .non => True
  | .bl _ => True
  | .int _ => True
  | .str _ => True
  | .tup ds => flatL ds
  | _ => False
def flatL : List D → Prop
  | [] => True
  | d :: ds => flatD d ∧ flatL ds
end
section
variable {K : PySem.W.Frag} {G G' : Hp}
mutual
theorem rep_flat (e : ∀ p vs, SqT K G p vs → SqT K G' p vs) : ∀ (d : D) {v : V}, flatD d → Rep K G d v → Rep K G' d v
  | .non, _, _, h => by simpa only [Rep] using h
  | .bl _, _, _, h => by simpa only [Rep] using h
  | .int _, _, _, h => by simpa only [Rep] using h
  | .str _, _, _, h => by simpa only [Rep] using h
  | .tup ds, _, f, h => by
    simp only [Rep] at h ⊢
    simp only [flatD] at f
    obtain ⟨p, vs, h1, h2, h3⟩ := h
    exact ⟨p, vs, h1, e _ _ h2, repL_flat e ds f h3⟩
  | .lst _, _, f, _ => by simp only [flatD] at f
  | .dic, _, f, _ => by simp only [flatD] at f
  | .scr _, _, f, _ => by simp only [flatD] at f
  | .st _, _, f, _ => by simp only [flatD] at f
  | .exc _, _, f, _ => by simp only [flatD] at f
  | .fn .., _, f, _ => by simp only [flatD] at f
theorem repL_flat (e : ∀ p vs, SqT K G p vs → SqT K G' p vs) : ∀ (ds : List D) {vs : List V}, flatL ds → RepL K G ds vs → RepL K G' ds vs
  | [], _, _, h => by simpa only [RepL] using h
  | d :: ds, _, f, h => by
    simp only [RepL] at h ⊢
    simp only [flatL] at f
    obtain ⟨v, r, h1, h2, h3⟩ := h
    exact ⟨v, r, h1, rep_flat e d f.1 h2, repL_flat e ds f.2 h3⟩
end
end
def flatR : Sl → Prop
  | .no => False
  | .val d => flatD d
  | .own ds => flatL ds
def wCallF (F : Fn) (xq : Str → S → Prop) (fa : FB) : FE := fun env s k => fa env s fun ds env1 s1 => F ds s1 (fun r s2 => flatR r ∧ k r env1 s2) xq
def noL (G1 G' : Hp) : Hp := fun p => match G1 p with
  | some o => some o
  | none => match G' p with
    | some (.lst _) => none
    | o => o
section
variable {c : Cxt}
theorem pql_knownL {G H : Hp} (ex : Ex G H) (ga : ∀ a, c.a0 = some a → G a = none) (gt : ∀ p ps, G p ≠ some (.tbl ps)) : ∀ {ds : List D} {vs : List V}, PQL c G H ds vs →
    ∃ G', Ex G G' ∧ Ex G' H ∧ (∀ a, c.a0 = some a → G' a = none) ∧ (∀ p ps, G' p ≠ some (.tbl ps)) ∧ RepL c.K G' ds vs ∧ ∀ p o, G p = none → G' p = some o → ∃ ws, o = .lst ws
  | [], _, h => ⟨G, Ex.refl G, ex, ga, gt, by have h' : _ = [] := h; subst h'; exact RepL.nil, fun p o h1 h2 => by rw [h1] at h2; cases h2⟩
  | d :: ds, _, h => by
    obtain ⟨v, r, rfl, h1, h2⟩ := h
    obtain ⟨G', e1, e2, e3, e4, e5, e0⟩ := pql_knownL ex ga gt h2
    cases d with
    | lst es =>
      obtain ⟨p, vs, rfl, g1, g2, g3⟩ := h1
      have e6 : Ex G' (upd G' p (.lst vs)) := fun q o hq => by
        by_cases hb : q = p
        · subst hb
          rw [upd_same]
          have := e2 _ _ hq
          rw [g2] at this
          exact this
        · rw [upd_ne hb]; exact hq
      refine ⟨upd G' p (.lst vs), e1.trans e6, fun q o hq => ?_, fun a ha => ?_, fun q ps hq => ?_, RepL.cons ?_ (RepL.mono e6 ds e5), fun q o h1 h2 => ?_⟩
      · by_cases hb : q = p
        · subst hb; rw [upd_same] at hq; cases hq; exact g2
        · rw [upd_ne hb] at hq; exact e2 q o hq
      · rw [upd_ne (fun z => g1 (by rw [← z]; exact ha))]; exact e3 a ha
      · by_cases hb : q = p
        · subst hb; rw [upd_same] at hq; cases hq
        · rw [upd_ne hb] at hq; exact e4 q ps hq
      · simp only [Rep]
        exact ⟨p, vs, rfl, upd_same, RepL.mono (e1.trans e6) es g3⟩
      · by_cases hb : q = p
        · subst hb; rw [upd_same] at h2; cases h2; exact ⟨_, rfl⟩
        · rw [upd_ne hb] at h2; exact e0 q o h1 h2
    | _ => exact ⟨G', e1, e2, e3, e4, RepL.cons (Rep.mono e1 _ h1) e5, e0⟩
end
section
variable {c : Cxt} {cl : Str → Addr} {E : XK} {xq : Str → S → Prop} {F : Fn} {t : TA}
theorem de_callF {g : FB} (hE : EOk c cl E xq) (h : DAB c t g) : DE c (tCall (spD c.K c.T cl F) [] E t) (wCallF F xq g) := by
  intro G env s σ H k Q R hf q
  refine h G env s σ H _ _ R hf fun G1 H1 vs ds env1 s1 R1 e1 rl k1 => ?_
  show spD c.K c.T cl F (vs ++ []) H1 Q E
  rw [List.append_nil]
  obtain ⟨G2, x1, x2, x3, x4, x5, x6⟩ := pql_knownL R1.ex (fun a ha => (R1.st a ha).1) R1.gtb rl
  have Ri : Rel (c.inn H1 G2) G2 [] s1 [] H1 :=
    { ex := x2, st := fun a ha => ⟨x3 a ha, (R1.st a ha).2⟩, sn := R1.sn, keep := fun _ _ h _ _ => (noT_some h).1, kn := fun _ h => noT_none h, h0n := fun p ps z => (noT_some z).2 ps rfl, tab := R1.tab, gnew := fun _ _ _ h => h, gx := Ex.refl G2, gtb := x4, len := rfl,
      vals := fun i d h => by simp at h, owns := fun i d h => by simp at h, dist := fun i j d e v h => by simp at h }
  have back : ∀ {G' H' s'}, Rel (c.inn H1 G2) G' [] s' [] H' → Rel c G1 env1 s' σ H' := fun {G' H' s'} R' => by
    refine { ex := (x1.trans R'.gx).trans R'.ex, st := fun a ha => ⟨(R1.st a ha).1, (R'.st a ha).2⟩, sn := R'.sn, keep := fun p o h1 h2 h3 => R'.keep p o (noT_of (R1.keep p o h1 h2 h3) h3) h2 h3, kn := fun p h => R1.knN (R'.kn p h), h0n := R1.h0n, tab := R'.tab, gnew := R1.gnew, gx := R1.gx, gtb := R1.gtb, len := R1.len,
             vals := R1.vals, owns := fun i es hi => ?_, dist := R1.dist }
    obtain ⟨v, h1, p, us, rfl, h3, h4, h5, h6, h7⟩ := R1.owns i es hi
    exact ⟨_, h1, p, us, rfl, h3, h4, h5, R'.keep p _ (noT_of h6 (fun _ z => by cases z)) h5 (fun _ z => by cases z), h7⟩
  have eG : ∀ {G'}, Ex G1 (noL G1 G') := fun {G'} p o hp => by
    unfold noL
    rw [hp]
  have inv : ∀ {G' p o}, noL G1 G' p = some o → G1 p = some o ∨ (G1 p = none ∧ G' p = some o ∧ ∀ ws, o ≠ .lst ws) := fun {G' p o} hp => by
    unfold noL at hp
    cases e : G1 p with
    | some u => rw [e] at hp; exact .inl hp
    | none =>
      rw [e] at hp
      refine .inr ⟨rfl, ?_⟩
      cases e2 : G' p with
      | none => rw [e2] at hp; cases hp
      | some u =>
        rw [e2] at hp
        cases u <;> first | (cases hp; done) | (cases hp; exact ⟨rfl, fun _ z => by cases z⟩)
  have none_of : ∀ {G' p}, G1 p = none → (∀ o, G' p = some o → ∃ ws, o = .lst ws) → noL G1 G' p = none := fun {G' p} h1 h2 => by
    cases e : noL G1 G' p with
    | none => rfl
    | some o =>
      rcases inv e with z | ⟨_, z, n⟩
      · rw [h1] at z; cases z
      · obtain ⟨ws, rfl⟩ := h2 _ z
        exact absurd rfl (n ws)
  have back3 : ∀ {G' H' s'}, Rel (c.inn H1 G2) G' [] s' [] H' → Rel c (noL G1 G') env1 s' σ H' := fun {G' H' s'} R' => by
    have B := back R'
    refine { B with ex := fun p o hp => ?_, st := fun a ha => ⟨none_of (R1.st a ha).1 (fun o z => by rw [(R'.st a ha).1] at z; cases z), (R'.st a ha).2⟩, gnew := fun p ws h1 h2 => ?_, gx := R1.gx.trans eG, gtb := fun p ps hp => ?_, vals := fun i d hi => ?_, owns := fun i es hi => ?_ }
    · rcases inv hp with z | ⟨_, z, _⟩
      · exact B.ex _ _ z
      · exact R'.ex _ _ z
    · have g1 := R1.gnew p ws h1 h2
      refine none_of g1 fun o z => ?_
      cases e : G2 p with
      | some u =>
        obtain ⟨ws, rfl⟩ := x6 p u g1 e
        have := R'.gx p _ e
        rw [z] at this
        cases this
        exact ⟨ws, rfl⟩
      | none =>
        obtain ⟨us, hu⟩ := R1.lstN h1
        have := R'.gnew p us hu e
        rw [z] at this
        cases this
    · rcases inv hp with z | ⟨_, z, _⟩
      · exact R1.gtb _ _ z
      · exact R'.gtb _ _ z
    · obtain ⟨v, a1, a2⟩ := R1.vals i d hi
      exact ⟨v, a1, Rep.mono eG d a2⟩
    · obtain ⟨v, h1, p, us, rfl, h3, h4, h5, h6, h7⟩ := B.owns i es hi
      refine ⟨_, h1, p, us, rfl, none_of h3 fun o z => ?_, h4, h5, h6, RepL.mono eG es h7⟩
      have := R'.ex _ _ z
      rw [h6] at this
      cases this
      exact ⟨_, rfl⟩
  refine ⟨c.inn H1 G2, G2, s1, ds, _, xq, rfl, rfl, Ri, x5, k1, fun G' H' v r s' R' rv kk => ?_, fun G' H' cn s' R' hx => ?_⟩
  · have sq : ∀ p vs, SqT c.K G' p vs → SqT c.K (noL G1 G') p vs := fun p vs z => by
      rcases z with z | z
      · refine .inl ?_
        have mv : ∀ o, G' p = some o → (∀ ws, o ≠ .lst ws) → noL G1 G' p = some o := fun o e n => by
          cases e1 : G1 p with
          | some u =>
            have := (x1.trans R'.gx) _ _ e1
            rw [e] at this
            cases this
            exact eG _ _ e1
          | none =>
            unfold noL
            rw [e1, e]
            cases o <;> first | rfl | exact absurd rfl (n _)
        rcases z with z | ⟨o, z⟩
        · exact .inl (mv _ z fun _ z => by cases z)
        · exact .inr ⟨o, mv _ z fun _ z => by cases z⟩
      · exact .inr z
    refine q (noL G1 G') H' v r env1 s' (back3 R') (e1.trans eG) ?_ kk.2
    cases r with
    | no => exact rv
    | val d => exact rep_flat sq d kk.1 rv
    | own es =>
      obtain ⟨⟨a, us, rfl, m3, m4, m5, m6, m7⟩, _⟩ := rv
      have m4' : noT H1 a = none := m4
      refine ⟨⟨a, us, rfl, none_of ?_ (fun o z => by rw [m3] at z; cases z), R1.knN m4', R1.a0neN m4', m6, repL_flat sq es kk.1 m7⟩, fun i fs hi hv => ?_⟩
      · cases e : G1 a with
        | none => rfl
        | some u =>
          have := (x1.trans R'.gx) _ _ e
          rw [m3] at this
          cases this
      · obtain ⟨w, n1, a2, us2, rfl, n3, n4, n5, n6, n7⟩ := R1.owns i fs hi
        rw [n1] at hv
        cases hv
        rw [noT_of n6 (fun _ z => by cases z)] at m4'
        cases m4'
  · exact hE G1 H' cn s' (back R').bare hx
end
abbrev flatK (k : Sl → EnvD → S → Prop) (env : EnvD) : Sl → S → Prop := fun r s => flatR r ∧ k r env s
theorem flatK_ap (k : Sl → EnvD → S → Prop) (env : EnvD) (r : Sl) (s : S) : flatK k env r s = (flatR r ∧ k r env s) := rfl
def argFK (ke : KE) (F : Fn) (xq : Str → S → Prop) : KA := fun ds e s => F ds s (flatK ke e) xq
theorem argFK_ap (ke : KE) (F : Fn) (xq : Str → S → Prop) (ds : List D) (e : EnvD) (s : S) : argFK ke F xq ds e s = F ds s (flatK ke e) xq := rfl
theorem wCallF_C (ke : KE) (F : Fn) (xq : Str → S → Prop) (fb : FB) (env : EnvD) (s : S) : wCallF F xq fb env s ke = fb env s (argFK ke F xq) := rfl
end DL
set_option Elab.async false
set_option linter.all false
set_option maxRecDepth 100000
set_option maxHeartbeats 1000000
namespace DL
open PySem PySem.Spec PyProof.Rows L2
open Evl (Ex)
section
variable {X : Cx} {a b : Expr} {rest : List Expr} {pos : Pos} {ta tb : TE}
end
def wOrL (f g : FE) : FE := fun env s k => f env s fun r env1 s1 => match r with
  | .own ds => if ds.isEmpty = true then g env1 s1 k else k (.own ds) env1 s1
  | .val (.lst ds) => if ds.isEmpty = true then g env1 s1 k else k (.val (.lst ds)) env1 s1
  | _ => False
def orLK (g : FE) (ke : KE) : KE := fun r e s => match r with
  | .own ds => if ds.isEmpty = true then g e s ke else ke (.own ds) e s
  | .val (.lst ds) => if ds.isEmpty = true then g e s ke else ke (.val (.lst ds)) e s
  | _ => False
theorem orLK_ap (g : FE) (ke : KE) (r : Sl) (e : EnvD) (s : S) : orLK g ke r e s = (match r with
  | .own ds => if ds.isEmpty = true then g e s ke else ke (.own ds) e s
  | .val (.lst ds) => if ds.isEmpty = true then g e s ke else ke (.val (.lst ds)) e s
  | _ => False) := rfl
theorem wOrL_C (f g : FE) (env : EnvD) (s : S) (ke : KE) : wOrL f g env s ke = f env s (orLK g ke) := rfl
end DL
set_option Elab.async false
set_option linter.all false
set_option maxRecDepth 100000
set_option maxHeartbeats 2000000
namespace DL
open PySem PySem.Spec PyProof.Rows L2 LamX
open Evl (Ex)
section
variable {X : Cx} {pins : List (Addr × Obj)} {σ : L2.St} {H : Hp} {s : Shared}
end
section
variable {c : Cxt} {G : Hp} {env : EnvD} {s : S} {σ : L2.St} {H : Hp}
end
abbrev LamI := Nat → Addr → Addr → HO → HO → Prop
def wLamV (LI : LamI) (n : Nat) (caps : List Nat) : FE := fun env s k => has caps env ∧ ∀ f a o u, LI n f a o u → k (.val (.fn f a o u)) (frz caps env) s
abbrev Th := S → (Sl → S → Prop) → Prop
def lamTh (fe : FE) (caps : List Nat) (env : EnvD) : Th := fun s k => fe (pick env caps (blank env)) s fun r _ s' => k r s'
def wCallC (F : (Nat → Th) → Fn) (fes : Nat → FE) (caps : List Nat) (fa : FA) : FE := fun env s k => fa env s fun ds env1 s1 => noOwn env1 caps ∧ F (fun n => lamTh (fes n) caps env1) ds s1 (fun r s2 => k r env1 s2) (fun _ _ => False)
end DL
namespace DL
open PySem PySem.Spec PyProof.Rows L2 LamX
end DL
namespace DL
open L2
def argCK (ke : KE) (F : (Nat → Th) → Fn) (fes : Nat → FE) (caps : List Nat) : KA := fun ds e s => noOwn e caps ∧ F (fun n => lamTh (fes n) caps e) ds s (callK ke e) (fun _ _ => False)
theorem argCK_ap (ke : KE) (F : (Nat → Th) → Fn) (fes : Nat → FE) (caps : List Nat) (ds : List D) (e : EnvD) (s : S) : argCK ke F fes caps ds e s = (noOwn e caps ∧ F (fun n => lamTh (fes n) caps e) ds s (callK ke e) (fun _ _ => False)) := rfl
theorem wCallC_C (ke : KE) (F : (Nat → Th) → Fn) (fes : Nat → FE) (caps : List Nat) (fa : FA) (env : EnvD) (s : S) : wCallC F fes caps fa env s ke = fa env s (argCK ke F fes caps) := rfl
end DL
set_option Elab.async false
set_option linter.all false
set_option maxRecDepth 100000
set_option maxHeartbeats 2000000
namespace DL
open PySem L2 PySem.Spec PyProof.Rows
open Evl (Ex)
def TW (c : Cxt) (G H : Hp) (env : EnvD) (σ : L2.St) (v : V) (ds es : List D) : Prop := ∃ p q1 q2, v = .ref p ∧ SqT c.K G p [.ref q1, .ref q2] ∧ q1 ≠ q2 ∧ (SlV c G H (.ref q1) ds ∧ Apart env σ (.ref q1)) ∧ SlV c G H (.ref q2) es ∧ Apart env σ (.ref q2)
abbrev FW := EnvD → S → (List D → List D → EnvD → S → Prop) → Prop
section
variable {c : Cxt} {G H : Hp} {env : EnvD} {s : S} {σ : L2.St}
theorem TW.bare {v : V} {ds es : List D} (h : TW c G H env σ v ds es) : TW c G H [] [] v ds es := by
  obtain ⟨p, q1, q2, e, hp, hne, ⟨a, _⟩, b, _⟩ := h
  exact ⟨p, q1, q2, e, hp, hne, ⟨a, fun i es q => by simp at q⟩, b, fun i es q => by simp at q⟩
end
def wVW (f : FW) : FE := fun env s k => f env s fun ds es env1 s1 => k (.val (.tup [.lst ds, .lst es])) env1 s1
def wIW0 (f : FW) : FE := fun env s k => f env s fun ds _ env1 s1 => k (.own ds) env1 s1
def wIW1 (f : FW) : FE := fun env s k => f env s fun _ es env1 s1 => k (.own es) env1 s1
def wMv (i : Nat) : FE := fun env s k => match at_ env i with
  | .own ds => k (.own ds) (env.set i .no) s
  | _ => False
def wTw (fa fb : FE) : FW := fun env s k => fa env s fun ra env1 s1 => match ra with
  | .own ds => fb env1 s1 fun rb env2 s2 => match rb with
    | .own es => k ds es env2 s2
    | _ => False
  | _ => False
section
variable {c : Cxt} {t ta tb : TE} {f : FW} {fa fb : FE}
end
abbrev FnW := List D → S → (List D → List D → S → Prop) → (Str → S → Prop) → Prop
abbrev FSW := EnvD → S → (List D → List D → S → Prop) → Prop
def seqWK (g : FSW) (k : List D → List D → S → Prop) : Fl → Prop := fun fl => match fl with
  | .nx e s1 => g e s1 k
  | _ => False
def wSeqW (f : FS) (g : FSW) : FSW := fun env s k => f env s (seqWK g k)
def wRetW (f : FW) : FSW := fun env s k => f env s fun ds es _ s1 => k ds es s1
section
variable {c : Cxt} {t u : TS} {te : TE} {f : FS} {g : FSW} {fw : FW}
end
def wCallW (F : FnW) (xq : Str → S → Prop) (fa : FA) : FW := fun env s k => fa env s fun ds env1 s1 => F ds s1 (fun es fs s2 => k es fs env1 s2) xq
theorem TW.out {c : Cxt} {G H : Hp} {env : EnvD} {s : S} {σ : L2.St} (R : Rel c G env s σ H) {G' H' : Hp} {v : V} {ds es : List D} (h : TW (c.inn H G) G' H' [] [] v ds es) : TW c G' H' env σ v ds es := by
  obtain ⟨p, q1, q2, e, hp, hne, ⟨⟨_, vs, z1, a1, a2, a3, a4, a5⟩, _⟩, ⟨_, ws, z2, b1, b2, b3, b4, b5⟩, _⟩ := h
  cases z1
  cases z2
  have a2' : noT H q1 = none := a2
  have b2' : noT H q2 = none := b2
  exact ⟨p, q1, q2, e, hp, hne, ⟨⟨q1, vs, rfl, a1, R.knN a2', a3, a4, a5⟩, R.newApartN a2'⟩, ⟨q2, ws, rfl, b1, R.knN b2', b3, b4, b5⟩, R.newApartN b2'⟩
section
variable {c : Cxt} {G H : Hp} {env : EnvD} {s : S} {σ : L2.St}
end
def ToldR (c : Cxt) (G H : Hp) (env : EnvD) (s : S) (σ : L2.St) (i n1 n2 : Nat) : Prop := ∃ p q1 q2 vs ws, σ[i]? = some (some (.ref p)) ∧ SqT c.K G p [.ref q1, .ref q2] ∧ q1 ≠ q2 ∧ vs.length = n1 ∧ ws.length = n2 ∧ c.H0 q1 = none ∧ c.H0 q2 = none ∧ c.a0 ≠ some q1 ∧ c.a0 ≠ some q2 ∧ c.G0 q1 = none ∧ c.G0 q2 = none ∧
  Rel (c.h0 (upd (upd c.H0 q1 (.lst vs)) q2 (.lst ws))) G env s σ H
abbrev FOp := Nat → Nat → EnvD → S → (Nat → Nat → EnvD → S → Prop) → Prop
def wOApp (b : Bool) (fa : FE) : FOp := fun n1 n2 env s k => (n1 < sizeLine ∧ n2 < sizeLine) ∧ fa env s fun _ env1 s1 => if b = true then k n1 (n2 + 1) env1 s1 else k (n1 + 1) n2 env1 s1
def wOClr (b : Bool) : FOp := fun n1 n2 env s k => if b = true then k n1 0 env s else k 0 n2 env s
section
variable {c : Cxt} {i : Nat}
theorem ToldR.at1 {G H : Hp} {env : EnvD} {s : S} {σ : L2.St} {q1 q2 : Addr} {vs ws : List V} (hne : q1 ≠ q2) (a : c.a0 ≠ some q1) (g : c.G0 q1 = none) (R : Rel (c.h0 (upd (upd c.H0 q1 (.lst vs)) q2 (.lst ws))) G env s σ H) : H q1 = some (.lst vs) ∧ G q1 = none := by
  have e : upd (upd c.H0 q1 (.lst vs)) q2 (.lst ws) q1 = some (.lst vs) := by rw [upd_ne hne, upd_same]
  exact ⟨R.keep q1 _ e a (fun _ z => by cases z), R.gnew q1 vs e g⟩
theorem ToldR.at2 {G H : Hp} {env : EnvD} {s : S} {σ : L2.St} {q1 q2 : Addr} {vs ws : List V} (a : c.a0 ≠ some q2) (g : c.G0 q2 = none) (R : Rel (c.h0 (upd (upd c.H0 q1 (.lst vs)) q2 (.lst ws))) G env s σ H) : H q2 = some (.lst ws) ∧ G q2 = none := by
  have e : upd (upd c.H0 q1 (.lst vs)) q2 (.lst ws) q2 = some (.lst ws) := upd_same
  exact ⟨R.keep q2 _ e a (fun _ z => by cases z), R.gnew q2 ws e g⟩
end
def flatOw : EnvD → Prop
  | [] => True
  | x :: r => (match x with | .own ds => flatL ds | _ => True) ∧ flatOw r
abbrev FTl := Nat → Nat → FS
def wTlEnd (f : FS) : FTl := fun _ _ => f
def wTlOp (fo : FOp) (fr : FTl) : FTl := fun n1 n2 env s k => fo n1 n2 env s fun m1 m2 env1 s1 => fr m1 m2 env1 s1 k
def toldBK (k : Fl → Prop) : Fl → Prop := fun fl => match fl with
  | .rt r s => k (.rt r s)
  | _ => False
def wTold (i : Nat) (fT : FW) (fB : FT) (fb : FS) (fr : FTl) : FS := fun env s k => fT env s fun ds es env1 s1 => fB (env1.set i (.val (.tup [.lst ds, .lst es]))) s1 fun b env2 s2 =>
  if b = true then fb env2 s2 (toldBK k) else (at_ (env1.set i (.val (.tup [.lst ds, .lst es]))) i = .val (.tup [.lst ds, .lst es]) ∧ env2 = env1.set i (.val (.tup [.lst ds, .lst es])) ∧ flatOw (env1.set i .no)) ∧ fr ds.length es.length (env1.set i .no) s2 k
end DL
namespace DL
open PySem L2
theorem seqWK_nx' {g : FSW} {k : List D → List D → S → Prop} {e : EnvD} {s : S} (h : g e s k) : seqWK g k (.nx e s) := h
theorem wSeqW' {f : FS} {g : FSW} {env : EnvD} {s : S} {k : List D → List D → S → Prop} (h : f env s (seqWK g k)) : wSeqW f g env s k := h
abbrev KW := List D → List D → EnvD → S → Prop
def retWK (k : List D → List D → S → Prop) : KW := fun ds es _ s => k ds es s
theorem retWK_ap (k : List D → List D → S → Prop) (ds es : List D) (e : EnvD) (s : S) : retWK k ds es e s = k ds es s := rfl
theorem wRetW_C (f : FW) (env : EnvD) (s : S) (k : List D → List D → S → Prop) : wRetW f env s k = f env s (retWK k) := rfl
def tw2K (ds : List D) (k : KW) : KE := fun r e s => match r with
  | .own es => k ds es e s
  | _ => False
def twK (fb : FE) (k : KW) : KE := fun r e s => match r with
  | .own ds => fb e s (tw2K ds k)
  | _ => False
theorem tw2K_own (ds es : List D) (k : KW) (e : EnvD) (s : S) : tw2K ds k (.own es) e s = k ds es e s := rfl
theorem twK_own (fb : FE) (ds : List D) (k : KW) (e : EnvD) (s : S) : twK fb k (.own ds) e s = fb e s (tw2K ds k) := rfl
theorem wTw_C (fa fb : FE) (env : EnvD) (s : S) (k : KW) : wTw fa fb env s k = fa env s (twK fb k) := rfl
abbrev callWK (k : KW) (e : EnvD) : List D → List D → S → Prop := fun es fs s => k es fs e s
theorem callWK_ap (k : KW) (e : EnvD) (es fs : List D) (s : S) : callWK k e es fs s = k es fs e s := rfl
def argWK (k : KW) (F : FnW) (xq : Str → S → Prop) : KA := fun ds e s => F ds s (callWK k e) xq
theorem argWK_ap (k : KW) (F : FnW) (xq : Str → S → Prop) (ds : List D) (e : EnvD) (s : S) : argWK k F xq ds e s = F ds s (callWK k e) xq := rfl
theorem wCallW_C (k : KW) (F : FnW) (xq : Str → S → Prop) (fa : FA) (env : EnvD) (s : S) : wCallW F xq fa env s k = fa env s (argWK k F xq) := rfl
def vwK (ke : KE) : KW := fun ds es e s => ke (.val (.tup [.lst ds, .lst es])) e s
theorem vwK_ap (ke : KE) (ds es : List D) (e : EnvD) (s : S) : vwK ke ds es e s = ke (.val (.tup [.lst ds, .lst es])) e s := rfl
theorem wVW_C (ke : KE) (f : FW) (env : EnvD) (s : S) : wVW f env s ke = f env s (vwK ke) := rfl
def iw0K (ke : KE) : KW := fun ds _ e s => ke (.own ds) e s
theorem iw0K_ap (ke : KE) (ds es : List D) (e : EnvD) (s : S) : iw0K ke ds es e s = ke (.own ds) e s := rfl
theorem wIW0_C (ke : KE) (f : FW) (env : EnvD) (s : S) : wIW0 f env s ke = f env s (iw0K ke) := rfl
def iw1K (ke : KE) : KW := fun _ es e s => ke (.own es) e s
theorem iw1K_ap (ke : KE) (ds es : List D) (e : EnvD) (s : S) : iw1K ke ds es e s = ke (.own es) e s := rfl
theorem wIW1_C (ke : KE) (f : FW) (env : EnvD) (s : S) : wIW1 f env s ke = f env s (iw1K ke) := rfl
def told2K (i : Nat) (fb : FS) (fr : FTl) (k : Fl → Prop) (ds es : List D) (env1 : EnvD) : Bool → EnvD → S → Prop := fun b env2 s2 =>
  if b = true then fb env2 s2 (toldBK k) else (at_ (env1.set i (.val (.tup [.lst ds, .lst es]))) i = .val (.tup [.lst ds, .lst es]) ∧ env2 = env1.set i (.val (.tup [.lst ds, .lst es])) ∧ flatOw (env1.set i .no)) ∧ fr ds.length es.length (env1.set i .no) s2 k
theorem told2K_f (i : Nat) (fb : FS) (fr : FTl) (k : Fl → Prop) (ds es : List D) (env1 env2 : EnvD) (s : S) : told2K i fb fr k ds es env1 false env2 s = ((at_ (env1.set i (.val (.tup [.lst ds, .lst es]))) i = .val (.tup [.lst ds, .lst es]) ∧ env2 = env1.set i (.val (.tup [.lst ds, .lst es])) ∧ flatOw (env1.set i .no)) ∧ fr ds.length es.length (env1.set i .no) s k) := by
  unfold told2K
  rw [if_neg (by decide)]
def toldK (i : Nat) (fB : FT) (fb : FS) (fr : FTl) (k : Fl → Prop) : KW := fun ds es e s => fB (e.set i (.val (.tup [.lst ds, .lst es]))) s (told2K i fb fr k ds es e)
theorem toldK_ap (i : Nat) (fB : FT) (fb : FS) (fr : FTl) (k : Fl → Prop) (ds es : List D) (e : EnvD) (s : S) : toldK i fB fb fr k ds es e s = fB (e.set i (.val (.tup [.lst ds, .lst es]))) s (told2K i fb fr k ds es e) := rfl
theorem wTold_C (i : Nat) (fT : FW) (fB : FT) (fb : FS) (fr : FTl) (env : EnvD) (s : S) (k : Fl → Prop) : wTold i fT fB fb fr env s k = fT env s (toldK i fB fb fr k) := rfl
theorem flatL_frs : ∀ l : List Rat, flatL (l.map fr)
  | [] => by simp [flatL]
  | q :: l => by
    simp only [List.map_cons, flatL]
    exact ⟨by simp [fr, flatD, flatL], flatL_frs l⟩
end DL
set_option Elab.async false
set_option linter.all false
set_option maxRecDepth 100000
set_option maxHeartbeats 2000000
namespace DL
open PySem PySem.Spec PyProof.Rows L2 LamX
open Evl (Ex)
abbrev ThW := S → (List D → List D → S → Prop) → Prop
def lamThW (fe : FW) (caps : List Nat) (env : EnvD) : ThW := fun s k => fe (pick env caps (blank env)) s fun es fs _ s' => k es fs s'
def wCallCW (F : (Nat → ThW) → Fn) (fes : Nat → FW) (caps : List Nat) (fa : FA) : FE := fun env s k => fa env s fun ds env1 s1 => noOwn env1 caps ∧ F (fun n => lamThW (fes n) caps env1) ds s1 (fun r s2 => k r env1 s2) (fun _ _ => False)
def argCWK (ke : KE) (F : (Nat → ThW) → Fn) (fes : Nat → FW) (caps : List Nat) : KA := fun ds e s => noOwn e caps ∧ F (fun n => lamThW (fes n) caps e) ds s (callK ke e) (fun _ _ => False)
theorem argCWK_ap (ke : KE) (F : (Nat → ThW) → Fn) (fes : Nat → FW) (caps : List Nat) (ds : List D) (e : EnvD) (s : S) : argCWK ke F fes caps ds e s = (noOwn e caps ∧ F (fun n => lamThW (fes n) caps e) ds s (callK ke e) (fun _ _ => False)) := rfl
theorem wCallCW_C (ke : KE) (F : (Nat → ThW) → Fn) (fes : Nat → FW) (caps : List Nat) (fa : FA) (env : EnvD) (s : S) : wCallCW F fes caps fa env s ke = fa env s (argCWK ke F fes caps) := rfl
end DL
set_option Elab.async false
set_option linter.all false
set_option maxRecDepth 100000
set_option maxHeartbeats 4000000
namespace DL
open PySem PySem.Spec PyProof.Rows L2 LamX
open Evl (Ex)
section
variable {c : Cxt}
end
end DL
set_option Elab.async false
set_option linter.all false
set_option maxRecDepth 100000
set_option maxHeartbeats 4000000
namespace DL
open PySem PySem.Spec PyProof.Rows L2 LamX
open Evl (Ex)
section
variable {X : Cx} {K : PySem.W.Frag} {e1 e2 o : Expr} {t : TA} {te : TE} {apos cpos : Pos}
variable (K)
end
def wIns (j : Nat) (f : FA) : FS := fun env s k => match at_ env j with
  | .own _ => f env s fun ds env1 s1 => match at_ env1 j, ds with
    | .own xs, [.int i, d] => xs.length < sizeLine ∧ (0 ≤ i ∧ i < 2 ^ 63) ∧ k (.nx (env1.set j (.own (xs.take i.toNat ++ [d] ++ xs.drop i.toNat))) s1)
    | _, _ => False
  | _ => False
section
variable {X : Cx} {K : PySem.W.Frag} {T : List (Addr × Str)} {f g x : Str} {ps ps2 : List Str} {k j : Nat} {F1 F2 : Fn} {E : XK} {e : Expr} {es : List Expr} {t : TA} {p pos p1 p2 p3 p4 : Pos} {kk : Nat}
end
def wPick (F1 F2 : Fn) (xq : Str → S → Prop) (j : Nat) (fa : FA) : FE := fun env s k => ∃ n : Int, at_ env j = .val (.int n) ∧ (n = 0 ∨ n = 1) ∧ fa env s fun ds env1 s1 => (if n = 0 then F1 else F2) ds s1 (fun r s2 => k r env1 s2) xq
def insK (j : Nat) (ks : Fl → Prop) : KA := fun ds e s => match at_ e j, ds with
  | .own xs, [.int i, d] => xs.length < sizeLine ∧ (0 ≤ i ∧ i < 2 ^ 63) ∧ ks (.nx (e.set j (.own (xs.take i.toNat ++ [d] ++ xs.drop i.toNat))) s)
  | _, _ => False
theorem insK_ap (j : Nat) (ks : Fl → Prop) (ds : List D) (e : EnvD) (s : S) : insK j ks ds e s = (match at_ e j, ds with
  | .own xs, [.int i, d] => xs.length < sizeLine ∧ (0 ≤ i ∧ i < 2 ^ 63) ∧ ks (.nx (e.set j (.own (xs.take i.toNat ++ [d] ++ xs.drop i.toNat))) s)
  | _, _ => False) := rfl
theorem wIns_C (j : Nat) (f : FA) (env : EnvD) (s : S) (ks : Fl → Prop) : wIns j f env s ks = (match at_ env j with
  | .own _ => f env s (insK j ks)
  | _ => False) := rfl
theorem wPick_C (F1 F2 : Fn) (xq : Str → S → Prop) (j : Nat) (fa : FA) (env : EnvD) (s : S) (ke : Sl → EnvD → S → Prop) : wPick F1 F2 xq j fa env s ke = (∃ n : Int, at_ env j = .val (.int n) ∧ (n = 0 ∨ n = 1) ∧ fa env s (argK ke (if n = 0 then F1 else F2) xq)) := rfl
end DL
set_option Elab.async false
set_option linter.all false
set_option maxRecDepth 100000
set_option maxHeartbeats 2000000
namespace DL
open PySem PySem.Spec PyProof.Rows L2
open Evl (Ex)
section
variable {X : Cx} {e o : Expr} {te to : TE} {p pos apos : Pos}
end
def gStr : F1 := fun d k => match d with
  | .int i => i.natAbs.log2 < 1920 ∧ k (.val (.str (toString i)))
  | _ => False
def gIntS : F1 := fun d k => match d with
  | .str a => ∃ n, PySem.intText? a = some n ∧ a.length ≤ 640 ∧ k (.val (.int n))
  | _ => False
def gInS : F2 := fun d e k => match d, e with
  | .str x, .str z => ∃ ch : Nat, x = ⟨#[ch]⟩ ∧ k (.val (.bl (decide (ch ∈ z.cps.toList))))
  | _, _ => False
def gIxS : F2 := fun d e k => match d, e with
  | .str z, .int i => z.length ≤ sizeLine ∧ ∃ ch, atI z.cps.toList i = some ch ∧ k (.val (.str ⟨#[ch]⟩))
  | _, _ => False
def gStarts : F2 := fun d e k => match d, e with
  | .str a, .str b => k (.val (.bl (Txt.startswith a b)))
  | _, _ => False
def gSplit : F2 := fun d e k => match d, e with
  | .str a, .str b => ((b.length == 0) = false ∧ a.length + 2 ≤ sizeLine) ∧ k (.own ((Txt.split a b).map D.str))
  | _, _ => False
def gPart : F2 := fun d e k => match d, e with
  | .str a, .str b => ((b.length == 0) = false ∧ a.length ≤ sizeLine) ∧ k (.val (.tup [.str (Txt.partition a b).1, .str (Txt.partition a b).2.1, .str (Txt.partition a b).2.2]))
  | _, _ => False
def gJoin : F2 := fun d e k => match d, e with
  | .str a, .lst ds => ∃ ys : List Str, ds = ys.map D.str ∧ (ys.map (·.length)).sum + ys.length * a.length ≤ 16777216 ∧ k (.val (.str (Txt.join a ys)))
  | _, _ => False
section
variable {c : Cxt}
def wM1 (g : F2) (f : FE) (fb : FP) : FE := fun env s k => f env s fun r env1 s1 => match r.d with
  | .str a => fb env1 s1 fun e env2 s2 => g (.str a) e fun r2 => k r2 env2 s2
  | _ => False
def wSlS (f : FE) (fl fh : FO) : FE := fun env s k => f env s fun r env1 s1 => fl env1 s1 fun lo env2 s2 => fh env2 s2 fun hi env3 s3 => match r.d with
  | .str z => z.length ≤ sizeLine ∧ k (.val (.str (cutS z lo hi))) env3 s3
  | _ => False
end
def wOrS (f g : FE) : FE := fun env s k => f env s fun r env1 s1 => match r.d with
  | .str z => z.length ≤ sizeLine ∧ if z.length = 0 then g env1 s1 k else k (.val (.str z)) env1 s1
  | _ => False
def wPar3 (i j l : Nat) (f : FA) : FS := fun env s k => f env s fun ds env1 s1 => match ds with
  | [d, e, g] => k (.nx (((env1.set i (.val d)).set j (.val e)).set l (.val g)) s1)
  | _ => False
def par3K (i j l : Nat) (ks : Fl → Prop) : KA := fun ds e s => match ds with
  | [d, d', d''] => ks (.nx (((e.set i (.val d)).set j (.val d')).set l (.val d'')) s)
  | _ => False
theorem par3K_ap (i j l : Nat) (ks : Fl → Prop) (d d' d'' : D) (e : EnvD) (s : S) : par3K i j l ks [d, d', d''] e s = ks (.nx (((e.set i (.val d)).set j (.val d')).set l (.val d'')) s) := rfl
theorem wPar3_C (i j l : Nat) (fa : FA) (env : EnvD) (s : S) (ks : Fl → Prop) : wPar3 i j l fa env s ks = fa env s (par3K i j l ks) := rfl
def m1bK (g : F2) (a : Str) (ke : KE) : D → EnvD → S → Prop := fun e env2 s2 => g (.str a) e fun r2 => ke r2 env2 s2
theorem m1bK_ap (g : F2) (a : Str) (ke : KE) (e : D) (env2 : EnvD) (s2 : S) : m1bK g a ke e env2 s2 = g (.str a) e fun r2 => ke r2 env2 s2 := rfl
def m1K (g : F2) (fb : FP) (ke : KE) : KE := fun r env1 s1 => match r.d with
  | .str a => fb env1 s1 (m1bK g a ke)
  | _ => False
theorem m1K_ap (g : F2) (fb : FP) (ke : KE) (r : Sl) (env1 : EnvD) (s1 : S) : m1K g fb ke r env1 s1 = (match r.d with
  | .str a => fb env1 s1 (m1bK g a ke)
  | _ => False) := rfl
theorem wM1_C (g : F2) (f : FE) (fb : FP) (env : EnvD) (s : S) (ke : KE) : wM1 g f fb env s ke = f env s (m1K g fb ke) := rfl
def orSK (g : FE) (ke : KE) : KE := fun r env1 s1 => match r.d with
  | .str z => z.length ≤ sizeLine ∧ if z.length = 0 then g env1 s1 ke else ke (.val (.str z)) env1 s1
  | _ => False
theorem orSK_ap (g : FE) (ke : KE) (r : Sl) (env1 : EnvD) (s1 : S) : orSK g ke r env1 s1 = (match r.d with
  | .str z => z.length ≤ sizeLine ∧ if z.length = 0 then g env1 s1 ke else ke (.val (.str z)) env1 s1
  | _ => False) := rfl
theorem wOrS_C (f g : FE) (env : EnvD) (s : S) (ke : KE) : wOrS f g env s ke = f env s (orSK g ke) := rfl
end DL
set_option Elab.async false
set_option linter.all false
set_option maxRecDepth 100000
set_option maxHeartbeats 1000000
namespace DL
open PySem L2
open Evl (Ex)
def wSlT (f : FE) (fl fh : FO) : FE := fun env s k => f env s fun r env1 s1 => fl env1 s1 fun lo env2 s2 => fh env2 s2 fun hi env3 s3 => match r.d with
  | .tup ds => ¬ (HT.sIx ds.length 0 lo = 0 ∧ HT.sIx ds.length ds.length hi = ds.length) ∧ k (.val (.tup (cutD ds lo hi))) env3 s3
  | _ => False
section
variable {c : Cxt}
end
end DL
set_option Elab.async false
set_option linter.all false
set_option maxRecDepth 100000
set_option maxHeartbeats 2000000
namespace DL
open PySem L2 PySem.Spec PyProof.Rows
open Evl (Ex)
def Fu (K : PySem.W.Frag) (H : Hp) : Prop := ∀ a xs ys, SqT K H a xs → SqT K H a ys → xs = ys
section
variable {K : PySem.W.Frag} {G : Hp}
end
theorem Fu.le {K : PySem.W.Frag} {G H : Hp} (h : Fu K H) (e : Ex G H) : Fu K G := fun a xs ys h1 h2 => h a xs ys (Evl.ex_t e h1) (Evl.ex_t e h2)
def dl (G : Hp) (q : Addr) : Hp := fun p => if p = q then none else G p
section
variable {G G' H : Hp} {q p : Addr}
theorem dl_same : dl G q q = none := if_pos rfl
theorem dl_ne (h : p ≠ q) : dl G q p = G p := if_neg h
theorem dl_some {o : HO} (h : dl G q p = some o) : p ≠ q ∧ G p = some o := by
  by_cases hb : p = q
  · rw [hb, dl_same] at h; cases h
  · rw [dl_ne hb] at h; exact ⟨hb, h⟩
theorem dl_le : Ex (dl G q) G := fun _ _ h => (dl_some h).2
theorem dl_mono (e : Ex G G') : Ex (dl G q) (dl G' q) := fun p o h => by
  obtain ⟨h1, h2⟩ := dl_some h
  rw [dl_ne h1]
  exact e _ _ h2
end
def pth (K : PySem.W.Frag) (G : Hp) : V → List Nat → V → Prop
  | v, [], w => v = w
  | v, n :: π, w => ∃ p vs x, v = .ref p ∧ SqT K G p vs ∧ vs[n]? = some x ∧ pth K G x π w
theorem pth_mono {K : PySem.W.Frag} {G G' : Hp} (e : Ex G G') : ∀ (π : List Nat) {v w : V}, pth K G v π w → pth K G' v π w
  | [], _, _, h => h
  | n :: π, _, _, ⟨p, vs, x, h1, h2, h3, h4⟩ => ⟨p, vs, x, h1, Evl.ex_t e h2, h3, pth_mono e π h4⟩
def dpath : D → List Nat → Option D
  | d, [] => some d
  | .tup ds, n :: π => match ds[n]? with
    | some d => dpath d π
    | none => none
  | _, _ :: _ => none
structure Fnd (c : Cxt) (Gb : Hp) (q : Addr) (π : List Nat) (n i : Nat) (tn : List Nat) (G : Hp) (env : EnvD) (s : S) (σ : L2.St) (H : Hp) : Prop where
  R : Rel c G env s σ H
  hi : ∃ v, σ[i]? = some (some v) ∧ pth c.K G v π (.ref q)
  isl : ∃ vs, G q = some (.lst vs) ∧ vs.length = n
  h0 : c.H0 q = none
  g0 : c.G0 q = none
  gd : ∀ j d, env[j]? = some (.val d) → j ≠ i → j ∉ tn → ∃ v, σ[j]? = some (some v) ∧ Rep c.K (dl G q) d v
  base : Ex Gb (dl G q)
abbrev FSd := List Nat → Nat → FS
section
variable {c : Cxt} {Gb : Hp} {q : Addr} {π : List Nat} {n i : Nat} {tn : List Nat} {G : Hp} {env : EnvD} {s : S} {σ : L2.St} {H : Hp}
theorem Fnd.le (F : Fnd c Gb q π n i tn G env s σ H) : Ex Gb G := F.base.trans dl_le
theorem Fnd.grow (F : Fnd c Gb q π n i tn G env s σ H) {G' H' : Hp} {s' : S} (R : Rel c G' env s' σ H') (e : Ex G G') : Fnd c Gb q π n i tn G' env s' σ H' :=
  { R := R, hi := let ⟨v, h1, h2⟩ := F.hi; ⟨v, h1, pth_mono e π h2⟩, isl := let ⟨vs, h1, h2⟩ := F.isl; ⟨vs, e _ _ h1, h2⟩, h0 := F.h0, g0 := F.g0
    gd := fun j d h1 h2 h3 => let ⟨v, a1, a2⟩ := F.gd j d h1 h2 h3; ⟨v, a1, Rep.mono (dl_mono e) d a2⟩, base := F.base.trans (dl_mono e) }
theorem Fnd.set (F : Fnd c Gb q π n i tn G env s σ H) {v : V} {r : Sl} (rv : RV c G H env σ v r) (j : Nat) (hj : j ≠ i) (hr : j ∈ tn ∨ ∃ d, r = .val d ∧ Rep c.K (dl G q) d v) : Fnd c Gb q π n i tn G (env.set j r) s (σ.set j (some v)) H :=
  { R := F.R.set rv j, hi := (let ⟨v, h1, h2⟩ := F.hi; ⟨v, by rw [List.getElem?_set_ne hj]; exact h1, h2⟩), isl := F.isl, h0 := F.h0, g0 := F.g0, base := F.base
    gd := fun l d h1 h2 h3 => by
      by_cases hl : j = l
      · subst hl
        have il : j < env.length := by
          have := (List.getElem?_eq_some_iff.mp h1).1
          rwa [List.length_set] at this
        rw [List.getElem?_set_self il] at h1
        rcases hr with hr | ⟨d', rfl, hr⟩
        · exact absurd hr h3
        · cases h1
          exact ⟨v, by rw [List.getElem?_set_self (by rw [← F.R.len]; exact il)], hr⟩
      · rw [List.getElem?_set_ne hl] at h1
        rw [List.getElem?_set_ne hl]
        exact F.gd l d h1 h2 h3 }
end
def wDIf (fB : FT) (fb : FS) (fr : FSd) : FSd := fun π n env s k => fB env s fun b env2 s2 => if b = true then fb env2 s2 (toldBK k) else env2 = env ∧ fr π n env s2 k
def wDSet (j : Nat) (fe : FE) (fr : FSd) : FSd := fun π n env s k => fe env s fun r env1 s1 => env1 = env ∧ match r with
  | .val d => flatD d ∧ fr π n (env.set j r) s1 k
  | _ => False
def wDTnt (j : Nat) (fe : FE) (fr : FSd) : FSd := fun π n env s k => fe env s fun r env1 s1 => env1 = env ∧ fr π n (env.set j r) s1 k
def wDTup (j : Nat) (fw : FW) (fr : FSd) : FSd := fun π n env s k => fw env s fun ds es env1 s1 => env1 = env ∧ flatL ds ∧ flatL es ∧ fr π n (env.set j (.val (.tup [.lst ds, .lst es]))) s1 k
section
variable {c : Cxt} {i : Nat} {tn : List Nat}
end
abbrev FMu := List Nat → Nat → EnvD → S → (S → Prop) → Prop
def wMClr (π' : List Nat) : FMu := fun π _ _ s k => π = π' ∧ k s
def wMApp (π' : List Nat) (fa : FE) : FMu := fun π n env s k => (π = π' ∧ n < sizeLine) ∧ fa env s fun _ env1 s1 => env1 = env ∧ k s1
def wMIf (fB : FT) (f g : FMu) : FMu := fun π n env s k => fB env s fun b env2 s2 => env2 = env ∧ if b = true then f π n env s2 k else g π n env s2 k
section
variable {c : Cxt} {i : Nat}
end
def killD : List Nat → EnvD → EnvD
  | [], env => env
  | j :: js, env => killD js (env.set j .no)
def wDMut (i : Nat) (tn : List Nat) (fm : FMu) (fr : FS) : FSd := fun π n env s k => fm π n env s fun s2 => flatOw (killD (i :: tn) env) ∧ fr (killD (i :: tn) env) s2 k
def wFndK (i : Nat) (f0 : FS) (fd : FSd) (env1 : EnvD) (ds : List D) (k : Fl → Prop) : Sl → S → Prop := fun r s2 =>
  f0 (env1.set i r) s2 k ∨ ∃ d π es hs xs, r = .val d ∧ ds = .lst hs :: xs ∧ dpath d π = some (.lst es) ∧ es ≠ hs ∧ flatL es ∧ i < env1.length ∧ fd π es.length (env1.set i r) s2 k
def difK (fb : FS) (fr : FSd) (π : List Nat) (n : Nat) (env : EnvD) (k : Fl → Prop) : Bool → EnvD → S → Prop := fun b env2 s2 => if b = true then fb env2 s2 (toldBK k) else env2 = env ∧ fr π n env s2 k
theorem difK_t (fb : FS) (fr : FSd) (π : List Nat) (n : Nat) (env : EnvD) (k : Fl → Prop) (e : EnvD) (s : S) : difK fb fr π n env k true e s = fb e s (toldBK k) := rfl
theorem difK_f (fb : FS) (fr : FSd) (π : List Nat) (n : Nat) (env : EnvD) (k : Fl → Prop) (e : EnvD) (s : S) : difK fb fr π n env k false e s = (e = env ∧ fr π n env s k) := by
  unfold difK
  rw [if_neg (by decide)]
theorem wDIf_C (fB : FT) (fb : FS) (fr : FSd) (π : List Nat) (n : Nat) (env : EnvD) (s : S) (k : Fl → Prop) : wDIf fB fb fr π n env s k = fB env s (difK fb fr π n env k) := rfl
theorem toldBK_rt (k : Fl → Prop) (r : Sl) (s : S) : toldBK k (.rt r s) = k (.rt r s) := rfl
def dsetK (j : Nat) (fr : FSd) (π : List Nat) (n : Nat) (env : EnvD) (k : Fl → Prop) : KE := fun r env1 s1 => env1 = env ∧ match r with
  | .val d => flatD d ∧ fr π n (env.set j r) s1 k
  | _ => False
theorem dsetK_ap (j : Nat) (fr : FSd) (π : List Nat) (n : Nat) (env : EnvD) (k : Fl → Prop) (d : D) (e : EnvD) (s : S) : dsetK j fr π n env k (.val d) e s = (e = env ∧ flatD d ∧ fr π n (env.set j (.val d)) s k) := rfl
theorem wDSet_C (j : Nat) (fe : FE) (fr : FSd) (π : List Nat) (n : Nat) (env : EnvD) (s : S) (k : Fl → Prop) : wDSet j fe fr π n env s k = fe env s (dsetK j fr π n env k) := rfl
def dtntK (j : Nat) (fr : FSd) (π : List Nat) (n : Nat) (env : EnvD) (k : Fl → Prop) : KE := fun r env1 s1 => env1 = env ∧ fr π n (env.set j r) s1 k
theorem dtntK_ap (j : Nat) (fr : FSd) (π : List Nat) (n : Nat) (env : EnvD) (k : Fl → Prop) (r : Sl) (e : EnvD) (s : S) : dtntK j fr π n env k r e s = (e = env ∧ fr π n (env.set j r) s k) := rfl
theorem wDTnt_C (j : Nat) (fe : FE) (fr : FSd) (π : List Nat) (n : Nat) (env : EnvD) (s : S) (k : Fl → Prop) : wDTnt j fe fr π n env s k = fe env s (dtntK j fr π n env k) := rfl
def dtupK (j : Nat) (fr : FSd) (π : List Nat) (n : Nat) (env : EnvD) (k : Fl → Prop) : KW := fun ds es env1 s1 => env1 = env ∧ flatL ds ∧ flatL es ∧ fr π n (env.set j (.val (.tup [.lst ds, .lst es]))) s1 k
theorem dtupK_ap (j : Nat) (fr : FSd) (π : List Nat) (n : Nat) (env : EnvD) (k : Fl → Prop) (ds es : List D) (e : EnvD) (s : S) : dtupK j fr π n env k ds es e s = (e = env ∧ flatL ds ∧ flatL es ∧ fr π n (env.set j (.val (.tup [.lst ds, .lst es]))) s k) := rfl
theorem wDTup_C (j : Nat) (fw : FW) (fr : FSd) (π : List Nat) (n : Nat) (env : EnvD) (s : S) (k : Fl → Prop) : wDTup j fw fr π n env s k = fw env s (dtupK j fr π n env k) := rfl
def mappK (env : EnvD) (k : S → Prop) : KE := fun _ env1 s1 => env1 = env ∧ k s1
theorem mappK_ap (env : EnvD) (k : S → Prop) (r : Sl) (e : EnvD) (s : S) : mappK env k r e s = (e = env ∧ k s) := rfl
theorem wMApp_C (π' : List Nat) (fa : FE) (π : List Nat) (n : Nat) (env : EnvD) (s : S) (k : S → Prop) : wMApp π' fa π n env s k = ((π = π' ∧ n < sizeLine) ∧ fa env s (mappK env k)) := rfl
theorem wMClr_C (π' : List Nat) (π : List Nat) (n : Nat) (env : EnvD) (s : S) (k : S → Prop) : wMClr π' π n env s k = (π = π' ∧ k s) := rfl
def mifK (f g : FMu) (π : List Nat) (n : Nat) (env : EnvD) (k : S → Prop) : Bool → EnvD → S → Prop := fun b env2 s2 => env2 = env ∧ if b = true then f π n env s2 k else g π n env s2 k
theorem mifK_t (f g : FMu) (π : List Nat) (n : Nat) (env : EnvD) (k : S → Prop) (e : EnvD) (s : S) : mifK f g π n env k true e s = (e = env ∧ f π n env s k) := by
  unfold mifK
  rw [if_pos rfl]
theorem mifK_f (f g : FMu) (π : List Nat) (n : Nat) (env : EnvD) (k : S → Prop) (e : EnvD) (s : S) : mifK f g π n env k false e s = (e = env ∧ g π n env s k) := by
  unfold mifK
  rw [if_neg (by decide)]
theorem wMIf_C (fB : FT) (f g : FMu) (π : List Nat) (n : Nat) (env : EnvD) (s : S) (k : S → Prop) : wMIf fB f g π n env s k = fB env s (mifK f g π n env k) := rfl
def dmutK (i : Nat) (tn : List Nat) (fr : FS) (env : EnvD) (k : Fl → Prop) : S → Prop := fun s2 => flatOw (killD (i :: tn) env) ∧ fr (killD (i :: tn) env) s2 k
theorem dmutK_ap (i : Nat) (tn : List Nat) (fr : FS) (env : EnvD) (k : Fl → Prop) (s : S) : dmutK i tn fr env k s = (flatOw (killD (i :: tn) env) ∧ fr (killD (i :: tn) env) s k) := rfl
theorem wDMut_C (i : Nat) (tn : List Nat) (fm : FMu) (fr : FS) (π : List Nat) (n : Nat) (env : EnvD) (s : S) (k : Fl → Prop) : wDMut i tn fm fr π n env s k = fm π n env s (dmutK i tn fr env k) := rfl
def wFnd (i : Nat) (F : Fn) (xq : Str → S → Prop) (fa : FA) (f0 : FS) (fd : FSd) : FS := fun env s k => fa env s fun ds env1 s1 =>
  (∃ hs xs, ds = .lst hs :: xs ∧ flatL hs ∧ flatL xs) ∧ F ds s1 (wFndK i f0 fd env1 ds k) xq
def fndK (i : Nat) (F : Fn) (xq : Str → S → Prop) (f0 : FS) (fd : FSd) (k : Fl → Prop) : KA := fun ds env1 s1 => (∃ hs xs, ds = .lst hs :: xs ∧ flatL hs ∧ flatL xs) ∧ F ds s1 (wFndK i f0 fd env1 ds k) xq
theorem fndK_ap (i : Nat) (F : Fn) (xq : Str → S → Prop) (f0 : FS) (fd : FSd) (k : Fl → Prop) (ds : List D) (e : EnvD) (s : S) : fndK i F xq f0 fd k ds e s = ((∃ hs xs, ds = .lst hs :: xs ∧ flatL hs ∧ flatL xs) ∧ F ds s (wFndK i f0 fd e ds k) xq) := rfl
theorem wFnd_C (i : Nat) (F : Fn) (xq : Str → S → Prop) (fa : FA) (f0 : FS) (fd : FSd) (env : EnvD) (s : S) (k : Fl → Prop) : wFnd i F xq fa f0 fd env s k = fa env s (fndK i F xq f0 fd k) := rfl
end DL
set_option Elab.async false
set_option linter.all false
set_option maxRecDepth 100000
set_option maxHeartbeats 2000000
namespace DL
open PySem L2 PySem.Spec PyProof.Rows
open Evl (Ex)
structure IEnd (c : Cxt) (i : Nat) (σ0 : L2.St) (G : Hp) (k : Fl → Prop) (E : Ends) : Prop where
  nx : ∀ G' H' env' s' σ', Rel c G' env' s' σ' H' → Ex G G' → σ'[i]? = σ0[i]? → k (.nx env' s') → E.nx σ' H'
  bk : ∀ G' H' env' s' σ', Rel c G' env' s' σ' H' → Ex G G' → σ'[i]? = σ0[i]? → k (.bk env' s') → E.bk σ' H'
  ct : ∀ G' H' env' s' σ', Rel c G' env' s' σ' H' → Ex G G' → σ'[i]? = σ0[i]? → k (.ct env' s') → E.ct σ' H'
  rt : ∀ r s', k (.rt r s') → False
theorem IEnd.mono {c : Cxt} {i : Nat} {σ0 σ1 : L2.St} {G G' : Hp} {k : Fl → Prop} {E : Ends} (e : Ex G G') (es : σ1[i]? = σ0[i]?) (q : IEnd c i σ0 G k E) : IEnd c i σ1 G' k E :=
  ⟨fun _ _ _ _ _ R x y => q.nx _ _ _ _ _ R (e.trans x) (y.trans es), fun _ _ _ _ _ R x y => q.bk _ _ _ _ _ R (e.trans x) (y.trans es), fun _ _ _ _ _ R x y => q.ct _ _ _ _ _ R (e.trans x) (y.trans es), q.rt⟩
section
variable {c : Cxt} {i : Nat} {t u : TS} {f g : FS} {te : TE}
end
abbrev FSo := EnvD → S → (EnvD → List D → S → Prop) → Prop
def seqOK (g : FSo) (k : EnvD → List D → S → Prop) : Fl → Prop := fun fl => match fl with
  | .nx e s1 => g e s1 k
  | _ => False
def wSeqO (f : FS) (g : FSo) : FSo := fun env s k => f env s (seqOK g k)
def wRetO (j : Nat) : FSo := fun env s k => match at_ env j with
  | .own ds => k (env.set j .no) ds s
  | _ => False
section
variable {c : Cxt} {i : Nat} {t u : TS} {f : FS} {g : FSo}
end
abbrev FnO := List D → S → (List D → List D → S → Prop) → Prop
def startO (N : List Str) (hs : List D) : EnvD := .own hs :: List.replicate (N.length - 1) .no
theorem Rel.first {c : Cxt} {G H : Hp} {env : EnvD} {s : S} {σ : L2.St} {hs : List D} {v : V} (R : Rel c G env s σ H) (h : env[0]? = some (.own hs)) (hv : σ[0]? = some (some v)) : Rel c G [.own hs] s [some v] H := by
  have no : ∀ (i : Nat) (x : Sl), ([.own hs] : EnvD)[i]? = some x → i = 0 ∧ x = .own hs := fun i x h => by
    cases i with
    | zero => cases h; exact ⟨rfl, rfl⟩
    | succ i => simp at h
  refine { R with len := rfl, vals := fun i d hi => ?_, owns := fun i es hi => ?_, dist := fun i j es fs v h1 h2 _ _ => ?_ }
  · obtain ⟨_, z⟩ := no i _ hi
    cases z
  · obtain ⟨rfl, z⟩ := no i _ hi
    cases z
    obtain ⟨w, h1, h2⟩ := R.owns 0 hs h
    rw [hv] at h1
    cases h1
    exact ⟨v, rfl, h2⟩
  · obtain ⟨rfl, _⟩ := no i _ h1
    obtain ⟨rfl, _⟩ := no j _ h2
    rfl
def dz (G A : Hp) : Hp := fun p => match A p with
  | some (.lst _) => none
  | _ => G p
section
variable {G G' A : Hp} {p : Addr}
theorem dz_keep (h : ∀ vs, A p ≠ some (.lst vs)) : dz G A p = G p := by
  unfold dz
  split
  · rename_i vs e; exact absurd e (h vs)
  · rfl
theorem dz_some {o : HO} (h : dz G A p = some o) : (∀ vs, A p ≠ some (.lst vs)) ∧ G p = some o := by
  unfold dz at h
  split at h
  · cases h
  · rename_i z; exact ⟨fun vs e => z vs e, h⟩
theorem dz_le : Ex (dz G A) G := fun _ _ h => (dz_some h).2
theorem dz_mono (e : Ex G G') : Ex (dz G A) (dz G' A) := fun p o h => by
  obtain ⟨h1, h2⟩ := dz_some h
  rw [dz_keep h1]
  exact e _ _ h2
end
def dzpath : D → List Nat → Option D
  | d, [] => some d
  | .tup ds, n :: π => match ds[n]? with
    | some d => dzpath d π
    | none => none
  | .lst ds, n :: π => match ds[n]? with
    | some d => dzpath d π
    | none => none
  | _, _ :: _ => none
structure FdZ (c : Cxt) (Gb A : Hp) (v0 : V) (d0 : D) (i : Nat) (tn : List Nat) (G : Hp) (env : EnvD) (s : S) (σ : L2.St) (H : Hp) : Prop where
  R : Rel c G env s σ H
  hv : σ[i]? = some (some v0)
  hA : Ex A G
  hr : Rep c.K A d0 v0
  zl : ∀ p vs, A p = some (.lst vs) → c.H0 p = none ∧ c.G0 p = none
  gd : ∀ j d, env[j]? = some (.val d) → j ≠ i → j ∉ tn → ∃ v, σ[j]? = some (some v) ∧ Rep c.K (dz G A) d v
  base : Ex Gb (dz G A)
abbrev FSz := D → FS
section
variable {c : Cxt} {Gb A : Hp} {v0 : V} {d0 : D} {i : Nat} {tn : List Nat} {G : Hp} {env : EnvD} {s : S} {σ : L2.St} {H : Hp}
theorem FdZ.le (F : FdZ c Gb A v0 d0 i tn G env s σ H) : Ex Gb G := F.base.trans dz_le
theorem FdZ.grow (F : FdZ c Gb A v0 d0 i tn G env s σ H) {G' H' : Hp} {s' : S} (R : Rel c G' env s' σ H') (e : Ex G G') : FdZ c Gb A v0 d0 i tn G' env s' σ H' :=
  { R := R, hv := F.hv, hA := F.hA.trans e, hr := F.hr, zl := F.zl
    gd := fun j d h1 h2 h3 => let ⟨v, a1, a2⟩ := F.gd j d h1 h2 h3; ⟨v, a1, Rep.mono (dz_mono e) d a2⟩, base := F.base.trans (dz_mono e) }
theorem FdZ.set (F : FdZ c Gb A v0 d0 i tn G env s σ H) {v : V} {r : Sl} (rv : RV c G H env σ v r) (j : Nat) (hj : j ≠ i) (hr : j ∈ tn ∨ (∀ d, r ≠ .val d) ∨ ∃ d, r = .val d ∧ Rep c.K (dz G A) d v) : FdZ c Gb A v0 d0 i tn G (env.set j r) s (σ.set j (some v)) H :=
  { R := F.R.set rv j, hv := by rw [List.getElem?_set_ne hj]; exact F.hv, hA := F.hA, hr := F.hr, zl := F.zl, base := F.base
    gd := fun l d h1 h2 h3 => by
      by_cases hl : j = l
      · subst hl
        have il : j < env.length := by
          have := (List.getElem?_eq_some_iff.mp h1).1
          rwa [List.length_set] at this
        rw [List.getElem?_set_self il] at h1
        cases h1
        rcases hr with hr | hr | ⟨d', e, hr⟩
        · exact absurd hr h3
        · exact absurd rfl (hr d)
        · cases e
          exact ⟨v, by rw [List.getElem?_set_self (by rw [← F.R.len]; exact il)], hr⟩
      · rw [List.getElem?_set_ne hl] at h1
        rw [List.getElem?_set_ne hl]
        exact F.gd l d h1 h2 h3 }
end
def difZ (fb : FS) (fr : FSz) (d0 : D) (env : EnvD) (k : Fl → Prop) : Bool → EnvD → S → Prop := fun b env2 s2 => if b = true then fb env2 s2 (toldBK k) else env2 = env ∧ fr d0 env s2 k
theorem difZ_t (fb : FS) (fr : FSz) (d0 : D) (env : EnvD) (k : Fl → Prop) (e : EnvD) (s : S) : difZ fb fr d0 env k true e s = fb e s (toldBK k) := rfl
theorem difZ_f (fb : FS) (fr : FSz) (d0 : D) (env : EnvD) (k : Fl → Prop) (e : EnvD) (s : S) : difZ fb fr d0 env k false e s = (e = env ∧ fr d0 env s k) := by
  unfold difZ
  rw [if_neg (by decide)]
def wZIf (fB : FT) (fb : FS) (fr : FSz) : FSz := fun d0 env s k => fB env s (difZ fb fr d0 env k)
theorem wZIf_C (fB : FT) (fb : FS) (fr : FSz) (d0 : D) (env : EnvD) (s : S) (k : Fl → Prop) : wZIf fB fb fr d0 env s k = fB env s (difZ fb fr d0 env k) := rfl
abbrev FMz := D → EnvD → S → (S → Prop) → Prop
def mzK (env : EnvD) (k : S → Prop) : KE := fun _ env1 s1 => env1 = env ∧ k s1
theorem mzK_ap (env : EnvD) (k : S → Prop) (r : Sl) (e : EnvD) (s : S) : mzK env k r e s = (e = env ∧ k s) := rfl
def wZApp (π : List Nat) (fa : FE) : FMz := fun d0 env s k => (∃ es, dzpath d0 π = some (.lst es) ∧ es.length < sizeLine) ∧ fa env s (mzK env k)
theorem wZApp_C (π : List Nat) (fa : FE) (d0 : D) (env : EnvD) (s : S) (k : S → Prop) : wZApp π fa d0 env s k = ((∃ es, dzpath d0 π = some (.lst es) ∧ es.length < sizeLine) ∧ fa env s (mzK env k)) := rfl
def zmutK (i : Nat) (tn : List Nat) (fr : FS) (env : EnvD) (k : Fl → Prop) : S → Prop := fun s2 => flatOw (killD (i :: tn) env) ∧ fr (killD (i :: tn) env) s2 k
theorem zmutK_ap (i : Nat) (tn : List Nat) (fr : FS) (env : EnvD) (k : Fl → Prop) (s : S) : zmutK i tn fr env k s = (flatOw (killD (i :: tn) env) ∧ fr (killD (i :: tn) env) s k) := rfl
def wZMut (i : Nat) (tn : List Nat) (fm : FMz) (fr : FS) : FSz := fun d0 env s k => fm d0 env s (zmutK i tn fr env k)
theorem wZMut_C (i : Nat) (tn : List Nat) (fm : FMz) (fr : FS) (d0 : D) (env : EnvD) (s : S) (k : Fl → Prop) : wZMut i tn fm fr d0 env s k = fm d0 env s (zmutK i tn fr env k) := rfl
def fndO (i : Nat) (fd : FSz) (env : EnvD) (k : Fl → Prop) (hs : List D) : List D → List D → S → Prop := fun hs' ds s2 => hs' = hs ∧ fd (.lst ds) (env.set i (.val (.lst ds))) s2 k
theorem fndO_ap (i : Nat) (fd : FSz) (env : EnvD) (k : Fl → Prop) (hs hs' ds : List D) (s : S) : fndO i fd env k hs hs' ds s = (hs' = hs ∧ fd (.lst ds) (env.set i (.val (.lst ds))) s k) := rfl
def wFndO (i j : Nat) (F : FnO) (fd : FSz) : FS := fun env s k => match at_ env j with
  | .own hs => (flatL hs ∧ i < env.length) ∧ F hs s (fndO i fd env k hs)
  | _ => False
theorem seqOK_nx' {g : FSo} {k : EnvD → List D → S → Prop} {e : EnvD} {s : S} (h : g e s k) : seqOK g k (.nx e s) := h
theorem wSeqO' {f : FS} {g : FSo} {env : EnvD} {s : S} {k : EnvD → List D → S → Prop} (h : f env s (seqOK g k)) : wSeqO f g env s k := h
def wCopy (a b : Nat) : FE := fun env s k => match at_ env a, at_ env b with
  | .val (.lst fs), .val d => flatL fs ∧ flatD d ∧ k (.val (.tup [.lst fs, d])) env s
  | _, _ => False
def ztK (y : Nat) (fr : FSz) (d0 : D) (env : EnvD) (k : Fl → Prop) : List D → EnvD → S → Prop := fun acc env2 s2 => env2 = env ∧ fr d0 (env.set y (.val (.lst acc))) s2 k
theorem ztK_ap (y : Nat) (fr : FSz) (d0 : D) (env : EnvD) (k : Fl → Prop) (acc : List D) (env2 : EnvD) (s : S) : ztK y fr d0 env k acc env2 s = (env2 = env ∧ fr d0 (env.set y (.val (.lst acc))) s k) := rfl
def zcK (fg : FG) (fe : FE) (vs : List Nat) (k : List D → EnvD → S → Prop) : List D → EnvD → S → Prop := fun ds env1 s1 => noOwn env1 vs ∧ ds.length < sizeLine ∧ compW fg wYes fe vs (fun acc env2 s2 => k acc (backD env1 env2 vs) s2) ds [] (wipeD env1 vs) s1
theorem zcK_ap (fg : FG) (fe : FE) (vs : List Nat) (k : List D → EnvD → S → Prop) (ds : List D) (env1 : EnvD) (s1 : S) : zcK fg fe vs k ds env1 s1 = (noOwn env1 vs ∧ ds.length < sizeLine ∧ compW fg wYes fe vs (fun acc env2 s2 => k acc (backD env1 env2 vs) s2) ds [] (wipeD env1 vs) s1) := rfl
def wZTold (y : Nat) (fi : FI) (fg : FG) (a b : Nat) (vs : List Nat) (fr : FSz) : FSz := fun d0 env s k => fi env s (zcK fg (wCopy a b) vs (ztK y fr d0 env k))
theorem wZTold_C (y : Nat) (fi : FI) (fg : FG) (a b : Nat) (vs : List Nat) (fr : FSz) (d0 : D) (env : EnvD) (s : S) (k : Fl → Prop) : wZTold y fi fg a b vs fr d0 env s k = fi env s (zcK fg (wCopy a b) vs (ztK y fr d0 env k)) := rfl
def zmut2K (i : Nat) (tn : List Nat) (fr : FS) (d0 : D) (env : EnvD) (k : Fl → Prop) : S → Prop := fun s1 => (∃ ds, d0 = .lst ds ∧ ds.length + 1 < sizeLine) ∧ flatOw (killD (i :: tn) env) ∧ fr (killD (i :: tn) env) s1 k
theorem zmut2K_ap (i : Nat) (tn : List Nat) (fr : FS) (d0 : D) (env : EnvD) (k : Fl → Prop) (s : S) : zmut2K i tn fr d0 env k s = ((∃ ds, d0 = .lst ds ∧ ds.length + 1 < sizeLine) ∧ flatOw (killD (i :: tn) env) ∧ fr (killD (i :: tn) env) s k) := rfl
def wZMut2 (i : Nat) (tn : List Nat) (fm : FMz) (fr : FS) : FSz := fun d0 env s k => fm d0 env s (zmut2K i tn fr d0 env k)
theorem wZMut2_C (i : Nat) (tn : List Nat) (fm : FMz) (fr : FS) (d0 : D) (env : EnvD) (s : S) (k : Fl → Prop) : wZMut2 i tn fm fr d0 env s k = fm d0 env s (zmut2K i tn fr d0 env k) := rfl
def lendEK (F : Fn) (xq : Str → S → Prop) (k : KE) : KE := fun r env1 s1 => match r with
  | .own [.int x, .bl b] => ∀ a, F [.st a] (some ⟨x, b, a⟩) (fun r2 s2 => (∃ x' b', s2 = some ⟨x', b', a⟩) ∧ k r2 env1 s1) (fun cn _ => xq cn s1)
  | _ => False
theorem lendEK_ap (F : Fn) (xq : Str → S → Prop) (k : KE) (x : Int) (b : Bool) (env1 : EnvD) (s1 : S) : lendEK F xq k (.own [.int x, .bl b]) env1 s1 = ∀ a, F [.st a] (some ⟨x, b, a⟩) (fun r2 s2 => (∃ x' b', s2 = some ⟨x', b', a⟩) ∧ k r2 env1 s1) (fun cn _ => xq cn s1) := rfl
def wCallLendE (F : Fn) (xq : Str → S → Prop) (fe : FE) : FE := fun env s k => fe env s (lendEK F xq k)
theorem wCallLendE_C (F : Fn) (xq : Str → S → Prop) (fe : FE) (env : EnvD) (s : S) (k : KE) : wCallLendE F xq fe env s k = fe env s (lendEK F xq k) := rfl
end DL
set_option Elab.async false
set_option linter.all false
set_option maxRecDepth 100000
set_option maxHeartbeats 4000000
namespace DL
open PySem PySem.Spec PyProof.Rows L2 LamX
open Evl (Ex)
def wFunV (LI : LamI) (n : Nat) : FE := fun env s k => ∀ a, (∀ f o u, LI n a f o u) → k (.val (.st a)) env s
section
variable {X : Cx} {K : PySem.W.Frag} {T : List (Addr × Str)} {x : Str} {k j : Nat} {names : List Str} {Fs : Nat → Fn} {E : XK} {e : Expr} {es : List Expr} {t : TA} {p pos : Pos} {mg : Str → Option Value}
end
def wCallV (LI : LamI) (Fs : Nat → Fn) (xq : Str → S → Prop) (j : Nat) (fa : FA) : FE := fun env s k => ∃ (n : Nat) (a : Addr), at_ env j = .val (.st a) ∧ (∀ f o u, LI n a f o u) ∧ fa env s fun ds env1 s1 => Fs n ds s1 (fun r s2 => k r env1 s2) xq
theorem wCallV_C (LI : LamI) (Fs : Nat → Fn) (xq : Str → S → Prop) (j : Nat) (fa : FA) (env : EnvD) (s : S) (ke : Sl → EnvD → S → Prop) : wCallV LI Fs xq j fa env s ke = (∃ (n : Nat) (a : Addr), at_ env j = .val (.st a) ∧ (∀ f o u, LI n a f o u) ∧ fa env s (argK ke (Fs n) xq)) := rfl
theorem wFunV_C (LI : LamI) (n : Nat) (env : EnvD) (s : S) (ke : Sl → EnvD → S → Prop) : wFunV LI n env s ke = ∀ a, (∀ f o u, LI n a f o u) → ke (.val (.st a)) env s := rfl
end DL
set_option Elab.async false
set_option linter.all false
set_option maxRecDepth 100000
set_option maxHeartbeats 4000000
namespace DL
open PySem PySem.Spec PyProof.Rows L2 LamX
open Evl (Ex)
abbrev FX := (Str → S → Prop) → FE
section
variable {c : Cxt}
end
def wActI (LI : LamI) (fes : Nat → FX) (caps : List Nat) (i : Nat) : FE := fun env s k => noOwn env caps ∧ ∃ n f a o u, at_ env i = .val (.fn f a o u) ∧ LI n f a o u ∧ fes n (fun _ _ => False) (pick env caps (blank env)) s (fun r _ s' => k r env s')
def wRefI (LI : LamI) (fes : Nat → FX) (caps : List Nat) (i : Nat) : FE := fun env s k => noOwn env caps ∧ ∃ n f a o u, at_ env i = .val (.fn f a o u) ∧ LI n f a o u ∧
  fes n (fun x s' => ∃ j, idx9 x = some j ∧ k (.own [.int j]) env s') (pick env caps (blank env)) s (fun _ _ s' => k (.val .non) env s')
section
variable {c : Cxt}
end
theorem wActI_C (LI : LamI) (fes : Nat → FX) (caps : List Nat) (i : Nat) (env : EnvD) (s : S) (ke : Sl → EnvD → S → Prop) : wActI LI fes caps i env s ke = (noOwn env caps ∧ ∃ n f a o u, at_ env i = .val (.fn f a o u) ∧ LI n f a o u ∧ fes n (fun _ _ => False) (pick env caps (blank env)) s (fun r _ s' => ke r env s')) := rfl
theorem wRefI_C (LI : LamI) (fes : Nat → FX) (caps : List Nat) (i : Nat) (env : EnvD) (s : S) (ke : Sl → EnvD → S → Prop) : wRefI LI fes caps i env s ke = (noOwn env caps ∧ ∃ n f a o u, at_ env i = .val (.fn f a o u) ∧ LI n f a o u ∧
  fes n (fun x s' => ∃ j, idx9 x = some j ∧ ke (.own [.int j]) env s') (pick env caps (blank env)) s (fun _ _ s' => ke (.val .non) env s')) := rfl
end DL
namespace DL
open PySem PySem.Spec PyProof.Rows L2 LamX
section
variable {X : Cx} {K : PySem.W.Frag} {e o : Expr} {t : TA} {te : TE} {apos cpos : Pos}
variable (K)
end
def wPopAt (j : Nat) (f : FA) : FS := fun env s k => match at_ env j with
  | .own _ => f env s fun ds env1 s1 => match at_ env1 j, ds with
    | .own xs, [.int i] => (0 ≤ i ∧ i < 2 ^ 63 ∧ i < xs.length) ∧ k (.nx (env1.set j (.own (xs.eraseIdx i.toNat))) s1)
    | _, _ => False
  | _ => False
theorem RepL.eraseIdx {K : PySem.W.Frag} {G : Hp} {ds : List D} {vs : List V} (n : Nat) (h : RepL K G ds vs) : RepL K G (ds.eraseIdx n) (vs.eraseIdx n) := by
  rw [List.eraseIdx_eq_take_drop_succ, List.eraseIdx_eq_take_drop_succ]
  exact RepL.append (RepL.take n h) (RepL.drop (n + 1) h)
def popAtK (j : Nat) (ks : Fl → Prop) : KA := fun ds e s => match at_ e j, ds with
  | .own xs, [.int i] => (0 ≤ i ∧ i < 2 ^ 63 ∧ i < xs.length) ∧ ks (.nx (e.set j (.own (xs.eraseIdx i.toNat))) s)
  | _, _ => False
theorem popAtK_ap (j : Nat) (ks : Fl → Prop) (ds : List D) (e : EnvD) (s : S) : popAtK j ks ds e s = (match at_ e j, ds with
  | .own xs, [.int i] => (0 ≤ i ∧ i < 2 ^ 63 ∧ i < xs.length) ∧ ks (.nx (e.set j (.own (xs.eraseIdx i.toNat))) s)
  | _, _ => False) := rfl
theorem wPopAt_C (j : Nat) (f : FA) (env : EnvD) (s : S) (ks : Fl → Prop) : wPopAt j f env s ks = (match at_ env j with
  | .own _ => f env s (popAtK j ks)
  | _ => False) := rfl
end DL
namespace DL
open PySem PySem.Spec PyProof.Rows L2 LamX
open Evl (Ex)
def gNotInS : F2 := fun d e k => match d, e with
  | .str x, .str z => ∃ ch : Nat, x = ⟨#[ch]⟩ ∧ k (.val (.bl (!decide (ch ∈ z.cps.toList))))
  | _, _ => False
end DL
set_option Elab.async false
set_option linter.all false
set_option maxRecDepth 100000
set_option maxHeartbeats 4000000
namespace Mi
open PySem L2 DL
def xq0 : Str → S → Prop := fun _ _ => False
def BF_divisor (xq : Str → S → Prop) : FS :=
  (wSeq (wWhile (wB (wOpv gNe 1 (wP (wC (.int 0)))))
  (wPar 0 1 (wCons (wV 1) (wCons (wOpv gMod 0 (wPV 1)) wNil))))
  (wRet (wCB1 gAbs (wPV 0))))
def F_divisor : Fn := fun ds s k xq => ds.length = 2 ∧ BF_divisor xq (start_ ["one", "other"] ds) s (kBody k)
def BF_ratio (xq : Str → S → Prop) : FS :=
  (wSeq (wIfS (wB (wOpv gEq 1 (wP (wC (.int 0)))))
  (wRaise xq "NoFraction")
  wNext)
  (wSeq (wAsg (wCallB F_divisor xq (wBVar 0 (wBVar 1 wBNil))) (wName 2))
  (wSeq (wIfS (wB (wOpv gLt 1 (wP (wC (.int 0)))))
  (wAsg (wOp gMin (wC (.int 0)) (wPV 2)) (wName 2))
  wNext)
  (wRet (wTup (wCons (wOpv gDiv 0 (wPV 2)) (wCons (wOpv gDiv 1 (wPV 2)) wNil)))))))
def F_ratio : Fn := fun ds s k xq => ds.length = 2 ∧ BF_ratio xq (start_ ["top", "bottom", "share"] ds) s (kBody k)
def BF_plus (xq : Str → S → Prop) : FS :=
  (wRet (wCall F_ratio xq (wCons (wOp gAdd (wOp gMul (wIxv 0 (wP (wC (.int 0)))) (wP (wIxv 1 (wP (wC (.int 1)))))) (wP (wOp gMul (wIxv 1 (wP (wC (.int 0)))) (wP (wIxv 0 (wP (wC (.int 1)))))))) (wCons (wOp gMul (wIxv 0 (wP (wC (.int 1)))) (wP (wIxv 1 (wP (wC (.int 1)))))) wNil))))
def F_plus : Fn := fun ds s k xq => ds.length = 2 ∧ BF_plus xq (start_ ["one", "other"] ds) s (kBody k)
def BF_minus (xq : Str → S → Prop) : FS :=
  (wRet (wCall F_ratio xq (wCons (wOp gMin (wOp gMul (wIxv 0 (wP (wC (.int 0)))) (wP (wIxv 1 (wP (wC (.int 1)))))) (wP (wOp gMul (wIxv 1 (wP (wC (.int 0)))) (wP (wIxv 0 (wP (wC (.int 1)))))))) (wCons (wOp gMul (wIxv 0 (wP (wC (.int 1)))) (wP (wIxv 1 (wP (wC (.int 1)))))) wNil))))
def F_minus : Fn := fun ds s k xq => ds.length = 2 ∧ BF_minus xq (start_ ["one", "other"] ds) s (kBody k)
def BF_times (xq : Str → S → Prop) : FS :=
  (wRet (wCall F_ratio xq (wCons (wOp gMul (wIxv 0 (wP (wC (.int 0)))) (wP (wIxv 1 (wP (wC (.int 0)))))) (wCons (wOp gMul (wIxv 0 (wP (wC (.int 1)))) (wP (wIxv 1 (wP (wC (.int 1)))))) wNil))))
def F_times : Fn := fun ds s k xq => ds.length = 2 ∧ BF_times xq (start_ ["one", "other"] ds) s (kBody k)
def BF_over (xq : Str → S → Prop) : FS :=
  (wRet (wCall F_ratio xq (wCons (wOp gMul (wIxv 0 (wP (wC (.int 0)))) (wP (wIxv 1 (wP (wC (.int 1)))))) (wCons (wOp gMul (wIxv 0 (wP (wC (.int 1)))) (wP (wIxv 1 (wP (wC (.int 0)))))) wNil))))
def F_over : Fn := fun ds s k xq => ds.length = 2 ∧ BF_over xq (start_ ["one", "other"] ds) s (kBody k)
def BF_sign_of (xq : Str → S → Prop) : FS :=
  (wRet (wOp gMin (wCB1 gInt (wP (wOp gGt (wIxv 0 (wP (wC (.int 0)))) (wP (wC (.int 0)))))) (wP (wCB1 gInt (wP (wOp gLt (wIxv 0 (wP (wC (.int 0)))) (wP (wC (.int 0)))))))))
def F_sign_of : Fn := fun ds s k xq => ds.length = 1 ∧ BF_sign_of xq (start_ ["one"] ds) s (kBody k)
def BF_total (xq : Str → S → Prop) : FS :=
  (wSeq (wAsg (wC (.tup [.int 0, .int 1])) (wName 1))
  (wSeq (wFor (wIt (wV 0)) (wName 2)
  (wAsg (wCall F_plus xq (wCons (wV 1) (wCons (wV 2) wNil))) (wName 1)))
  (wRetV 1)))
def F_total : Fn := fun ds s k xq => ds.length = 1 ∧ BF_total xq (start_ ["some", "found", "one"] ds) s (kBody k)
def BF_clean (xq : Str → S → Prop) : FS :=
  (wSeq (wAsg (wCB1 gLen (wPV 0)) (wName 1))
  (wSeq (wWhile (wAnd (wB (wOpv gGt 1 (wP (wC (.int 0))))) (wB (wOp gEq (wIxv 0 (wP (wOpv gMin 1 (wP (wC (.int 1)))))) (wP (wC (.tup [.int 0, .int 1]))))))
  (wAsg (wOpv gMin 1 (wP (wC (.int 1)))) (wName 1)))
  (wRet (wCB1 gList (wP (wSlv 0 wNoPart (wPart (wPV 1))))))))
def F_clean : Fn := fun ds s k xq => ds.length = 1 ∧ BF_clean xq (start_ ["numbers", "many"] ds) s (kBody k)
def BF_at_place (xq : Str → S → Prop) : FS :=
  (wSeq (wIfS (wB (wOpv gLt 1 (wP (wCB1 gLen (wPV 0)))))
  (wRet (wIxv 0 (wPV 1)))
  wNext)
  (wRet (wC (.tup [.int 0, .int 1]))))
def F_at_place : Fn := fun ds s k xq => ds.length = 2 ∧ BF_at_place xq (start_ ["f", "place"] ds) s (kBody k)
def BF_summed (xq : Str → S → Prop) : FS :=
  (wRet (wCall F_clean xq (wCons (wComp (wRng1 (wCons (wCB gMax2 (wCons (wCB1 gLen (wPV 0)) (wCons (wCB1 gLen (wPV 1)) wNil))) wNil)) (wName 2) wYes (wCall F_plus xq0 (wCons (wCall F_at_place xq0 (wCons (wV 0) (wCons (wV 2) wNil))) (wCons (wCall F_at_place xq0 (wCons (wV 1) (wCons (wV 2) wNil))) wNil))) [2]) wNil)))
def F_summed : Fn := fun ds s k xq => ds.length = 2 ∧ BF_summed xq (start_ ["f", "g", "place"] ds) s (kBody k)
def BF_grown (xq : Str → S → Prop) : FS :=
  (wRet (wCall F_clean xq (wCons (wComp (wIt (wV 0)) (wName 2) wYes (wCall F_times xq0 (wCons (wV 2) (wCons (wV 1) wNil))) [2]) wNil)))
def F_grown : Fn := fun ds s k xq => ds.length = 2 ∧ BF_grown xq (start_ ["f", "by", "one"] ds) s (kBody k)
def BF_lessened (xq : Str → S → Prop) : FS :=
  (wRet (wCall F_clean xq (wCons (wComp (wRng1 (wCons (wCB gMax2 (wCons (wCB1 gLen (wPV 0)) (wCons (wCB1 gLen (wPV 1)) wNil))) wNil)) (wName 2) wYes (wCall F_minus xq0 (wCons (wCall F_at_place xq0 (wCons (wV 0) (wCons (wV 2) wNil))) (wCons (wCall F_at_place xq0 (wCons (wV 1) (wCons (wV 2) wNil))) wNil))) [2]) wNil)))
def F_lessened : Fn := fun ds s k xq => ds.length = 2 ∧ BF_lessened xq (start_ ["f", "g", "place"] ds) s (kBody k)
def BF_raised (xq : Str → S → Prop) : FS :=
  (wSeq (wIfS (wB (wOpv gEqE 0 (wP (wLst wNil))))
  (wRet (wLst wNil))
  wNext)
  (wRet (wOp gCat (wOp gRep (wLst (wCons (wC (.tup [.int 0, .int 1])) wNil)) (wPV 1)) (wPV 0))))
def F_raised : Fn := fun ds s k xq => ds.length = 2 ∧ BF_raised xq (start_ ["f", "many"] ds) s (kBody k)
def BF_multiplied (xq : Str → S → Prop) : FS :=
  (wSeq (wAsg (wLst wNil) (wName 2))
  (wSeq (wFor (wEnum (wCons (wV 1) wNil)) (wTupT 2 (wGCons (wName 3) (wGCons (wName 4) wGNil)))
  (wAsg (wCall F_summed xq (wCons (wV 2) (wCons (wCall F_raised xq (wCons (wCall F_grown xq (wCons (wV 0) (wCons (wV 4) wNil))) (wCons (wV 3) wNil))) wNil))) (wName 2)))
  (wRetV 2)))
def F_multiplied : Fn := fun ds s k xq => ds.length = 2 ∧ BF_multiplied xq (start_ ["f", "g", "found", "place", "one"] ds) s (kBody k)
def BF_power_of_x (xq : Str → S → Prop) : FS :=
  (wRet (wOp gCat (wOp gRep (wLst (wCons (wC (.tup [.int 0, .int 1])) wNil)) (wPV 0)) (wP (wLst (wCons (wC (.tup [.int 1, .int 1])) wNil)))))
def F_power_of_x : Fn := fun ds s k xq => ds.length = 1 ∧ BF_power_of_x xq (start_ ["many"] ds) s (kBody k)
def BF_number_at (xq : Str → S → Prop) : FS :=
  (wSeq (wAsg (wC (.tup [.int 0, .int 1])) (wName 2))
  (wSeq (wFor (wRev (wCons (wV 0) wNil)) (wName 3)
  (wAsg (wCall F_plus xq (wCons (wCall F_times xq (wCons (wV 2) (wCons (wV 1) wNil))) (wCons (wV 3) wNil))) (wName 2)))
  (wRetV 2)))
def F_number_at : Fn := fun ds s k xq => ds.length = 2 ∧ BF_number_at xq (start_ ["f", "x", "found", "one"] ds) s (kBody k)
def BF_root_powers (xq : Str → S → Prop) : FS :=
  (wSeq (wAsg (wOp gMin (wCB1 gLen (wPV 0)) (wP (wC (.int 1)))) (wName 2))
  (wSeq (wAsg (wLst (wCons (wTup (wCons (wV 2) (wCons (wC (.int 1)) wNil))) wNil)) (wName 3))
  (wSeq (wFor (wRng2 (wCons (wC (.int 1)) (wCons (wV 1) wNil))) (wName 4)
  (wSeq (wAsg (wC (.tup [.int 0, .int 1])) (wName 5))
  (wSeq (wFor (wRng2 (wCons (wC (.int 1)) (wCons (wOp gAdd (wCB gMin2 (wCons (wOpv gMin 4 (wP (wC (.int 1)))) (wCons (wV 2) wNil))) (wP (wC (.int 1)))) wNil))) (wName 6)
  (wAsg (wCall F_plus xq (wCons (wV 5) (wCons (wCall F_times xq (wCons (wIxv 0 (wP (wOpv gMin 2 (wPV 6)))) (wCons (wIxv 3 (wP (wOpv gMin 4 (wPV 6)))) wNil))) wNil))) (wName 5)))
  (wSeq (wIfS (wB (wOpv gLe 4 (wPV 2)))
  (wAsg (wCall F_plus xq (wCons (wV 5) (wCons (wCall F_times xq (wCons (wTup (wCons (wV 4) (wCons (wC (.int 1)) wNil))) (wCons (wIxv 0 (wP (wOpv gMin 2 (wPV 4)))) wNil))) wNil))) (wName 5))
  wNext)
  (wApp 3 (wCall F_times xq (wCons (wC (.tup [.int (-1), .int 1])) (wCons (wV 5) wNil))))))))
  (wRetV 3))))
def F_root_powers : Fn := fun ds s k xq => ds.length = 2 ∧ BF_root_powers xq (start_ ["roots", "many", "degree", "found", "k", "here", "back"] ds) s (kBody k)
def BF_worth (xq : Str → S → Prop) : FS :=
  (wSeq (wIfS (wB (wOp gGt (wCB1 gLen (wPV 1)) (wP (wCB1 gLen (wPV 0)))))
  (wRaise xq "NoSums")
  wNext)
  (wRet (wCall F_total xq (wCons (wComp (wZip (wCons (wV 1) (wCons (wV 0) wNil))) (wTupT 2 (wGCons (wName 2) (wGCons (wName 3) wGNil))) wYes (wCall F_times xq0 (wCons (wV 2) (wCons (wV 3) wNil))) [2, 3]) wNil))))
def F_worth : Fn := fun ds s k xq => ds.length = 2 ∧ BF_worth xq (start_ ["sums", "f", "one", "other"] ds) s (kBody k)
def BF_square_sum (xq : Str → S → Prop) : FS :=
  (wRet (wCall F_worth xq (wCons (wV 0) (wCons (wCall F_multiplied xq (wCons (wV 1) (wCons (wV 2) wNil))) wNil))))
def F_square_sum : Fn := fun ds s k xq => ds.length = 3 ∧ BF_square_sum xq (start_ ["sums", "f", "g"] ds) s (kBody k)
def BF_next_step (xq : Str → S → Prop) : FS :=
  (wSeq (wAsg (wIxv 0 (wP (wUn gNeg (wP (wC (.int 1)))))) (wTupT 2 (wGCons (wName 2) (wGCons (wName 3) wGNil))))
  (wSeq (wAsg (wCall F_lessened xq (wCons (wCall F_raised xq (wCons (wV 2) (wCons (wC (.int 1)) wNil))) (wCons (wCall F_grown xq (wCons (wV 2) (wCons (wV 1) wNil))) wNil))) (wName 4))
  (wSeq (wIfS (wB (wOp gGt (wCB1 gLen (wPV 0)) (wP (wC (.int 1)))))
  (wAsg (wCall F_lessened xq (wCons (wV 4) (wCons (wCall F_grown xq (wCons (wOp gIx (wIxv 0 (wP (wUn gNeg (wP (wC (.int 2)))))) (wP (wC (.int 0)))) (wCons (wCall F_over xq (wCons (wV 3) (wCons (wOp gIx (wIxv 0 (wP (wUn gNeg (wP (wC (.int 2)))))) (wP (wC (.int 1)))) wNil))) wNil))) wNil))) (wName 4))
  wNext)
  (wRetV 4))))
def F_next_step : Fn := fun ds s k xq => ds.length = 2 ∧ BF_next_step xq (start_ ["some", "turn", "last", "square", "found"] ds) s (kBody k)
def BF_turn_of (xq : Str → S → Prop) : FS :=
  (wSeq (wAsg (wIxv 1 (wP (wUn gNeg (wP (wC (.int 1)))))) (wTupT 2 (wGCons (wName 2) (wGCons (wName 3) wGNil))))
  (wRet (wCall F_over xq (wCons (wCall F_square_sum xq (wCons (wV 0) (wCons (wCall F_raised xq (wCons (wV 2) (wCons (wC (.int 1)) wNil))) (wCons (wV 2) wNil)))) (wCons (wV 3) wNil)))))
def F_turn_of : Fn := fun ds s k xq => ds.length = 2 ∧ BF_turn_of xq (start_ ["sums", "some", "last", "square"] ds) s (kBody k)
def BF_steps (xq : Str → S → Prop) : FS :=
  (wSeq (wAsg (wLst (wCons (wTup (wCons (wLst (wCons (wC (.tup [.int 1, .int 1])) wNil)) (wCons (wIxv 0 (wP (wC (.int 0)))) wNil))) wNil)) (wName 1))
  (wSeq (wWhile (wAnd (wB (wOp gGt (wCall F_sign_of xq (wCons (wOp gIx (wIxv 1 (wP (wUn gNeg (wP (wC (.int 1)))))) (wP (wC (.int 1)))) wNil)) (wP (wC (.int 0))))) (wB (wOp gLt (wOp gMul (wC (.int 2)) (wP (wCB1 gLen (wPV 1)))) (wP (wCB1 gLen (wPV 0))))))
  (wSeq (wAsg (wCallF F_next_step xq (wBVar 1 (wBCons (wCallF F_turn_of xq (wBVar 0 (wBVar 1 wBNil))) wBNil))) (wName 2))
  (wApp 1 (wTup (wCons (wV 2) (wCons (wCall F_square_sum xq (wCons (wV 0) (wCons (wV 2) (wCons (wV 2) wNil)))) wNil))))))
  (wRetV 1)))
def F_steps : Fn := fun ds s k xq => ds.length = 1 ∧ BF_steps xq (start_ ["sums", "found", "more"] ds) s (kBody k)
def BF_nought_bar (xq : Str → S → Prop) : FS :=
  (wSeq (wFor (wRng1 (wCons (wOp gAdd (wOp gMin (wCB1 gLen (wPV 0)) (wP (wCB1 gLen (wPV 1)))) (wP (wC (.int 1)))) wNil)) (wName 2)
  (wIfS (wB (wOp gNe (wCall F_square_sum xq (wCons (wV 0) (wCons (wV 1) (wCons (wCall F_power_of_x xq (wCons (wV 2) wNil)) wNil)))) (wP (wC (.tup [.int 0, .int 1])))))
  (wRet (wTup (wCons (wC (.str "nought")) (wCons (wV 1) (wCons (wCall F_power_of_x xq (wCons (wV 2) wNil)) wNil)))))
  wNext))
  (wRet (wC .non)))
def F_nought_bar : Fn := fun ds s k xq => ds.length = 2 ∧ BF_nought_bar xq (start_ ["sums", "f", "many"] ds) s (kBody k)
def BF_row_less (xq : Str → S → Prop) : FS :=
  (wRet (wComp (wZip (wCons (wV 0) (wCons (wV 1) wNil))) (wTupT 2 (wGCons (wName 3) (wGCons (wName 4) wGNil))) wYes (wCall F_minus xq0 (wCons (wV 3) (wCons (wCall F_times xq0 (wCons (wV 4) (wCons (wV 2) wNil))) wNil))) [3, 4]))
def F_row_less : Fn := fun ds s k xq => ds.length = 3 ∧ BF_row_less xq (start_ ["row", "other", "by", "mine", "theirs"] ds) s (kBody k)
def BF_solved (xq : Str → S → Prop) : FS :=
  (wSeq (wAsg (wComp (wIt (wV 0)) (wName 5) wYes (wCB1 gList (wPV 5)) [5]) (wName 1))
  (wSeq (wFor (wRng1 (wCons (wCB1 gLen (wPV 1)) wNil)) (wName 2)
  (wSeq (wAsg (wComp (wRng2 (wCons (wV 2) (wCons (wCB1 gLen (wPV 1)) wNil))) (wName 3) (wB (wOp gNe (wOp gIx (wIxv 1 (wPV 3)) (wPV 2)) (wP (wC (.tup [.int 0, .int 1]))))) (wV 3) [3]) (wName 4))
  (wSeq (wAsg (wTup (wCons (wIxv 1 (wP (wIxv 4 (wP (wC (.int 0)))))) (wCons (wIxv 1 (wPV 2)) wNil))) (wTupT 2 (wGCons (wSub 1 (wPV 2)) (wGCons (wSub 1 (wP (wIxv 4 (wP (wC (.int 0)))))) wGNil))))
  (wSeq (wAsg (wComp (wIt (wIxv 1 (wPV 2))) (wName 6) wYes (wCall F_over xq0 (wCons (wV 6) (wCons (wOp gIx (wIxv 1 (wPV 2)) (wPV 2)) wNil))) [6]) (wSub 1 (wPV 2)))
  (wFor (wRng1 (wCons (wCB1 gLen (wPV 1)) wNil)) (wName 3)
  (wIfS (wB (wOpv gNe 3 (wPV 2)))
  (wAsg (wCall F_row_less xq (wCons (wIxv 1 (wPV 3)) (wCons (wIxv 1 (wPV 2)) (wCons (wOp gIx (wIxv 1 (wPV 3)) (wPV 2)) wNil)))) (wSub 1 (wPV 3)))
  wNext))))))
  (wRet (wCompB 1 (wName 5) wYes (wIxv 5 (wP (wUn gNeg (wP (wC (.int 1)))))) [5]))))
def F_solved : Fn := fun ds s k xq => ds.length = 1 ∧ BF_solved xq (start_ ["rows", "left", "place", "k", "some", "row", "one"] ds) s (kBody k)
def BF_flock_by_roots (xq : Str → S → Prop) : FS :=
  (wSeq (wAsg (wOp gMin (wCB1 gLen (wPV 1)) (wP (wC (.int 1)))) (wName 2))
  (wSeq (wAsg (wCall F_root_powers xq (wCons (wV 1) (wCons (wOp gMul (wC (.int 2)) (wPV 2)) wNil))) (wName 3))
  (wSeq (wAsg (wLst wNil) (wName 4))
  (wSeq (wFor (wRng1 (wCons (wV 2) wNil)) (wName 5)
  (wApp 4 (wOp gCat (wSlv 3 (wPart (wPV 5)) (wPart (wP (wOpv gAdd 5 (wPV 2))))) (wP (wLst (wCons (wIxv 0 (wPV 5)) wNil))))))
  (wRet (wTup (wCons (wCB1 gList (wPV 1)) (wCons (wCall F_clean xq (wCons (wCall F_solved xq (wCons (wV 4) wNil)) wNil)) wNil))))))))
def F_flock_by_roots : Fn := fun ds s k xq => ds.length = 2 ∧ BF_flock_by_roots xq (start_ ["sums", "roots", "degree", "powers", "rows", "k"] ds) s (kBody k)
def BF_open_roots (xq : Str → S → Prop) : FS :=
  (wSeq (wIfS (wB (wOp gEq (wOp gMod (wCB1 gLen (wPV 0)) (wP (wC (.int 2)))) (wP (wC (.int 0)))))
  (wRet (wCallF F_next_step xq (wBVar 1 (wBCons (wCallF F_turn_of xq (wBVar 0 (wBVar 1 wBNil))) wBNil))))
  wNext)
  (wRet (wCallF F_next_step xq (wBVar 1 (wBCons (wC (.tup [.int 0, .int 1])) wBNil)))))
def F_open_roots : Fn := fun ds s k xq => ds.length = 2 ∧ BF_open_roots xq (start_ ["sums", "some"] ds) s (kBody k)
def BF_back (xq : Str → S → Prop) : FS :=
  (wSeq (wAsg (wCall F_steps xq (wCons (wV 0) wNil)) (wName 1))
  (wSeq (wAsg (wIxv 1 (wP (wUn gNeg (wP (wC (.int 1)))))) (wTupT 2 (wGCons (wName 2) (wGCons (wName 3) wGNil))))
  (wSeq (wIfS (wB (wOp gLt (wCallB F_sign_of xq (wBVar 3 wBNil)) (wP (wC (.int 0)))))
  (wRet (wTup (wCons (wC (.str "below")) (wCons (wV 2) wNil))))
  wNext)
  (wSeq (wIfS (wB (wOp gGt (wCallB F_sign_of xq (wBVar 3 wBNil)) (wP (wC (.int 0)))))
  (wRet (wTup (wCons (wC (.str "flock")) (wCons (wCall F_flock_by_roots xq (wCons (wV 0) (wCons (wCall F_open_roots xq (wCons (wV 0) (wCons (wV 1) wNil))) wNil))) wNil))))
  wNext)
  (wSeq (wAsg (wCall F_nought_bar xq (wCons (wV 0) (wCons (wV 2) wNil))) (wName 4))
  (wSeq (wIfS (wB (wOpv gNotN 4 (wP (wC .non))))
  (wRetV 4)
  wNext)
  (wRet (wTup (wCons (wC (.str "flock")) (wCons (wCall F_flock_by_roots xq (wCons (wV 0) (wCons (wV 2) wNil))) wNil))))))))))
def F_back : Fn := fun ds s k xq => ds.length = 1 ∧ BF_back xq (start_ ["sums", "some", "last", "square", "bar"] ds) s (kBody k)
def BF_need_flock (xq : Str → S → Prop) : FS :=
  (wIfS (wB (wOp gNe (wOp gIx (wCall F_back xq (wCons (wV 0) wNil)) (wP (wC (.int 0)))) (wP (wC (.str "flock")))))
  (wRaise xq "NoSums")
  wNext)
def F_need_flock : Fn := fun ds s k xq => ds.length = 1 ∧ BF_need_flock xq (start_ ["sums"] ds) s (kBody k)
def BF_tight_step (xq : Str → S → Prop) : FS :=
  (wSeq (wAsg (wOp gIx (wCall F_steps xq (wCons (wV 0) wNil)) (wP (wUn gNeg (wP (wC (.int 1)))))) (wTupT 2 (wGCons (wName 1) (wGCons (wName 2) wGNil))))
  (wSeq (wIfS (wB (wOpv gEq 2 (wP (wC (.tup [.int 0, .int 1])))))
  (wRetV 1)
  wNext)
  (wRet (wC .non))))
def F_tight_step : Fn := fun ds s k xq => ds.length = 1 ∧ BF_tight_step xq (start_ ["sums", "last", "square"] ds) s (kBody k)
def BF_least_square (xq : Str → S → Prop) : FS :=
  (wSeq (wDrop (wCallB F_need_flock xq (wBVar 0 wBNil)))
  (wSeq (wAsg (wCall F_tight_step xq (wCons (wV 0) wNil)) (wName 2))
  (wSeq (wAsg (wCall F_steps xq (wCons (wV 0) wNil)) (wName 3))
  (wSeq (wIfS (wB (wOpv gNotN 2 (wP (wC .non))))
  (wSeq (wAsg (wCall F_number_at xq (wCons (wV 2) (wCons (wV 1) wNil))) (wName 4))
  (wSeq (wIfS (wB (wOpv gNe 4 (wP (wC (.tup [.int 0, .int 1])))))
  (wRet (wTup (wCons (wC (.tup [.int 0, .int 1])) (wCons (wCall F_grown xq (wCons (wV 2) (wCons (wCall F_over xq (wCons (wC (.tup [.int 1, .int 1])) (wCons (wV 4) wNil))) wNil))) wNil))))
  wNext)
  (wAsg (wSlv 3 wNoPart (wPart (wP (wUn gNeg (wP (wC (.int 1))))))) (wName 3))))
  wNext)
  (wSeq (wAsg (wLst wNil) (wName 5))
  (wSeq (wFor (wIt (wV 3)) (wTupT 2 (wGCons (wName 6) (wGCons (wName 7) wGNil)))
  (wAsg (wCall F_summed xq (wCons (wV 5) (wCons (wCall F_grown xq (wCons (wV 6) (wCons (wCall F_over xq (wCons (wCall F_number_at xq (wCons (wV 6) (wCons (wV 1) wNil))) (wCons (wV 7) wNil))) wNil))) wNil))) (wName 5)))
  (wSeq (wAsg (wCall F_over xq (wCons (wC (.tup [.int 1, .int 1])) (wCons (wCall F_number_at xq (wCons (wV 5) (wCons (wV 1) wNil))) wNil))) (wName 8))
  (wRet (wTup (wCons (wV 8) (wCons (wCall F_grown xq (wCons (wV 5) (wCons (wV 8) wNil))) wNil)))))))))))
def F_least_square : Fn := fun ds s k xq => ds.length = 2 ∧ BF_least_square xq (start_ ["sums", "spot", "last", "some", "value", "found", "f", "square", "number"] ds) s (kBody k)
def BF__law_divisor (xq : Str → S → Prop) : FS :=
  (wSeq (wWhile (wB (wOpv gNe 1 (wP (wC (.int 0)))))
  (wPar 0 1 (wCons (wV 1) (wCons (wOpv gMod 0 (wPV 1)) wNil))))
  (wRet (wCB1 gAbs (wPV 0))))
def F__law_divisor : Fn := fun ds s k xq => ds.length = 2 ∧ BF__law_divisor xq (start_ ["_law_one", "_law_other"] ds) s (kBody k)
def BF__law_low (xq : Str → S → Prop) : FS :=
  (wSeq (wAsg (wCallB F__law_divisor xq (wBVar 0 (wBVar 1 wBNil))) (wName 2))
  (wSeq (wIfS (wB (wOpv gLt 1 (wP (wC (.int 0)))))
  (wAsg (wOp gMin (wC (.int 0)) (wPV 2)) (wName 2))
  wNext)
  (wRet (wTup (wCons (wOpv gDiv 0 (wPV 2)) (wCons (wOpv gDiv 1 (wPV 2)) wNil))))))
def F__law_low : Fn := fun ds s k xq => ds.length = 2 ∧ BF__law_low xq (start_ ["_law_top", "_law_bottom", "_law_by"] ds) s (kBody k)
def BF__law_over (xq : Str → S → Prop) : FS :=
  (wRet (wCall F__law_low xq (wCons (wOp gMul (wIxv 0 (wP (wC (.int 0)))) (wP (wIxv 1 (wP (wC (.int 1)))))) (wCons (wOp gMul (wIxv 0 (wP (wC (.int 1)))) (wP (wIxv 1 (wP (wC (.int 0)))))) wNil))))
def F__law_over : Fn := fun ds s k xq => ds.length = 2 ∧ BF__law_over xq (start_ ["_law_one", "_law_other"] ds) s (kBody k)
def BF__law_plus (xq : Str → S → Prop) : FS :=
  (wRet (wCall F__law_low xq (wCons (wOp gAdd (wOp gMul (wIxv 0 (wP (wC (.int 0)))) (wP (wIxv 1 (wP (wC (.int 1)))))) (wP (wOp gMul (wIxv 1 (wP (wC (.int 0)))) (wP (wIxv 0 (wP (wC (.int 1)))))))) (wCons (wOp gMul (wIxv 0 (wP (wC (.int 1)))) (wP (wIxv 1 (wP (wC (.int 1)))))) wNil))))
def F__law_plus : Fn := fun ds s k xq => ds.length = 2 ∧ BF__law_plus xq (start_ ["_law_one", "_law_other"] ds) s (kBody k)
def BF__law_times (xq : Str → S → Prop) : FS :=
  (wRet (wCall F__law_low xq (wCons (wOp gMul (wIxv 0 (wP (wC (.int 0)))) (wP (wIxv 1 (wP (wC (.int 0)))))) (wCons (wOp gMul (wIxv 0 (wP (wC (.int 1)))) (wP (wIxv 1 (wP (wC (.int 1)))))) wNil))))
def F__law_times : Fn := fun ds s k xq => ds.length = 2 ∧ BF__law_times xq (start_ ["_law_one", "_law_other"] ds) s (kBody k)
def BF__law_worth (xq : Str → S → Prop) : FS :=
  (wSeq (wAsg (wTup (wCons (wC (.int 0)) (wCons (wC (.int 1)) wNil))) (wName 2))
  (wSeq (wFor (wRng1 (wCons (wCB1 gLen (wPV 1)) wNil)) (wName 3)
  (wAsg (wCall F__law_plus xq (wCons (wV 2) (wCons (wCall F__law_times xq (wCons (wIxv 1 (wPV 3)) (wCons (wIxv 0 (wPV 3)) wNil))) wNil))) (wName 2)))
  (wRetV 2)))
def F__law_worth : Fn := fun ds s k xq => ds.length = 2 ∧ BF__law_worth xq (start_ ["_law_sums_here", "_law_f", "_law_found", "_law_place"] ds) s (kBody k)
def BF__law_clean (xq : Str → S → Prop) : FS :=
  (wSeq (wAsg (wCB1 gLen (wPV 0)) (wName 1))
  (wSeq (wWhile (wAnd (wB (wOpv gGt 1 (wP (wC (.int 0))))) (wB (wOp gEq (wOp gIx (wIxv 0 (wP (wOpv gMin 1 (wP (wC (.int 1)))))) (wP (wC (.int 0)))) (wP (wC (.int 0))))))
  (wAsg (wOpv gMin 1 (wP (wC (.int 1)))) (wName 1)))
  (wRet (wCB1 gList (wP (wSlv 0 wNoPart (wPart (wPV 1))))))))
def F__law_clean : Fn := fun ds s k xq => ds.length = 1 ∧ BF__law_clean xq (start_ ["_law_numbers", "_law_many"] ds) s (kBody k)
def BF__law_multiplied (xq : Str → S → Prop) : FS :=
  (wSeq (wAsg (wOp gRep (wLst (wCons (wTup (wCons (wC (.int 0)) (wCons (wC (.int 1)) wNil))) wNil)) (wP (wOp gAdd (wCB1 gLen (wPV 0)) (wP (wCB1 gLen (wPV 1)))))) (wName 2))
  (wSeq (wFor (wRng1 (wCons (wCB1 gLen (wPV 0)) wNil)) (wName 3)
  (wFor (wRng1 (wCons (wCB1 gLen (wPV 1)) wNil)) (wName 4)
  (wAsg (wCall F__law_plus xq (wCons (wIxv 2 (wP (wOpv gAdd 3 (wPV 4)))) (wCons (wCall F__law_times xq (wCons (wIxv 0 (wPV 3)) (wCons (wIxv 1 (wPV 4)) wNil))) wNil))) (wSub 2 (wP (wOpv gAdd 3 (wPV 4)))))))
  (wRet (wCall F__law_clean xq (wCons (wV 2) wNil)))))
def F__law_multiplied : Fn := fun ds s k xq => ds.length = 2 ∧ BF__law_multiplied xq (start_ ["_law_f", "_law_g", "_law_found", "_law_i", "_law_j"] ds) s (kBody k)
def BF__law_square (xq : Str → S → Prop) : FS :=
  (wRet (wCall F__law_worth xq (wCons (wV 0) (wCons (wCall F__law_multiplied xq (wCons (wV 1) (wCons (wV 2) wNil))) wNil))))
def F__law_square : Fn := fun ds s k xq => ds.length = 3 ∧ BF__law_square xq (start_ ["_law_sums_here", "_law_f", "_law_g"] ds) s (kBody k)
def BF__law_summed (xq : Str → S → Prop) : FS :=
  (wSeq (wAsg (wOp gCat (wCB1 gList (wPV 0)) (wP (wOp gRep (wLst (wCons (wTup (wCons (wC (.int 0)) (wCons (wC (.int 1)) wNil))) wNil)) (wP (wCB gMax2 (wCons (wC (.int 0)) (wCons (wOp gMin (wCB1 gLen (wPV 1)) (wP (wCB1 gLen (wPV 0)))) wNil))))))) (wName 3))
  (wSeq (wFor (wRng1 (wCons (wCB1 gLen (wPV 1)) wNil)) (wName 4)
  (wAsg (wCall F__law_plus xq (wCons (wIxv 3 (wPV 4)) (wCons (wCall F__law_times xq (wCons (wIxv 1 (wPV 4)) (wCons (wV 2) wNil))) wNil))) (wSub 3 (wPV 4))))
  (wRet (wCall F__law_clean xq (wCons (wV 3) wNil)))))
def F__law_summed : Fn := fun ds s k xq => ds.length = 3 ∧ BF__law_summed xq (start_ ["_law_f", "_law_g", "_law_by", "_law_found", "_law_place"] ds) s (kBody k)
def BF__law_along (xq : Str → S → Prop) : FS :=
  (wSeq (wAsg (wCB1 gList (wPV 1)) (wName 3))
  (wSeq (wFor (wIt (wV 2)) (wTupT 2 (wGCons (wName 4) (wGCons (wName 5) wGNil)))
  (wSeq (wAsg (wCall F__law_over xq (wCons (wCall F__law_square xq (wCons (wV 0) (wCons (wV 1) (wCons (wV 4) wNil)))) (wCons (wV 5) wNil))) (wName 6))
  (wAsg (wCall F__law_summed xq (wCons (wV 3) (wCons (wV 4) (wCons (wTup (wCons (wOp gMin (wC (.int 0)) (wP (wIxv 6 (wP (wC (.int 0)))))) (wCons (wIxv 6 (wP (wC (.int 1)))) wNil))) wNil)))) (wName 3))))
  (wRetV 3)))
def F__law_along : Fn := fun ds s k xq => ds.length = 3 ∧ BF__law_along xq (start_ ["_law_sums_here", "_law_start", "_law_found", "_law_step", "_law_one", "_law_square_here", "_law_by"] ds) s (kBody k)
def BF__law_x (xq : Str → S → Prop) : FS :=
  (wRet (wOp gCat (wOp gRep (wLst (wCons (wTup (wCons (wC (.int 0)) (wCons (wC (.int 1)) wNil))) wNil)) (wPV 0)) (wP (wLst (wCons (wTup (wCons (wC (.int 1)) (wCons (wC (.int 1)) wNil))) wNil)))))
def F__law_x : Fn := fun ds s k xq => ds.length = 1 ∧ BF__law_x xq (start_ ["_law_many"] ds) s (kBody k)
def BF__law_steps (xq : Str → S → Prop) : FS :=
  (wSeq (wAsg (wLst wNil) (wName 1))
  (wSeq (wWhile (wAnd (wB (wOp gLt (wOp gMul (wC (.int 2)) (wP (wCB1 gLen (wPV 1)))) (wP (wCB1 gLen (wPV 0))))) (wOr (wB (wOpv gEqE 1 (wP (wLst wNil)))) (wB (wOp gGt (wOp gIx (wOp gIx (wIxv 1 (wP (wUn gNeg (wP (wC (.int 1)))))) (wP (wC (.int 1)))) (wP (wC (.int 0)))) (wP (wC (.int 0)))))))
  (wSeq (wAsg (wCallF F__law_along xq (wBVar 0 (wBCons (wCall F__law_x xq (wCons (wCB1 gLen (wPV 1)) wNil)) (wBVar 1 wBNil)))) (wName 2))
  (wApp 1 (wTup (wCons (wV 2) (wCons (wCall F__law_square xq (wCons (wV 0) (wCons (wV 2) (wCons (wV 2) wNil)))) wNil))))))
  (wRetV 1)))
def F__law_steps : Fn := fun ds s k xq => ds.length = 1 ∧ BF__law_steps xq (start_ ["_law_sums_here", "_law_found", "_law_step"] ds) s (kBody k)
def BF__law_kind (xq : Str → S → Prop) : FS :=
  (wSeq (wAsg (wOp gIx (wCall F__law_steps xq (wCons (wV 0) wNil)) (wP (wUn gNeg (wP (wC (.int 1)))))) (wTupT 2 (wGCons (wName 1) (wGCons (wName 2) wGNil))))
  (wSeq (wIfS (wB (wOp gGt (wIxv 2 (wP (wC (.int 0)))) (wP (wC (.int 0)))))
  (wRet (wC (.str "open")))
  wNext)
  (wSeq (wFor (wRng1 (wCons (wOp gAdd (wOp gMin (wCB1 gLen (wPV 0)) (wP (wCB1 gLen (wPV 1)))) (wP (wC (.int 1)))) wNil)) (wName 3)
  (wIfS (wB (wOp gNe (wOp gIx (wCall F__law_worth xq (wCons (wV 0) (wCons (wOp gCat (wOp gRep (wLst (wCons (wTup (wCons (wC (.int 0)) (wCons (wC (.int 1)) wNil))) wNil)) (wPV 3)) (wPV 1)) wNil))) (wP (wC (.int 0)))) (wP (wC (.int 0)))))
  (wRet (wC (.str "none")))
  wNext))
  (wRet (wC (.str "tight"))))))
def F__law_kind : Fn := fun ds s k xq => ds.length = 1 ∧ BF__law_kind xq (start_ ["_law_sums_here", "_law_last", "_law_square_here", "_law_many"] ds) s (kBody k)
def BF__law_whole (xq : Str → S → Prop) : FS :=
  (wRet (wAndV (wIsi "int" (wPV 0)) (wNotV (wIsi "bool" (wPV 0)))))
def F__law_whole : Fn := fun ds s k xq => ds.length = 1 ∧ BF__law_whole xq (start_ ["_law_thing"] ds) s (kBody k)
def BF__law_is_fraction (xq : Str → S → Prop) : FS :=
  (wSeq (wIfS (wOr (wNot (wB (wIsi "tuple" (wPV 0)))) (wOr (wB (wOp gNe (wCB1 gLen (wPV 0)) (wP (wC (.int 2))))) (wOr (wNot (wB (wCall F__law_whole xq (wCons (wIxv 0 (wP (wC (.int 0)))) wNil)))) (wNot (wB (wCall F__law_whole xq (wCons (wIxv 0 (wP (wC (.int 1)))) wNil)))))))
  (wRet (wC (.bl false)))
  wNext)
  (wRet (wAndV (wOp gGt (wIxv 0 (wP (wC (.int 1)))) (wP (wC (.int 0)))) (wOp gEq (wCall F__law_divisor xq (wCons (wIxv 0 (wP (wC (.int 0)))) (wCons (wIxv 0 (wP (wC (.int 1)))) wNil))) (wP (wC (.int 1)))))))
def F__law_is_fraction : Fn := fun ds s k xq => ds.length = 1 ∧ BF__law_is_fraction xq (start_ ["_law_thing"] ds) s (kBody k)
def BF__law_is_polynomial (xq : Str → S → Prop) : FS :=
  (wSeq (wIfS (wOr (wNot (wB (wIsi "list" (wPV 0)))) (wB (wOp gNeE (wComp (wIt (wV 0)) (wName 1) (wNot (wB (wCallB F__law_is_fraction xq0 (wBVar 1 wBNil)))) (wV 1) [1]) (wP (wLst wNil)))))
  (wRet (wC (.bl false)))
  wNext)
  (wRet (wOrV (wOpv gEqE 0 (wP (wLst wNil))) (wOp gNe (wIxv 0 (wP (wUn gNeg (wP (wC (.int 1)))))) (wP (wTup (wCons (wC (.int 0)) (wCons (wC (.int 1)) wNil))))))))
def F__law_is_polynomial : Fn := fun ds s k xq => ds.length = 1 ∧ BF__law_is_polynomial xq (start_ ["_law_thing", "_law_one"] ds) s (kBody k)
def BF__law_same (self : Fn) (xq : Str → S → Prop) : FS :=
  (wSeq (wIfS (wB (wIsi2 "tuple" "list" (wPV 1)))
  (wSeq (wIfS (wOr (wB (wOp gNe (wIsi "tuple" (wPV 0)) (wP (wIsi "tuple" (wPV 1))))) (wB (wOp gNe (wIsi "list" (wPV 0)) (wP (wIsi "list" (wPV 1))))))
  (wRet (wC (.bl false)))
  wNext)
  (wSeq (wIfS (wB (wOp gNe (wCB1 gLen (wPV 0)) (wP (wCB1 gLen (wPV 1)))))
  (wRet (wC (.bl false)))
  wNext)
  (wRet (wCB1 gAll (wP (wComp (wZip (wCons (wV 0) (wCons (wV 1) wNil))) (wTupT 2 (wGCons (wName 2) (wGCons (wName 3) wGNil))) wYes (wCallB self xq0 (wBVar 2 (wBVar 3 wBNil))) [2, 3]))))))
  wNext)
  (wRet (wAndV (wOpv gEq 0 (wPV 1)) (wOp gEq (wIsi "bool" (wPV 0)) (wP (wIsi "bool" (wPV 1)))))))
def F__law_same_ : Nat → Fn
  | 0 => fun _ _ _ _ => False
  | n + 1 => fun ds s k xq => ds.length = 2 ∧ BF__law_same (F__law_same_ n) xq (start_ ["_law_found", "_law_due", "_law_one", "_law_other"] ds) s (kBody k)
abbrev F__law_same : Fn := F__law_same_ 12
def BF__law_number_at (xq : Str → S → Prop) : FS :=
  (wSeq (wAsg (wTup (wCons (wC (.int 0)) (wCons (wC (.int 1)) wNil))) (wName 2))
  (wSeq (wFor (wIt (wRevL (wPV 0))) (wName 3)
  (wAsg (wCall F__law_plus xq (wCons (wCall F__law_times xq (wCons (wV 2) (wCons (wV 1) wNil))) (wCons (wV 3) wNil))) (wName 2)))
  (wRetV 2)))
def F__law_number_at : Fn := fun ds s k xq => ds.length = 2 ∧ BF__law_number_at xq (start_ ["_law_f", "_law_x_here", "_law_found", "_law_one"] ds) s (kBody k)
def BF__law_least (xq : Str → S → Prop) : FS :=
  (wSeq (wAsg (wCall F__law_steps xq (wCons (wV 0) wNil)) (wName 2))
  (wSeq (wIfS (wB (wOp gEq (wOp gIx (wOp gIx (wIxv 2 (wP (wUn gNeg (wP (wC (.int 1)))))) (wP (wC (.int 1)))) (wP (wC (.int 0)))) (wP (wC (.int 0)))))
  (wSeq (wIfS (wB (wOp gNe (wOp gIx (wCall F__law_number_at xq (wCons (wOp gIx (wIxv 2 (wP (wUn gNeg (wP (wC (.int 1)))))) (wP (wC (.int 0)))) (wCons (wV 1) wNil))) (wP (wC (.int 0)))) (wP (wC (.int 0)))))
  (wRet (wTup (wCons (wC (.int 0)) (wCons (wC (.int 1)) wNil))))
  wNext)
  (wAsg (wSlv 2 wNoPart (wPart (wP (wUn gNeg (wP (wC (.int 1))))))) (wName 2)))
  wNext)
  (wSeq (wAsg (wTup (wCons (wC (.int 0)) (wCons (wC (.int 1)) wNil))) (wName 3))
  (wSeq (wFor (wIt (wV 2)) (wTupT 2 (wGCons (wName 4) (wGCons (wName 5) wGNil)))
  (wSeq (wAsg (wCall F__law_number_at xq (wCons (wV 4) (wCons (wV 1) wNil))) (wName 6))
  (wAsg (wCall F__law_plus xq (wCons (wV 3) (wCons (wCall F__law_over xq (wCons (wCall F__law_times xq (wCons (wV 6) (wCons (wV 6) wNil))) (wCons (wV 5) wNil))) wNil))) (wName 3))))
  (wRet (wCall F__law_over xq (wCons (wTup (wCons (wC (.int 1)) (wCons (wC (.int 1)) wNil))) (wCons (wV 3) wNil))))))))
def F__law_least : Fn := fun ds s k xq => ds.length = 2 ∧ BF__law_least xq (start_ ["_law_sums_here", "_law_spot", "_law_some", "_law_amount", "_law_step", "_law_square_here", "_law_one"] ds) s (kBody k)
def BF__law_less (xq : Str → S → Prop) : FS :=
  (wRet (wOp gLt (wOp gMul (wIxv 0 (wP (wC (.int 0)))) (wP (wIxv 1 (wP (wC (.int 1)))))) (wP (wOp gMul (wIxv 1 (wP (wC (.int 0)))) (wP (wIxv 0 (wP (wC (.int 1)))))))))
def F__law_less : Fn := fun ds s k xq => ds.length = 2 ∧ BF__law_less xq (start_ ["_law_one", "_law_other"] ds) s (kBody k)
def BF__law_cell_at (xq : Str → S → Prop) : FS :=
  (wSeq (wIfS (wB (wOpv gLt 1 (wP (wCB1 gLen (wPV 0)))))
  (wRet (wIxv 0 (wPV 1)))
  wNext)
  (wRet (wC (.int 0))))
def F__law_cell_at : Fn := fun ds s k xq => ds.length = 2 ∧ BF__law_cell_at xq (start_ ["_law_script", "_law_k"] ds) s (kBody k)
def BF__law_state (xq : Str → S → Prop) : FS :=
  (wSeq (wAsg (wCall F__law_cell_at xq (wCons (wV 0) (wCons (wV 1) wNil))) (wName 2))
  (wSeq (wIfS (wB (wOpv gGe 2 (wP (wOp gPow (wC (.int 10)) (wP (wC (.int 18)))))))
  (wRet (wLst (wCons (wOpv gMin 2 (wP (wOp gPow (wC (.int 10)) (wP (wC (.int 18)))))) (wCons (wC (.bl true)) wNil))))
  wNext)
  (wRet (wLst (wCons (wOpv gMod 2 (wP (wC (.int 2147483647)))) (wCons (wC (.bl false)) wNil))))))
def F__law_state : Fn := fun ds s k xq => ds.length = 2 ∧ BF__law_state xq (start_ ["_law_script", "_law_k", "_law_cell"] ds) s (kBody k)
def BF__law_take (xq : Str → S → Prop) : FS :=
  (wSeq (wIfS (wB (wIxv 0 (wP (wC (.int 1)))))
  (wSeq (wAsg (wOp gMod (wIxv 0 (wP (wC (.int 0)))) (wPV 1)) (wName 2))
  (wSeq (wAsg (wOp gDiv (wIxv 0 (wP (wC (.int 0)))) (wPV 1)) (wSub 0 (wP (wC (.int 0)))))
  (wRetV 2)))
  wNext)
  (wSeq (wAsg (wOp gMod (wOp gAdd (wOp gMul (wIxv 0 (wP (wC (.int 0)))) (wP (wC (.int 48271)))) (wP (wC (.int 29)))) (wP (wC (.int 2147483647)))) (wSub 0 (wP (wC (.int 0)))))
  (wSeq (wAsg (wOp gMod (wOp gAdd (wOp gAdd (wOp gMul (wIxv 0 (wP (wC (.int 0)))) (wP (wIxv 0 (wP (wC (.int 0)))))) (wP (wOp gMul (wC (.int 39373)) (wP (wIxv 0 (wP (wC (.int 0)))))))) (wP (wC (.int 7)))) (wP (wC (.int 2147483629)))) (wName 3))
  (wSeq (wAsg (wOp gMod (wOp gAdd (wOpv gMul 3 (wPV 3)) (wP (wOp gMul (wC (.int 16807)) (wPV 3)))) (wP (wC (.int 2147483587)))) (wName 3))
  (wRet (wOp gMod (wOpv gDiv 3 (wP (wC (.int 8)))) (wPV 1)))))))
def F__law_take : Fn := fun ds s k xq => ds.length = 2 ∧ BF__law_take xq (start_ ["_law_state_here", "_law_many", "_law_found", "_law_mixed"] ds) s (kBody k)
def BF__law_small (xq : Str → S → Prop) : FS :=
  (wRet (wCall F__law_low xq (wCons (wOp gMin (wCall F__law_take xq (wCons (wV 0) (wCons (wC (.int 13)) wNil))) (wP (wC (.int 6)))) (wCons (wOp gAdd (wC (.int 1)) (wP (wOp gIx (wLst (wCons (wC (.int 0)) (wCons (wC (.int 0)) (wCons (wCall F__law_take xq (wCons (wV 0) (wCons (wC (.int 3)) wNil))) wNil)))) (wP (wCall F__law_take xq (wCons (wV 0) (wCons (wC (.int 3)) wNil))))))) wNil))))
def F__law_small : Fn := fun ds s k xq => ds.length = 1 ∧ BF__law_small xq (start_ ["_law_state_here"] ds) s (kBody k)
def BF__law_above (xq : Str → S → Prop) : FS :=
  (wRet (wCall F__law_low xq (wCons (wOp gAdd (wC (.int 1)) (wP (wCall F__law_take xq (wCons (wV 0) (wCons (wC (.int 6)) wNil))))) (wCons (wOp gAdd (wC (.int 1)) (wP (wOp gIx (wLst (wCons (wC (.int 0)) (wCons (wC (.int 0)) (wCons (wCall F__law_take xq (wCons (wV 0) (wCons (wC (.int 3)) wNil))) wNil)))) (wP (wCall F__law_take xq (wCons (wV 0) (wCons (wC (.int 3)) wNil))))))) wNil))))
def F__law_above : Fn := fun ds s k xq => ds.length = 1 ∧ BF__law_above xq (start_ ["_law_state_here"] ds) s (kBody k)
def BF__law_crowd (xq : Str → S → Prop) : FS :=
  (wSeq (wAsg (wLst wNil) (wName 2))
  (wSeq (wAsg (wCall F__law_small xq (wCons (wV 0) wNil)) (wName 3))
  (wSeq (wFor (wRng1 (wCons (wCall F__law_take xq (wCons (wV 0) (wCons (wOpv gAdd 1 (wP (wC (.int 1)))) wNil))) wNil)) (wName 4)
  (wSeq (wApp 2 (wTup (wCons (wV 3) (wCons (wCall F__law_above xq (wCons (wV 0) wNil)) wNil))))
  (wAsg (wCall F__law_plus xq (wCons (wV 3) (wCons (wCall F__law_above xq (wCons (wV 0) wNil)) wNil))) (wName 3))))
  (wRetV 2))))
def F__law_crowd : Fn := fun ds s k xq => ds.length = 2 ∧ BF__law_crowd xq (start_ ["_law_state_here", "_law_most", "_law_found", "_law_spot", "_law_turn"] ds) s (kBody k)
def BF__law_spot_crowd (xq : Str → S → Prop) : FS :=
  (wSeq (wAsg (wCall F__law_crowd xq (wCons (wV 0) (wCons (wV 1) wNil))) (wName 2))
  (wSeq (wIfS (wB (wOpv gEqE 2 (wP (wLst wNil))))
  (wAsg (wLst (wCons (wTup (wCons (wCall F__law_small xq (wCons (wV 0) wNil)) (wCons (wCall F__law_above xq (wCons (wV 0) wNil)) wNil))) wNil)) (wName 2))
  wNext)
  (wRetV 2)))
def F__law_spot_crowd : Fn := fun ds s k xq => ds.length = 2 ∧ BF__law_spot_crowd xq (start_ ["_law_state_here", "_law_most", "_law_found"] ds) s (kBody k)
def BF__law_crowd_sums (xq : Str → S → Prop) : FS :=
  (wSeq (wAsg (wLst wNil) (wName 2))
  (wSeq (wAsg (wComp (wIt (wV 0)) (wTupT 2 (wGCons (wName 7) (wGCons (wName 8) wGNil))) wYes (wV 8) [7, 8]) (wName 3))
  (wSeq (wFor (wRng1 (wCons (wV 1) wNil)) (wName 4)
  (wSeq (wAsg (wTup (wCons (wC (.int 0)) (wCons (wC (.int 1)) wNil))) (wName 5))
  (wSeq (wFor (wIt (wV 3)) (wName 6)
  (wAsg (wCall F__law_plus xq (wCons (wV 5) (wCons (wV 6) wNil))) (wName 5)))
  (wSeq (wApp 2 (wV 5))
  (wAsg (wComp (wRng1 (wCons (wCB1 gLen (wPV 0)) wNil)) (wName 9) wYes (wCall F__law_times xq0 (wCons (wIxv 3 (wPV 9)) (wCons (wOp gIx (wIxv 0 (wPV 9)) (wP (wC (.int 0)))) wNil))) [9]) (wName 3))))))
  (wRetV 2))))
def F__law_crowd_sums : Fn := fun ds s k xq => ds.length = 2 ∧ BF__law_crowd_sums xq (start_ ["_law_crowd_here", "_law_many", "_law_found", "_law_powers", "_law_k", "_law_amount", "_law_one", "_law_spot", "_law_weight", "_law_at"] ds) s (kBody k)
def BF__law_case (xq : Str → S → Prop) : FS :=
  (wSeq (wAsg (wCall F__law_spot_crowd xq (wCons (wV 0) (wCons (wC (.int 5)) wNil))) (wName 1))
  (wSeq (wAsg (wCall F__law_small xq (wCons (wV 0) wNil)) (wName 2))
  (wSeq (wIfS (wB (wOp gEq (wCall F__law_take xq (wCons (wV 0) (wCons (wC (.int 3)) wNil))) (wP (wC (.int 0)))))
  (wAsg (wOp gIx (wIxv 1 (wP (wCall F__law_take xq (wCons (wV 0) (wCons (wCB1 gLen (wPV 1)) wNil))))) (wP (wC (.int 0)))) (wName 2))
  wNext)
  (wRet (wTup (wCons (wV 1) (wCons (wCall F__law_crowd_sums xq (wCons (wV 1) (wCons (wOp gAdd (wC (.int 1)) (wP (wCall F__law_take xq (wCons (wV 0) (wCons (wC (.int 11)) wNil))))) wNil))) (wCons (wV 2) wNil))))))))
def F__law_case : Fn := fun ds s k xq => ds.length = 1 ∧ BF__law_case xq (start_ ["_law_state_here", "_law_crowd_here", "_law_spot"] ds) s (kBody k)
def BF__law_sums (xq : Str → S → Prop) : FS :=
  (wSeq (wAsg (wOp gAdd (wC (.int 1)) (wP (wCall F__law_take xq (wCons (wV 0) (wCons (wC (.int 11)) wNil))))) (wName 1))
  (wSeq (wAsg (wCall F__law_take xq (wCons (wV 0) (wCons (wC (.int 8)) wNil))) (wName 2))
  (wSeq (wIfS (wB (wOpv gEq 2 (wP (wC (.int 0)))))
  (wRet (wComp (wRng1 (wCons (wV 1) wNil)) (wName 5) wYes (wCall F__law_small xq0 (wCons (wV 0) wNil)) [5]))
  wNext)
  (wSeq (wIfS (wB (wOpv gEq 2 (wP (wC (.int 1)))))
  (wRet (wOp gCat (wOp gRep (wLst (wCons (wTup (wCons (wC (.int 0)) (wCons (wC (.int 1)) wNil))) wNil)) (wP (wOpv gMin 1 (wP (wC (.int 1)))))) (wP (wLst (wCons (wCall F__law_small xq (wCons (wV 0) wNil)) wNil)))))
  wNext)
  (wSeq (wAsg (wCall F__law_crowd_sums xq (wCons (wCall F__law_crowd xq (wCons (wV 0) (wCons (wOp gIx (wLst (wCons (wC (.int 5)) (wCons (wC (.int 5)) (wCons (wC (.int 5)) (wCons (wC (.int 2)) (wCons (wC (.int 3)) wNil)))))) (wP (wCall F__law_take xq (wCons (wV 0) (wCons (wC (.int 5)) wNil))))) wNil))) (wCons (wV 1) wNil))) (wName 3))
  (wSeq (wIfS (wB (wOpv gLt 2 (wP (wC (.int 5)))))
  (wSeq (wAsg (wCall F__law_take xq (wCons (wV 0) (wCons (wV 1) wNil))) (wName 4))
  (wAsg (wCall F__law_plus xq (wCons (wIxv 3 (wPV 4)) (wCons (wOp gIx (wLst (wCons (wCall F__law_small xq (wCons (wV 0) wNil)) (wCons (wTup (wCons (wC (.int 1)) (wCons (wC (.int 1)) wNil))) (wCons (wTup (wCons (wUn gNeg (wP (wC (.int 1)))) (wCons (wC (.int 1)) wNil))) wNil)))) (wP (wCall F__law_take xq (wCons (wV 0) (wCons (wC (.int 3)) wNil))))) wNil))) (wSub 3 (wPV 4))))
  wNext)
  (wRetV 3)))))))
def F__law_sums : Fn := fun ds s k xq => ds.length = 1 ∧ BF__law_sums xq (start_ ["_law_state_here", "_law_many", "_law_way", "_law_found", "_law_at", "_law_k"] ds) s (kBody k)
def BF__law_weight_at (xq : Str → S → Prop) : FS :=
  (wSeq (wFor (wIt (wV 0)) (wTupT 2 (wGCons (wName 2) (wGCons (wName 3) wGNil)))
  (wIfS (wB (wOpv gEq 2 (wPV 1)))
  (wRetV 3)
  wNext))
  (wRet (wTup (wCons (wC (.int 0)) (wCons (wC (.int 1)) wNil)))))
def F__law_weight_at : Fn := fun ds s k xq => ds.length = 2 ∧ BF__law_weight_at xq (start_ ["_law_crowd_here", "_law_spot", "_law_one", "_law_weight"] ds) s (kBody k)
def BF__law_right (xq : Str → S → Prop) : FS :=
  (wSeq (wAsg (wCB1 gList (wPV 0)) (wName 6))
  (wSeq (wIfS (wB (wOp gEq (wCallB F__law_kind xq (wBVar 0 wBNil)) (wP (wC (.str "none")))))
  (wRet (wOp gEq (wRef [1, 6] (fun xq => (wCall F_least_square xq (wCons (wV 6) (wCons (wV 1) wNil))))) (wP (wLst (wCons (wC (.int 2)) wNil)))))
  wNext)
  (wSeq (wAsg (wCall F_least_square xq (wCons (wV 6) (wCons (wV 1) wNil))) (wName 3))
  (wSeq (wIfS (wOr (wNot (wB (wIsi "tuple" (wPV 3)))) (wOr (wB (wOp gNe (wCB1 gLen (wPV 3)) (wP (wC (.int 2))))) (wOr (wNot (wB (wCall F__law_is_polynomial xq (wCons (wIxv 3 (wP (wC (.int 1)))) wNil)))) (wB (wOpv gNe 6 (wPV 0))))))
  (wRet (wC (.bl false)))
  wNext)
  (wSeq (wAsg (wV 3) (wTupT 2 (wGCons (wName 4) (wGCons (wName 5) wGNil))))
  (wSeq (wIfS (wOr (wNot (wB (wCallB F__law_same xq (wBVar 4 (wBCons (wCall F__law_least xq (wCons (wV 0) (wCons (wV 1) wNil))) wBNil))))) (wB (wCallB F__law_less xq (wBVar 4 (wBVar 2 wBNil)))))
  (wRet (wC (.bl false)))
  wNext)
  (wSeq (wIfS (wOr (wB (wOp gGt (wOp gMin (wOp gMul (wC (.int 2)) (wP (wCB1 gLen (wPV 5)))) (wP (wC (.int 1)))) (wP (wCB1 gLen (wPV 0))))) (wB (wOp gNe (wCall F__law_number_at xq (wCons (wV 5) (wCons (wV 1) wNil))) (wP (wTup (wCons (wC (.int 1)) (wCons (wC (.int 1)) wNil)))))))
  (wRet (wC (.bl false)))
  wNext)
  (wRet (wOp gEq (wCall F__law_square xq (wCons (wV 0) (wCons (wV 5) (wCons (wV 5) wNil)))) (wPV 4))))))))))
def F__law_right : Fn := fun ds s k xq => ds.length = 3 ∧ BF__law_right xq (start_ ["_law_sums_here", "_law_spot", "_law_weight", "_law_found", "_law_number", "_law_f", "_law_handed"] ds) s (kBody k)
def BF_law (xq : Str → S → Prop) : FS :=
  (wSeq (wFor (wRng1 (wCons (wCB gMax2 (wCons (wC (.int 1)) (wCons (wCB gMin2 (wCons (wCB1 gLen (wPV 0)) (wCons (wC (.int 5)) wNil))) wNil))) wNil)) (wName 1)
  (wSeq (wAsg (wCall F__law_state xq (wCons (wV 0) (wCons (wV 1) wNil))) (wName 2))
  (wSeq (wAsg (wCallLend F__law_case xq 2 wNil) (wTupT 3 (wGCons (wName 3) (wGCons (wName 4) (wGCons (wName 5) wGNil)))))
  (wSeq (wIfS (wOr (wNot (wB (wCallB F__law_right xq (wBVar 4 (wBVar 5 (wBCons (wCall F__law_weight_at xq (wCons (wV 3) (wCons (wV 5) wNil))) wBNil)))))) (wNot (wB (wCallB F__law_right xq (wBCons (wCallLend F__law_sums xq 2 wNil) (wBVar 5 (wBCons (wTup (wCons (wC (.int 0)) (wCons (wC (.int 1)) wNil))) wBNil)))))))
  (wRet (wC (.bl false)))
  wNext)
  (wIfS (wNot (wB (wCallB F__law_right xq (wBCons (wOp gRep (wLst (wCons (wTup (wCons (wC (.int 0)) (wCons (wC (.int 1)) wNil))) wNil)) (wP (wOp gAdd (wC (.int 1)) (wP (wCallLend F__law_take xq 2 (wCons (wC (.int 11)) wNil)))))) (wBVar 5 (wBCons (wTup (wCons (wC (.int 0)) (wCons (wC (.int 1)) wNil))) wBNil))))))
  (wRet (wC (.bl false)))
  wNext)))))
  (wRet (wC (.bl true))))
def F_law : Fn := fun ds s k xq => ds.length = 1 ∧ BF_law xq (start_ ["_law_script", "_law_k", "_law_state_here", "_law_crowd_here", "_law_sums_here", "_law_spot"] ds) s (kBody k)
end Mi
set_option Elab.async false
set_option linter.all false
set_option maxRecDepth 100000
set_option maxHeartbeats 4000000
namespace Wk
open PySem PySem.Spec PyProof.Rows L2 DL Mi
section
variable {P : Program} {w : World} {K : PySem.W.Frag} {mg : Str → Option Value} {base : Heap} {T : List (Addr × Str)}
theorem sc_divisor : FnScope ["one", "other"] ["one", "other"] (defScope s_divisor) := ⟨rfl, rfl, rfl, by decide +kernel, rfl, by decide +kernel, by decide +kernel⟩
theorem ok_divisor (TX : Txt bk K mg) (TB : TBs bk K mg base T P) : Def P w K mg base T "divisor" ["one", "other"] 1 F_divisor := by
  refine TX.def_ 0 0 (st := s_divisor) rfl rfl sc_divisor (fun _ _ _ _ _ _ us hl => match us, hl with | [_, _], _ => rfl) (fun _ _ _ _ h => h.1) (fun _ _ _ _ h => h.2) fun fa cdv A outer s H E hcv hr => ?_
  have tk : Takes (cxOf (L2.CX P w) P w K mg base ["one", "other"] "divisor" (defScope s_divisor) fa cdv A outer s H E) (fun cls d _ H => E cls d H) := takes_of rfl rfl rfl rfl
  refine ⟨_, (pss_cons (ps_while (passes_of rfl) (pt_cmpR (ne_K K hr.units) (pv 1) pe_int (nomark _)) (pss_one (ps_par (i := 0) (j := 1) rfl sc_divisor.nd rfl rfl (by decide) rfl rfl (pa_cons (pv 1) (pa_cons (pe_op op_modN (pv 0) (pv 1)) pa_nil)) (by rfl))))
    (pss_one (ps_ret (pe_abs (TX.free 90 "abs" rfl) (pv 0))))), fun c xq hK hT hE => ?_⟩
  subst hK hT
  exact (ds_seq (ds_while (dt_test (de_opv d2_ne (DE.dp (de_int 0)))) (ds_par 0 1 (da_cons (de_var 1) (da_cons (de_opv d2_mod (dp_var 1)) da_nil))))
    (ds_ret (de_cb1 d1_abs (dp_var 0))))
theorem sc_ratio : FnScope ["top", "bottom", "share"] ["top", "bottom"] (defScope s_ratio) := ⟨rfl, rfl, rfl, by decide +kernel, rfl, by decide +kernel, by decide +kernel⟩
theorem ok_ratio (TX : Txt bk K mg) (TB : TBs bk K mg base T P) : Def P w K mg base T "ratio" ["top", "bottom"] 33 F_ratio := by
  refine TX.def_ 1 1 (st := s_ratio) rfl rfl sc_ratio (fun _ _ _ _ _ _ us hl => match us, hl with | [_, _], _ => rfl) (fun _ _ _ _ h => h.1) (fun _ _ _ _ h => h.2) fun fa cdv A outer s H E hcv hr => ?_
  have tk : Takes (cxOf (L2.CX P w) P w K mg base ["top", "bottom", "share"] "ratio" (defScope s_ratio) fa cdv A outer s H E) (fun cls d _ H => E cls d H) := takes_of rfl rfl rfl rfl
  refine ⟨_, (pss_cons (ps_if (pt_cmpR (eq_K K hr.units) (pv 1) pe_int (nomark _)) (pss_one (ps_raiseD TX 81 71 rfl rfl rfl tk)) pss_nil)
    (pss_cons (ps_set (i := 2) sc_ratio.nd rfl (by first | exact Or.inl rfl | exact Or.inr rfl) (pe_def (ok_divisor (T := T) TX TB) (hr.mono (by decide)) (passes_call tk (fun _ _ _ _ h => h)) (pa_cons (pv 0) (pa_cons (pv 1) pa_nil))))
    (pss_cons (ps_if (pt_cmpR op_lt (pv 1) pe_int (nomark _)) (pss_one (ps_set (i := 2) sc_ratio.nd rfl (by first | exact Or.inl rfl | exact Or.inr rfl) (pe_op op_sub pe_int (pv 2)))) pss_nil)
    (pss_one (ps_ret (pe_tup (pa_cons (pe_op (op_divX (TB.sx hr)) (pv 0) (pv 2)) (pa_cons (pe_op (op_divX (TB.sx hr)) (pv 1) (pv 2)) pa_nil)))))))), fun c xq hK hT hE => ?_⟩
  subst hK hT
  exact (ds_seq (ds_if (dt_test (de_opv d2_eq (DE.dp (de_int 0)))) (ds_raise hE "NoFraction") ds_next)
    (ds_seq (ds_asg (de_callB hE (dab_var 0 (dab_var 1 dab_nil))) (dg_name 2))
    (ds_seq (ds_if (dt_test (de_opv d2_lt (DE.dp (de_int 0)))) (ds_asg (de_op d2_sub (de_int 0) (dp_var 2)) (dg_name 2)) ds_next)
    (ds_ret (de_tup (da_cons (de_opv d2_div (dp_var 2)) (da_cons (de_opv d2_div (dp_var 2)) da_nil)))))))
theorem sc_plus : FnScope ["one", "other"] ["one", "other"] (defScope s_plus) := ⟨rfl, rfl, rfl, by decide +kernel, rfl, by decide +kernel, by decide +kernel⟩
theorem ok_plus (TX : Txt bk K mg) (TB : TBs bk K mg base T P) : Def P w K mg base T "plus" ["one", "other"] 34 F_plus := by
  refine TX.def_ 2 2 (st := s_plus) rfl rfl sc_plus (fun _ _ _ _ _ _ us hl => match us, hl with | [_, _], _ => rfl) (fun _ _ _ _ h => h.1) (fun _ _ _ _ h => h.2) fun fa cdv A outer s H E hcv hr => ?_
  have tk : Takes (cxOf (L2.CX P w) P w K mg base ["one", "other"] "plus" (defScope s_plus) fa cdv A outer s H E) (fun cls d _ H => E cls d H) := takes_of rfl rfl rfl rfl
  refine ⟨_, (pss_one (ps_ret (pe_def (ok_ratio (T := T) TX TB) (hr.mono (by decide)) (passes_call tk (fun _ _ _ _ h => h)) (pa_cons (pe_op op_add (pe_op op_mulX (pe_ix (ix_K K) (pv 0) pe_int (fun _ _ => rfl)) (pe_ix (ix_K K) (pv 1) pe_int (fun _ _ => rfl))) (pe_op op_mulX (pe_ix (ix_K K) (pv 1) pe_int (fun _ _ => rfl)) (pe_ix (ix_K K) (pv 0) pe_int (fun _ _ => rfl)))) (pa_cons (pe_op op_mulX (pe_ix (ix_K K) (pv 0) pe_int (fun _ _ => rfl)) (pe_ix (ix_K K) (pv 1) pe_int (fun _ _ => rfl))) pa_nil))))), fun c xq hK hT hE => ?_⟩
  subst hK hT
  exact (ds_ret (de_call hE (da_cons (de_op d2_add (de_op d2_mul (de_ixv 0 (DE.dp (de_int 0))) (DE.dp (de_ixv 1 (DE.dp (de_int 1))))) (DE.dp (de_op d2_mul (de_ixv 1 (DE.dp (de_int 0))) (DE.dp (de_ixv 0 (DE.dp (de_int 1))))))) (da_cons (de_op d2_mul (de_ixv 0 (DE.dp (de_int 1))) (DE.dp (de_ixv 1 (DE.dp (de_int 1))))) da_nil))))
theorem sc_minus : FnScope ["one", "other"] ["one", "other"] (defScope s_minus) := ⟨rfl, rfl, rfl, by decide +kernel, rfl, by decide +kernel, by decide +kernel⟩
theorem ok_minus (TX : Txt bk K mg) (TB : TBs bk K mg base T P) : Def P w K mg base T "minus" ["one", "other"] 34 F_minus := by
  refine TX.def_ 3 3 (st := s_minus) rfl rfl sc_minus (fun _ _ _ _ _ _ us hl => match us, hl with | [_, _], _ => rfl) (fun _ _ _ _ h => h.1) (fun _ _ _ _ h => h.2) fun fa cdv A outer s H E hcv hr => ?_
  have tk : Takes (cxOf (L2.CX P w) P w K mg base ["one", "other"] "minus" (defScope s_minus) fa cdv A outer s H E) (fun cls d _ H => E cls d H) := takes_of rfl rfl rfl rfl
  refine ⟨_, (pss_one (ps_ret (pe_def (ok_ratio (T := T) TX TB) (hr.mono (by decide)) (passes_call tk (fun _ _ _ _ h => h)) (pa_cons (pe_op op_sub (pe_op op_mulX (pe_ix (ix_K K) (pv 0) pe_int (fun _ _ => rfl)) (pe_ix (ix_K K) (pv 1) pe_int (fun _ _ => rfl))) (pe_op op_mulX (pe_ix (ix_K K) (pv 1) pe_int (fun _ _ => rfl)) (pe_ix (ix_K K) (pv 0) pe_int (fun _ _ => rfl)))) (pa_cons (pe_op op_mulX (pe_ix (ix_K K) (pv 0) pe_int (fun _ _ => rfl)) (pe_ix (ix_K K) (pv 1) pe_int (fun _ _ => rfl))) pa_nil))))), fun c xq hK hT hE => ?_⟩
  subst hK hT
  exact (ds_ret (de_call hE (da_cons (de_op d2_sub (de_op d2_mul (de_ixv 0 (DE.dp (de_int 0))) (DE.dp (de_ixv 1 (DE.dp (de_int 1))))) (DE.dp (de_op d2_mul (de_ixv 1 (DE.dp (de_int 0))) (DE.dp (de_ixv 0 (DE.dp (de_int 1))))))) (da_cons (de_op d2_mul (de_ixv 0 (DE.dp (de_int 1))) (DE.dp (de_ixv 1 (DE.dp (de_int 1))))) da_nil))))
theorem sc_times : FnScope ["one", "other"] ["one", "other"] (defScope s_times) := ⟨rfl, rfl, rfl, by decide +kernel, rfl, by decide +kernel, by decide +kernel⟩
theorem ok_times (TX : Txt bk K mg) (TB : TBs bk K mg base T P) : Def P w K mg base T "times" ["one", "other"] 34 F_times := by
  refine TX.def_ 4 4 (st := s_times) rfl rfl sc_times (fun _ _ _ _ _ _ us hl => match us, hl with | [_, _], _ => rfl) (fun _ _ _ _ h => h.1) (fun _ _ _ _ h => h.2) fun fa cdv A outer s H E hcv hr => ?_
  have tk : Takes (cxOf (L2.CX P w) P w K mg base ["one", "other"] "times" (defScope s_times) fa cdv A outer s H E) (fun cls d _ H => E cls d H) := takes_of rfl rfl rfl rfl
  refine ⟨_, (pss_one (ps_ret (pe_def (ok_ratio (T := T) TX TB) (hr.mono (by decide)) (passes_call tk (fun _ _ _ _ h => h)) (pa_cons (pe_op op_mulX (pe_ix (ix_K K) (pv 0) pe_int (fun _ _ => rfl)) (pe_ix (ix_K K) (pv 1) pe_int (fun _ _ => rfl))) (pa_cons (pe_op op_mulX (pe_ix (ix_K K) (pv 0) pe_int (fun _ _ => rfl)) (pe_ix (ix_K K) (pv 1) pe_int (fun _ _ => rfl))) pa_nil))))), fun c xq hK hT hE => ?_⟩
  subst hK hT
  exact (ds_ret (de_call hE (da_cons (de_op d2_mul (de_ixv 0 (DE.dp (de_int 0))) (DE.dp (de_ixv 1 (DE.dp (de_int 0))))) (da_cons (de_op d2_mul (de_ixv 0 (DE.dp (de_int 1))) (DE.dp (de_ixv 1 (DE.dp (de_int 1))))) da_nil))))
theorem sc_over : FnScope ["one", "other"] ["one", "other"] (defScope s_over) := ⟨rfl, rfl, rfl, by decide +kernel, rfl, by decide +kernel, by decide +kernel⟩
theorem ok_over (TX : Txt bk K mg) (TB : TBs bk K mg base T P) : Def P w K mg base T "over" ["one", "other"] 34 F_over := by
  refine TX.def_ 5 5 (st := s_over) rfl rfl sc_over (fun _ _ _ _ _ _ us hl => match us, hl with | [_, _], _ => rfl) (fun _ _ _ _ h => h.1) (fun _ _ _ _ h => h.2) fun fa cdv A outer s H E hcv hr => ?_
  have tk : Takes (cxOf (L2.CX P w) P w K mg base ["one", "other"] "over" (defScope s_over) fa cdv A outer s H E) (fun cls d _ H => E cls d H) := takes_of rfl rfl rfl rfl
  refine ⟨_, (pss_one (ps_ret (pe_def (ok_ratio (T := T) TX TB) (hr.mono (by decide)) (passes_call tk (fun _ _ _ _ h => h)) (pa_cons (pe_op op_mulX (pe_ix (ix_K K) (pv 0) pe_int (fun _ _ => rfl)) (pe_ix (ix_K K) (pv 1) pe_int (fun _ _ => rfl))) (pa_cons (pe_op op_mulX (pe_ix (ix_K K) (pv 0) pe_int (fun _ _ => rfl)) (pe_ix (ix_K K) (pv 1) pe_int (fun _ _ => rfl))) pa_nil))))), fun c xq hK hT hE => ?_⟩
  subst hK hT
  exact (ds_ret (de_call hE (da_cons (de_op d2_mul (de_ixv 0 (DE.dp (de_int 0))) (DE.dp (de_ixv 1 (DE.dp (de_int 1))))) (da_cons (de_op d2_mul (de_ixv 0 (DE.dp (de_int 1))) (DE.dp (de_ixv 1 (DE.dp (de_int 0))))) da_nil))))
theorem sc_sign_of : FnScope ["one"] ["one"] (defScope s_sign_of) := ⟨rfl, rfl, rfl, by decide +kernel, rfl, by decide +kernel, by decide +kernel⟩
theorem ok_sign_of (TX : Txt bk K mg) (TB : TBs bk K mg base T P) : Def P w K mg base T "sign_of" ["one"] 1 F_sign_of := by
  refine TX.def_ 6 6 (st := s_sign_of) rfl rfl sc_sign_of (fun _ _ _ _ _ _ us hl => match us, hl with | [_], _ => rfl) (fun _ _ _ _ h => h.1) (fun _ _ _ _ h => h.2) fun fa cdv A outer s H E hcv hr => ?_
  have tk : Takes (cxOf (L2.CX P w) P w K mg base ["one"] "sign_of" (defScope s_sign_of) fa cdv A outer s H E) (fun cls d _ H => E cls d H) := takes_of rfl rfl rfl rfl
  refine ⟨_, (pss_one (ps_ret (pe_op op_sub (pe_int' (TX.free 91 "int" rfl) (pe_cmpR op_gt (pe_ix (ix_K K) (pv 0) pe_int (fun _ _ => rfl)) pe_int (nomark _))) (pe_int' (TX.free 91 "int" rfl) (pe_cmpR op_lt (pe_ix (ix_K K) (pv 0) pe_int (fun _ _ => rfl)) pe_int (nomark _)))))), fun c xq hK hT hE => ?_⟩
  subst hK hT
  exact (ds_ret (de_op d2_sub (de_cb1 d1_int (DE.dp (de_op d2_gt (de_ixv 0 (DE.dp (de_int 0))) (DE.dp (de_int 0))))) (DE.dp (de_cb1 d1_int (DE.dp (de_op d2_lt (de_ixv 0 (DE.dp (de_int 0))) (DE.dp (de_int 0))))))))
theorem sc_total : FnScope ["some", "found", "one"] ["some"] (defScope s_total) := ⟨rfl, rfl, rfl, by decide +kernel, rfl, by decide +kernel, by decide +kernel⟩
theorem ok_total (TX : Txt bk K mg) (TB : TBs bk K mg base T P) : Def P w K mg base T "total" ["some"] 35 F_total := by
  refine TX.def_ 7 7 (st := s_total) rfl rfl sc_total (fun _ _ _ _ _ _ us hl => match us, hl with | [_], _ => rfl) (fun _ _ _ _ h => h.1) (fun _ _ _ _ h => h.2) fun fa cdv A outer s H E hcv hr => ?_
  have tk : Takes (cxOf (L2.CX P w) P w K mg base ["some", "found", "one"] "total" (defScope s_total) fa cdv A outer s H E) (fun cls d _ H => E cls d H) := takes_of rfl rfl rfl rfl
  refine ⟨_, (pss_cons (ps_set (i := 1) sc_total.nd rfl (by first | exact Or.inl rfl | exact Or.inr rfl) (pe_glob (v := .ref (He.ga K "ZERO")) rfl (TX.tup 0 "ZERO" _ rfl).1 rfl))
    (pss_cons (ps_for (passes_of rfl) rfl (it_list K (pv 0)) (pg_name (i := 2) sc_total.nd rfl (by first | exact Or.inl rfl | exact Or.inr rfl))
    (pss_one (ps_set (i := 1) sc_total.nd rfl (by first | exact Or.inl rfl | exact Or.inr rfl) (pe_def (ok_plus (T := T) TX TB) (hr.mono (by decide)) (passes_call tk (fun _ _ _ _ h => h)) (pa_cons (pv 1) (pa_cons (pv 2) pa_nil))))))
    (pss_one (ps_ret (pv 1))))), fun c xq hK hT hE => ?_⟩
  subst hK hT
  exact (ds_seq (ds_asg (de_tup0 (ns := [0, 1]) (TX.tup 0 "ZERO" _ rfl).2) (dg_name 1))
    (ds_seq (ds_for (di_list (de_var 0)) (dg_name 2)
    (ds_asg (de_call hE (da_cons (de_var 1) (da_cons (de_var 2) da_nil))) (dg_name 1)))
    (ds_retV 1)))
theorem sc_clean : FnScope ["numbers", "many"] ["numbers"] (defScope s_clean) := ⟨rfl, rfl, rfl, by decide +kernel, rfl, by decide +kernel, by decide +kernel⟩
theorem ok_clean (TX : Txt bk K mg) (TB : TBs bk K mg base T P) : Def P w K mg base T "clean" ["numbers"] 1 F_clean := by
  refine TX.def_ 8 8 (st := s_clean) rfl rfl sc_clean (fun _ _ _ _ _ _ us hl => match us, hl with | [_], _ => rfl) (fun _ _ _ _ h => h.1) (fun _ _ _ _ h => h.2) fun fa cdv A outer s H E hcv hr => ?_
  have tk : Takes (cxOf (L2.CX P w) P w K mg base ["numbers", "many"] "clean" (defScope s_clean) fa cdv A outer s H E) (fun cls d _ H => E cls d H) := takes_of rfl rfl rfl rfl
  refine ⟨_, (pss_cons (ps_set (i := 1) sc_clean.nd rfl (by first | exact Or.inl rfl | exact Or.inr rfl) (pe_len K (TX.free 92 "len" rfl) (pv 0)))
    (pss_cons (ps_while (passes_of rfl) (PW.pt (pw_and (pt_cmpR op_gt (pv 1) pe_int (nomark _)) (pw_and1 (pt_cmpR (eq_K K hr.units) (pe_ix (ix_K K) (pv 0) (pe_op op_sub (pv 1) pe_int) (fun _ _ => rfl)) (pe_glob (v := .ref (He.ga K "ZERO")) rfl (TX.tup 0 "ZERO" _ rfl).1 rfl) (nomark _))))) (pss_one (ps_set (i := 1) sc_clean.nd rfl (by first | exact Or.inl rfl | exact Or.inr rfl) (pe_op op_sub (pv 1) pe_int))))
    (pss_one (ps_ret (pe_list K (TX.free 93 "list" rfl) (pe_slice (sl_K K) (pv 0) po_none (po_some (pv 1)))))))), fun c xq hK hT hE => ?_⟩
  subst hK hT
  exact (ds_seq (ds_asg (de_cb1 d1_len (dp_var 0)) (dg_name 1))
    (ds_seq (ds_while (dt_and (dt_test (de_opv d2_gt (DE.dp (de_int 0)))) (dt_test (de_op d2_eq (de_ixv 0 (DE.dp (de_opv d2_sub (DE.dp (de_int 1))))) (DE.dp (de_tup0 (ns := [0, 1]) (TX.tup 0 "ZERO" _ rfl).2))))) (ds_asg (de_opv d2_sub (DE.dp (de_int 1))) (dg_name 1)))
    (ds_ret (de_cb1 d1_list (DE.dp (de_slv do_none (do_some (dp_var 1))))))))
theorem sc_at_place : FnScope ["f", "place"] ["f", "place"] (defScope s_at_place) := ⟨rfl, rfl, rfl, by decide +kernel, rfl, by decide +kernel, by decide +kernel⟩
theorem ok_at_place (TX : Txt bk K mg) (TB : TBs bk K mg base T P) : Def P w K mg base T "at_place" ["f", "place"] 1 F_at_place := by
  refine TX.def_ 9 9 (st := s_at_place) rfl rfl sc_at_place (fun _ _ _ _ _ _ us hl => match us, hl with | [_, _], _ => rfl) (fun _ _ _ _ h => h.1) (fun _ _ _ _ h => h.2) fun fa cdv A outer s H E hcv hr => ?_
  have tk : Takes (cxOf (L2.CX P w) P w K mg base ["f", "place"] "at_place" (defScope s_at_place) fa cdv A outer s H E) (fun cls d _ H => E cls d H) := takes_of rfl rfl rfl rfl
  refine ⟨_, (pss_cons (ps_if (pt_cmpR op_lt (pv 1) (pe_len K (TX.free 92 "len" rfl) (pv 0)) (nomark _)) (pss_one (ps_ret (pe_ix (ix_K K) (pv 0) (pv 1) (fun _ _ => rfl)))) pss_nil)
    (pss_one (ps_ret (pe_glob (v := .ref (He.ga K "ZERO")) rfl (TX.tup 0 "ZERO" _ rfl).1 rfl)))), fun c xq hK hT hE => ?_⟩
  subst hK hT
  exact (ds_seq (ds_if (dt_test (de_opv d2_lt (DE.dp (de_cb1 d1_len (dp_var 0))))) (ds_ret (de_ixv 0 (dp_var 1))) ds_next)
    (ds_ret (de_tup0 (ns := [0, 1]) (TX.tup 0 "ZERO" _ rfl).2)))
theorem sc_summed : FnScope ["f", "g", "place"] ["f", "g"] (defScope s_summed) := ⟨rfl, rfl, rfl, by decide +kernel, rfl, by decide +kernel, by decide +kernel⟩
theorem ok_summed (TX : Txt bk K mg) (TB : TBs bk K mg base T P) : Def P w K mg base T "summed" ["f", "g"] 35 F_summed := by
  refine TX.def_ 10 10 (st := s_summed) rfl rfl sc_summed (fun _ _ _ _ _ _ us hl => match us, hl with | [_, _], _ => rfl) (fun _ _ _ _ h => h.1) (fun _ _ _ _ h => h.2) fun fa cdv A outer s H E hcv hr => ?_
  have tk : Takes (cxOf (L2.CX P w) P w K mg base ["f", "g", "place"] "summed" (defScope s_summed) fa cdv A outer s H E) (fun cls d _ H => E cls d H) := takes_of rfl rfl rfl rfl
  refine ⟨_, (pss_one (ps_ret (pe_def (ok_clean (T := T) TX TB) (hr.mono (by decide)) (passes_call tk (fun _ _ _ _ h => h)) (pa_cons (pe_lc (own := [("place", 2)]) rfl sc_summed.nd (pi_range1 rfl (TX.free 95 "range" rfl) (pa_cons (pe_max2 (TX.free 94 "max" rfl) (pa_cons (pe_len K (TX.free 92 "len" rfl) (pv 0)) (pa_cons (pe_len K (TX.free 92 "len" rfl) (pv 1)) pa_nil))) pa_nil)) (blkOk_by (by kernel_rfl)) (fun _ _ _ _ _ => (pg_name (i := 2) sc_summed.nd rfl (by first | exact Or.inl rfl | exact Or.inr rfl))) (fun _ _ _ _ _ => pts_nil) (fun _ _ _ _ _ => (pe_def (ok_plus (T := T) TX TB) (hr.mono (by decide)) passL (pa_cons (pe_def (ok_at_place (T := T) TX TB) (hr.mono (by decide)) passL (pa_cons (pv 0) (pa_cons (pv 2) pa_nil))) (pa_cons (pe_def (ok_at_place (T := T) TX TB) (hr.mono (by decide)) passL (pa_cons (pv 1) (pa_cons (pv 2) pa_nil))) pa_nil))))) pa_nil)))), fun c xq hK hT hE => ?_⟩
  subst hK hT
  exact (ds_ret (de_call hE (da_cons (de_comp (vs := [2]) (di_rng1 (da_cons (de_cb db_max2 (da_cons (de_cb1 d1_len (dp_var 0)) (da_cons (de_cb1 d1_len (dp_var 1)) da_nil))) da_nil)) (fun _ => (dg_name 2)) (fun _ => dt_yes) (fun _ => (de_call eok0 (da_cons (de_call eok0 (da_cons (de_var 0) (da_cons (de_var 2) da_nil))) (da_cons (de_call eok0 (da_cons (de_var 1) (da_cons (de_var 2) da_nil))) da_nil)))) (gw_name (by simp))) da_nil)))
theorem sc_grown : FnScope ["f", "by", "one"] ["f", "by"] (defScope s_grown) := ⟨rfl, rfl, rfl, by decide +kernel, rfl, by decide +kernel, by decide +kernel⟩
theorem ok_grown (TX : Txt bk K mg) (TB : TBs bk K mg base T P) : Def P w K mg base T "grown" ["f", "by"] 35 F_grown := by
  refine TX.def_ 11 11 (st := s_grown) rfl rfl sc_grown (fun _ _ _ _ _ _ us hl => match us, hl with | [_, _], _ => rfl) (fun _ _ _ _ h => h.1) (fun _ _ _ _ h => h.2) fun fa cdv A outer s H E hcv hr => ?_
  have tk : Takes (cxOf (L2.CX P w) P w K mg base ["f", "by", "one"] "grown" (defScope s_grown) fa cdv A outer s H E) (fun cls d _ H => E cls d H) := takes_of rfl rfl rfl rfl
  refine ⟨_, (pss_one (ps_ret (pe_def (ok_clean (T := T) TX TB) (hr.mono (by decide)) (passes_call tk (fun _ _ _ _ h => h)) (pa_cons (pe_lc (own := [("one", 2)]) rfl sc_grown.nd (it_list K (pv 0)) (blkOk_by (by kernel_rfl)) (fun _ _ _ _ _ => (pg_name (i := 2) sc_grown.nd rfl (by first | exact Or.inl rfl | exact Or.inr rfl))) (fun _ _ _ _ _ => pts_nil) (fun _ _ _ _ _ => (pe_def (ok_times (T := T) TX TB) (hr.mono (by decide)) passL (pa_cons (pv 2) (pa_cons (pv 1) pa_nil))))) pa_nil)))), fun c xq hK hT hE => ?_⟩
  subst hK hT
  exact (ds_ret (de_call hE (da_cons (de_comp (vs := [2]) (di_list (de_var 0)) (fun _ => (dg_name 2)) (fun _ => dt_yes) (fun _ => (de_call eok0 (da_cons (de_var 2) (da_cons (de_var 1) da_nil)))) (gw_name (by simp))) da_nil)))
theorem sc_lessened : FnScope ["f", "g", "place"] ["f", "g"] (defScope s_lessened) := ⟨rfl, rfl, rfl, by decide +kernel, rfl, by decide +kernel, by decide +kernel⟩
theorem ok_lessened (TX : Txt bk K mg) (TB : TBs bk K mg base T P) : Def P w K mg base T "lessened" ["f", "g"] 35 F_lessened := by
  refine TX.def_ 12 12 (st := s_lessened) rfl rfl sc_lessened (fun _ _ _ _ _ _ us hl => match us, hl with | [_, _], _ => rfl) (fun _ _ _ _ h => h.1) (fun _ _ _ _ h => h.2) fun fa cdv A outer s H E hcv hr => ?_
  have tk : Takes (cxOf (L2.CX P w) P w K mg base ["f", "g", "place"] "lessened" (defScope s_lessened) fa cdv A outer s H E) (fun cls d _ H => E cls d H) := takes_of rfl rfl rfl rfl
  refine ⟨_, (pss_one (ps_ret (pe_def (ok_clean (T := T) TX TB) (hr.mono (by decide)) (passes_call tk (fun _ _ _ _ h => h)) (pa_cons (pe_lc (own := [("place", 2)]) rfl sc_lessened.nd (pi_range1 rfl (TX.free 95 "range" rfl) (pa_cons (pe_max2 (TX.free 94 "max" rfl) (pa_cons (pe_len K (TX.free 92 "len" rfl) (pv 0)) (pa_cons (pe_len K (TX.free 92 "len" rfl) (pv 1)) pa_nil))) pa_nil)) (blkOk_by (by kernel_rfl)) (fun _ _ _ _ _ => (pg_name (i := 2) sc_lessened.nd rfl (by first | exact Or.inl rfl | exact Or.inr rfl))) (fun _ _ _ _ _ => pts_nil) (fun _ _ _ _ _ => (pe_def (ok_minus (T := T) TX TB) (hr.mono (by decide)) passL (pa_cons (pe_def (ok_at_place (T := T) TX TB) (hr.mono (by decide)) passL (pa_cons (pv 0) (pa_cons (pv 2) pa_nil))) (pa_cons (pe_def (ok_at_place (T := T) TX TB) (hr.mono (by decide)) passL (pa_cons (pv 1) (pa_cons (pv 2) pa_nil))) pa_nil))))) pa_nil)))), fun c xq hK hT hE => ?_⟩
  subst hK hT
  exact (ds_ret (de_call hE (da_cons (de_comp (vs := [2]) (di_rng1 (da_cons (de_cb db_max2 (da_cons (de_cb1 d1_len (dp_var 0)) (da_cons (de_cb1 d1_len (dp_var 1)) da_nil))) da_nil)) (fun _ => (dg_name 2)) (fun _ => dt_yes) (fun _ => (de_call eok0 (da_cons (de_call eok0 (da_cons (de_var 0) (da_cons (de_var 2) da_nil))) (da_cons (de_call eok0 (da_cons (de_var 1) (da_cons (de_var 2) da_nil))) da_nil)))) (gw_name (by simp))) da_nil)))
theorem sc_raised : FnScope ["f", "many"] ["f", "many"] (defScope s_raised) := ⟨rfl, rfl, rfl, by decide +kernel, rfl, by decide +kernel, by decide +kernel⟩
theorem ok_raised (TX : Txt bk K mg) (TB : TBs bk K mg base T P) : Def P w K mg base T "raised" ["f", "many"] 1 F_raised := by
  refine TX.def_ 13 13 (st := s_raised) rfl rfl sc_raised (fun _ _ _ _ _ _ us hl => match us, hl with | [_, _], _ => rfl) (fun _ _ _ _ h => h.1) (fun _ _ _ _ h => h.2) fun fa cdv A outer s H E hcv hr => ?_
  have tk : Takes (cxOf (L2.CX P w) P w K mg base ["f", "many"] "raised" (defScope s_raised) fa cdv A outer s H E) (fun cls d _ H => E cls d H) := takes_of rfl rfl rfl rfl
  refine ⟨_, (pss_cons (ps_if (pt_cmpR (eqE_K K hr.units) (pv 0) (pe_lst pa_nil) (nomark _)) (pss_one (ps_ret (pe_lst pa_nil))) pss_nil)
    (pss_one (ps_ret (pe_op op_cat (pe_op op_rep (pe_lst (pa_cons (pe_glob (v := .ref (He.ga K "ZERO")) rfl (TX.tup 0 "ZERO" _ rfl).1 rfl) pa_nil)) (pv 1)) (pv 0))))), fun c xq hK hT hE => ?_⟩
  subst hK hT
  exact (ds_seq (ds_if (dt_test (de_opv d2_eqE (DE.dp (de_lst da_nil)))) (ds_ret (de_lst da_nil)) ds_next)
    (ds_ret (de_op d2_cat (de_op d2_rep (de_lst (da_cons (de_tup0 (ns := [0, 1]) (TX.tup 0 "ZERO" _ rfl).2) da_nil)) (dp_var 1)) (dp_var 0))))
theorem sc_multiplied : FnScope ["f", "g", "found", "place", "one"] ["f", "g"] (defScope s_multiplied) := ⟨rfl, rfl, rfl, by decide +kernel, rfl, by decide +kernel, by decide +kernel⟩
theorem ok_multiplied (TX : Txt bk K mg) (TB : TBs bk K mg base T P) : Def P w K mg base T "multiplied" ["f", "g"] 36 F_multiplied := by
  refine TX.def_ 14 14 (st := s_multiplied) rfl rfl sc_multiplied (fun _ _ _ _ _ _ us hl => match us, hl with | [_, _], _ => rfl) (fun _ _ _ _ h => h.1) (fun _ _ _ _ h => h.2) fun fa cdv A outer s H E hcv hr => ?_
  have tk : Takes (cxOf (L2.CX P w) P w K mg base ["f", "g", "found", "place", "one"] "multiplied" (defScope s_multiplied) fa cdv A outer s H E) (fun cls d _ H => E cls d H) := takes_of rfl rfl rfl rfl
  refine ⟨_, (pss_cons (ps_set (i := 2) sc_multiplied.nd rfl (by first | exact Or.inl rfl | exact Or.inr rfl) (pe_lst pa_nil))
    (pss_cons (ps_for (passes_of rfl) rfl (it_enum K (TX.free 96 "enumerate" rfl) (pa_cons (pv 1) pa_nil)) (tg_tup K (n := 2) (pgs_cons (pg_name (i := 3) sc_multiplied.nd rfl (by first | exact Or.inl rfl | exact Or.inr rfl)) (pgs_cons (pg_name (i := 4) sc_multiplied.nd rfl (by first | exact Or.inl rfl | exact Or.inr rfl)) pgs_nil)))
    (pss_one (ps_set (i := 2) sc_multiplied.nd rfl (by first | exact Or.inl rfl | exact Or.inr rfl) (pe_def (ok_summed (T := T) TX TB) (hr.mono (by decide)) (passes_call tk (fun _ _ _ _ h => h)) (pa_cons (pv 2) (pa_cons (pe_def (ok_raised (T := T) TX TB) (hr.mono (by decide)) (passes_call tk (fun _ _ _ _ h => h)) (pa_cons (pe_def (ok_grown (T := T) TX TB) (hr.mono (by decide)) (passes_call tk (fun _ _ _ _ h => h)) (pa_cons (pv 0) (pa_cons (pv 4) pa_nil))) (pa_cons (pv 3) pa_nil))) pa_nil))))))
    (pss_one (ps_ret (pv 2))))), fun c xq hK hT hE => ?_⟩
  subst hK hT
  exact (ds_seq (ds_asg (de_lst da_nil) (dg_name 2))
    (ds_seq (ds_for (di_enum (da_cons (de_var 1) da_nil)) (dg_tup (dgs_cons (dg_name 3) (dgs_cons (dg_name 4) dgs_nil)))
    (ds_asg (de_call hE (da_cons (de_var 2) (da_cons (de_call hE (da_cons (de_call hE (da_cons (de_var 0) (da_cons (de_var 4) da_nil))) (da_cons (de_var 3) da_nil))) da_nil))) (dg_name 2)))
    (ds_retV 2)))
theorem sc_power_of_x : FnScope ["many"] ["many"] (defScope s_power_of_x) := ⟨rfl, rfl, rfl, by decide +kernel, rfl, by decide +kernel, by decide +kernel⟩
theorem ok_power_of_x (TX : Txt bk K mg) (TB : TBs bk K mg base T P) : Def P w K mg base T "power_of_x" ["many"] 1 F_power_of_x := by
  refine TX.def_ 15 15 (st := s_power_of_x) rfl rfl sc_power_of_x (fun _ _ _ _ _ _ us hl => match us, hl with | [_], _ => rfl) (fun _ _ _ _ h => h.1) (fun _ _ _ _ h => h.2) fun fa cdv A outer s H E hcv hr => ?_
  have tk : Takes (cxOf (L2.CX P w) P w K mg base ["many"] "power_of_x" (defScope s_power_of_x) fa cdv A outer s H E) (fun cls d _ H => E cls d H) := takes_of rfl rfl rfl rfl
  refine ⟨_, (pss_one (ps_ret (pe_op op_cat (pe_op op_rep (pe_lst (pa_cons (pe_glob (v := .ref (He.ga K "ZERO")) rfl (TX.tup 0 "ZERO" _ rfl).1 rfl) pa_nil)) (pv 0)) (pe_lst (pa_cons (pe_glob (v := .ref (He.ga K "ONE")) rfl (TX.tup 1 "ONE" _ rfl).1 rfl) pa_nil))))), fun c xq hK hT hE => ?_⟩
  subst hK hT
  exact (ds_ret (de_op d2_cat (de_op d2_rep (de_lst (da_cons (de_tup0 (ns := [0, 1]) (TX.tup 0 "ZERO" _ rfl).2) da_nil)) (dp_var 0)) (DE.dp (de_lst (da_cons (de_tup0 (ns := [1, 1]) (TX.tup 1 "ONE" _ rfl).2) da_nil)))))
theorem sc_number_at : FnScope ["f", "x", "found", "one"] ["f", "x"] (defScope s_number_at) := ⟨rfl, rfl, rfl, by decide +kernel, rfl, by decide +kernel, by decide +kernel⟩
theorem ok_number_at (TX : Txt bk K mg) (TB : TBs bk K mg base T P) : Def P w K mg base T "number_at" ["f", "x"] 35 F_number_at := by
  refine TX.def_ 16 16 (st := s_number_at) rfl rfl sc_number_at (fun _ _ _ _ _ _ us hl => match us, hl with | [_, _], _ => rfl) (fun _ _ _ _ h => h.1) (fun _ _ _ _ h => h.2) fun fa cdv A outer s H E hcv hr => ?_
  have tk : Takes (cxOf (L2.CX P w) P w K mg base ["f", "x", "found", "one"] "number_at" (defScope s_number_at) fa cdv A outer s H E) (fun cls d _ H => E cls d H) := takes_of rfl rfl rfl rfl
  refine ⟨_, (pss_cons (ps_set (i := 2) sc_number_at.nd rfl (by first | exact Or.inl rfl | exact Or.inr rfl) (pe_glob (v := .ref (He.ga K "ZERO")) rfl (TX.tup 0 "ZERO" _ rfl).1 rfl))
    (pss_cons (ps_for (passes_of rfl) rfl (it_rev K (TX.free 97 "reversed" rfl) (pa_cons (pv 0) pa_nil)) (pg_name (i := 3) sc_number_at.nd rfl (by first | exact Or.inl rfl | exact Or.inr rfl))
    (pss_one (ps_set (i := 2) sc_number_at.nd rfl (by first | exact Or.inl rfl | exact Or.inr rfl) (pe_def (ok_plus (T := T) TX TB) (hr.mono (by decide)) (passes_call tk (fun _ _ _ _ h => h)) (pa_cons (pe_def (ok_times (T := T) TX TB) (hr.mono (by decide)) (passes_call tk (fun _ _ _ _ h => h)) (pa_cons (pv 2) (pa_cons (pv 1) pa_nil))) (pa_cons (pv 3) pa_nil))))))
    (pss_one (ps_ret (pv 2))))), fun c xq hK hT hE => ?_⟩
  subst hK hT
  exact (ds_seq (ds_asg (de_tup0 (ns := [0, 1]) (TX.tup 0 "ZERO" _ rfl).2) (dg_name 2))
    (ds_seq (ds_for (di_rev (da_cons (de_var 0) da_nil)) (dg_name 3)
    (ds_asg (de_call hE (da_cons (de_call hE (da_cons (de_var 2) (da_cons (de_var 1) da_nil))) (da_cons (de_var 3) da_nil))) (dg_name 2)))
    (ds_retV 2)))
theorem sc_root_powers : FnScope ["roots", "many", "degree", "found", "k", "here", "back"] ["roots", "many"] (defScope s_root_powers) := ⟨rfl, rfl, rfl, by decide +kernel, rfl, by decide +kernel, by decide +kernel⟩
theorem ok_root_powers (TX : Txt bk K mg) (TB : TBs bk K mg base T P) : Def P w K mg base T "root_powers" ["roots", "many"] 35 F_root_powers := by
  refine TX.def_ 17 17 (st := s_root_powers) rfl rfl sc_root_powers (fun _ _ _ _ _ _ us hl => match us, hl with | [_, _], _ => rfl) (fun _ _ _ _ h => h.1) (fun _ _ _ _ h => h.2) fun fa cdv A outer s H E hcv hr => ?_
  have tk : Takes (cxOf (L2.CX P w) P w K mg base ["roots", "many", "degree", "found", "k", "here", "back"] "root_powers" (defScope s_root_powers) fa cdv A outer s H E) (fun cls d _ H => E cls d H) := takes_of rfl rfl rfl rfl
  refine ⟨_, (pss_cons (ps_set (i := 2) sc_root_powers.nd rfl (by first | exact Or.inl rfl | exact Or.inr rfl) (pe_op op_sub (pe_len K (TX.free 92 "len" rfl) (pv 0)) pe_int))
    (pss_cons (ps_set (i := 3) sc_root_powers.nd rfl (by first | exact Or.inl rfl | exact Or.inr rfl) (pe_lst (pa_cons (pe_tup (pa_cons (pv 2) (pa_cons pe_int pa_nil))) pa_nil)))
    (pss_cons (ps_for (passes_of rfl) rfl (pi_range2 rfl (TX.free 95 "range" rfl) (pa_cons pe_int (pa_cons (pv 1) pa_nil))) (pg_name (i := 4) sc_root_powers.nd rfl (by first | exact Or.inl rfl | exact Or.inr rfl))
    (pss_cons (ps_set (i := 5) sc_root_powers.nd rfl (by first | exact Or.inl rfl | exact Or.inr rfl) (pe_glob (v := .ref (He.ga K "ZERO")) rfl (TX.tup 0 "ZERO" _ rfl).1 rfl))
    (pss_cons (ps_for (passes_of rfl) rfl (pi_range2 rfl (TX.free 95 "range" rfl) (pa_cons pe_int (pa_cons (pe_op op_add (pe_min2 (TX.free 98 "min" rfl) (pa_cons (pe_op op_sub (pv 4) pe_int) (pa_cons (pv 2) pa_nil))) pe_int) pa_nil))) (pg_name (i := 6) sc_root_powers.nd rfl (by first | exact Or.inl rfl | exact Or.inr rfl))
    (pss_one (ps_set (i := 5) sc_root_powers.nd rfl (by first | exact Or.inl rfl | exact Or.inr rfl) (pe_def (ok_plus (T := T) TX TB) (hr.mono (by decide)) (passes_call tk (fun _ _ _ _ h => h)) (pa_cons (pv 5) (pa_cons (pe_def (ok_times (T := T) TX TB) (hr.mono (by decide)) (passes_call tk (fun _ _ _ _ h => h)) (pa_cons (pe_ix (ix_K K) (pv 0) (pe_op op_sub (pv 2) (pv 6)) (fun _ _ => rfl)) (pa_cons (pe_ix (ix_K K) (pv 3) (pe_op op_sub (pv 4) (pv 6)) (fun _ _ => rfl)) pa_nil))) pa_nil))))))
    (pss_cons (ps_if (pt_cmpR op_le (pv 4) (pv 2) (nomark _)) (pss_one (ps_set (i := 5) sc_root_powers.nd rfl (by first | exact Or.inl rfl | exact Or.inr rfl) (pe_def (ok_plus (T := T) TX TB) (hr.mono (by decide)) (passes_call tk (fun _ _ _ _ h => h)) (pa_cons (pv 5) (pa_cons (pe_def (ok_times (T := T) TX TB) (hr.mono (by decide)) (passes_call tk (fun _ _ _ _ h => h)) (pa_cons (pe_tup (pa_cons (pv 4) (pa_cons pe_int pa_nil))) (pa_cons (pe_ix (ix_K K) (pv 0) (pe_op op_sub (pv 2) (pv 4)) (fun _ _ => rfl)) pa_nil))) pa_nil))))) pss_nil)
    (pss_one (ps_expr (pe_app K (pv 3) (pa_cons (pe_def (ok_times (T := T) TX TB) (hr.mono (by decide)) (passes_call tk (fun _ _ _ _ h => h)) (pa_cons (pe_glob (v := .ref (He.ga K "MINUS")) rfl (TX.tup 2 "MINUS" _ rfl).1 rfl) (pa_cons (pv 5) pa_nil))) pa_nil))))))))
    (pss_one (ps_ret (pv 3)))))), fun c xq hK hT hE => ?_⟩
  subst hK hT
  exact (ds_seq (ds_asg (de_op d2_sub (de_cb1 d1_len (dp_var 0)) (DE.dp (de_int 1))) (dg_name 2))
    (ds_seq (ds_asg (de_lst (da_cons (de_tup (da_cons (de_var 2) (da_cons (de_int 1) da_nil))) da_nil)) (dg_name 3))
    (ds_seq (ds_for (di_rng2 (da_cons (de_int 1) (da_cons (de_var 1) da_nil))) (dg_name 4)
    (ds_seq (ds_asg (de_tup0 (ns := [0, 1]) (TX.tup 0 "ZERO" _ rfl).2) (dg_name 5))
    (ds_seq (ds_for (di_rng2 (da_cons (de_int 1) (da_cons (de_op d2_add (de_cb db_min2 (da_cons (de_opv d2_sub (DE.dp (de_int 1))) (da_cons (de_var 2) da_nil))) (DE.dp (de_int 1))) da_nil))) (dg_name 6)
    (ds_asg (de_call hE (da_cons (de_var 5) (da_cons (de_call hE (da_cons (de_ixv 0 (DE.dp (de_opv d2_sub (dp_var 6)))) (da_cons (de_ixv 3 (DE.dp (de_opv d2_sub (dp_var 6)))) da_nil))) da_nil))) (dg_name 5)))
    (ds_seq (ds_if (dt_test (de_opv d2_le (dp_var 2))) (ds_asg (de_call hE (da_cons (de_var 5) (da_cons (de_call hE (da_cons (de_tup (da_cons (de_var 4) (da_cons (de_int 1) da_nil))) (da_cons (de_ixv 0 (DE.dp (de_opv d2_sub (dp_var 4)))) da_nil))) da_nil))) (dg_name 5)) ds_next)
    (ds_app 3 (de_call hE (da_cons (de_tup0 (ns := [(-1), 1]) (TX.tup 2 "MINUS" _ rfl).2) (da_cons (de_var 5) da_nil))))))))
    (ds_retV 3))))
theorem sc_worth : FnScope ["sums", "f", "one", "other"] ["sums", "f"] (defScope s_worth) := ⟨rfl, rfl, rfl, by decide +kernel, rfl, by decide +kernel, by decide +kernel⟩
theorem ok_worth (TX : Txt bk K mg) (TB : TBs bk K mg base T P) : Def P w K mg base T "worth" ["sums", "f"] 36 F_worth := by
  refine TX.def_ 18 18 (st := s_worth) rfl rfl sc_worth (fun _ _ _ _ _ _ us hl => match us, hl with | [_, _], _ => rfl) (fun _ _ _ _ h => h.1) (fun _ _ _ _ h => h.2) fun fa cdv A outer s H E hcv hr => ?_
  have tk : Takes (cxOf (L2.CX P w) P w K mg base ["sums", "f", "one", "other"] "worth" (defScope s_worth) fa cdv A outer s H E) (fun cls d _ H => E cls d H) := takes_of rfl rfl rfl rfl
  refine ⟨_, (pss_cons (ps_if (pt_cmpR op_gt (pe_len K (TX.free 92 "len" rfl) (pv 1)) (pe_len K (TX.free 92 "len" rfl) (pv 0)) (nomark _)) (pss_one (ps_raiseD TX 83 73 rfl rfl rfl tk)) pss_nil)
    (pss_one (ps_ret (pe_def (ok_total (T := T) TX TB) (hr.mono (by decide)) (passes_call tk (fun _ _ _ _ h => h)) (pa_cons (pe_lc (own := [("one", 2), ("other", 3)]) rfl sc_worth.nd (it_zip K (TX.free 99 "zip" rfl) (pa_cons (pv 1) (pa_cons (pv 0) pa_nil))) (blkOk_by (by kernel_rfl)) (fun _ _ _ _ _ => (tg_tup K (n := 2) (pgs_cons (pg_name (i := 2) sc_worth.nd rfl (by first | exact Or.inl rfl | exact Or.inr rfl)) (pgs_cons (pg_name (i := 3) sc_worth.nd rfl (by first | exact Or.inl rfl | exact Or.inr rfl)) pgs_nil)))) (fun _ _ _ _ _ => pts_nil) (fun _ _ _ _ _ => (pe_def (ok_times (T := T) TX TB) (hr.mono (by decide)) passL (pa_cons (pv 2) (pa_cons (pv 3) pa_nil))))) pa_nil))))), fun c xq hK hT hE => ?_⟩
  subst hK hT
  exact (ds_seq (ds_if (dt_test (de_op d2_gt (de_cb1 d1_len (dp_var 1)) (DE.dp (de_cb1 d1_len (dp_var 0))))) (ds_raise hE "NoSums") ds_next)
    (ds_ret (de_call hE (da_cons (de_comp (vs := [2, 3]) (di_zip (da_cons (de_var 1) (da_cons (de_var 0) da_nil))) (fun _ => (dg_tup (dgs_cons (dg_name 2) (dgs_cons (dg_name 3) dgs_nil)))) (fun _ => dt_yes) (fun _ => (de_call eok0 (da_cons (de_var 2) (da_cons (de_var 3) da_nil)))) (gw_tup2 (by simp) (by simp))) da_nil))))
theorem sc_square_sum : FnScope ["sums", "f", "g"] ["sums", "f", "g"] (defScope s_square_sum) := ⟨rfl, rfl, rfl, by decide +kernel, rfl, by decide +kernel, by decide +kernel⟩
theorem ok_square_sum (TX : Txt bk K mg) (TB : TBs bk K mg base T P) : Def P w K mg base T "square_sum" ["sums", "f", "g"] 37 F_square_sum := by
  refine TX.def_ 19 19 (st := s_square_sum) rfl rfl sc_square_sum (fun _ _ _ _ _ _ us hl => match us, hl with | [_, _, _], _ => rfl) (fun _ _ _ _ h => h.1) (fun _ _ _ _ h => h.2) fun fa cdv A outer s H E hcv hr => ?_
  have tk : Takes (cxOf (L2.CX P w) P w K mg base ["sums", "f", "g"] "square_sum" (defScope s_square_sum) fa cdv A outer s H E) (fun cls d _ H => E cls d H) := takes_of rfl rfl rfl rfl
  refine ⟨_, (pss_one (ps_ret (pe_def (ok_worth (T := T) TX TB) (hr.mono (by decide)) (passes_call tk (fun _ _ _ _ h => h)) (pa_cons (pv 0) (pa_cons (pe_def (ok_multiplied (T := T) TX TB) (hr.mono (by decide)) (passes_call tk (fun _ _ _ _ h => h)) (pa_cons (pv 1) (pa_cons (pv 2) pa_nil))) pa_nil))))), fun c xq hK hT hE => ?_⟩
  subst hK hT
  exact (ds_ret (de_call hE (da_cons (de_var 0) (da_cons (de_call hE (da_cons (de_var 1) (da_cons (de_var 2) da_nil))) da_nil))))
theorem sc_next_step : FnScope ["some", "turn", "last", "square", "found"] ["some", "turn"] (defScope s_next_step) := ⟨rfl, rfl, rfl, by decide +kernel, rfl, by decide +kernel, by decide +kernel⟩
theorem ok_next_step (TX : Txt bk K mg) (TB : TBs bk K mg base T P) : Def P w K mg base T "next_step" ["some", "turn"] 36 F_next_step := by
  refine TX.def_ 20 20 (st := s_next_step) rfl rfl sc_next_step (fun _ _ _ _ _ _ us hl => match us, hl with | [_, _], _ => rfl) (fun _ _ _ _ h => h.1) (fun _ _ _ _ h => h.2) fun fa cdv A outer s H E hcv hr => ?_
  have tk : Takes (cxOf (L2.CX P w) P w K mg base ["some", "turn", "last", "square", "found"] "next_step" (defScope s_next_step) fa cdv A outer s H E) (fun cls d _ H => E cls d H) := takes_of rfl rfl rfl rfl
  refine ⟨_, (pss_cons (ps_asg (pe_ix (ix_K K) (pv 0) (pe_un un_neg pe_int) (fun _ _ => rfl)) (tg_tup K (n := 2) (pgs_cons (pg_name (i := 2) sc_next_step.nd rfl (by first | exact Or.inl rfl | exact Or.inr rfl)) (pgs_cons (pg_name (i := 3) sc_next_step.nd rfl (by first | exact Or.inl rfl | exact Or.inr rfl)) pgs_nil))))
    (pss_cons (ps_set (i := 4) sc_next_step.nd rfl (by first | exact Or.inl rfl | exact Or.inr rfl) (pe_def (ok_lessened (T := T) TX TB) (hr.mono (by decide)) (passes_call tk (fun _ _ _ _ h => h)) (pa_cons (pe_def (ok_raised (T := T) TX TB) (hr.mono (by decide)) (passes_call tk (fun _ _ _ _ h => h)) (pa_cons (pv 2) (pa_cons pe_int pa_nil))) (pa_cons (pe_def (ok_grown (T := T) TX TB) (hr.mono (by decide)) (passes_call tk (fun _ _ _ _ h => h)) (pa_cons (pv 2) (pa_cons (pv 1) pa_nil))) pa_nil))))
    (pss_cons (ps_if (pt_cmpR op_gt (pe_len K (TX.free 92 "len" rfl) (pv 0)) pe_int (nomark _)) (pss_one (ps_set (i := 4) sc_next_step.nd rfl (by first | exact Or.inl rfl | exact Or.inr rfl) (pe_def (ok_lessened (T := T) TX TB) (hr.mono (by decide)) (passes_call tk (fun _ _ _ _ h => h)) (pa_cons (pv 4) (pa_cons (pe_def (ok_grown (T := T) TX TB) (hr.mono (by decide)) (passes_call tk (fun _ _ _ _ h => h)) (pa_cons (pe_ix (ix_K K) (pe_ix (ix_K K) (pv 0) (pe_un un_neg pe_int) (fun _ _ => rfl)) pe_int (fun _ _ => rfl)) (pa_cons (pe_def (ok_over (T := T) TX TB) (hr.mono (by decide)) (passes_call tk (fun _ _ _ _ h => h)) (pa_cons (pv 3) (pa_cons (pe_ix (ix_K K) (pe_ix (ix_K K) (pv 0) (pe_un un_neg pe_int) (fun _ _ => rfl)) pe_int (fun _ _ => rfl)) pa_nil))) pa_nil))) pa_nil))))) pss_nil)
    (pss_one (ps_ret (pv 4)))))), fun c xq hK hT hE => ?_⟩
  subst hK hT
  exact (ds_seq (ds_asg (de_ixv 0 (DE.dp (de_un d1_neg (DE.dp (de_int 1))))) (dg_tup (dgs_cons (dg_name 2) (dgs_cons (dg_name 3) dgs_nil))))
    (ds_seq (ds_asg (de_call hE (da_cons (de_call hE (da_cons (de_var 2) (da_cons (de_int 1) da_nil))) (da_cons (de_call hE (da_cons (de_var 2) (da_cons (de_var 1) da_nil))) da_nil))) (dg_name 4))
    (ds_seq (ds_if (dt_test (de_op d2_gt (de_cb1 d1_len (dp_var 0)) (DE.dp (de_int 1)))) (ds_asg (de_call hE (da_cons (de_var 4) (da_cons (de_call hE (da_cons (de_op d2_ix (de_ixv 0 (DE.dp (de_un d1_neg (DE.dp (de_int 2))))) (DE.dp (de_int 0))) (da_cons (de_call hE (da_cons (de_var 3) (da_cons (de_op d2_ix (de_ixv 0 (DE.dp (de_un d1_neg (DE.dp (de_int 2))))) (DE.dp (de_int 1))) da_nil))) da_nil))) da_nil))) (dg_name 4)) ds_next)
    (ds_retV 4))))
theorem sc_turn_of : FnScope ["sums", "some", "last", "square"] ["sums", "some"] (defScope s_turn_of) := ⟨rfl, rfl, rfl, by decide +kernel, rfl, by decide +kernel, by decide +kernel⟩
theorem ok_turn_of (TX : Txt bk K mg) (TB : TBs bk K mg base T P) : Def P w K mg base T "turn_of" ["sums", "some"] 38 F_turn_of := by
  refine TX.def_ 21 21 (st := s_turn_of) rfl rfl sc_turn_of (fun _ _ _ _ _ _ us hl => match us, hl with | [_, _], _ => rfl) (fun _ _ _ _ h => h.1) (fun _ _ _ _ h => h.2) fun fa cdv A outer s H E hcv hr => ?_
  have tk : Takes (cxOf (L2.CX P w) P w K mg base ["sums", "some", "last", "square"] "turn_of" (defScope s_turn_of) fa cdv A outer s H E) (fun cls d _ H => E cls d H) := takes_of rfl rfl rfl rfl
  refine ⟨_, (pss_cons (ps_asg (pe_ix (ix_K K) (pv 1) (pe_un un_neg pe_int) (fun _ _ => rfl)) (tg_tup K (n := 2) (pgs_cons (pg_name (i := 2) sc_turn_of.nd rfl (by first | exact Or.inl rfl | exact Or.inr rfl)) (pgs_cons (pg_name (i := 3) sc_turn_of.nd rfl (by first | exact Or.inl rfl | exact Or.inr rfl)) pgs_nil))))
    (pss_one (ps_ret (pe_def (ok_over (T := T) TX TB) (hr.mono (by decide)) (passes_call tk (fun _ _ _ _ h => h)) (pa_cons (pe_def (ok_square_sum (T := T) TX TB) (hr.mono (by decide)) (passes_call tk (fun _ _ _ _ h => h)) (pa_cons (pv 0) (pa_cons (pe_def (ok_raised (T := T) TX TB) (hr.mono (by decide)) (passes_call tk (fun _ _ _ _ h => h)) (pa_cons (pv 2) (pa_cons pe_int pa_nil))) (pa_cons (pv 2) pa_nil)))) (pa_cons (pv 3) pa_nil)))))), fun c xq hK hT hE => ?_⟩
  subst hK hT
  exact (ds_seq (ds_asg (de_ixv 1 (DE.dp (de_un d1_neg (DE.dp (de_int 1))))) (dg_tup (dgs_cons (dg_name 2) (dgs_cons (dg_name 3) dgs_nil))))
    (ds_ret (de_call hE (da_cons (de_call hE (da_cons (de_var 0) (da_cons (de_call hE (da_cons (de_var 2) (da_cons (de_int 1) da_nil))) (da_cons (de_var 2) da_nil)))) (da_cons (de_var 3) da_nil)))))
theorem sc_steps : FnScope ["sums", "found", "more"] ["sums"] (defScope s_steps) := ⟨rfl, rfl, rfl, by decide +kernel, rfl, by decide +kernel, by decide +kernel⟩
theorem ok_steps (TX : Txt bk K mg) (TB : TBs bk K mg base T P) : Def P w K mg base T "steps" ["sums"] 39 F_steps := by
  refine TX.def_ 22 22 (st := s_steps) rfl rfl sc_steps (fun _ _ _ _ _ _ us hl => match us, hl with | [_], _ => rfl) (fun _ _ _ _ h => h.1) (fun _ _ _ _ h => h.2) fun fa cdv A outer s H E hcv hr => ?_
  have tk : Takes (cxOf (L2.CX P w) P w K mg base ["sums", "found", "more"] "steps" (defScope s_steps) fa cdv A outer s H E) (fun cls d _ H => E cls d H) := takes_of rfl rfl rfl rfl
  refine ⟨_, (pss_cons (ps_set (i := 1) sc_steps.nd rfl (by first | exact Or.inl rfl | exact Or.inr rfl) (pe_lst (pa_cons (pe_tup (pa_cons (pe_lst (pa_cons (pe_glob (v := .ref (He.ga K "ONE")) rfl (TX.tup 1 "ONE" _ rfl).1 rfl) pa_nil)) (pa_cons (pe_ix (ix_K K) (pv 0) pe_int (fun _ _ => rfl)) pa_nil))) pa_nil)))
    (pss_cons (ps_while (passes_of rfl) (PW.pt (pw_and (pt_cmpR op_gt (pe_def (ok_sign_of (T := T) TX TB) (hr.mono (by decide)) (passes_call tk (fun _ _ _ _ h => h)) (pa_cons (pe_ix (ix_K K) (pe_ix (ix_K K) (pv 1) (pe_un un_neg pe_int) (fun _ _ => rfl)) pe_int (fun _ _ => rfl)) pa_nil)) pe_int (nomark _)) (pw_and1 (pt_cmpR op_lt (pe_op op_mulX pe_int (pe_len K (TX.free 92 "len" rfl) (pv 1))) (pe_len K (TX.free 92 "len" rfl) (pv 0)) (nomark _))))) (pss_cons (ps_set (i := 2) sc_steps.nd rfl (by first | exact Or.inl rfl | exact Or.inr rfl) (pe_def (ok_next_step (T := T) TX TB) (hr.mono (by decide)) (passes_call tk (fun _ _ _ _ h => h)) (pa_cons (pv 1) (pa_cons (pe_def (ok_turn_of (T := T) TX TB) (hr.mono (by decide)) (passes_call tk (fun _ _ _ _ h => h)) (pa_cons (pv 0) (pa_cons (pv 1) pa_nil))) pa_nil))))
    (pss_one (ps_expr (pe_app K (pv 1) (pa_cons (pe_tup (pa_cons (pv 2) (pa_cons (pe_def (ok_square_sum (T := T) TX TB) (hr.mono (by decide)) (passes_call tk (fun _ _ _ _ h => h)) (pa_cons (pv 0) (pa_cons (pv 2) (pa_cons (pv 2) pa_nil)))) pa_nil))) pa_nil))))))
    (pss_one (ps_ret (pv 1))))), fun c xq hK hT hE => ?_⟩
  subst hK hT
  exact (ds_seq (ds_asg (de_lst (da_cons (de_tup (da_cons (de_lst (da_cons (de_tup0 (ns := [1, 1]) (TX.tup 1 "ONE" _ rfl).2) da_nil)) (da_cons (de_ixv 0 (DE.dp (de_int 0))) da_nil))) da_nil)) (dg_name 1))
    (ds_seq (ds_while (dt_and (dt_test (de_op d2_gt (de_call hE (da_cons (de_op d2_ix (de_ixv 1 (DE.dp (de_un d1_neg (DE.dp (de_int 1))))) (DE.dp (de_int 1))) da_nil)) (DE.dp (de_int 0)))) (dt_test (de_op d2_lt (de_op d2_mul (de_int 2) (DE.dp (de_cb1 d1_len (dp_var 1)))) (DE.dp (de_cb1 d1_len (dp_var 0)))))) (ds_seq (ds_asg (de_callF hE (dab_var 1 (dab_cons (de_callF hE (dab_var 0 (dab_var 1 dab_nil))) dab_nil))) (dg_name 2))
    (ds_app 1 (de_tup (da_cons (de_var 2) (da_cons (de_call hE (da_cons (de_var 0) (da_cons (de_var 2) (da_cons (de_var 2) da_nil)))) da_nil))))))
    (ds_retV 1)))
theorem sc_nought_bar : FnScope ["sums", "f", "many"] ["sums", "f"] (defScope s_nought_bar) := ⟨rfl, rfl, rfl, by decide +kernel, rfl, by decide +kernel, by decide +kernel⟩
theorem ok_nought_bar (TX : Txt bk K mg) (TB : TBs bk K mg base T P) : Def P w K mg base T "nought_bar" ["sums", "f"] 38 F_nought_bar := by
  refine TX.def_ 23 23 (st := s_nought_bar) rfl rfl sc_nought_bar (fun _ _ _ _ _ _ us hl => match us, hl with | [_, _], _ => rfl) (fun _ _ _ _ h => h.1) (fun _ _ _ _ h => h.2) fun fa cdv A outer s H E hcv hr => ?_
  have tk : Takes (cxOf (L2.CX P w) P w K mg base ["sums", "f", "many"] "nought_bar" (defScope s_nought_bar) fa cdv A outer s H E) (fun cls d _ H => E cls d H) := takes_of rfl rfl rfl rfl
  refine ⟨_, (pss_cons (ps_for (passes_of rfl) rfl (pi_range1 rfl (TX.free 95 "range" rfl) (pa_cons (pe_op op_add (pe_op op_sub (pe_len K (TX.free 92 "len" rfl) (pv 0)) (pe_len K (TX.free 92 "len" rfl) (pv 1))) pe_int) pa_nil)) (pg_name (i := 2) sc_nought_bar.nd rfl (by first | exact Or.inl rfl | exact Or.inr rfl))
    (pss_one (ps_if (pt_cmpR (ne_K K hr.units) (pe_def (ok_square_sum (T := T) TX TB) (hr.mono (by decide)) (passes_call tk (fun _ _ _ _ h => h)) (pa_cons (pv 0) (pa_cons (pv 1) (pa_cons (pe_def (ok_power_of_x (T := T) TX TB) (hr.mono (by decide)) (passes_call tk (fun _ _ _ _ h => h)) (pa_cons (pv 2) pa_nil)) pa_nil)))) (pe_glob (v := .ref (He.ga K "ZERO")) rfl (TX.tup 0 "ZERO" _ rfl).1 rfl) (nomark _)) (pss_one (ps_ret (pe_tup (pa_cons pe_str (pa_cons (pv 1) (pa_cons (pe_def (ok_power_of_x (T := T) TX TB) (hr.mono (by decide)) (passes_call tk (fun _ _ _ _ h => h)) (pa_cons (pv 2) pa_nil)) pa_nil)))))) pss_nil)))
    (pss_one (ps_ret pe_non))), fun c xq hK hT hE => ?_⟩
  subst hK hT
  exact (ds_seq (ds_for (di_rng1 (da_cons (de_op d2_add (de_op d2_sub (de_cb1 d1_len (dp_var 0)) (DE.dp (de_cb1 d1_len (dp_var 1)))) (DE.dp (de_int 1))) da_nil)) (dg_name 2)
    (ds_if (dt_test (de_op d2_ne (de_call hE (da_cons (de_var 0) (da_cons (de_var 1) (da_cons (de_call hE (da_cons (de_var 2) da_nil)) da_nil)))) (DE.dp (de_tup0 (ns := [0, 1]) (TX.tup 0 "ZERO" _ rfl).2)))) (ds_ret (de_tup (da_cons (de_str "nought") (da_cons (de_var 1) (da_cons (de_call hE (da_cons (de_var 2) da_nil)) da_nil))))) ds_next))
    (ds_ret de_non))
theorem sc_row_less : FnScope ["row", "other", "by", "mine", "theirs"] ["row", "other", "by"] (defScope s_row_less) := ⟨rfl, rfl, rfl, by decide +kernel, rfl, by decide +kernel, by decide +kernel⟩
theorem ok_row_less (TX : Txt bk K mg) (TB : TBs bk K mg base T P) : Def P w K mg base T "row_less" ["row", "other", "by"] 35 F_row_less := by
  refine TX.def_ 25 25 (st := s_row_less) rfl rfl sc_row_less (fun _ _ _ _ _ _ us hl => match us, hl with | [_, _, _], _ => rfl) (fun _ _ _ _ h => h.1) (fun _ _ _ _ h => h.2) fun fa cdv A outer s H E hcv hr => ?_
  have tk : Takes (cxOf (L2.CX P w) P w K mg base ["row", "other", "by", "mine", "theirs"] "row_less" (defScope s_row_less) fa cdv A outer s H E) (fun cls d _ H => E cls d H) := takes_of rfl rfl rfl rfl
  refine ⟨_, (pss_one (ps_ret (pe_lc (own := [("mine", 3), ("theirs", 4)]) rfl sc_row_less.nd (it_zip K (TX.free 99 "zip" rfl) (pa_cons (pv 0) (pa_cons (pv 1) pa_nil))) (blkOk_by (by kernel_rfl)) (fun _ _ _ _ _ => (tg_tup K (n := 2) (pgs_cons (pg_name (i := 3) sc_row_less.nd rfl (by first | exact Or.inl rfl | exact Or.inr rfl)) (pgs_cons (pg_name (i := 4) sc_row_less.nd rfl (by first | exact Or.inl rfl | exact Or.inr rfl)) pgs_nil)))) (fun _ _ _ _ _ => pts_nil) (fun _ _ _ _ _ => (pe_def (ok_minus (T := T) TX TB) (hr.mono (by decide)) passL (pa_cons (pv 3) (pa_cons (pe_def (ok_times (T := T) TX TB) (hr.mono (by decide)) passL (pa_cons (pv 4) (pa_cons (pv 2) pa_nil))) pa_nil))))))), fun c xq hK hT hE => ?_⟩
  subst hK hT
  exact (ds_ret (de_comp (vs := [3, 4]) (di_zip (da_cons (de_var 0) (da_cons (de_var 1) da_nil))) (fun _ => (dg_tup (dgs_cons (dg_name 3) (dgs_cons (dg_name 4) dgs_nil)))) (fun _ => dt_yes) (fun _ => (de_call eok0 (da_cons (de_var 3) (da_cons (de_call eok0 (da_cons (de_var 4) (da_cons (de_var 2) da_nil))) da_nil)))) (gw_tup2 (by simp) (by simp))))
theorem sc_solved : FnScope ["rows", "left", "place", "k", "some", "row", "one"] ["rows"] (defScope s_solved) := ⟨rfl, rfl, rfl, by decide +kernel, rfl, by decide +kernel, by decide +kernel⟩
theorem ok_solved (TX : Txt bk K mg) (TB : TBs bk K mg base T P) : Def P w K mg base T "solved" ["rows"] 36 F_solved := by
  refine TX.def_ 24 24 (st := s_solved) rfl rfl sc_solved (fun _ _ _ _ _ _ us hl => match us, hl with | [_], _ => rfl) (fun _ _ _ _ h => h.1) (fun _ _ _ _ h => h.2) fun fa cdv A outer s H E hcv hr => ?_
  have tk : Takes (cxOf (L2.CX P w) P w K mg base ["rows", "left", "place", "k", "some", "row", "one"] "solved" (defScope s_solved) fa cdv A outer s H E) (fun cls d _ H => E cls d H) := takes_of rfl rfl rfl rfl
  refine ⟨_, (pss_cons (ps_set (i := 1) sc_solved.nd rfl (by first | exact Or.inl rfl | exact Or.inr rfl) (pe_lc (own := [("row", 5)]) rfl sc_solved.nd (it_list K (pv 0)) (blkOk_by (by kernel_rfl)) (fun _ _ _ _ _ => (pg_name (i := 5) sc_solved.nd rfl (by first | exact Or.inl rfl | exact Or.inr rfl))) (fun _ _ _ _ _ => pts_nil) (fun _ _ _ _ _ => (pe_list K (TX.free 93 "list" rfl) (pv 5)))))
    (pss_cons (ps_for (passes_of rfl) rfl (pi_range1 rfl (TX.free 95 "range" rfl) (pa_cons (pe_len K (TX.free 92 "len" rfl) (pv 1)) pa_nil)) (pg_name (i := 2) sc_solved.nd rfl (by first | exact Or.inl rfl | exact Or.inr rfl))
    (pss_cons (ps_setLc (i := 4) (own := [("k", 3)]) rfl sc_solved.nd rfl rfl (sw_true rfl rfl rfl (by decide +kernel)) (pi_range2 rfl (TX.free 95 "range" rfl) (pa_cons (pv 2) (pa_cons (pe_len K (TX.free 92 "len" rfl) (pv 1)) pa_nil))) (blkOk_by (by kernel_rfl)) (fun _ _ _ _ _ => (pg_name (i := 3) sc_solved.nd rfl (by first | exact Or.inl rfl | exact Or.inr rfl))) (fun _ _ _ _ _ => (pts_one (pt_cmpR (ne_K K hr.units) (pe_ix (ix_K K) (pe_ix (ix_K K) (pv 1) (pv 3) (fun _ _ => rfl)) (pv 2) (fun _ _ => rfl)) (pe_glob (v := .ref (He.ga K "ZERO")) rfl (TX.tup 0 "ZERO" _ rfl).1 rfl) (nomark _)))) (fun _ _ _ _ _ => (pv 3)))
    (pss_cons (ps_asg (pe_tup (pa_cons (pe_ix (ix_K K) (pv 1) (pe_ix (ix_K K) (pv 4) pe_int (fun _ _ => rfl)) (fun _ _ => rfl)) (pa_cons (pe_ix (ix_K K) (pv 1) (pv 2) (fun _ _ => rfl)) pa_nil))) (tg_tup K (n := 2) (pgs_cons (pg_sub (pv 1) (pv 2) set_list) (pgs_cons (pg_sub (pv 1) (pe_ix (ix_K K) (pv 4) pe_int (fun _ _ => rfl)) set_list) pgs_nil))))
    (pss_cons (ps_asg (pe_lc (own := [("one", 6)]) rfl sc_solved.nd (it_list K (pe_ix (ix_K K) (pv 1) (pv 2) (fun _ _ => rfl))) (blkOk_by (by kernel_rfl)) (fun _ _ _ _ _ => (pg_name (i := 6) sc_solved.nd rfl (by first | exact Or.inl rfl | exact Or.inr rfl))) (fun _ _ _ _ _ => pts_nil) (fun _ _ _ _ _ => (pe_def (ok_over (T := T) TX TB) (hr.mono (by decide)) passL (pa_cons (pv 6) (pa_cons (pe_ix (ix_K K) (pe_ix (ix_K K) (pv 1) (pv 2) (fun _ _ => rfl)) (pv 2) (fun _ _ => rfl)) pa_nil))))) (pg_sub (pv 1) (pv 2) set_list))
    (pss_one (ps_for (passes_of rfl) rfl (pi_range1 rfl (TX.free 95 "range" rfl) (pa_cons (pe_len K (TX.free 92 "len" rfl) (pv 1)) pa_nil)) (pg_name (i := 3) sc_solved.nd rfl (by first | exact Or.inl rfl | exact Or.inr rfl))
    (pss_one (ps_if (pt_cmpR (ne_K K hr.units) (pv 3) (pv 2) (nomark _)) (pss_one (ps_asg (pe_def (ok_row_less (T := T) TX TB) (hr.mono (by decide)) (passes_call tk (fun _ _ _ _ h => h)) (pa_cons (pe_ix (ix_K K) (pv 1) (pv 3) (fun _ _ => rfl)) (pa_cons (pe_ix (ix_K K) (pv 1) (pv 2) (fun _ _ => rfl)) (pa_cons (pe_ix (ix_K K) (pe_ix (ix_K K) (pv 1) (pv 3) (fun _ _ => rfl)) (pv 2) (fun _ _ => rfl)) pa_nil)))) (pg_sub (pv 1) (pv 3) set_list))) pss_nil))))))))
    (pss_one (ps_ret (pe_lc (own := [("row", 5)]) rfl sc_solved.nd (it_list K (pv 1)) (blkOk_by (by kernel_rfl)) (fun _ _ _ _ _ => (pg_name (i := 5) sc_solved.nd rfl (by first | exact Or.inl rfl | exact Or.inr rfl))) (fun _ _ _ _ _ => pts_nil) (fun _ _ _ _ _ => (pe_ix (ix_K K) (pv 5) (pe_un un_neg pe_int) (fun _ _ => rfl)))))))), fun c xq hK hT hE => ?_⟩
  subst hK hT
  exact (ds_seq (ds_asg (de_comp (vs := [5]) (di_list (de_var 0)) (fun _ => (dg_name 5)) (fun _ => dt_yes) (fun _ => (de_cb1 d1_list (dp_var 5))) (gw_name (by simp))) (dg_name 1))
    (ds_seq (ds_for (di_rng1 (da_cons (de_cb1 d1_len (dp_var 1)) da_nil)) (dg_name 2)
    (ds_seq (ds_asg (de_comp (vs := [3]) (di_rng2 (da_cons (de_var 2) (da_cons (de_cb1 d1_len (dp_var 1)) da_nil))) (fun _ => (dg_name 3)) (fun _ => (dt_test (de_op d2_ne (de_op d2_ix (de_ixv 1 (dp_var 3)) (dp_var 2)) (DE.dp (de_tup0 (ns := [0, 1]) (TX.tup 0 "ZERO" _ rfl).2))))) (fun _ => (de_var 3)) (gw_name (by simp))) (dg_name 4))
    (ds_seq (ds_asg (de_tup (da_cons (de_ixv 1 (DE.dp (de_ixv 4 (DE.dp (de_int 0))))) (da_cons (de_ixv 1 (dp_var 2)) da_nil))) (dg_tup (dgs_cons (dg_sub 1 (dp_var 2)) (dgs_cons (dg_sub 1 (DE.dp (de_ixv 4 (DE.dp (de_int 0))))) dgs_nil))))
    (ds_seq (ds_asg (de_comp (vs := [6]) (di_list (de_ixv 1 (dp_var 2))) (fun _ => (dg_name 6)) (fun _ => dt_yes) (fun _ => (de_call eok0 (da_cons (de_var 6) (da_cons (de_op d2_ix (de_ixv 1 (dp_var 2)) (dp_var 2)) da_nil)))) (gw_name (by simp))) (dg_sub 1 (dp_var 2)))
    (ds_for (di_rng1 (da_cons (de_cb1 d1_len (dp_var 1)) da_nil)) (dg_name 3)
    (ds_if (dt_test (de_opv d2_ne (dp_var 2))) (ds_asg (de_call hE (da_cons (de_ixv 1 (dp_var 3)) (da_cons (de_ixv 1 (dp_var 2)) (da_cons (de_op d2_ix (de_ixv 1 (dp_var 3)) (dp_var 2)) da_nil)))) (dg_sub 1 (dp_var 3))) ds_next))))))
    (ds_ret (de_compB (vs := [5]) (fun _ _ => (dg_name 5)) (fun _ _ => dt_yes) (fun _ _ => (de_ixv 5 (DE.dp (de_un d1_neg (DE.dp (de_int 1)))))) (gw_name (by simp))))))
theorem sc_flock_by_roots : FnScope ["sums", "roots", "degree", "powers", "rows", "k"] ["sums", "roots"] (defScope s_flock_by_roots) := ⟨rfl, rfl, rfl, by decide +kernel, rfl, by decide +kernel, by decide +kernel⟩
theorem ok_flock_by_roots (TX : Txt bk K mg) (TB : TBs bk K mg base T P) : Def P w K mg base T "flock_by_roots" ["sums", "roots"] 37 F_flock_by_roots := by
  refine TX.def_ 26 26 (st := s_flock_by_roots) rfl rfl sc_flock_by_roots (fun _ _ _ _ _ _ us hl => match us, hl with | [_, _], _ => rfl) (fun _ _ _ _ h => h.1) (fun _ _ _ _ h => h.2) fun fa cdv A outer s H E hcv hr => ?_
  have tk : Takes (cxOf (L2.CX P w) P w K mg base ["sums", "roots", "degree", "powers", "rows", "k"] "flock_by_roots" (defScope s_flock_by_roots) fa cdv A outer s H E) (fun cls d _ H => E cls d H) := takes_of rfl rfl rfl rfl
  refine ⟨_, (pss_cons (ps_set (i := 2) sc_flock_by_roots.nd rfl (by first | exact Or.inl rfl | exact Or.inr rfl) (pe_op op_sub (pe_len K (TX.free 92 "len" rfl) (pv 1)) pe_int))
    (pss_cons (ps_set (i := 3) sc_flock_by_roots.nd rfl (by first | exact Or.inl rfl | exact Or.inr rfl) (pe_def (ok_root_powers (T := T) TX TB) (hr.mono (by decide)) (passes_call tk (fun _ _ _ _ h => h)) (pa_cons (pv 1) (pa_cons (pe_op op_mulX pe_int (pv 2)) pa_nil))))
    (pss_cons (ps_set (i := 4) sc_flock_by_roots.nd rfl (by first | exact Or.inl rfl | exact Or.inr rfl) (pe_lst pa_nil))
    (pss_cons (ps_for (passes_of rfl) rfl (pi_range1 rfl (TX.free 95 "range" rfl) (pa_cons (pv 2) pa_nil)) (pg_name (i := 5) sc_flock_by_roots.nd rfl (by first | exact Or.inl rfl | exact Or.inr rfl))
    (pss_one (ps_expr (pe_app K (pv 4) (pa_cons (pe_op op_cat (pe_slice (sl_K K) (pv 3) (po_some (pv 5)) (po_some (pe_op op_add (pv 5) (pv 2)))) (pe_lst (pa_cons (pe_ix (ix_K K) (pv 0) (pv 5) (fun _ _ => rfl)) pa_nil))) pa_nil)))))
    (pss_one (ps_ret (pe_tup (pa_cons (pe_list K (TX.free 93 "list" rfl) (pv 1)) (pa_cons (pe_def (ok_clean (T := T) TX TB) (hr.mono (by decide)) (passes_call tk (fun _ _ _ _ h => h)) (pa_cons (pe_def (ok_solved (T := T) TX TB) (hr.mono (by decide)) (passes_call tk (fun _ _ _ _ h => h)) (pa_cons (pv 4) pa_nil)) pa_nil)) pa_nil))))))))), fun c xq hK hT hE => ?_⟩
  subst hK hT
  exact (ds_seq (ds_asg (de_op d2_sub (de_cb1 d1_len (dp_var 1)) (DE.dp (de_int 1))) (dg_name 2))
    (ds_seq (ds_asg (de_call hE (da_cons (de_var 1) (da_cons (de_op d2_mul (de_int 2) (dp_var 2)) da_nil))) (dg_name 3))
    (ds_seq (ds_asg (de_lst da_nil) (dg_name 4))
    (ds_seq (ds_for (di_rng1 (da_cons (de_var 2) da_nil)) (dg_name 5)
    (ds_app 4 (de_op d2_cat (de_slv (do_some (dp_var 5)) (do_some (DE.dp (de_opv d2_add (dp_var 2))))) (DE.dp (de_lst (da_cons (de_ixv 0 (dp_var 5)) da_nil))))))
    (ds_ret (de_tup (da_cons (de_cb1 d1_list (dp_var 1)) (da_cons (de_call hE (da_cons (de_call hE (da_cons (de_var 4) da_nil)) da_nil)) da_nil))))))))
theorem sc_open_roots : FnScope ["sums", "some"] ["sums", "some"] (defScope s_open_roots) := ⟨rfl, rfl, rfl, by decide +kernel, rfl, by decide +kernel, by decide +kernel⟩
theorem ok_open_roots (TX : Txt bk K mg) (TB : TBs bk K mg base T P) : Def P w K mg base T "open_roots" ["sums", "some"] 39 F_open_roots := by
  refine TX.def_ 27 27 (st := s_open_roots) rfl rfl sc_open_roots (fun _ _ _ _ _ _ us hl => match us, hl with | [_, _], _ => rfl) (fun _ _ _ _ h => h.1) (fun _ _ _ _ h => h.2) fun fa cdv A outer s H E hcv hr => ?_
  have tk : Takes (cxOf (L2.CX P w) P w K mg base ["sums", "some"] "open_roots" (defScope s_open_roots) fa cdv A outer s H E) (fun cls d _ H => E cls d H) := takes_of rfl rfl rfl rfl
  refine ⟨_, (pss_cons (ps_if (pt_cmpR (eq_K K hr.units) (pe_op op_modN (pe_len K (TX.free 92 "len" rfl) (pv 0)) pe_int) pe_int (nomark _)) (pss_one (ps_ret (pe_def (ok_next_step (T := T) TX TB) (hr.mono (by decide)) (passes_call tk (fun _ _ _ _ h => h)) (pa_cons (pv 1) (pa_cons (pe_def (ok_turn_of (T := T) TX TB) (hr.mono (by decide)) (passes_call tk (fun _ _ _ _ h => h)) (pa_cons (pv 0) (pa_cons (pv 1) pa_nil))) pa_nil))))) pss_nil)
    (pss_one (ps_ret (pe_def (ok_next_step (T := T) TX TB) (hr.mono (by decide)) (passes_call tk (fun _ _ _ _ h => h)) (pa_cons (pv 1) (pa_cons (pe_glob (v := .ref (He.ga K "ZERO")) rfl (TX.tup 0 "ZERO" _ rfl).1 rfl) pa_nil)))))), fun c xq hK hT hE => ?_⟩
  subst hK hT
  exact (ds_seq (ds_if (dt_test (de_op d2_eq (de_op d2_mod (de_cb1 d1_len (dp_var 0)) (DE.dp (de_int 2))) (DE.dp (de_int 0)))) (ds_ret (de_callF hE (dab_var 1 (dab_cons (de_callF hE (dab_var 0 (dab_var 1 dab_nil))) dab_nil)))) ds_next)
    (ds_ret (de_callF hE (dab_var 1 (dab_cons (de_tup0 (ns := [0, 1]) (TX.tup 0 "ZERO" _ rfl).2) dab_nil)))))
theorem sc_back : FnScope ["sums", "some", "last", "square", "bar"] ["sums"] (defScope s_back) := ⟨rfl, rfl, rfl, by decide +kernel, rfl, by decide +kernel, by decide +kernel⟩
theorem ok_back (TX : Txt bk K mg) (TB : TBs bk K mg base T P) : Def P w K mg base T "back" ["sums"] 40 F_back := by
  refine TX.def_ 28 28 (st := s_back) rfl rfl sc_back (fun _ _ _ _ _ _ us hl => match us, hl with | [_], _ => rfl) (fun _ _ _ _ h => h.1) (fun _ _ _ _ h => h.2) fun fa cdv A outer s H E hcv hr => ?_
  have tk : Takes (cxOf (L2.CX P w) P w K mg base ["sums", "some", "last", "square", "bar"] "back" (defScope s_back) fa cdv A outer s H E) (fun cls d _ H => E cls d H) := takes_of rfl rfl rfl rfl
  refine ⟨_, (pss_cons (ps_set (i := 1) sc_back.nd rfl (by first | exact Or.inl rfl | exact Or.inr rfl) (pe_def (ok_steps (T := T) TX TB) (hr.mono (by decide)) (passes_call tk (fun _ _ _ _ h => h)) (pa_cons (pv 0) pa_nil)))
    (pss_cons (ps_asg (pe_ix (ix_K K) (pv 1) (pe_un un_neg pe_int) (fun _ _ => rfl)) (tg_tup K (n := 2) (pgs_cons (pg_name (i := 2) sc_back.nd rfl (by first | exact Or.inl rfl | exact Or.inr rfl)) (pgs_cons (pg_name (i := 3) sc_back.nd rfl (by first | exact Or.inl rfl | exact Or.inr rfl)) pgs_nil))))
    (pss_cons (ps_if (pt_cmpR op_lt (pe_def (ok_sign_of (T := T) TX TB) (hr.mono (by decide)) (passes_call tk (fun _ _ _ _ h => h)) (pa_cons (pv 3) pa_nil)) pe_int (nomark _)) (pss_one (ps_ret (pe_tup (pa_cons pe_str (pa_cons (pv 2) pa_nil))))) pss_nil)
    (pss_cons (ps_if (pt_cmpR op_gt (pe_def (ok_sign_of (T := T) TX TB) (hr.mono (by decide)) (passes_call tk (fun _ _ _ _ h => h)) (pa_cons (pv 3) pa_nil)) pe_int (nomark _)) (pss_one (ps_ret (pe_tup (pa_cons pe_str (pa_cons (pe_def (ok_flock_by_roots (T := T) TX TB) (hr.mono (by decide)) (passes_call tk (fun _ _ _ _ h => h)) (pa_cons (pv 0) (pa_cons (pe_def (ok_open_roots (T := T) TX TB) (hr.mono (by decide)) (passes_call tk (fun _ _ _ _ h => h)) (pa_cons (pv 0) (pa_cons (pv 1) pa_nil))) pa_nil))) pa_nil))))) pss_nil)
    (pss_cons (ps_set (i := 4) sc_back.nd rfl (by first | exact Or.inl rfl | exact Or.inr rfl) (pe_def (ok_nought_bar (T := T) TX TB) (hr.mono (by decide)) (passes_call tk (fun _ _ _ _ h => h)) (pa_cons (pv 0) (pa_cons (pv 2) pa_nil))))
    (pss_cons (ps_if (pt_cmpR op_notN (pv 4) pe_non (nomark _)) (pss_one (ps_ret (pv 4))) pss_nil)
    (pss_one (ps_ret (pe_tup (pa_cons pe_str (pa_cons (pe_def (ok_flock_by_roots (T := T) TX TB) (hr.mono (by decide)) (passes_call tk (fun _ _ _ _ h => h)) (pa_cons (pv 0) (pa_cons (pv 2) pa_nil))) pa_nil))))))))))), fun c xq hK hT hE => ?_⟩
  subst hK hT
  exact (ds_seq (ds_asg (de_call hE (da_cons (de_var 0) da_nil)) (dg_name 1))
    (ds_seq (ds_asg (de_ixv 1 (DE.dp (de_un d1_neg (DE.dp (de_int 1))))) (dg_tup (dgs_cons (dg_name 2) (dgs_cons (dg_name 3) dgs_nil))))
    (ds_seq (ds_if (dt_test (de_op d2_lt (de_callB hE (dab_var 3 dab_nil)) (DE.dp (de_int 0)))) (ds_ret (de_tup (da_cons (de_str "below") (da_cons (de_var 2) da_nil)))) ds_next)
    (ds_seq (ds_if (dt_test (de_op d2_gt (de_callB hE (dab_var 3 dab_nil)) (DE.dp (de_int 0)))) (ds_ret (de_tup (da_cons (de_str "flock") (da_cons (de_call hE (da_cons (de_var 0) (da_cons (de_call hE (da_cons (de_var 0) (da_cons (de_var 1) da_nil))) da_nil))) da_nil)))) ds_next)
    (ds_seq (ds_asg (de_call hE (da_cons (de_var 0) (da_cons (de_var 2) da_nil))) (dg_name 4))
    (ds_seq (ds_if (dt_test (de_opv d2_notN (DE.dp de_non))) (ds_retV 4) ds_next)
    (ds_ret (de_tup (da_cons (de_str "flock") (da_cons (de_call hE (da_cons (de_var 0) (da_cons (de_var 2) da_nil))) da_nil))))))))))
theorem sc_need_flock : FnScope ["sums"] ["sums"] (defScope s_need_flock) := ⟨rfl, rfl, rfl, by decide +kernel, rfl, by decide +kernel, by decide +kernel⟩
theorem ok_need_flock (TX : Txt bk K mg) (TB : TBs bk K mg base T P) : Def P w K mg base T "need_flock" ["sums"] 41 F_need_flock := by
  refine TX.def_ 29 29 (st := s_need_flock) rfl rfl sc_need_flock (fun _ _ _ _ _ _ us hl => match us, hl with | [_], _ => rfl) (fun _ _ _ _ h => h.1) (fun _ _ _ _ h => h.2) fun fa cdv A outer s H E hcv hr => ?_
  have tk : Takes (cxOf (L2.CX P w) P w K mg base ["sums"] "need_flock" (defScope s_need_flock) fa cdv A outer s H E) (fun cls d _ H => E cls d H) := takes_of rfl rfl rfl rfl
  refine ⟨_, (pss_one (ps_if (pt_cmpR (ne_K K hr.units) (pe_ix (ix_K K) (pe_def (ok_back (T := T) TX TB) (hr.mono (by decide)) (passes_call tk (fun _ _ _ _ h => h)) (pa_cons (pv 0) pa_nil)) pe_int (fun _ _ => rfl)) pe_str (nomark _)) (pss_one (ps_raiseD TX 83 73 rfl rfl rfl tk)) pss_nil)), fun c xq hK hT hE => ?_⟩
  subst hK hT
  exact (ds_if (dt_test (de_op d2_ne (de_op d2_ix (de_call hE (da_cons (de_var 0) da_nil)) (DE.dp (de_int 0))) (DE.dp (de_str "flock")))) (ds_raise hE "NoSums") ds_next)
theorem sc_tight_step : FnScope ["sums", "last", "square"] ["sums"] (defScope s_tight_step) := ⟨rfl, rfl, rfl, by decide +kernel, rfl, by decide +kernel, by decide +kernel⟩
theorem ok_tight_step (TX : Txt bk K mg) (TB : TBs bk K mg base T P) : Def P w K mg base T "tight_step" ["sums"] 40 F_tight_step := by
  refine TX.def_ 30 30 (st := s_tight_step) rfl rfl sc_tight_step (fun _ _ _ _ _ _ us hl => match us, hl with | [_], _ => rfl) (fun _ _ _ _ h => h.1) (fun _ _ _ _ h => h.2) fun fa cdv A outer s H E hcv hr => ?_
  have tk : Takes (cxOf (L2.CX P w) P w K mg base ["sums", "last", "square"] "tight_step" (defScope s_tight_step) fa cdv A outer s H E) (fun cls d _ H => E cls d H) := takes_of rfl rfl rfl rfl
  refine ⟨_, (pss_cons (ps_asg (pe_ix (ix_K K) (pe_def (ok_steps (T := T) TX TB) (hr.mono (by decide)) (passes_call tk (fun _ _ _ _ h => h)) (pa_cons (pv 0) pa_nil)) (pe_un un_neg pe_int) (fun _ _ => rfl)) (tg_tup K (n := 2) (pgs_cons (pg_name (i := 1) sc_tight_step.nd rfl (by first | exact Or.inl rfl | exact Or.inr rfl)) (pgs_cons (pg_name (i := 2) sc_tight_step.nd rfl (by first | exact Or.inl rfl | exact Or.inr rfl)) pgs_nil))))
    (pss_cons (ps_if (pt_cmpR (eq_K K hr.units) (pv 2) (pe_glob (v := .ref (He.ga K "ZERO")) rfl (TX.tup 0 "ZERO" _ rfl).1 rfl) (nomark _)) (pss_one (ps_ret (pv 1))) pss_nil)
    (pss_one (ps_ret pe_non)))), fun c xq hK hT hE => ?_⟩
  subst hK hT
  exact (ds_seq (ds_asg (de_op d2_ix (de_call hE (da_cons (de_var 0) da_nil)) (DE.dp (de_un d1_neg (DE.dp (de_int 1))))) (dg_tup (dgs_cons (dg_name 1) (dgs_cons (dg_name 2) dgs_nil))))
    (ds_seq (ds_if (dt_test (de_opv d2_eq (DE.dp (de_tup0 (ns := [0, 1]) (TX.tup 0 "ZERO" _ rfl).2)))) (ds_retV 1) ds_next)
    (ds_ret de_non)))
theorem sc_least_square : FnScope ["sums", "spot", "last", "some", "value", "found", "f", "square", "number"] ["sums", "spot"] (defScope s_least_square) := ⟨rfl, rfl, rfl, by decide +kernel, rfl, by decide +kernel, by decide +kernel⟩
theorem ok_least_square (TX : Txt bk K mg) (TB : TBs bk K mg base T P) : Def P w K mg base T "least_square" ["sums", "spot"] 42 F_least_square := by
  refine TX.def_ 31 31 (st := s_least_square) rfl rfl sc_least_square (fun _ _ _ _ _ _ us hl => match us, hl with | [_, _], _ => rfl) (fun _ _ _ _ h => h.1) (fun _ _ _ _ h => h.2) fun fa cdv A outer s H E hcv hr => ?_
  have tk : Takes (cxOf (L2.CX P w) P w K mg base ["sums", "spot", "last", "some", "value", "found", "f", "square", "number"] "least_square" (defScope s_least_square) fa cdv A outer s H E) (fun cls d _ H => E cls d H) := takes_of rfl rfl rfl rfl
  refine ⟨_, (pss_cons (ps_expr (pe_def (ok_need_flock (T := T) TX TB) (hr.mono (by decide)) (passes_call tk (fun _ _ _ _ h => h)) (pa_cons (pv 0) pa_nil)))
    (pss_cons (ps_set (i := 2) sc_least_square.nd rfl (by first | exact Or.inl rfl | exact Or.inr rfl) (pe_def (ok_tight_step (T := T) TX TB) (hr.mono (by decide)) (passes_call tk (fun _ _ _ _ h => h)) (pa_cons (pv 0) pa_nil)))
    (pss_cons (ps_set (i := 3) sc_least_square.nd rfl (by first | exact Or.inl rfl | exact Or.inr rfl) (pe_def (ok_steps (T := T) TX TB) (hr.mono (by decide)) (passes_call tk (fun _ _ _ _ h => h)) (pa_cons (pv 0) pa_nil)))
    (pss_cons (ps_if (pt_cmpR op_notN (pv 2) pe_non (nomark _)) (pss_cons (ps_set (i := 4) sc_least_square.nd rfl (by first | exact Or.inl rfl | exact Or.inr rfl) (pe_def (ok_number_at (T := T) TX TB) (hr.mono (by decide)) (passes_call tk (fun _ _ _ _ h => h)) (pa_cons (pv 2) (pa_cons (pv 1) pa_nil))))
    (pss_cons (ps_if (pt_cmpR (ne_K K hr.units) (pv 4) (pe_glob (v := .ref (He.ga K "ZERO")) rfl (TX.tup 0 "ZERO" _ rfl).1 rfl) (nomark _)) (pss_one (ps_ret (pe_tup (pa_cons (pe_glob (v := .ref (He.ga K "ZERO")) rfl (TX.tup 0 "ZERO" _ rfl).1 rfl) (pa_cons (pe_def (ok_grown (T := T) TX TB) (hr.mono (by decide)) (passes_call tk (fun _ _ _ _ h => h)) (pa_cons (pv 2) (pa_cons (pe_def (ok_over (T := T) TX TB) (hr.mono (by decide)) (passes_call tk (fun _ _ _ _ h => h)) (pa_cons (pe_glob (v := .ref (He.ga K "ONE")) rfl (TX.tup 1 "ONE" _ rfl).1 rfl) (pa_cons (pv 4) pa_nil))) pa_nil))) pa_nil))))) pss_nil)
    (pss_one (ps_set (i := 3) sc_least_square.nd rfl (by first | exact Or.inl rfl | exact Or.inr rfl) (pe_slice (sl_K K) (pv 3) po_none (po_some (pe_un un_neg pe_int))))))) pss_nil)
    (pss_cons (ps_set (i := 5) sc_least_square.nd rfl (by first | exact Or.inl rfl | exact Or.inr rfl) (pe_lst pa_nil))
    (pss_cons (ps_for (passes_of rfl) rfl (it_list K (pv 3)) (tg_tup K (n := 2) (pgs_cons (pg_name (i := 6) sc_least_square.nd rfl (by first | exact Or.inl rfl | exact Or.inr rfl)) (pgs_cons (pg_name (i := 7) sc_least_square.nd rfl (by first | exact Or.inl rfl | exact Or.inr rfl)) pgs_nil)))
    (pss_one (ps_set (i := 5) sc_least_square.nd rfl (by first | exact Or.inl rfl | exact Or.inr rfl) (pe_def (ok_summed (T := T) TX TB) (hr.mono (by decide)) (passes_call tk (fun _ _ _ _ h => h)) (pa_cons (pv 5) (pa_cons (pe_def (ok_grown (T := T) TX TB) (hr.mono (by decide)) (passes_call tk (fun _ _ _ _ h => h)) (pa_cons (pv 6) (pa_cons (pe_def (ok_over (T := T) TX TB) (hr.mono (by decide)) (passes_call tk (fun _ _ _ _ h => h)) (pa_cons (pe_def (ok_number_at (T := T) TX TB) (hr.mono (by decide)) (passes_call tk (fun _ _ _ _ h => h)) (pa_cons (pv 6) (pa_cons (pv 1) pa_nil))) (pa_cons (pv 7) pa_nil))) pa_nil))) pa_nil))))))
    (pss_cons (ps_set (i := 8) sc_least_square.nd rfl (by first | exact Or.inl rfl | exact Or.inr rfl) (pe_def (ok_over (T := T) TX TB) (hr.mono (by decide)) (passes_call tk (fun _ _ _ _ h => h)) (pa_cons (pe_glob (v := .ref (He.ga K "ONE")) rfl (TX.tup 1 "ONE" _ rfl).1 rfl) (pa_cons (pe_def (ok_number_at (T := T) TX TB) (hr.mono (by decide)) (passes_call tk (fun _ _ _ _ h => h)) (pa_cons (pv 5) (pa_cons (pv 1) pa_nil))) pa_nil))))
    (pss_one (ps_ret (pe_tup (pa_cons (pv 8) (pa_cons (pe_def (ok_grown (T := T) TX TB) (hr.mono (by decide)) (passes_call tk (fun _ _ _ _ h => h)) (pa_cons (pv 5) (pa_cons (pv 8) pa_nil))) pa_nil)))))))))))), fun c xq hK hT hE => ?_⟩
  subst hK hT
  exact (ds_seq (ds_drop (de_callB hE (dab_var 0 dab_nil)))
    (ds_seq (ds_asg (de_call hE (da_cons (de_var 0) da_nil)) (dg_name 2))
    (ds_seq (ds_asg (de_call hE (da_cons (de_var 0) da_nil)) (dg_name 3))
    (ds_seq (ds_if (dt_test (de_opv d2_notN (DE.dp de_non))) (ds_seq (ds_asg (de_call hE (da_cons (de_var 2) (da_cons (de_var 1) da_nil))) (dg_name 4))
    (ds_seq (ds_if (dt_test (de_opv d2_ne (DE.dp (de_tup0 (ns := [0, 1]) (TX.tup 0 "ZERO" _ rfl).2)))) (ds_ret (de_tup (da_cons (de_tup0 (ns := [0, 1]) (TX.tup 0 "ZERO" _ rfl).2) (da_cons (de_call hE (da_cons (de_var 2) (da_cons (de_call hE (da_cons (de_tup0 (ns := [1, 1]) (TX.tup 1 "ONE" _ rfl).2) (da_cons (de_var 4) da_nil))) da_nil))) da_nil)))) ds_next)
    (ds_asg (de_slv do_none (do_some (DE.dp (de_un d1_neg (DE.dp (de_int 1)))))) (dg_name 3)))) ds_next)
    (ds_seq (ds_asg (de_lst da_nil) (dg_name 5))
    (ds_seq (ds_for (di_list (de_var 3)) (dg_tup (dgs_cons (dg_name 6) (dgs_cons (dg_name 7) dgs_nil)))
    (ds_asg (de_call hE (da_cons (de_var 5) (da_cons (de_call hE (da_cons (de_var 6) (da_cons (de_call hE (da_cons (de_call hE (da_cons (de_var 6) (da_cons (de_var 1) da_nil))) (da_cons (de_var 7) da_nil))) da_nil))) da_nil))) (dg_name 5)))
    (ds_seq (ds_asg (de_call hE (da_cons (de_tup0 (ns := [1, 1]) (TX.tup 1 "ONE" _ rfl).2) (da_cons (de_call hE (da_cons (de_var 5) (da_cons (de_var 1) da_nil))) da_nil))) (dg_name 8))
    (ds_ret (de_tup (da_cons (de_var 8) (da_cons (de_call hE (da_cons (de_var 5) (da_cons (de_var 8) da_nil))) da_nil)))))))))))
theorem sc__law_divisor : FnScope ["_law_one", "_law_other"] ["_law_one", "_law_other"] (defScope s__law_divisor) := ⟨rfl, rfl, rfl, by decide +kernel, rfl, by decide +kernel, by decide +kernel⟩
theorem ok__law_divisor (TX : Txt bk K mg) (TB : TBs bk K mg base T P) : Def P w K mg base T "_law_divisor" ["_law_one", "_law_other"] 1 F__law_divisor := by
  refine TX.def_ 32 32 (st := s__law_divisor) rfl rfl sc__law_divisor (fun _ _ _ _ _ _ us hl => match us, hl with | [_, _], _ => rfl) (fun _ _ _ _ h => h.1) (fun _ _ _ _ h => h.2) fun fa cdv A outer s H E hcv hr => ?_
  have tk : Takes (cxOf (L2.CX P w) P w K mg base ["_law_one", "_law_other"] "_law_divisor" (defScope s__law_divisor) fa cdv A outer s H E) (fun cls d _ H => E cls d H) := takes_of rfl rfl rfl rfl
  refine ⟨_, (pss_cons (ps_while (passes_of rfl) (pt_cmpR (ne_K K hr.units) (pv 1) pe_int (nomark _)) (pss_one (ps_par (i := 0) (j := 1) rfl sc__law_divisor.nd rfl rfl (by decide) rfl rfl (pa_cons (pv 1) (pa_cons (pe_op op_modN (pv 0) (pv 1)) pa_nil)) (by rfl))))
    (pss_one (ps_ret (pe_abs (TX.free 90 "abs" rfl) (pv 0))))), fun c xq hK hT hE => ?_⟩
  subst hK hT
  exact (ds_seq (ds_while (dt_test (de_opv d2_ne (DE.dp (de_int 0)))) (ds_par 0 1 (da_cons (de_var 1) (da_cons (de_opv d2_mod (dp_var 1)) da_nil))))
    (ds_ret (de_cb1 d1_abs (dp_var 0))))
theorem sc__law_low : FnScope ["_law_top", "_law_bottom", "_law_by"] ["_law_top", "_law_bottom"] (defScope s__law_low) := ⟨rfl, rfl, rfl, by decide +kernel, rfl, by decide +kernel, by decide +kernel⟩
theorem ok__law_low (TX : Txt bk K mg) (TB : TBs bk K mg base T P) : Def P w K mg base T "_law_low" ["_law_top", "_law_bottom"] 33 F__law_low := by
  refine TX.def_ 33 33 (st := s__law_low) rfl rfl sc__law_low (fun _ _ _ _ _ _ us hl => match us, hl with | [_, _], _ => rfl) (fun _ _ _ _ h => h.1) (fun _ _ _ _ h => h.2) fun fa cdv A outer s H E hcv hr => ?_
  have tk : Takes (cxOf (L2.CX P w) P w K mg base ["_law_top", "_law_bottom", "_law_by"] "_law_low" (defScope s__law_low) fa cdv A outer s H E) (fun cls d _ H => E cls d H) := takes_of rfl rfl rfl rfl
  refine ⟨_, (pss_cons (ps_set (i := 2) sc__law_low.nd rfl (by first | exact Or.inl rfl | exact Or.inr rfl) (pe_def (ok__law_divisor (T := T) TX TB) (hr.mono (by decide)) (passes_call tk (fun _ _ _ _ h => h)) (pa_cons (pv 0) (pa_cons (pv 1) pa_nil))))
    (pss_cons (ps_if (pt_cmpR op_lt (pv 1) pe_int (nomark _)) (pss_one (ps_set (i := 2) sc__law_low.nd rfl (by first | exact Or.inl rfl | exact Or.inr rfl) (pe_op op_sub pe_int (pv 2)))) pss_nil)
    (pss_one (ps_ret (pe_tup (pa_cons (pe_op (op_divX (TB.sx hr)) (pv 0) (pv 2)) (pa_cons (pe_op (op_divX (TB.sx hr)) (pv 1) (pv 2)) pa_nil))))))), fun c xq hK hT hE => ?_⟩
  subst hK hT
  exact (ds_seq (ds_asg (de_callB hE (dab_var 0 (dab_var 1 dab_nil))) (dg_name 2))
    (ds_seq (ds_if (dt_test (de_opv d2_lt (DE.dp (de_int 0)))) (ds_asg (de_op d2_sub (de_int 0) (dp_var 2)) (dg_name 2)) ds_next)
    (ds_ret (de_tup (da_cons (de_opv d2_div (dp_var 2)) (da_cons (de_opv d2_div (dp_var 2)) da_nil))))))
theorem sc__law_over : FnScope ["_law_one", "_law_other"] ["_law_one", "_law_other"] (defScope s__law_over) := ⟨rfl, rfl, rfl, by decide +kernel, rfl, by decide +kernel, by decide +kernel⟩
theorem ok__law_over (TX : Txt bk K mg) (TB : TBs bk K mg base T P) : Def P w K mg base T "_law_over" ["_law_one", "_law_other"] 34 F__law_over := by
  refine TX.def_ 34 34 (st := s__law_over) rfl rfl sc__law_over (fun _ _ _ _ _ _ us hl => match us, hl with | [_, _], _ => rfl) (fun _ _ _ _ h => h.1) (fun _ _ _ _ h => h.2) fun fa cdv A outer s H E hcv hr => ?_
  have tk : Takes (cxOf (L2.CX P w) P w K mg base ["_law_one", "_law_other"] "_law_over" (defScope s__law_over) fa cdv A outer s H E) (fun cls d _ H => E cls d H) := takes_of rfl rfl rfl rfl
  refine ⟨_, (pss_one (ps_ret (pe_def (ok__law_low (T := T) TX TB) (hr.mono (by decide)) (passes_call tk (fun _ _ _ _ h => h)) (pa_cons (pe_op op_mulX (pe_ix (ix_K K) (pv 0) pe_int (fun _ _ => rfl)) (pe_ix (ix_K K) (pv 1) pe_int (fun _ _ => rfl))) (pa_cons (pe_op op_mulX (pe_ix (ix_K K) (pv 0) pe_int (fun _ _ => rfl)) (pe_ix (ix_K K) (pv 1) pe_int (fun _ _ => rfl))) pa_nil))))), fun c xq hK hT hE => ?_⟩
  subst hK hT
  exact (ds_ret (de_call hE (da_cons (de_op d2_mul (de_ixv 0 (DE.dp (de_int 0))) (DE.dp (de_ixv 1 (DE.dp (de_int 1))))) (da_cons (de_op d2_mul (de_ixv 0 (DE.dp (de_int 1))) (DE.dp (de_ixv 1 (DE.dp (de_int 0))))) da_nil))))
theorem sc__law_plus : FnScope ["_law_one", "_law_other"] ["_law_one", "_law_other"] (defScope s__law_plus) := ⟨rfl, rfl, rfl, by decide +kernel, rfl, by decide +kernel, by decide +kernel⟩
theorem ok__law_plus (TX : Txt bk K mg) (TB : TBs bk K mg base T P) : Def P w K mg base T "_law_plus" ["_law_one", "_law_other"] 34 F__law_plus := by
  refine TX.def_ 35 35 (st := s__law_plus) rfl rfl sc__law_plus (fun _ _ _ _ _ _ us hl => match us, hl with | [_, _], _ => rfl) (fun _ _ _ _ h => h.1) (fun _ _ _ _ h => h.2) fun fa cdv A outer s H E hcv hr => ?_
  have tk : Takes (cxOf (L2.CX P w) P w K mg base ["_law_one", "_law_other"] "_law_plus" (defScope s__law_plus) fa cdv A outer s H E) (fun cls d _ H => E cls d H) := takes_of rfl rfl rfl rfl
  refine ⟨_, (pss_one (ps_ret (pe_def (ok__law_low (T := T) TX TB) (hr.mono (by decide)) (passes_call tk (fun _ _ _ _ h => h)) (pa_cons (pe_op op_add (pe_op op_mulX (pe_ix (ix_K K) (pv 0) pe_int (fun _ _ => rfl)) (pe_ix (ix_K K) (pv 1) pe_int (fun _ _ => rfl))) (pe_op op_mulX (pe_ix (ix_K K) (pv 1) pe_int (fun _ _ => rfl)) (pe_ix (ix_K K) (pv 0) pe_int (fun _ _ => rfl)))) (pa_cons (pe_op op_mulX (pe_ix (ix_K K) (pv 0) pe_int (fun _ _ => rfl)) (pe_ix (ix_K K) (pv 1) pe_int (fun _ _ => rfl))) pa_nil))))), fun c xq hK hT hE => ?_⟩
  subst hK hT
  exact (ds_ret (de_call hE (da_cons (de_op d2_add (de_op d2_mul (de_ixv 0 (DE.dp (de_int 0))) (DE.dp (de_ixv 1 (DE.dp (de_int 1))))) (DE.dp (de_op d2_mul (de_ixv 1 (DE.dp (de_int 0))) (DE.dp (de_ixv 0 (DE.dp (de_int 1))))))) (da_cons (de_op d2_mul (de_ixv 0 (DE.dp (de_int 1))) (DE.dp (de_ixv 1 (DE.dp (de_int 1))))) da_nil))))
theorem sc__law_times : FnScope ["_law_one", "_law_other"] ["_law_one", "_law_other"] (defScope s__law_times) := ⟨rfl, rfl, rfl, by decide +kernel, rfl, by decide +kernel, by decide +kernel⟩
theorem ok__law_times (TX : Txt bk K mg) (TB : TBs bk K mg base T P) : Def P w K mg base T "_law_times" ["_law_one", "_law_other"] 34 F__law_times := by
  refine TX.def_ 36 36 (st := s__law_times) rfl rfl sc__law_times (fun _ _ _ _ _ _ us hl => match us, hl with | [_, _], _ => rfl) (fun _ _ _ _ h => h.1) (fun _ _ _ _ h => h.2) fun fa cdv A outer s H E hcv hr => ?_
  have tk : Takes (cxOf (L2.CX P w) P w K mg base ["_law_one", "_law_other"] "_law_times" (defScope s__law_times) fa cdv A outer s H E) (fun cls d _ H => E cls d H) := takes_of rfl rfl rfl rfl
  refine ⟨_, (pss_one (ps_ret (pe_def (ok__law_low (T := T) TX TB) (hr.mono (by decide)) (passes_call tk (fun _ _ _ _ h => h)) (pa_cons (pe_op op_mulX (pe_ix (ix_K K) (pv 0) pe_int (fun _ _ => rfl)) (pe_ix (ix_K K) (pv 1) pe_int (fun _ _ => rfl))) (pa_cons (pe_op op_mulX (pe_ix (ix_K K) (pv 0) pe_int (fun _ _ => rfl)) (pe_ix (ix_K K) (pv 1) pe_int (fun _ _ => rfl))) pa_nil))))), fun c xq hK hT hE => ?_⟩
  subst hK hT
  exact (ds_ret (de_call hE (da_cons (de_op d2_mul (de_ixv 0 (DE.dp (de_int 0))) (DE.dp (de_ixv 1 (DE.dp (de_int 0))))) (da_cons (de_op d2_mul (de_ixv 0 (DE.dp (de_int 1))) (DE.dp (de_ixv 1 (DE.dp (de_int 1))))) da_nil))))
theorem sc__law_worth : FnScope ["_law_sums_here", "_law_f", "_law_found", "_law_place"] ["_law_sums_here", "_law_f"] (defScope s__law_worth) := ⟨rfl, rfl, rfl, by decide +kernel, rfl, by decide +kernel, by decide +kernel⟩
theorem ok__law_worth (TX : Txt bk K mg) (TB : TBs bk K mg base T P) : Def P w K mg base T "_law_worth" ["_law_sums_here", "_law_f"] 35 F__law_worth := by
  refine TX.def_ 37 37 (st := s__law_worth) rfl rfl sc__law_worth (fun _ _ _ _ _ _ us hl => match us, hl with | [_, _], _ => rfl) (fun _ _ _ _ h => h.1) (fun _ _ _ _ h => h.2) fun fa cdv A outer s H E hcv hr => ?_
  have tk : Takes (cxOf (L2.CX P w) P w K mg base ["_law_sums_here", "_law_f", "_law_found", "_law_place"] "_law_worth" (defScope s__law_worth) fa cdv A outer s H E) (fun cls d _ H => E cls d H) := takes_of rfl rfl rfl rfl
  refine ⟨_, (pss_cons (ps_set (i := 2) sc__law_worth.nd rfl (by first | exact Or.inl rfl | exact Or.inr rfl) (pe_tup (pa_cons pe_int (pa_cons pe_int pa_nil))))
    (pss_cons (ps_for (passes_of rfl) rfl (pi_range1 rfl (TX.free 95 "range" rfl) (pa_cons (pe_len K (TX.free 92 "len" rfl) (pv 1)) pa_nil)) (pg_name (i := 3) sc__law_worth.nd rfl (by first | exact Or.inl rfl | exact Or.inr rfl))
    (pss_one (ps_set (i := 2) sc__law_worth.nd rfl (by first | exact Or.inl rfl | exact Or.inr rfl) (pe_def (ok__law_plus (T := T) TX TB) (hr.mono (by decide)) (passes_call tk (fun _ _ _ _ h => h)) (pa_cons (pv 2) (pa_cons (pe_def (ok__law_times (T := T) TX TB) (hr.mono (by decide)) (passes_call tk (fun _ _ _ _ h => h)) (pa_cons (pe_ix (ix_K K) (pv 1) (pv 3) (fun _ _ => rfl)) (pa_cons (pe_ix (ix_K K) (pv 0) (pv 3) (fun _ _ => rfl)) pa_nil))) pa_nil))))))
    (pss_one (ps_ret (pv 2))))), fun c xq hK hT hE => ?_⟩
  subst hK hT
  exact (ds_seq (ds_asg (de_tup (da_cons (de_int 0) (da_cons (de_int 1) da_nil))) (dg_name 2))
    (ds_seq (ds_for (di_rng1 (da_cons (de_cb1 d1_len (dp_var 1)) da_nil)) (dg_name 3)
    (ds_asg (de_call hE (da_cons (de_var 2) (da_cons (de_call hE (da_cons (de_ixv 1 (dp_var 3)) (da_cons (de_ixv 0 (dp_var 3)) da_nil))) da_nil))) (dg_name 2)))
    (ds_retV 2)))
theorem sc__law_clean : FnScope ["_law_numbers", "_law_many"] ["_law_numbers"] (defScope s__law_clean) := ⟨rfl, rfl, rfl, by decide +kernel, rfl, by decide +kernel, by decide +kernel⟩
theorem ok__law_clean (TX : Txt bk K mg) (TB : TBs bk K mg base T P) : Def P w K mg base T "_law_clean" ["_law_numbers"] 1 F__law_clean := by
  refine TX.def_ 38 38 (st := s__law_clean) rfl rfl sc__law_clean (fun _ _ _ _ _ _ us hl => match us, hl with | [_], _ => rfl) (fun _ _ _ _ h => h.1) (fun _ _ _ _ h => h.2) fun fa cdv A outer s H E hcv hr => ?_
  have tk : Takes (cxOf (L2.CX P w) P w K mg base ["_law_numbers", "_law_many"] "_law_clean" (defScope s__law_clean) fa cdv A outer s H E) (fun cls d _ H => E cls d H) := takes_of rfl rfl rfl rfl
  refine ⟨_, (pss_cons (ps_set (i := 1) sc__law_clean.nd rfl (by first | exact Or.inl rfl | exact Or.inr rfl) (pe_len K (TX.free 92 "len" rfl) (pv 0)))
    (pss_cons (ps_while (passes_of rfl) (PW.pt (pw_and (pt_cmpR op_gt (pv 1) pe_int (nomark _)) (pw_and1 (pt_cmpR (eq_K K hr.units) (pe_ix (ix_K K) (pe_ix (ix_K K) (pv 0) (pe_op op_sub (pv 1) pe_int) (fun _ _ => rfl)) pe_int (fun _ _ => rfl)) pe_int (nomark _))))) (pss_one (ps_set (i := 1) sc__law_clean.nd rfl (by first | exact Or.inl rfl | exact Or.inr rfl) (pe_op op_sub (pv 1) pe_int))))
    (pss_one (ps_ret (pe_list K (TX.free 93 "list" rfl) (pe_slice (sl_K K) (pv 0) po_none (po_some (pv 1)))))))), fun c xq hK hT hE => ?_⟩
  subst hK hT
  exact (ds_seq (ds_asg (de_cb1 d1_len (dp_var 0)) (dg_name 1))
    (ds_seq (ds_while (dt_and (dt_test (de_opv d2_gt (DE.dp (de_int 0)))) (dt_test (de_op d2_eq (de_op d2_ix (de_ixv 0 (DE.dp (de_opv d2_sub (DE.dp (de_int 1))))) (DE.dp (de_int 0))) (DE.dp (de_int 0))))) (ds_asg (de_opv d2_sub (DE.dp (de_int 1))) (dg_name 1)))
    (ds_ret (de_cb1 d1_list (DE.dp (de_slv do_none (do_some (dp_var 1))))))))
theorem sc__law_multiplied : FnScope ["_law_f", "_law_g", "_law_found", "_law_i", "_law_j"] ["_law_f", "_law_g"] (defScope s__law_multiplied) := ⟨rfl, rfl, rfl, by decide +kernel, rfl, by decide +kernel, by decide +kernel⟩
theorem ok__law_multiplied (TX : Txt bk K mg) (TB : TBs bk K mg base T P) : Def P w K mg base T "_law_multiplied" ["_law_f", "_law_g"] 35 F__law_multiplied := by
  refine TX.def_ 39 39 (st := s__law_multiplied) rfl rfl sc__law_multiplied (fun _ _ _ _ _ _ us hl => match us, hl with | [_, _], _ => rfl) (fun _ _ _ _ h => h.1) (fun _ _ _ _ h => h.2) fun fa cdv A outer s H E hcv hr => ?_
  have tk : Takes (cxOf (L2.CX P w) P w K mg base ["_law_f", "_law_g", "_law_found", "_law_i", "_law_j"] "_law_multiplied" (defScope s__law_multiplied) fa cdv A outer s H E) (fun cls d _ H => E cls d H) := takes_of rfl rfl rfl rfl
  refine ⟨_, (pss_cons (ps_set (i := 2) sc__law_multiplied.nd rfl (by first | exact Or.inl rfl | exact Or.inr rfl) (pe_op op_rep (pe_lst (pa_cons (pe_tup (pa_cons pe_int (pa_cons pe_int pa_nil))) pa_nil)) (pe_op op_add (pe_len K (TX.free 92 "len" rfl) (pv 0)) (pe_len K (TX.free 92 "len" rfl) (pv 1)))))
    (pss_cons (ps_for (passes_of rfl) rfl (pi_range1 rfl (TX.free 95 "range" rfl) (pa_cons (pe_len K (TX.free 92 "len" rfl) (pv 0)) pa_nil)) (pg_name (i := 3) sc__law_multiplied.nd rfl (by first | exact Or.inl rfl | exact Or.inr rfl))
    (pss_one (ps_for (passes_of rfl) rfl (pi_range1 rfl (TX.free 95 "range" rfl) (pa_cons (pe_len K (TX.free 92 "len" rfl) (pv 1)) pa_nil)) (pg_name (i := 4) sc__law_multiplied.nd rfl (by first | exact Or.inl rfl | exact Or.inr rfl))
    (pss_one (ps_asg (pe_def (ok__law_plus (T := T) TX TB) (hr.mono (by decide)) (passes_call tk (fun _ _ _ _ h => h)) (pa_cons (pe_ix (ix_K K) (pv 2) (pe_op op_add (pv 3) (pv 4)) (fun _ _ => rfl)) (pa_cons (pe_def (ok__law_times (T := T) TX TB) (hr.mono (by decide)) (passes_call tk (fun _ _ _ _ h => h)) (pa_cons (pe_ix (ix_K K) (pv 0) (pv 3) (fun _ _ => rfl)) (pa_cons (pe_ix (ix_K K) (pv 1) (pv 4) (fun _ _ => rfl)) pa_nil))) pa_nil))) (pg_sub (pv 2) (pe_op op_add (pv 3) (pv 4)) set_list))))))
    (pss_one (ps_ret (pe_def (ok__law_clean (T := T) TX TB) (hr.mono (by decide)) (passes_call tk (fun _ _ _ _ h => h)) (pa_cons (pv 2) pa_nil)))))), fun c xq hK hT hE => ?_⟩
  subst hK hT
  exact (ds_seq (ds_asg (de_op d2_rep (de_lst (da_cons (de_tup (da_cons (de_int 0) (da_cons (de_int 1) da_nil))) da_nil)) (DE.dp (de_op d2_add (de_cb1 d1_len (dp_var 0)) (DE.dp (de_cb1 d1_len (dp_var 1)))))) (dg_name 2))
    (ds_seq (ds_for (di_rng1 (da_cons (de_cb1 d1_len (dp_var 0)) da_nil)) (dg_name 3)
    (ds_for (di_rng1 (da_cons (de_cb1 d1_len (dp_var 1)) da_nil)) (dg_name 4)
    (ds_asg (de_call hE (da_cons (de_ixv 2 (DE.dp (de_opv d2_add (dp_var 4)))) (da_cons (de_call hE (da_cons (de_ixv 0 (dp_var 3)) (da_cons (de_ixv 1 (dp_var 4)) da_nil))) da_nil))) (dg_sub 2 (DE.dp (de_opv d2_add (dp_var 4)))))))
    (ds_ret (de_call hE (da_cons (de_var 2) da_nil)))))
theorem sc__law_square : FnScope ["_law_sums_here", "_law_f", "_law_g"] ["_law_sums_here", "_law_f", "_law_g"] (defScope s__law_square) := ⟨rfl, rfl, rfl, by decide +kernel, rfl, by decide +kernel, by decide +kernel⟩
theorem ok__law_square (TX : Txt bk K mg) (TB : TBs bk K mg base T P) : Def P w K mg base T "_law_square" ["_law_sums_here", "_law_f", "_law_g"] 36 F__law_square := by
  refine TX.def_ 40 40 (st := s__law_square) rfl rfl sc__law_square (fun _ _ _ _ _ _ us hl => match us, hl with | [_, _, _], _ => rfl) (fun _ _ _ _ h => h.1) (fun _ _ _ _ h => h.2) fun fa cdv A outer s H E hcv hr => ?_
  have tk : Takes (cxOf (L2.CX P w) P w K mg base ["_law_sums_here", "_law_f", "_law_g"] "_law_square" (defScope s__law_square) fa cdv A outer s H E) (fun cls d _ H => E cls d H) := takes_of rfl rfl rfl rfl
  refine ⟨_, (pss_one (ps_ret (pe_def (ok__law_worth (T := T) TX TB) (hr.mono (by decide)) (passes_call tk (fun _ _ _ _ h => h)) (pa_cons (pv 0) (pa_cons (pe_def (ok__law_multiplied (T := T) TX TB) (hr.mono (by decide)) (passes_call tk (fun _ _ _ _ h => h)) (pa_cons (pv 1) (pa_cons (pv 2) pa_nil))) pa_nil))))), fun c xq hK hT hE => ?_⟩
  subst hK hT
  exact (ds_ret (de_call hE (da_cons (de_var 0) (da_cons (de_call hE (da_cons (de_var 1) (da_cons (de_var 2) da_nil))) da_nil))))
theorem sc__law_summed : FnScope ["_law_f", "_law_g", "_law_by", "_law_found", "_law_place"] ["_law_f", "_law_g", "_law_by"] (defScope s__law_summed) := ⟨rfl, rfl, rfl, by decide +kernel, rfl, by decide +kernel, by decide +kernel⟩
theorem ok__law_summed (TX : Txt bk K mg) (TB : TBs bk K mg base T P) : Def P w K mg base T "_law_summed" ["_law_f", "_law_g", "_law_by"] 35 F__law_summed := by
  refine TX.def_ 41 41 (st := s__law_summed) rfl rfl sc__law_summed (fun _ _ _ _ _ _ us hl => match us, hl with | [_, _, _], _ => rfl) (fun _ _ _ _ h => h.1) (fun _ _ _ _ h => h.2) fun fa cdv A outer s H E hcv hr => ?_
  have tk : Takes (cxOf (L2.CX P w) P w K mg base ["_law_f", "_law_g", "_law_by", "_law_found", "_law_place"] "_law_summed" (defScope s__law_summed) fa cdv A outer s H E) (fun cls d _ H => E cls d H) := takes_of rfl rfl rfl rfl
  refine ⟨_, (pss_cons (ps_set (i := 3) sc__law_summed.nd rfl (by first | exact Or.inl rfl | exact Or.inr rfl) (pe_op op_cat (pe_list K (TX.free 93 "list" rfl) (pv 0)) (pe_op op_rep (pe_lst (pa_cons (pe_tup (pa_cons pe_int (pa_cons pe_int pa_nil))) pa_nil)) (pe_max2 (TX.free 94 "max" rfl) (pa_cons pe_int (pa_cons (pe_op op_sub (pe_len K (TX.free 92 "len" rfl) (pv 1)) (pe_len K (TX.free 92 "len" rfl) (pv 0))) pa_nil))))))
    (pss_cons (ps_for (passes_of rfl) rfl (pi_range1 rfl (TX.free 95 "range" rfl) (pa_cons (pe_len K (TX.free 92 "len" rfl) (pv 1)) pa_nil)) (pg_name (i := 4) sc__law_summed.nd rfl (by first | exact Or.inl rfl | exact Or.inr rfl))
    (pss_one (ps_asg (pe_def (ok__law_plus (T := T) TX TB) (hr.mono (by decide)) (passes_call tk (fun _ _ _ _ h => h)) (pa_cons (pe_ix (ix_K K) (pv 3) (pv 4) (fun _ _ => rfl)) (pa_cons (pe_def (ok__law_times (T := T) TX TB) (hr.mono (by decide)) (passes_call tk (fun _ _ _ _ h => h)) (pa_cons (pe_ix (ix_K K) (pv 1) (pv 4) (fun _ _ => rfl)) (pa_cons (pv 2) pa_nil))) pa_nil))) (pg_sub (pv 3) (pv 4) set_list))))
    (pss_one (ps_ret (pe_def (ok__law_clean (T := T) TX TB) (hr.mono (by decide)) (passes_call tk (fun _ _ _ _ h => h)) (pa_cons (pv 3) pa_nil)))))), fun c xq hK hT hE => ?_⟩
  subst hK hT
  exact (ds_seq (ds_asg (de_op d2_cat (de_cb1 d1_list (dp_var 0)) (DE.dp (de_op d2_rep (de_lst (da_cons (de_tup (da_cons (de_int 0) (da_cons (de_int 1) da_nil))) da_nil)) (DE.dp (de_cb db_max2 (da_cons (de_int 0) (da_cons (de_op d2_sub (de_cb1 d1_len (dp_var 1)) (DE.dp (de_cb1 d1_len (dp_var 0)))) da_nil))))))) (dg_name 3))
    (ds_seq (ds_for (di_rng1 (da_cons (de_cb1 d1_len (dp_var 1)) da_nil)) (dg_name 4)
    (ds_asg (de_call hE (da_cons (de_ixv 3 (dp_var 4)) (da_cons (de_call hE (da_cons (de_ixv 1 (dp_var 4)) (da_cons (de_var 2) da_nil))) da_nil))) (dg_sub 3 (dp_var 4))))
    (ds_ret (de_call hE (da_cons (de_var 3) da_nil)))))
theorem sc__law_along : FnScope ["_law_sums_here", "_law_start", "_law_found", "_law_step", "_law_one", "_law_square_here", "_law_by"] ["_law_sums_here", "_law_start", "_law_found"] (defScope s__law_along) := ⟨rfl, rfl, rfl, by decide +kernel, rfl, by decide +kernel, by decide +kernel⟩
theorem ok__law_along (TX : Txt bk K mg) (TB : TBs bk K mg base T P) : Def P w K mg base T "_law_along" ["_law_sums_here", "_law_start", "_law_found"] 37 F__law_along := by
  refine TX.def_ 42 42 (st := s__law_along) rfl rfl sc__law_along (fun _ _ _ _ _ _ us hl => match us, hl with | [_, _, _], _ => rfl) (fun _ _ _ _ h => h.1) (fun _ _ _ _ h => h.2) fun fa cdv A outer s H E hcv hr => ?_
  have tk : Takes (cxOf (L2.CX P w) P w K mg base ["_law_sums_here", "_law_start", "_law_found", "_law_step", "_law_one", "_law_square_here", "_law_by"] "_law_along" (defScope s__law_along) fa cdv A outer s H E) (fun cls d _ H => E cls d H) := takes_of rfl rfl rfl rfl
  refine ⟨_, (pss_cons (ps_set (i := 3) sc__law_along.nd rfl (by first | exact Or.inl rfl | exact Or.inr rfl) (pe_list K (TX.free 93 "list" rfl) (pv 1)))
    (pss_cons (ps_for (passes_of rfl) rfl (it_list K (pv 2)) (tg_tup K (n := 2) (pgs_cons (pg_name (i := 4) sc__law_along.nd rfl (by first | exact Or.inl rfl | exact Or.inr rfl)) (pgs_cons (pg_name (i := 5) sc__law_along.nd rfl (by first | exact Or.inl rfl | exact Or.inr rfl)) pgs_nil)))
    (pss_cons (ps_set (i := 6) sc__law_along.nd rfl (by first | exact Or.inl rfl | exact Or.inr rfl) (pe_def (ok__law_over (T := T) TX TB) (hr.mono (by decide)) (passes_call tk (fun _ _ _ _ h => h)) (pa_cons (pe_def (ok__law_square (T := T) TX TB) (hr.mono (by decide)) (passes_call tk (fun _ _ _ _ h => h)) (pa_cons (pv 0) (pa_cons (pv 1) (pa_cons (pv 4) pa_nil)))) (pa_cons (pv 5) pa_nil))))
    (pss_one (ps_set (i := 3) sc__law_along.nd rfl (by first | exact Or.inl rfl | exact Or.inr rfl) (pe_def (ok__law_summed (T := T) TX TB) (hr.mono (by decide)) (passes_call tk (fun _ _ _ _ h => h)) (pa_cons (pv 3) (pa_cons (pv 4) (pa_cons (pe_tup (pa_cons (pe_op op_sub pe_int (pe_ix (ix_K K) (pv 6) pe_int (fun _ _ => rfl))) (pa_cons (pe_ix (ix_K K) (pv 6) pe_int (fun _ _ => rfl)) pa_nil))) pa_nil))))))))
    (pss_one (ps_ret (pv 3))))), fun c xq hK hT hE => ?_⟩
  subst hK hT
  exact (ds_seq (ds_asg (de_cb1 d1_list (dp_var 1)) (dg_name 3))
    (ds_seq (ds_for (di_list (de_var 2)) (dg_tup (dgs_cons (dg_name 4) (dgs_cons (dg_name 5) dgs_nil)))
    (ds_seq (ds_asg (de_call hE (da_cons (de_call hE (da_cons (de_var 0) (da_cons (de_var 1) (da_cons (de_var 4) da_nil)))) (da_cons (de_var 5) da_nil))) (dg_name 6))
    (ds_asg (de_call hE (da_cons (de_var 3) (da_cons (de_var 4) (da_cons (de_tup (da_cons (de_op d2_sub (de_int 0) (DE.dp (de_ixv 6 (DE.dp (de_int 0))))) (da_cons (de_ixv 6 (DE.dp (de_int 1))) da_nil))) da_nil)))) (dg_name 3))))
    (ds_retV 3)))
theorem sc__law_x : FnScope ["_law_many"] ["_law_many"] (defScope s__law_x) := ⟨rfl, rfl, rfl, by decide +kernel, rfl, by decide +kernel, by decide +kernel⟩
theorem ok__law_x (TX : Txt bk K mg) (TB : TBs bk K mg base T P) : Def P w K mg base T "_law_x" ["_law_many"] 1 F__law_x := by
  refine TX.def_ 43 43 (st := s__law_x) rfl rfl sc__law_x (fun _ _ _ _ _ _ us hl => match us, hl with | [_], _ => rfl) (fun _ _ _ _ h => h.1) (fun _ _ _ _ h => h.2) fun fa cdv A outer s H E hcv hr => ?_
  have tk : Takes (cxOf (L2.CX P w) P w K mg base ["_law_many"] "_law_x" (defScope s__law_x) fa cdv A outer s H E) (fun cls d _ H => E cls d H) := takes_of rfl rfl rfl rfl
  refine ⟨_, (pss_one (ps_ret (pe_op op_cat (pe_op op_rep (pe_lst (pa_cons (pe_tup (pa_cons pe_int (pa_cons pe_int pa_nil))) pa_nil)) (pv 0)) (pe_lst (pa_cons (pe_tup (pa_cons pe_int (pa_cons pe_int pa_nil))) pa_nil))))), fun c xq hK hT hE => ?_⟩
  subst hK hT
  exact (ds_ret (de_op d2_cat (de_op d2_rep (de_lst (da_cons (de_tup (da_cons (de_int 0) (da_cons (de_int 1) da_nil))) da_nil)) (dp_var 0)) (DE.dp (de_lst (da_cons (de_tup (da_cons (de_int 1) (da_cons (de_int 1) da_nil))) da_nil)))))
theorem sc__law_steps : FnScope ["_law_sums_here", "_law_found", "_law_step"] ["_law_sums_here"] (defScope s__law_steps) := ⟨rfl, rfl, rfl, by decide +kernel, rfl, by decide +kernel, by decide +kernel⟩
theorem ok__law_steps (TX : Txt bk K mg) (TB : TBs bk K mg base T P) : Def P w K mg base T "_law_steps" ["_law_sums_here"] 38 F__law_steps := by
  refine TX.def_ 44 44 (st := s__law_steps) rfl rfl sc__law_steps (fun _ _ _ _ _ _ us hl => match us, hl with | [_], _ => rfl) (fun _ _ _ _ h => h.1) (fun _ _ _ _ h => h.2) fun fa cdv A outer s H E hcv hr => ?_
  have tk : Takes (cxOf (L2.CX P w) P w K mg base ["_law_sums_here", "_law_found", "_law_step"] "_law_steps" (defScope s__law_steps) fa cdv A outer s H E) (fun cls d _ H => E cls d H) := takes_of rfl rfl rfl rfl
  refine ⟨_, (pss_cons (ps_set (i := 1) sc__law_steps.nd rfl (by first | exact Or.inl rfl | exact Or.inr rfl) (pe_lst pa_nil))
    (pss_cons (ps_while (passes_of rfl) (PW.pt (pw_and (pt_cmpR op_lt (pe_op op_mulX pe_int (pe_len K (TX.free 92 "len" rfl) (pv 1))) (pe_len K (TX.free 92 "len" rfl) (pv 0)) (nomark _)) (pw_and1 (PW.pt (pw_or (pt_cmpR (eqE_K K hr.units) (pv 1) (pe_lst pa_nil) (nomark _)) (pw_or1 (pt_cmpR op_gt (pe_ix (ix_K K) (pe_ix (ix_K K) (pe_ix (ix_K K) (pv 1) (pe_un un_neg pe_int) (fun _ _ => rfl)) pe_int (fun _ _ => rfl)) pe_int (fun _ _ => rfl)) pe_int (nomark _)))))))) (pss_cons (ps_set (i := 2) sc__law_steps.nd rfl (by first | exact Or.inl rfl | exact Or.inr rfl) (pe_def (ok__law_along (T := T) TX TB) (hr.mono (by decide)) (passes_call tk (fun _ _ _ _ h => h)) (pa_cons (pv 0) (pa_cons (pe_def (ok__law_x (T := T) TX TB) (hr.mono (by decide)) (passes_call tk (fun _ _ _ _ h => h)) (pa_cons (pe_len K (TX.free 92 "len" rfl) (pv 1)) pa_nil)) (pa_cons (pv 1) pa_nil)))))
    (pss_one (ps_expr (pe_app K (pv 1) (pa_cons (pe_tup (pa_cons (pv 2) (pa_cons (pe_def (ok__law_square (T := T) TX TB) (hr.mono (by decide)) (passes_call tk (fun _ _ _ _ h => h)) (pa_cons (pv 0) (pa_cons (pv 2) (pa_cons (pv 2) pa_nil)))) pa_nil))) pa_nil))))))
    (pss_one (ps_ret (pv 1))))), fun c xq hK hT hE => ?_⟩
  subst hK hT
  exact (ds_seq (ds_asg (de_lst da_nil) (dg_name 1))
    (ds_seq (ds_while (dt_and (dt_test (de_op d2_lt (de_op d2_mul (de_int 2) (DE.dp (de_cb1 d1_len (dp_var 1)))) (DE.dp (de_cb1 d1_len (dp_var 0))))) (dt_or (dt_test (de_opv d2_eqE (DE.dp (de_lst da_nil)))) (dt_test (de_op d2_gt (de_op d2_ix (de_op d2_ix (de_ixv 1 (DE.dp (de_un d1_neg (DE.dp (de_int 1))))) (DE.dp (de_int 1))) (DE.dp (de_int 0))) (DE.dp (de_int 0)))))) (ds_seq (ds_asg (de_callF hE (dab_var 0 (dab_cons (de_call hE (da_cons (de_cb1 d1_len (dp_var 1)) da_nil)) (dab_var 1 dab_nil)))) (dg_name 2))
    (ds_app 1 (de_tup (da_cons (de_var 2) (da_cons (de_call hE (da_cons (de_var 0) (da_cons (de_var 2) (da_cons (de_var 2) da_nil)))) da_nil))))))
    (ds_retV 1)))
theorem sc__law_kind : FnScope ["_law_sums_here", "_law_last", "_law_square_here", "_law_many"] ["_law_sums_here"] (defScope s__law_kind) := ⟨rfl, rfl, rfl, by decide +kernel, rfl, by decide +kernel, by decide +kernel⟩
theorem ok__law_kind (TX : Txt bk K mg) (TB : TBs bk K mg base T P) : Def P w K mg base T "_law_kind" ["_law_sums_here"] 39 F__law_kind := by
  refine TX.def_ 45 45 (st := s__law_kind) rfl rfl sc__law_kind (fun _ _ _ _ _ _ us hl => match us, hl with | [_], _ => rfl) (fun _ _ _ _ h => h.1) (fun _ _ _ _ h => h.2) fun fa cdv A outer s H E hcv hr => ?_
  have tk : Takes (cxOf (L2.CX P w) P w K mg base ["_law_sums_here", "_law_last", "_law_square_here", "_law_many"] "_law_kind" (defScope s__law_kind) fa cdv A outer s H E) (fun cls d _ H => E cls d H) := takes_of rfl rfl rfl rfl
  refine ⟨_, (pss_cons (ps_asg (pe_ix (ix_K K) (pe_def (ok__law_steps (T := T) TX TB) (hr.mono (by decide)) (passes_call tk (fun _ _ _ _ h => h)) (pa_cons (pv 0) pa_nil)) (pe_un un_neg pe_int) (fun _ _ => rfl)) (tg_tup K (n := 2) (pgs_cons (pg_name (i := 1) sc__law_kind.nd rfl (by first | exact Or.inl rfl | exact Or.inr rfl)) (pgs_cons (pg_name (i := 2) sc__law_kind.nd rfl (by first | exact Or.inl rfl | exact Or.inr rfl)) pgs_nil))))
    (pss_cons (ps_if (pt_cmpR op_gt (pe_ix (ix_K K) (pv 2) pe_int (fun _ _ => rfl)) pe_int (nomark _)) (pss_one (ps_ret pe_str)) pss_nil)
    (pss_cons (ps_for (passes_of rfl) rfl (pi_range1 rfl (TX.free 95 "range" rfl) (pa_cons (pe_op op_add (pe_op op_sub (pe_len K (TX.free 92 "len" rfl) (pv 0)) (pe_len K (TX.free 92 "len" rfl) (pv 1))) pe_int) pa_nil)) (pg_name (i := 3) sc__law_kind.nd rfl (by first | exact Or.inl rfl | exact Or.inr rfl))
    (pss_one (ps_if (pt_cmpR (ne_K K hr.units) (pe_ix (ix_K K) (pe_def (ok__law_worth (T := T) TX TB) (hr.mono (by decide)) (passes_call tk (fun _ _ _ _ h => h)) (pa_cons (pv 0) (pa_cons (pe_op op_cat (pe_op op_rep (pe_lst (pa_cons (pe_tup (pa_cons pe_int (pa_cons pe_int pa_nil))) pa_nil)) (pv 3)) (pv 1)) pa_nil))) pe_int (fun _ _ => rfl)) pe_int (nomark _)) (pss_one (ps_ret pe_str)) pss_nil)))
    (pss_one (ps_ret pe_str))))), fun c xq hK hT hE => ?_⟩
  subst hK hT
  exact (ds_seq (ds_asg (de_op d2_ix (de_call hE (da_cons (de_var 0) da_nil)) (DE.dp (de_un d1_neg (DE.dp (de_int 1))))) (dg_tup (dgs_cons (dg_name 1) (dgs_cons (dg_name 2) dgs_nil))))
    (ds_seq (ds_if (dt_test (de_op d2_gt (de_ixv 2 (DE.dp (de_int 0))) (DE.dp (de_int 0)))) (ds_ret (de_str "open")) ds_next)
    (ds_seq (ds_for (di_rng1 (da_cons (de_op d2_add (de_op d2_sub (de_cb1 d1_len (dp_var 0)) (DE.dp (de_cb1 d1_len (dp_var 1)))) (DE.dp (de_int 1))) da_nil)) (dg_name 3)
    (ds_if (dt_test (de_op d2_ne (de_op d2_ix (de_call hE (da_cons (de_var 0) (da_cons (de_op d2_cat (de_op d2_rep (de_lst (da_cons (de_tup (da_cons (de_int 0) (da_cons (de_int 1) da_nil))) da_nil)) (dp_var 3)) (dp_var 1)) da_nil))) (DE.dp (de_int 0))) (DE.dp (de_int 0)))) (ds_ret (de_str "none")) ds_next))
    (ds_ret (de_str "tight")))))
theorem sc__law_refused : FnScope nRef ["_law_call"] (defScope s__law_refused) := ⟨rfl, rfl, rfl, by decide +kernel, rfl, by decide +kernel, by decide +kernel⟩
theorem giv_ref {X : Cx} (TX : Txt bk X.K X.mg) (cdg : Value) (q : Str) : LamX.GivesTo X nRef "_law_refused" (defScope s__law_refused) (He.ga X.K "_law_refused") cdg (defBody s__law_refused) "_law_call" q (TTref X.K T) := by
  have E : ErrF X.K := errB_ok TX.ck
  refine gives_ref E rfl rfl rfl (TX.glo 70 "MomentError" rfl) bref_exc bref_non (fun c hK hT => ?_) (fun s H =>
    (pss_cons (ps_set (i := 3) sc__law_refused.nd rfl (by first | exact Or.inl rfl | exact Or.inr rfl) (pe_lst (pa_cons (pe_isErr X.K (.ref (He.ga X.K "NoFraction")) (TX.free 100 "isinstance" rfl) (pv 1) (pe_glob (v := .ref (He.ga X.K "NoFraction")) rfl (TX.glo 71 "NoFraction" rfl) rfl)) (pa_cons (pe_isErr X.K (.ref (He.ga X.K "NoPolynomial")) (TX.free 100 "isinstance" rfl) (pv 1) (pe_glob (v := .ref (He.ga X.K "NoPolynomial")) rfl (TX.glo 72 "NoPolynomial" rfl) rfl)) (pa_cons (pe_isErr X.K (.ref (He.ga X.K "NoSums")) (TX.free 100 "isinstance" rfl) (pv 1) (pe_glob (v := .ref (He.ga X.K "NoSums")) rfl (TX.glo 73 "NoSums" rfl) rfl)) pa_nil)))))
    (pss_cons (ps_set (i := 3) sc__law_refused.nd rfl (by first | exact Or.inl rfl | exact Or.inr rfl) (pe_op op_cat (pv 3) (pe_lst (pa_cons (pe_isErr X.K (.ref (He.ga X.K "NoFlock")) (TX.free 100 "isinstance" rfl) (pv 1) (pe_glob (v := .ref (He.ga X.K "NoFlock")) rfl (TX.glo 74 "NoFlock" rfl) rfl)) (pa_cons (pe_isErr X.K (.ref (He.ga X.K "NoWalk")) (TX.free 100 "isinstance" rfl) (pv 1) (pe_glob (v := .ref (He.ga X.K "NoWalk")) rfl (TX.glo 75 "NoWalk" rfl) rfl)) (pa_cons (pe_isErr X.K (.ref (He.ga X.K "NoSum")) (TX.free 100 "isinstance" rfl) (pv 1) (pe_glob (v := .ref (He.ga X.K "NoSum")) rfl (TX.glo 76 "NoSum" rfl) rfl)) pa_nil))))))
    (pss_cons (ps_set (i := 3) sc__law_refused.nd rfl (by first | exact Or.inl rfl | exact Or.inr rfl) (pe_op op_cat (pv 3) (pe_lst (pa_cons (pe_isErr X.K (.ref (He.ga X.K "NoDeed")) (TX.free 100 "isinstance" rfl) (pv 1) (pe_glob (v := .ref (He.ga X.K "NoDeed")) rfl (TX.glo 77 "NoDeed" rfl) rfl)) (pa_cons (pe_isErr X.K (.ref (He.ga X.K "NoText")) (TX.free 100 "isinstance" rfl) (pv 1) (pe_glob (v := .ref (He.ga X.K "NoText")) rfl (TX.glo 78 "NoText" rfl) rfl)) (pa_cons (pe_isErr X.K (.ref (He.ga X.K "NoRow")) (TX.free 100 "isinstance" rfl) (pv 1) (pe_glob (v := .ref (He.ga X.K "NoRow")) rfl (TX.glo 79 "NoRow" rfl) rfl)) pa_nil))))))
    (pss_cons (ps_if (pt_not (pt_val (pe_isErr X.K (.type "ValueError") (TX.free 100 "isinstance" rfl) (pv 1) (pe_ty (s := "ValueError") (TX.free 101 "ValueError" rfl) rfl rfl)))) (pss_one (ps_ret pe_non)) pss_nil)
    (pss_one (ps_ret (pe_lc (own := [("_law_k", 4)]) rfl sc__law_refused.nd (pi_range1 rfl (TX.free 95 "range" rfl) (pa_cons pe_int pa_nil)) (blkOk_by (by kernel_rfl)) (fun _ _ _ _ _ => (pg_name (i := 4) sc__law_refused.nd rfl (by first | exact Or.inl rfl | exact Or.inr rfl))) (fun _ _ _ _ _ => (pts_one (pt_val (pe_ix (ix_K X.K) (pv 3) (pv 4) (fun _ _ => rfl))))) (fun _ _ _ _ _ => (pv 4))))))))))
  rw [← hK] at E ⊢
  exact (ds_seq (ds_asg (de_lst (da_cons (de_isE E (by decide)) (da_cons (de_isE E (by decide)) (da_cons (de_isE E (by decide)) da_nil)))) (dg_name 3))
    (ds_seq (ds_asg (de_opv d2_cat (DE.dp (de_lst (da_cons (de_isE E (by decide)) (da_cons (de_isE E (by decide)) (da_cons (de_isE E (by decide)) da_nil)))))) (dg_name 3))
    (ds_seq (ds_asg (de_opv d2_cat (DE.dp (de_lst (da_cons (de_isE E (by decide)) (da_cons (de_isE E (by decide)) (da_cons (de_isE E (by decide)) da_nil)))))) (dg_name 3))
    (ds_seq (ds_if (dt_not (dt_B (de_isV E))) (ds_ret de_non) ds_next)
    (ds_ret (de_comp (vs := [4]) (di_rng1 (da_cons (de_int 9) da_nil)) (fun _ => (dg_name 4)) (fun _ => (dt_B (de_ixv 3 (dp_var 4)))) (fun _ => (de_var 4)) (gw_name (by simp))))))))
theorem sc__law_whole : FnScope ["_law_thing"] ["_law_thing"] (defScope s__law_whole) := ⟨rfl, rfl, rfl, by decide +kernel, rfl, by decide +kernel, by decide +kernel⟩
theorem ok__law_whole (TX : Txt bk K mg) (TB : TBs bk K mg base T P) : Def P w K mg base T "_law_whole" ["_law_thing"] 1 F__law_whole := by
  refine TX.def_ 47 47 (st := s__law_whole) rfl rfl sc__law_whole (fun _ _ _ _ _ _ us hl => match us, hl with | [_], _ => rfl) (fun _ _ _ _ h => h.1) (fun _ _ _ _ h => h.2) fun fa cdv A outer s H E hcv hr => ?_
  have tk : Takes (cxOf (L2.CX P w) P w K mg base ["_law_thing"] "_law_whole" (defScope s__law_whole) fa cdv A outer s H E) (fun cls d _ H => E cls d H) := takes_of rfl rfl rfl rfl
  refine ⟨_, (pss_one (ps_ret (pe_and (pe_isi K (TX.free 100 "isinstance" rfl) (TX.free 91 "int" rfl) PyProof.Rows.boot_int (pv 0)) (pe_one (pe_not (pe_isi K (TX.free 100 "isinstance" rfl) (TX.free 102 "bool" rfl) PyProof.Rows.boot_bool (pv 0))))))), fun c xq hK hT hE => ?_⟩
  subst hK hT
  exact (ds_ret (de_andV (de_isi .int (dp_var 0)) (de_notV (de_isi .bool (dp_var 0)))))
theorem sc__law_is_fraction : FnScope ["_law_thing"] ["_law_thing"] (defScope s__law_is_fraction) := ⟨rfl, rfl, rfl, by decide +kernel, rfl, by decide +kernel, by decide +kernel⟩
theorem ok__law_is_fraction (TX : Txt bk K mg) (TB : TBs bk K mg base T P) : Def P w K mg base T "_law_is_fraction" ["_law_thing"] 2 F__law_is_fraction := by
  refine TX.def_ 48 48 (st := s__law_is_fraction) rfl rfl sc__law_is_fraction (fun _ _ _ _ _ _ us hl => match us, hl with | [_], _ => rfl) (fun _ _ _ _ h => h.1) (fun _ _ _ _ h => h.2) fun fa cdv A outer s H E hcv hr => ?_
  have tk : Takes (cxOf (L2.CX P w) P w K mg base ["_law_thing"] "_law_is_fraction" (defScope s__law_is_fraction) fa cdv A outer s H E) (fun cls d _ H => E cls d H) := takes_of rfl rfl rfl rfl
  refine ⟨_, (pss_cons (ps_if (PW.pt (pw_or (pt_not (pt_val (pe_isi K (TX.free 100 "isinstance" rfl) (TX.free 103 "tuple" rfl) PyProof.Rows.boot_tuple (pv 0)))) (pw_or (pt_cmpR (ne_K K hr.units) (pe_len K (TX.free 92 "len" rfl) (pv 0)) pe_int (nomark _)) (pw_or (pt_not (pt_val (pe_def (ok__law_whole (T := T) TX TB) (hr.mono (by decide)) (passes_call tk (fun _ _ _ _ h => h)) (pa_cons (pe_ix (ix_K K) (pv 0) pe_int (fun _ _ => rfl)) pa_nil)))) (pw_or1 (pt_not (pt_val (pe_def (ok__law_whole (T := T) TX TB) (hr.mono (by decide)) (passes_call tk (fun _ _ _ _ h => h)) (pa_cons (pe_ix (ix_K K) (pv 0) pe_int (fun _ _ => rfl)) pa_nil))))))))) (pss_one (ps_ret pe_bl)) pss_nil)
    (pss_one (ps_ret (pe_and (pe_cmpR op_gt (pe_ix (ix_K K) (pv 0) pe_int (fun _ _ => rfl)) pe_int (nomark _)) (pe_one (pe_cmpR (eq_K K hr.units) (pe_def (ok__law_divisor (T := T) TX TB) (hr.mono (by decide)) (passes_call tk (fun _ _ _ _ h => h)) (pa_cons (pe_ix (ix_K K) (pv 0) pe_int (fun _ _ => rfl)) (pa_cons (pe_ix (ix_K K) (pv 0) pe_int (fun _ _ => rfl)) pa_nil))) pe_int (nomark _))))))), fun c xq hK hT hE => ?_⟩
  subst hK hT
  exact (ds_seq (ds_if (dt_or (dt_not (dt_B (de_isi .tuple (dp_var 0)))) (dt_or (dt_test (de_op d2_ne (de_cb1 d1_len (dp_var 0)) (DE.dp (de_int 2)))) (dt_or (dt_not (dt_B (de_call hE (da_cons (de_ixv 0 (DE.dp (de_int 0))) da_nil)))) (dt_not (dt_B (de_call hE (da_cons (de_ixv 0 (DE.dp (de_int 1))) da_nil))))))) (ds_ret (de_bl false)) ds_next)
    (ds_ret (de_andV (de_op d2_gt (de_ixv 0 (DE.dp (de_int 1))) (DE.dp (de_int 0))) (de_op d2_eq (de_call hE (da_cons (de_ixv 0 (DE.dp (de_int 0))) (da_cons (de_ixv 0 (DE.dp (de_int 1))) da_nil))) (DE.dp (de_int 1))))))
theorem sc__law_is_polynomial : FnScope ["_law_thing", "_law_one"] ["_law_thing"] (defScope s__law_is_polynomial) := ⟨rfl, rfl, rfl, by decide +kernel, rfl, by decide +kernel, by decide +kernel⟩
theorem ok__law_is_polynomial (TX : Txt bk K mg) (TB : TBs bk K mg base T P) : Def P w K mg base T "_law_is_polynomial" ["_law_thing"] 3 F__law_is_polynomial := by
  refine TX.def_ 49 49 (st := s__law_is_polynomial) rfl rfl sc__law_is_polynomial (fun _ _ _ _ _ _ us hl => match us, hl with | [_], _ => rfl) (fun _ _ _ _ h => h.1) (fun _ _ _ _ h => h.2) fun fa cdv A outer s H E hcv hr => ?_
  have tk : Takes (cxOf (L2.CX P w) P w K mg base ["_law_thing", "_law_one"] "_law_is_polynomial" (defScope s__law_is_polynomial) fa cdv A outer s H E) (fun cls d _ H => E cls d H) := takes_of rfl rfl rfl rfl
  refine ⟨_, (pss_cons (ps_if (PW.pt (pw_or (pt_not (pt_val (pe_isi K (TX.free 100 "isinstance" rfl) (TX.free 93 "list" rfl) PyProof.Rows.boot_list (pv 0)))) (pw_or1 (pt_cmpR (neE_K K hr.units) (pe_lc (own := [("_law_one", 1)]) rfl sc__law_is_polynomial.nd (it_list K (pv 0)) (blkOk_by (by kernel_rfl)) (fun _ _ _ _ _ => (pg_name (i := 1) sc__law_is_polynomial.nd rfl (by first | exact Or.inl rfl | exact Or.inr rfl))) (fun _ _ _ _ _ => (pts_one (pt_not (pt_val (pe_def (ok__law_is_fraction (T := T) TX TB) (hr.mono (by decide)) passL (pa_cons (pv 1) pa_nil)))))) (fun _ _ _ _ _ => (pv 1))) (pe_lst pa_nil) (nomark _))))) (pss_one (ps_ret pe_bl)) pss_nil)
    (pss_one (ps_ret (pe_or (pe_cmpR (eqE_K K hr.units) (pv 0) (pe_lst pa_nil) (nomark _)) (pe_one (pe_cmpR (ne_K K hr.units) (pe_ix (ix_K K) (pv 0) (pe_un un_neg pe_int) (fun _ _ => rfl)) (pe_tup (pa_cons pe_int (pa_cons pe_int pa_nil))) (nomark _))))))), fun c xq hK hT hE => ?_⟩
  subst hK hT
  exact (ds_seq (ds_if (dt_or (dt_not (dt_B (de_isi .list (dp_var 0)))) (dt_test (de_op d2_neE (de_comp (vs := [1]) (di_list (de_var 0)) (fun _ => (dg_name 1)) (fun _ => (dt_not (dt_B (de_callB eok0 (dab_var 1 dab_nil))))) (fun _ => (de_var 1)) (gw_name (by simp))) (DE.dp (de_lst da_nil))))) (ds_ret (de_bl false)) ds_next)
    (ds_ret (de_orV (de_opv d2_eqE (DE.dp (de_lst da_nil))) (de_op d2_ne (de_ixv 0 (DE.dp (de_un d1_neg (DE.dp (de_int 1))))) (DE.dp (de_tup (da_cons (de_int 0) (da_cons (de_int 1) da_nil))))))))
theorem sc__law_same : FnScope ["_law_found", "_law_due", "_law_one", "_law_other"] ["_law_found", "_law_due"] (defScope s__law_same) := ⟨rfl, rfl, rfl, by decide +kernel, rfl, by decide +kernel, by decide +kernel⟩
theorem ok__law_same_ (TX : Txt bk K mg) (TB : TBs bk K mg base T P) : ∀ n : Nat, Def P w K mg base T "_law_same" ["_law_found", "_law_due"] (n + 0) (F__law_same_ n)
  | 0 => (TX.def0 50 50 (st := s__law_same) rfl rfl (fun _ _ _ _ _ _ us hl => match us, hl with | [_, _], _ => rfl)).mono (Nat.zero_le _)
  | n + 1 => by
    have self := ok__law_same_ TX TB n
    have e : n + 1 + 0 = (n + 0) + 1 := by omega
    rw [e]
    refine TX.def_ 50 50 (st := s__law_same) rfl rfl sc__law_same (fun _ _ _ _ _ _ us hl => match us, hl with | [_, _], _ => rfl) (fun _ _ _ _ h => h.1) (fun _ _ _ _ h => h.2) fun fa cdv A outer s H E hcv hr => ?_
    have tk : Takes (cxOf (L2.CX P w) P w K mg base ["_law_found", "_law_due", "_law_one", "_law_other"] "_law_same" (defScope s__law_same) fa cdv A outer s H E) (fun cls d _ H => E cls d H) := takes_of rfl rfl rfl rfl
    refine ⟨_, (pss_cons (ps_if (pt_val (pe_isi2 K (TX.free 100 "isinstance" rfl) (TX.free 103 "tuple" rfl) PyProof.Rows.boot_tuple (TX.free 93 "list" rfl) PyProof.Rows.boot_list (pv 1))) (pss_cons (ps_if (PW.pt (pw_or (pt_cmpR (ne_K K hr.units) (pe_isi K (TX.free 100 "isinstance" rfl) (TX.free 103 "tuple" rfl) PyProof.Rows.boot_tuple (pv 0)) (pe_isi K (TX.free 100 "isinstance" rfl) (TX.free 103 "tuple" rfl) PyProof.Rows.boot_tuple (pv 1)) (nomark _)) (pw_or1 (pt_cmpR (ne_K K hr.units) (pe_isi K (TX.free 100 "isinstance" rfl) (TX.free 93 "list" rfl) PyProof.Rows.boot_list (pv 0)) (pe_isi K (TX.free 100 "isinstance" rfl) (TX.free 93 "list" rfl) PyProof.Rows.boot_list (pv 1)) (nomark _))))) (pss_one (ps_ret pe_bl)) pss_nil)
    (pss_cons (ps_if (pt_cmpR (ne_K K hr.units) (pe_len K (TX.free 92 "len" rfl) (pv 0)) (pe_len K (TX.free 92 "len" rfl) (pv 1)) (nomark _)) (pss_one (ps_ret pe_bl)) pss_nil)
    (pss_one (ps_ret (pe_all K (TX.free 104 "all" rfl) (pe_lc (own := [("_law_one", 2), ("_law_other", 3)]) rfl sc__law_same.nd (it_zip K (TX.free 99 "zip" rfl) (pa_cons (pv 0) (pa_cons (pv 1) pa_nil))) (blkOk_by (by kernel_rfl)) (fun _ _ _ _ _ => (tg_tup K (n := 2) (pgs_cons (pg_name (i := 2) sc__law_same.nd rfl (by first | exact Or.inl rfl | exact Or.inr rfl)) (pgs_cons (pg_name (i := 3) sc__law_same.nd rfl (by first | exact Or.inl rfl | exact Or.inr rfl)) pgs_nil)))) (fun _ _ _ _ _ => pts_nil) (fun _ _ _ _ _ => (pe_def self (hr.mono (by omega)) passL (pa_cons (pv 2) (pa_cons (pv 3) pa_nil)))))))))) pss_nil)
    (pss_one (ps_ret (pe_and (pe_cmpR (eq_K K hr.units) (pv 0) (pv 1) (nomark _)) (pe_one (pe_cmpR (eq_K K hr.units) (pe_isi K (TX.free 100 "isinstance" rfl) (TX.free 102 "bool" rfl) PyProof.Rows.boot_bool (pv 0)) (pe_isi K (TX.free 100 "isinstance" rfl) (TX.free 102 "bool" rfl) PyProof.Rows.boot_bool (pv 1)) (nomark _))))))), fun c xq hK hT hE => ?_⟩
    subst hK hT
    exact (ds_seq (ds_if (dt_B (de_isi2 .tuple .list (dp_var 1))) (ds_seq (ds_if (dt_or (dt_test (de_op d2_ne (de_isi .tuple (dp_var 0)) (DE.dp (de_isi .tuple (dp_var 1))))) (dt_test (de_op d2_ne (de_isi .list (dp_var 0)) (DE.dp (de_isi .list (dp_var 1)))))) (ds_ret (de_bl false)) ds_next)
    (ds_seq (ds_if (dt_test (de_op d2_ne (de_cb1 d1_len (dp_var 0)) (DE.dp (de_cb1 d1_len (dp_var 1))))) (ds_ret (de_bl false)) ds_next)
    (ds_ret (de_cb1 d1_all (DE.dp (de_comp (vs := [2, 3]) (di_zip (da_cons (de_var 0) (da_cons (de_var 1) da_nil))) (fun _ => (dg_tup (dgs_cons (dg_name 2) (dgs_cons (dg_name 3) dgs_nil)))) (fun _ => dt_yes) (fun _ => (de_callB eok0 (dab_var 2 (dab_var 3 dab_nil)))) (gw_tup2 (by simp) (by simp)))))))) ds_next)
    (ds_ret (de_andV (de_opv d2_eq (dp_var 1)) (de_op d2_eq (de_isi .bool (dp_var 0)) (DE.dp (de_isi .bool (dp_var 1)))))))
theorem ok__law_same (TX : Txt bk K mg) (TB : TBs bk K mg base T P) : Def P w K mg base T "_law_same" ["_law_found", "_law_due"] 12 F__law_same := ok__law_same_ TX TB 12
theorem sc__law_number_at : FnScope ["_law_f", "_law_x_here", "_law_found", "_law_one"] ["_law_f", "_law_x_here"] (defScope s__law_number_at) := ⟨rfl, rfl, rfl, by decide +kernel, rfl, by decide +kernel, by decide +kernel⟩
theorem ok__law_number_at (TX : Txt bk K mg) (TB : TBs bk K mg base T P) : Def P w K mg base T "_law_number_at" ["_law_f", "_law_x_here"] 35 F__law_number_at := by
  refine TX.def_ 51 51 (st := s__law_number_at) rfl rfl sc__law_number_at (fun _ _ _ _ _ _ us hl => match us, hl with | [_, _], _ => rfl) (fun _ _ _ _ h => h.1) (fun _ _ _ _ h => h.2) fun fa cdv A outer s H E hcv hr => ?_
  have tk : Takes (cxOf (L2.CX P w) P w K mg base ["_law_f", "_law_x_here", "_law_found", "_law_one"] "_law_number_at" (defScope s__law_number_at) fa cdv A outer s H E) (fun cls d _ H => E cls d H) := takes_of rfl rfl rfl rfl
  refine ⟨_, (pss_cons (ps_set (i := 2) sc__law_number_at.nd rfl (by first | exact Or.inl rfl | exact Or.inr rfl) (pe_tup (pa_cons pe_int (pa_cons pe_int pa_nil))))
    (pss_cons (ps_for (passes_of rfl) rfl (it_list K (pe_revK K (pv 0))) (pg_name (i := 3) sc__law_number_at.nd rfl (by first | exact Or.inl rfl | exact Or.inr rfl))
    (pss_one (ps_set (i := 2) sc__law_number_at.nd rfl (by first | exact Or.inl rfl | exact Or.inr rfl) (pe_def (ok__law_plus (T := T) TX TB) (hr.mono (by decide)) (passes_call tk (fun _ _ _ _ h => h)) (pa_cons (pe_def (ok__law_times (T := T) TX TB) (hr.mono (by decide)) (passes_call tk (fun _ _ _ _ h => h)) (pa_cons (pv 2) (pa_cons (pv 1) pa_nil))) (pa_cons (pv 3) pa_nil))))))
    (pss_one (ps_ret (pv 2))))), fun c xq hK hT hE => ?_⟩
  subst hK hT
  exact (ds_seq (ds_asg (de_tup (da_cons (de_int 0) (da_cons (de_int 1) da_nil))) (dg_name 2))
    (ds_seq (ds_for (di_list (de_revL (dp_var 0))) (dg_name 3)
    (ds_asg (de_call hE (da_cons (de_call hE (da_cons (de_var 2) (da_cons (de_var 1) da_nil))) (da_cons (de_var 3) da_nil))) (dg_name 2)))
    (ds_retV 2)))
theorem sc__law_least : FnScope ["_law_sums_here", "_law_spot", "_law_some", "_law_amount", "_law_step", "_law_square_here", "_law_one"] ["_law_sums_here", "_law_spot"] (defScope s__law_least) := ⟨rfl, rfl, rfl, by decide +kernel, rfl, by decide +kernel, by decide +kernel⟩
theorem ok__law_least (TX : Txt bk K mg) (TB : TBs bk K mg base T P) : Def P w K mg base T "_law_least" ["_law_sums_here", "_law_spot"] 39 F__law_least := by
  refine TX.def_ 52 52 (st := s__law_least) rfl rfl sc__law_least (fun _ _ _ _ _ _ us hl => match us, hl with | [_, _], _ => rfl) (fun _ _ _ _ h => h.1) (fun _ _ _ _ h => h.2) fun fa cdv A outer s H E hcv hr => ?_
  have tk : Takes (cxOf (L2.CX P w) P w K mg base ["_law_sums_here", "_law_spot", "_law_some", "_law_amount", "_law_step", "_law_square_here", "_law_one"] "_law_least" (defScope s__law_least) fa cdv A outer s H E) (fun cls d _ H => E cls d H) := takes_of rfl rfl rfl rfl
  refine ⟨_, (pss_cons (ps_set (i := 2) sc__law_least.nd rfl (by first | exact Or.inl rfl | exact Or.inr rfl) (pe_def (ok__law_steps (T := T) TX TB) (hr.mono (by decide)) (passes_call tk (fun _ _ _ _ h => h)) (pa_cons (pv 0) pa_nil)))
    (pss_cons (ps_if (pt_cmpR (eq_K K hr.units) (pe_ix (ix_K K) (pe_ix (ix_K K) (pe_ix (ix_K K) (pv 2) (pe_un un_neg pe_int) (fun _ _ => rfl)) pe_int (fun _ _ => rfl)) pe_int (fun _ _ => rfl)) pe_int (nomark _)) (pss_cons (ps_if (pt_cmpR (ne_K K hr.units) (pe_ix (ix_K K) (pe_def (ok__law_number_at (T := T) TX TB) (hr.mono (by decide)) (passes_call tk (fun _ _ _ _ h => h)) (pa_cons (pe_ix (ix_K K) (pe_ix (ix_K K) (pv 2) (pe_un un_neg pe_int) (fun _ _ => rfl)) pe_int (fun _ _ => rfl)) (pa_cons (pv 1) pa_nil))) pe_int (fun _ _ => rfl)) pe_int (nomark _)) (pss_one (ps_ret (pe_tup (pa_cons pe_int (pa_cons pe_int pa_nil))))) pss_nil)
    (pss_one (ps_set (i := 2) sc__law_least.nd rfl (by first | exact Or.inl rfl | exact Or.inr rfl) (pe_slice (sl_K K) (pv 2) po_none (po_some (pe_un un_neg pe_int)))))) pss_nil)
    (pss_cons (ps_set (i := 3) sc__law_least.nd rfl (by first | exact Or.inl rfl | exact Or.inr rfl) (pe_tup (pa_cons pe_int (pa_cons pe_int pa_nil))))
    (pss_cons (ps_for (passes_of rfl) rfl (it_list K (pv 2)) (tg_tup K (n := 2) (pgs_cons (pg_name (i := 4) sc__law_least.nd rfl (by first | exact Or.inl rfl | exact Or.inr rfl)) (pgs_cons (pg_name (i := 5) sc__law_least.nd rfl (by first | exact Or.inl rfl | exact Or.inr rfl)) pgs_nil)))
    (pss_cons (ps_set (i := 6) sc__law_least.nd rfl (by first | exact Or.inl rfl | exact Or.inr rfl) (pe_def (ok__law_number_at (T := T) TX TB) (hr.mono (by decide)) (passes_call tk (fun _ _ _ _ h => h)) (pa_cons (pv 4) (pa_cons (pv 1) pa_nil))))
    (pss_one (ps_set (i := 3) sc__law_least.nd rfl (by first | exact Or.inl rfl | exact Or.inr rfl) (pe_def (ok__law_plus (T := T) TX TB) (hr.mono (by decide)) (passes_call tk (fun _ _ _ _ h => h)) (pa_cons (pv 3) (pa_cons (pe_def (ok__law_over (T := T) TX TB) (hr.mono (by decide)) (passes_call tk (fun _ _ _ _ h => h)) (pa_cons (pe_def (ok__law_times (T := T) TX TB) (hr.mono (by decide)) (passes_call tk (fun _ _ _ _ h => h)) (pa_cons (pv 6) (pa_cons (pv 6) pa_nil))) (pa_cons (pv 5) pa_nil))) pa_nil)))))))
    (pss_one (ps_ret (pe_def (ok__law_over (T := T) TX TB) (hr.mono (by decide)) (passes_call tk (fun _ _ _ _ h => h)) (pa_cons (pe_tup (pa_cons pe_int (pa_cons pe_int pa_nil))) (pa_cons (pv 3) pa_nil))))))))), fun c xq hK hT hE => ?_⟩
  subst hK hT
  exact (ds_seq (ds_asg (de_call hE (da_cons (de_var 0) da_nil)) (dg_name 2))
    (ds_seq (ds_if (dt_test (de_op d2_eq (de_op d2_ix (de_op d2_ix (de_ixv 2 (DE.dp (de_un d1_neg (DE.dp (de_int 1))))) (DE.dp (de_int 1))) (DE.dp (de_int 0))) (DE.dp (de_int 0)))) (ds_seq (ds_if (dt_test (de_op d2_ne (de_op d2_ix (de_call hE (da_cons (de_op d2_ix (de_ixv 2 (DE.dp (de_un d1_neg (DE.dp (de_int 1))))) (DE.dp (de_int 0))) (da_cons (de_var 1) da_nil))) (DE.dp (de_int 0))) (DE.dp (de_int 0)))) (ds_ret (de_tup (da_cons (de_int 0) (da_cons (de_int 1) da_nil)))) ds_next)
    (ds_asg (de_slv do_none (do_some (DE.dp (de_un d1_neg (DE.dp (de_int 1)))))) (dg_name 2))) ds_next)
    (ds_seq (ds_asg (de_tup (da_cons (de_int 0) (da_cons (de_int 1) da_nil))) (dg_name 3))
    (ds_seq (ds_for (di_list (de_var 2)) (dg_tup (dgs_cons (dg_name 4) (dgs_cons (dg_name 5) dgs_nil)))
    (ds_seq (ds_asg (de_call hE (da_cons (de_var 4) (da_cons (de_var 1) da_nil))) (dg_name 6))
    (ds_asg (de_call hE (da_cons (de_var 3) (da_cons (de_call hE (da_cons (de_call hE (da_cons (de_var 6) (da_cons (de_var 6) da_nil))) (da_cons (de_var 5) da_nil))) da_nil))) (dg_name 3))))
    (ds_ret (de_call hE (da_cons (de_tup (da_cons (de_int 1) (da_cons (de_int 1) da_nil))) (da_cons (de_var 3) da_nil))))))))
theorem sc__law_less : FnScope ["_law_one", "_law_other"] ["_law_one", "_law_other"] (defScope s__law_less) := ⟨rfl, rfl, rfl, by decide +kernel, rfl, by decide +kernel, by decide +kernel⟩
theorem ok__law_less (TX : Txt bk K mg) (TB : TBs bk K mg base T P) : Def P w K mg base T "_law_less" ["_law_one", "_law_other"] 1 F__law_less := by
  refine TX.def_ 53 53 (st := s__law_less) rfl rfl sc__law_less (fun _ _ _ _ _ _ us hl => match us, hl with | [_, _], _ => rfl) (fun _ _ _ _ h => h.1) (fun _ _ _ _ h => h.2) fun fa cdv A outer s H E hcv hr => ?_
  have tk : Takes (cxOf (L2.CX P w) P w K mg base ["_law_one", "_law_other"] "_law_less" (defScope s__law_less) fa cdv A outer s H E) (fun cls d _ H => E cls d H) := takes_of rfl rfl rfl rfl
  refine ⟨_, (pss_one (ps_ret (pe_cmpR op_lt (pe_op op_mulX (pe_ix (ix_K K) (pv 0) pe_int (fun _ _ => rfl)) (pe_ix (ix_K K) (pv 1) pe_int (fun _ _ => rfl))) (pe_op op_mulX (pe_ix (ix_K K) (pv 1) pe_int (fun _ _ => rfl)) (pe_ix (ix_K K) (pv 0) pe_int (fun _ _ => rfl))) (nomark _)))), fun c xq hK hT hE => ?_⟩
  subst hK hT
  exact (ds_ret (de_op d2_lt (de_op d2_mul (de_ixv 0 (DE.dp (de_int 0))) (DE.dp (de_ixv 1 (DE.dp (de_int 1))))) (DE.dp (de_op d2_mul (de_ixv 1 (DE.dp (de_int 0))) (DE.dp (de_ixv 0 (DE.dp (de_int 1))))))))
theorem sc__law_cell_at : FnScope ["_law_script", "_law_k"] ["_law_script", "_law_k"] (defScope s__law_cell_at) := ⟨rfl, rfl, rfl, by decide +kernel, rfl, by decide +kernel, by decide +kernel⟩
theorem ok__law_cell_at (TX : Txt bk K mg) (TB : TBs bk K mg base T P) : Def P w K mg base T "_law_cell_at" ["_law_script", "_law_k"] 1 F__law_cell_at := by
  refine TX.def_ 54 54 (st := s__law_cell_at) rfl rfl sc__law_cell_at (fun _ _ _ _ _ _ us hl => match us, hl with | [_, _], _ => rfl) (fun _ _ _ _ h => h.1) (fun _ _ _ _ h => h.2) fun fa cdv A outer s H E hcv hr => ?_
  have tk : Takes (cxOf (L2.CX P w) P w K mg base ["_law_script", "_law_k"] "_law_cell_at" (defScope s__law_cell_at) fa cdv A outer s H E) (fun cls d _ H => E cls d H) := takes_of rfl rfl rfl rfl
  refine ⟨_, (pss_cons (ps_if (pt_cmpR op_lt (pv 1) (pe_len K (TX.free 92 "len" rfl) (pv 0)) (nomark _)) (pss_one (ps_ret (pe_ix (ix_K K) (pv 0) (pv 1) (fun _ _ => rfl)))) pss_nil)
    (pss_one (ps_ret pe_int))), fun c xq hK hT hE => ?_⟩
  subst hK hT
  exact (ds_seq (ds_if (dt_test (de_opv d2_lt (DE.dp (de_cb1 d1_len (dp_var 0))))) (ds_ret (de_ixv 0 (dp_var 1))) ds_next)
    (ds_ret (de_int 0)))
theorem sc__law_state : FnScope ["_law_script", "_law_k", "_law_cell"] ["_law_script", "_law_k"] (defScope s__law_state) := ⟨rfl, rfl, rfl, by decide +kernel, rfl, by decide +kernel, by decide +kernel⟩
theorem ok__law_state (TX : Txt bk K mg) (TB : TBs bk K mg base T P) : Def P w K mg base T "_law_state" ["_law_script", "_law_k"] 2 F__law_state := by
  refine TX.def_ 55 55 (st := s__law_state) rfl rfl sc__law_state (fun _ _ _ _ _ _ us hl => match us, hl with | [_, _], _ => rfl) (fun _ _ _ _ h => h.1) (fun _ _ _ _ h => h.2) fun fa cdv A outer s H E hcv hr => ?_
  have tk : Takes (cxOf (L2.CX P w) P w K mg base ["_law_script", "_law_k", "_law_cell"] "_law_state" (defScope s__law_state) fa cdv A outer s H E) (fun cls d _ H => E cls d H) := takes_of rfl rfl rfl rfl
  refine ⟨_, (pss_cons (ps_set (i := 2) sc__law_state.nd rfl (by first | exact Or.inl rfl | exact Or.inr rfl) (pe_def (ok__law_cell_at (T := T) TX TB) (hr.mono (by decide)) (passes_call tk (fun _ _ _ _ h => h)) (pa_cons (pv 0) (pa_cons (pv 1) pa_nil))))
    (pss_cons (ps_if (pt_cmpR op_ge (pv 2) (pe_op op_pow pe_int pe_int) (nomark _)) (pss_one (ps_ret (pe_lst (pa_cons (pe_op op_sub (pv 2) (pe_op op_pow pe_int pe_int)) (pa_cons pe_bl pa_nil))))) pss_nil)
    (pss_one (ps_ret (pe_lst (pa_cons (pe_op op_modN (pv 2) pe_int) (pa_cons pe_bl pa_nil))))))), fun c xq hK hT hE => ?_⟩
  subst hK hT
  exact (ds_seq (ds_asg (de_call hE (da_cons (de_var 0) (da_cons (de_var 1) da_nil))) (dg_name 2))
    (ds_seq (ds_if (dt_test (de_opv d2_ge (DE.dp (de_op d2_pow (de_int 10) (DE.dp (de_int 18)))))) (ds_ret (de_lst (da_cons (de_opv d2_sub (DE.dp (de_op d2_pow (de_int 10) (DE.dp (de_int 18))))) (da_cons (de_bl true) da_nil)))) ds_next)
    (ds_ret (de_lst (da_cons (de_opv d2_mod (DE.dp (de_int 2147483647))) (da_cons (de_bl false) da_nil))))))
theorem sc__law_take : FnScope ["_law_state_here", "_law_many", "_law_found", "_law_mixed"] ["_law_state_here", "_law_many"] (defScope s__law_take) := ⟨rfl, rfl, rfl, by decide +kernel, rfl, by decide +kernel, by decide +kernel⟩
theorem ok__law_take (TX : Txt bk K mg) (TB : TBs bk K mg base T P) : Def P w K mg base T "_law_take" ["_law_state_here", "_law_many"] 33 F__law_take := by
  refine TX.def_ 56 56 (st := s__law_take) rfl rfl sc__law_take (fun _ _ _ _ _ _ us hl => match us, hl with | [_, _], _ => rfl) (fun _ _ _ _ h => h.1) (fun _ _ _ _ h => h.2) fun fa cdv A outer s H E hcv hr => ?_
  have tk : Takes (cxOf (L2.CX P w) P w K mg base ["_law_state_here", "_law_many", "_law_found", "_law_mixed"] "_law_take" (defScope s__law_take) fa cdv A outer s H E) (fun cls d _ H => E cls d H) := takes_of rfl rfl rfl rfl
  refine ⟨_, (pss_cons (ps_if (pt_val (pe_ix (ix_K K) (pv 0) pe_int (fun _ _ => rfl))) (pss_cons (ps_set (i := 2) sc__law_take.nd rfl (by first | exact Or.inl rfl | exact Or.inr rfl) (pe_op op_modN (pe_ix (ix_K K) (pv 0) pe_int (fun _ _ => rfl)) (pv 1)))
    (pss_cons (ps_asg (pe_op (op_divX (TB.sx hr)) (pe_ix (ix_K K) (pv 0) pe_int (fun _ _ => rfl)) (pv 1)) (pg_sub (pv 0) pe_int set_list))
    (pss_one (ps_ret (pv 2))))) pss_nil)
    (pss_cons (ps_asg (pe_op op_modN (pe_op op_add (pe_op op_mulX (pe_ix (ix_K K) (pv 0) pe_int (fun _ _ => rfl)) pe_int) pe_int) pe_int) (pg_sub (pv 0) pe_int set_list))
    (pss_cons (ps_set (i := 3) sc__law_take.nd rfl (by first | exact Or.inl rfl | exact Or.inr rfl) (pe_op op_modN (pe_op op_add (pe_op op_add (pe_op op_mulX (pe_ix (ix_K K) (pv 0) pe_int (fun _ _ => rfl)) (pe_ix (ix_K K) (pv 0) pe_int (fun _ _ => rfl))) (pe_op op_mulX pe_int (pe_ix (ix_K K) (pv 0) pe_int (fun _ _ => rfl)))) pe_int) pe_int))
    (pss_cons (ps_set (i := 3) sc__law_take.nd rfl (by first | exact Or.inl rfl | exact Or.inr rfl) (pe_op op_modN (pe_op op_add (pe_op op_mulX (pv 3) (pv 3)) (pe_op op_mulX pe_int (pv 3))) pe_int))
    (pss_one (ps_ret (pe_op op_modN (pe_op (op_divX (TB.sx hr)) (pv 3) pe_int) (pv 1)))))))), fun c xq hK hT hE => ?_⟩
  subst hK hT
  exact (ds_seq (ds_if (dt_B (de_ixv 0 (DE.dp (de_int 1)))) (ds_seq (ds_asg (de_op d2_mod (de_ixv 0 (DE.dp (de_int 0))) (dp_var 1)) (dg_name 2))
    (ds_seq (ds_asg (de_op d2_div (de_ixv 0 (DE.dp (de_int 0))) (dp_var 1)) (dg_sub 0 (DE.dp (de_int 0))))
    (ds_retV 2))) ds_next)
    (ds_seq (ds_asg (de_op d2_mod (de_op d2_add (de_op d2_mul (de_ixv 0 (DE.dp (de_int 0))) (DE.dp (de_int 48271))) (DE.dp (de_int 29))) (DE.dp (de_int 2147483647))) (dg_sub 0 (DE.dp (de_int 0))))
    (ds_seq (ds_asg (de_op d2_mod (de_op d2_add (de_op d2_add (de_op d2_mul (de_ixv 0 (DE.dp (de_int 0))) (DE.dp (de_ixv 0 (DE.dp (de_int 0))))) (DE.dp (de_op d2_mul (de_int 39373) (DE.dp (de_ixv 0 (DE.dp (de_int 0))))))) (DE.dp (de_int 7))) (DE.dp (de_int 2147483629))) (dg_name 3))
    (ds_seq (ds_asg (de_op d2_mod (de_op d2_add (de_opv d2_mul (dp_var 3)) (DE.dp (de_op d2_mul (de_int 16807) (dp_var 3)))) (DE.dp (de_int 2147483587))) (dg_name 3))
    (ds_ret (de_op d2_mod (de_opv d2_div (DE.dp (de_int 8))) (dp_var 1)))))))
theorem sc__law_small : FnScope ["_law_state_here"] ["_law_state_here"] (defScope s__law_small) := ⟨rfl, rfl, rfl, by decide +kernel, rfl, by decide +kernel, by decide +kernel⟩
theorem ok__law_small (TX : Txt bk K mg) (TB : TBs bk K mg base T P) : Def P w K mg base T "_law_small" ["_law_state_here"] 34 F__law_small := by
  refine TX.def_ 57 57 (st := s__law_small) rfl rfl sc__law_small (fun _ _ _ _ _ _ us hl => match us, hl with | [_], _ => rfl) (fun _ _ _ _ h => h.1) (fun _ _ _ _ h => h.2) fun fa cdv A outer s H E hcv hr => ?_
  have tk : Takes (cxOf (L2.CX P w) P w K mg base ["_law_state_here"] "_law_small" (defScope s__law_small) fa cdv A outer s H E) (fun cls d _ H => E cls d H) := takes_of rfl rfl rfl rfl
  refine ⟨_, (pss_one (ps_ret (pe_def (ok__law_low (T := T) TX TB) (hr.mono (by decide)) (passes_call tk (fun _ _ _ _ h => h)) (pa_cons (pe_op op_sub (pe_def (ok__law_take (T := T) TX TB) (hr.mono (by decide)) (passes_call tk (fun _ _ _ _ h => h)) (pa_cons (pv 0) (pa_cons pe_int pa_nil))) pe_int) (pa_cons (pe_op op_add pe_int (pe_ix (ix_K K) (pe_lst (pa_cons pe_int (pa_cons pe_int (pa_cons (pe_def (ok__law_take (T := T) TX TB) (hr.mono (by decide)) (passes_call tk (fun _ _ _ _ h => h)) (pa_cons (pv 0) (pa_cons pe_int pa_nil))) pa_nil)))) (pe_def (ok__law_take (T := T) TX TB) (hr.mono (by decide)) (passes_call tk (fun _ _ _ _ h => h)) (pa_cons (pv 0) (pa_cons pe_int pa_nil))) (fun _ _ => rfl))) pa_nil))))), fun c xq hK hT hE => ?_⟩
  subst hK hT
  exact (ds_ret (de_call hE (da_cons (de_op d2_sub (de_call hE (da_cons (de_var 0) (da_cons (de_int 13) da_nil))) (DE.dp (de_int 6))) (da_cons (de_op d2_add (de_int 1) (DE.dp (de_op d2_ix (de_lst (da_cons (de_int 0) (da_cons (de_int 0) (da_cons (de_call hE (da_cons (de_var 0) (da_cons (de_int 3) da_nil))) da_nil)))) (DE.dp (de_call hE (da_cons (de_var 0) (da_cons (de_int 3) da_nil))))))) da_nil))))
theorem sc__law_above : FnScope ["_law_state_here"] ["_law_state_here"] (defScope s__law_above) := ⟨rfl, rfl, rfl, by decide +kernel, rfl, by decide +kernel, by decide +kernel⟩
theorem ok__law_above (TX : Txt bk K mg) (TB : TBs bk K mg base T P) : Def P w K mg base T "_law_above" ["_law_state_here"] 34 F__law_above := by
  refine TX.def_ 58 58 (st := s__law_above) rfl rfl sc__law_above (fun _ _ _ _ _ _ us hl => match us, hl with | [_], _ => rfl) (fun _ _ _ _ h => h.1) (fun _ _ _ _ h => h.2) fun fa cdv A outer s H E hcv hr => ?_
  have tk : Takes (cxOf (L2.CX P w) P w K mg base ["_law_state_here"] "_law_above" (defScope s__law_above) fa cdv A outer s H E) (fun cls d _ H => E cls d H) := takes_of rfl rfl rfl rfl
  refine ⟨_, (pss_one (ps_ret (pe_def (ok__law_low (T := T) TX TB) (hr.mono (by decide)) (passes_call tk (fun _ _ _ _ h => h)) (pa_cons (pe_op op_add pe_int (pe_def (ok__law_take (T := T) TX TB) (hr.mono (by decide)) (passes_call tk (fun _ _ _ _ h => h)) (pa_cons (pv 0) (pa_cons pe_int pa_nil)))) (pa_cons (pe_op op_add pe_int (pe_ix (ix_K K) (pe_lst (pa_cons pe_int (pa_cons pe_int (pa_cons (pe_def (ok__law_take (T := T) TX TB) (hr.mono (by decide)) (passes_call tk (fun _ _ _ _ h => h)) (pa_cons (pv 0) (pa_cons pe_int pa_nil))) pa_nil)))) (pe_def (ok__law_take (T := T) TX TB) (hr.mono (by decide)) (passes_call tk (fun _ _ _ _ h => h)) (pa_cons (pv 0) (pa_cons pe_int pa_nil))) (fun _ _ => rfl))) pa_nil))))), fun c xq hK hT hE => ?_⟩
  subst hK hT
  exact (ds_ret (de_call hE (da_cons (de_op d2_add (de_int 1) (DE.dp (de_call hE (da_cons (de_var 0) (da_cons (de_int 6) da_nil))))) (da_cons (de_op d2_add (de_int 1) (DE.dp (de_op d2_ix (de_lst (da_cons (de_int 0) (da_cons (de_int 0) (da_cons (de_call hE (da_cons (de_var 0) (da_cons (de_int 3) da_nil))) da_nil)))) (DE.dp (de_call hE (da_cons (de_var 0) (da_cons (de_int 3) da_nil))))))) da_nil))))
theorem sc__law_crowd : FnScope ["_law_state_here", "_law_most", "_law_found", "_law_spot", "_law_turn"] ["_law_state_here", "_law_most"] (defScope s__law_crowd) := ⟨rfl, rfl, rfl, by decide +kernel, rfl, by decide +kernel, by decide +kernel⟩
theorem ok__law_crowd (TX : Txt bk K mg) (TB : TBs bk K mg base T P) : Def P w K mg base T "_law_crowd" ["_law_state_here", "_law_most"] 35 F__law_crowd := by
  refine TX.def_ 59 59 (st := s__law_crowd) rfl rfl sc__law_crowd (fun _ _ _ _ _ _ us hl => match us, hl with | [_, _], _ => rfl) (fun _ _ _ _ h => h.1) (fun _ _ _ _ h => h.2) fun fa cdv A outer s H E hcv hr => ?_
  have tk : Takes (cxOf (L2.CX P w) P w K mg base ["_law_state_here", "_law_most", "_law_found", "_law_spot", "_law_turn"] "_law_crowd" (defScope s__law_crowd) fa cdv A outer s H E) (fun cls d _ H => E cls d H) := takes_of rfl rfl rfl rfl
  refine ⟨_, (pss_cons (ps_set (i := 2) sc__law_crowd.nd rfl (by first | exact Or.inl rfl | exact Or.inr rfl) (pe_lst pa_nil))
    (pss_cons (ps_set (i := 3) sc__law_crowd.nd rfl (by first | exact Or.inl rfl | exact Or.inr rfl) (pe_def (ok__law_small (T := T) TX TB) (hr.mono (by decide)) (passes_call tk (fun _ _ _ _ h => h)) (pa_cons (pv 0) pa_nil)))
    (pss_cons (ps_for (passes_of rfl) rfl (pi_range1 rfl (TX.free 95 "range" rfl) (pa_cons (pe_def (ok__law_take (T := T) TX TB) (hr.mono (by decide)) (passes_call tk (fun _ _ _ _ h => h)) (pa_cons (pv 0) (pa_cons (pe_op op_add (pv 1) pe_int) pa_nil))) pa_nil)) (pg_name (i := 4) sc__law_crowd.nd rfl (by first | exact Or.inl rfl | exact Or.inr rfl))
    (pss_cons (ps_expr (pe_app K (pv 2) (pa_cons (pe_tup (pa_cons (pv 3) (pa_cons (pe_def (ok__law_above (T := T) TX TB) (hr.mono (by decide)) (passes_call tk (fun _ _ _ _ h => h)) (pa_cons (pv 0) pa_nil)) pa_nil))) pa_nil)))
    (pss_one (ps_set (i := 3) sc__law_crowd.nd rfl (by first | exact Or.inl rfl | exact Or.inr rfl) (pe_def (ok__law_plus (T := T) TX TB) (hr.mono (by decide)) (passes_call tk (fun _ _ _ _ h => h)) (pa_cons (pv 3) (pa_cons (pe_def (ok__law_above (T := T) TX TB) (hr.mono (by decide)) (passes_call tk (fun _ _ _ _ h => h)) (pa_cons (pv 0) pa_nil)) pa_nil)))))))
    (pss_one (ps_ret (pv 2)))))), fun c xq hK hT hE => ?_⟩
  subst hK hT
  exact (ds_seq (ds_asg (de_lst da_nil) (dg_name 2))
    (ds_seq (ds_asg (de_call hE (da_cons (de_var 0) da_nil)) (dg_name 3))
    (ds_seq (ds_for (di_rng1 (da_cons (de_call hE (da_cons (de_var 0) (da_cons (de_opv d2_add (DE.dp (de_int 1))) da_nil))) da_nil)) (dg_name 4)
    (ds_seq (ds_app 2 (de_tup (da_cons (de_var 3) (da_cons (de_call hE (da_cons (de_var 0) da_nil)) da_nil))))
    (ds_asg (de_call hE (da_cons (de_var 3) (da_cons (de_call hE (da_cons (de_var 0) da_nil)) da_nil))) (dg_name 3))))
    (ds_retV 2))))
theorem sc__law_spot_crowd : FnScope ["_law_state_here", "_law_most", "_law_found"] ["_law_state_here", "_law_most"] (defScope s__law_spot_crowd) := ⟨rfl, rfl, rfl, by decide +kernel, rfl, by decide +kernel, by decide +kernel⟩
theorem ok__law_spot_crowd (TX : Txt bk K mg) (TB : TBs bk K mg base T P) : Def P w K mg base T "_law_spot_crowd" ["_law_state_here", "_law_most"] 36 F__law_spot_crowd := by
  refine TX.def_ 60 60 (st := s__law_spot_crowd) rfl rfl sc__law_spot_crowd (fun _ _ _ _ _ _ us hl => match us, hl with | [_, _], _ => rfl) (fun _ _ _ _ h => h.1) (fun _ _ _ _ h => h.2) fun fa cdv A outer s H E hcv hr => ?_
  have tk : Takes (cxOf (L2.CX P w) P w K mg base ["_law_state_here", "_law_most", "_law_found"] "_law_spot_crowd" (defScope s__law_spot_crowd) fa cdv A outer s H E) (fun cls d _ H => E cls d H) := takes_of rfl rfl rfl rfl
  refine ⟨_, (pss_cons (ps_set (i := 2) sc__law_spot_crowd.nd rfl (by first | exact Or.inl rfl | exact Or.inr rfl) (pe_def (ok__law_crowd (T := T) TX TB) (hr.mono (by decide)) (passes_call tk (fun _ _ _ _ h => h)) (pa_cons (pv 0) (pa_cons (pv 1) pa_nil))))
    (pss_cons (ps_if (pt_cmpR (eqE_K K hr.units) (pv 2) (pe_lst pa_nil) (nomark _)) (pss_one (ps_set (i := 2) sc__law_spot_crowd.nd rfl (by first | exact Or.inl rfl | exact Or.inr rfl) (pe_lst (pa_cons (pe_tup (pa_cons (pe_def (ok__law_small (T := T) TX TB) (hr.mono (by decide)) (passes_call tk (fun _ _ _ _ h => h)) (pa_cons (pv 0) pa_nil)) (pa_cons (pe_def (ok__law_above (T := T) TX TB) (hr.mono (by decide)) (passes_call tk (fun _ _ _ _ h => h)) (pa_cons (pv 0) pa_nil)) pa_nil))) pa_nil)))) pss_nil)
    (pss_one (ps_ret (pv 2))))), fun c xq hK hT hE => ?_⟩
  subst hK hT
  exact (ds_seq (ds_asg (de_call hE (da_cons (de_var 0) (da_cons (de_var 1) da_nil))) (dg_name 2))
    (ds_seq (ds_if (dt_test (de_opv d2_eqE (DE.dp (de_lst da_nil)))) (ds_asg (de_lst (da_cons (de_tup (da_cons (de_call hE (da_cons (de_var 0) da_nil)) (da_cons (de_call hE (da_cons (de_var 0) da_nil)) da_nil))) da_nil)) (dg_name 2)) ds_next)
    (ds_retV 2)))
theorem sc__law_crowd_sums : FnScope ["_law_crowd_here", "_law_many", "_law_found", "_law_powers", "_law_k", "_law_amount", "_law_one", "_law_spot", "_law_weight", "_law_at"] ["_law_crowd_here", "_law_many"] (defScope s__law_crowd_sums) := ⟨rfl, rfl, rfl, by decide +kernel, rfl, by decide +kernel, by decide +kernel⟩
theorem ok__law_crowd_sums (TX : Txt bk K mg) (TB : TBs bk K mg base T P) : Def P w K mg base T "_law_crowd_sums" ["_law_crowd_here", "_law_many"] 35 F__law_crowd_sums := by
  refine TX.def_ 61 61 (st := s__law_crowd_sums) rfl rfl sc__law_crowd_sums (fun _ _ _ _ _ _ us hl => match us, hl with | [_, _], _ => rfl) (fun _ _ _ _ h => h.1) (fun _ _ _ _ h => h.2) fun fa cdv A outer s H E hcv hr => ?_
  have tk : Takes (cxOf (L2.CX P w) P w K mg base ["_law_crowd_here", "_law_many", "_law_found", "_law_powers", "_law_k", "_law_amount", "_law_one", "_law_spot", "_law_weight", "_law_at"] "_law_crowd_sums" (defScope s__law_crowd_sums) fa cdv A outer s H E) (fun cls d _ H => E cls d H) := takes_of rfl rfl rfl rfl
  refine ⟨_, (pss_cons (ps_set (i := 2) sc__law_crowd_sums.nd rfl (by first | exact Or.inl rfl | exact Or.inr rfl) (pe_lst pa_nil))
    (pss_cons (ps_set (i := 3) sc__law_crowd_sums.nd rfl (by first | exact Or.inl rfl | exact Or.inr rfl) (pe_lc (own := [("_law_spot", 7), ("_law_weight", 8)]) rfl sc__law_crowd_sums.nd (it_list K (pv 0)) (blkOk_by (by kernel_rfl)) (fun _ _ _ _ _ => (tg_tup K (n := 2) (pgs_cons (pg_name (i := 7) sc__law_crowd_sums.nd rfl (by first | exact Or.inl rfl | exact Or.inr rfl)) (pgs_cons (pg_name (i := 8) sc__law_crowd_sums.nd rfl (by first | exact Or.inl rfl | exact Or.inr rfl)) pgs_nil)))) (fun _ _ _ _ _ => pts_nil) (fun _ _ _ _ _ => (pv 8))))
    (pss_cons (ps_for (passes_of rfl) rfl (pi_range1 rfl (TX.free 95 "range" rfl) (pa_cons (pv 1) pa_nil)) (pg_name (i := 4) sc__law_crowd_sums.nd rfl (by first | exact Or.inl rfl | exact Or.inr rfl))
    (pss_cons (ps_set (i := 5) sc__law_crowd_sums.nd rfl (by first | exact Or.inl rfl | exact Or.inr rfl) (pe_tup (pa_cons pe_int (pa_cons pe_int pa_nil))))
    (pss_cons (ps_for (passes_of rfl) rfl (it_list K (pv 3)) (pg_name (i := 6) sc__law_crowd_sums.nd rfl (by first | exact Or.inl rfl | exact Or.inr rfl))
    (pss_one (ps_set (i := 5) sc__law_crowd_sums.nd rfl (by first | exact Or.inl rfl | exact Or.inr rfl) (pe_def (ok__law_plus (T := T) TX TB) (hr.mono (by decide)) (passes_call tk (fun _ _ _ _ h => h)) (pa_cons (pv 5) (pa_cons (pv 6) pa_nil))))))
    (pss_cons (ps_expr (pe_app K (pv 2) (pa_cons (pv 5) pa_nil)))
    (pss_one (ps_set (i := 3) sc__law_crowd_sums.nd rfl (by first | exact Or.inl rfl | exact Or.inr rfl) (pe_lc (own := [("_law_at", 9)]) rfl sc__law_crowd_sums.nd (pi_range1 rfl (TX.free 95 "range" rfl) (pa_cons (pe_len K (TX.free 92 "len" rfl) (pv 0)) pa_nil)) (blkOk_by (by kernel_rfl)) (fun _ _ _ _ _ => (pg_name (i := 9) sc__law_crowd_sums.nd rfl (by first | exact Or.inl rfl | exact Or.inr rfl))) (fun _ _ _ _ _ => pts_nil) (fun _ _ _ _ _ => (pe_def (ok__law_times (T := T) TX TB) (hr.mono (by decide)) passL (pa_cons (pe_ix (ix_K K) (pv 3) (pv 9) (fun _ _ => rfl)) (pa_cons (pe_ix (ix_K K) (pe_ix (ix_K K) (pv 0) (pv 9) (fun _ _ => rfl)) pe_int (fun _ _ => rfl)) pa_nil)))))))))))
    (pss_one (ps_ret (pv 2)))))), fun c xq hK hT hE => ?_⟩
  subst hK hT
  exact (ds_seq (ds_asg (de_lst da_nil) (dg_name 2))
    (ds_seq (ds_asg (de_comp (vs := [7, 8]) (di_list (de_var 0)) (fun _ => (dg_tup (dgs_cons (dg_name 7) (dgs_cons (dg_name 8) dgs_nil)))) (fun _ => dt_yes) (fun _ => (de_var 8)) (gw_tup2 (by simp) (by simp))) (dg_name 3))
    (ds_seq (ds_for (di_rng1 (da_cons (de_var 1) da_nil)) (dg_name 4)
    (ds_seq (ds_asg (de_tup (da_cons (de_int 0) (da_cons (de_int 1) da_nil))) (dg_name 5))
    (ds_seq (ds_for (di_list (de_var 3)) (dg_name 6)
    (ds_asg (de_call hE (da_cons (de_var 5) (da_cons (de_var 6) da_nil))) (dg_name 5)))
    (ds_seq (ds_app 2 (de_var 5))
    (ds_asg (de_comp (vs := [9]) (di_rng1 (da_cons (de_cb1 d1_len (dp_var 0)) da_nil)) (fun _ => (dg_name 9)) (fun _ => dt_yes) (fun _ => (de_call eok0 (da_cons (de_ixv 3 (dp_var 9)) (da_cons (de_op d2_ix (de_ixv 0 (dp_var 9)) (DE.dp (de_int 0))) da_nil)))) (gw_name (by simp))) (dg_name 3))))))
    (ds_retV 2))))
theorem sc__law_case : FnScope ["_law_state_here", "_law_crowd_here", "_law_spot"] ["_law_state_here"] (defScope s__law_case) := ⟨rfl, rfl, rfl, by decide +kernel, rfl, by decide +kernel, by decide +kernel⟩
theorem ok__law_case (TX : Txt bk K mg) (TB : TBs bk K mg base T P) : Def P w K mg base T "_law_case" ["_law_state_here"] 37 F__law_case := by
  refine TX.def_ 62 62 (st := s__law_case) rfl rfl sc__law_case (fun _ _ _ _ _ _ us hl => match us, hl with | [_], _ => rfl) (fun _ _ _ _ h => h.1) (fun _ _ _ _ h => h.2) fun fa cdv A outer s H E hcv hr => ?_
  have tk : Takes (cxOf (L2.CX P w) P w K mg base ["_law_state_here", "_law_crowd_here", "_law_spot"] "_law_case" (defScope s__law_case) fa cdv A outer s H E) (fun cls d _ H => E cls d H) := takes_of rfl rfl rfl rfl
  refine ⟨_, (pss_cons (ps_set (i := 1) sc__law_case.nd rfl (by first | exact Or.inl rfl | exact Or.inr rfl) (pe_def (ok__law_spot_crowd (T := T) TX TB) (hr.mono (by decide)) (passes_call tk (fun _ _ _ _ h => h)) (pa_cons (pv 0) (pa_cons pe_int pa_nil))))
    (pss_cons (ps_set (i := 2) sc__law_case.nd rfl (by first | exact Or.inl rfl | exact Or.inr rfl) (pe_def (ok__law_small (T := T) TX TB) (hr.mono (by decide)) (passes_call tk (fun _ _ _ _ h => h)) (pa_cons (pv 0) pa_nil)))
    (pss_cons (ps_if (pt_cmpR (eq_K K hr.units) (pe_def (ok__law_take (T := T) TX TB) (hr.mono (by decide)) (passes_call tk (fun _ _ _ _ h => h)) (pa_cons (pv 0) (pa_cons pe_int pa_nil))) pe_int (nomark _)) (pss_one (ps_set (i := 2) sc__law_case.nd rfl (by first | exact Or.inl rfl | exact Or.inr rfl) (pe_ix (ix_K K) (pe_ix (ix_K K) (pv 1) (pe_def (ok__law_take (T := T) TX TB) (hr.mono (by decide)) (passes_call tk (fun _ _ _ _ h => h)) (pa_cons (pv 0) (pa_cons (pe_len K (TX.free 92 "len" rfl) (pv 1)) pa_nil))) (fun _ _ => rfl)) pe_int (fun _ _ => rfl)))) pss_nil)
    (pss_one (ps_ret (pe_tup (pa_cons (pv 1) (pa_cons (pe_def (ok__law_crowd_sums (T := T) TX TB) (hr.mono (by decide)) (passes_call tk (fun _ _ _ _ h => h)) (pa_cons (pv 1) (pa_cons (pe_op op_add pe_int (pe_def (ok__law_take (T := T) TX TB) (hr.mono (by decide)) (passes_call tk (fun _ _ _ _ h => h)) (pa_cons (pv 0) (pa_cons pe_int pa_nil)))) pa_nil))) (pa_cons (pv 2) pa_nil))))))))), fun c xq hK hT hE => ?_⟩
  subst hK hT
  exact (ds_seq (ds_asg (de_call hE (da_cons (de_var 0) (da_cons (de_int 5) da_nil))) (dg_name 1))
    (ds_seq (ds_asg (de_call hE (da_cons (de_var 0) da_nil)) (dg_name 2))
    (ds_seq (ds_if (dt_test (de_op d2_eq (de_call hE (da_cons (de_var 0) (da_cons (de_int 3) da_nil))) (DE.dp (de_int 0)))) (ds_asg (de_op d2_ix (de_ixv 1 (DE.dp (de_call hE (da_cons (de_var 0) (da_cons (de_cb1 d1_len (dp_var 1)) da_nil))))) (DE.dp (de_int 0))) (dg_name 2)) ds_next)
    (ds_ret (de_tup (da_cons (de_var 1) (da_cons (de_call hE (da_cons (de_var 1) (da_cons (de_op d2_add (de_int 1) (DE.dp (de_call hE (da_cons (de_var 0) (da_cons (de_int 11) da_nil))))) da_nil))) (da_cons (de_var 2) da_nil))))))))
theorem sc__law_sums : FnScope ["_law_state_here", "_law_many", "_law_way", "_law_found", "_law_at", "_law_k"] ["_law_state_here"] (defScope s__law_sums) := ⟨rfl, rfl, rfl, by decide +kernel, rfl, by decide +kernel, by decide +kernel⟩
theorem ok__law_sums (TX : Txt bk K mg) (TB : TBs bk K mg base T P) : Def P w K mg base T "_law_sums" ["_law_state_here"] 36 F__law_sums := by
  refine TX.def_ 63 63 (st := s__law_sums) rfl rfl sc__law_sums (fun _ _ _ _ _ _ us hl => match us, hl with | [_], _ => rfl) (fun _ _ _ _ h => h.1) (fun _ _ _ _ h => h.2) fun fa cdv A outer s H E hcv hr => ?_
  have tk : Takes (cxOf (L2.CX P w) P w K mg base ["_law_state_here", "_law_many", "_law_way", "_law_found", "_law_at", "_law_k"] "_law_sums" (defScope s__law_sums) fa cdv A outer s H E) (fun cls d _ H => E cls d H) := takes_of rfl rfl rfl rfl
  refine ⟨_, (pss_cons (ps_set (i := 1) sc__law_sums.nd rfl (by first | exact Or.inl rfl | exact Or.inr rfl) (pe_op op_add pe_int (pe_def (ok__law_take (T := T) TX TB) (hr.mono (by decide)) (passes_call tk (fun _ _ _ _ h => h)) (pa_cons (pv 0) (pa_cons pe_int pa_nil)))))
    (pss_cons (ps_set (i := 2) sc__law_sums.nd rfl (by first | exact Or.inl rfl | exact Or.inr rfl) (pe_def (ok__law_take (T := T) TX TB) (hr.mono (by decide)) (passes_call tk (fun _ _ _ _ h => h)) (pa_cons (pv 0) (pa_cons pe_int pa_nil))))
    (pss_cons (ps_if (pt_cmpR (eq_K K hr.units) (pv 2) pe_int (nomark _)) (pss_one (ps_ret (pe_lc (own := [("_law_k", 5)]) rfl sc__law_sums.nd (pi_range1 rfl (TX.free 95 "range" rfl) (pa_cons (pv 1) pa_nil)) (blkOk_by (by kernel_rfl)) (fun _ _ _ _ _ => (pg_name (i := 5) sc__law_sums.nd rfl (by first | exact Or.inl rfl | exact Or.inr rfl))) (fun _ _ _ _ _ => pts_nil) (fun _ _ _ _ _ => (pe_def (ok__law_small (T := T) TX TB) (hr.mono (by decide)) passL (pa_cons (pv 0) pa_nil)))))) pss_nil)
    (pss_cons (ps_if (pt_cmpR (eq_K K hr.units) (pv 2) pe_int (nomark _)) (pss_one (ps_ret (pe_op op_cat (pe_op op_rep (pe_lst (pa_cons (pe_tup (pa_cons pe_int (pa_cons pe_int pa_nil))) pa_nil)) (pe_op op_sub (pv 1) pe_int)) (pe_lst (pa_cons (pe_def (ok__law_small (T := T) TX TB) (hr.mono (by decide)) (passes_call tk (fun _ _ _ _ h => h)) (pa_cons (pv 0) pa_nil)) pa_nil))))) pss_nil)
    (pss_cons (ps_set (i := 3) sc__law_sums.nd rfl (by first | exact Or.inl rfl | exact Or.inr rfl) (pe_def (ok__law_crowd_sums (T := T) TX TB) (hr.mono (by decide)) (passes_call tk (fun _ _ _ _ h => h)) (pa_cons (pe_def (ok__law_crowd (T := T) TX TB) (hr.mono (by decide)) (passes_call tk (fun _ _ _ _ h => h)) (pa_cons (pv 0) (pa_cons (pe_ix (ix_K K) (pe_lst (pa_cons pe_int (pa_cons pe_int (pa_cons pe_int (pa_cons pe_int (pa_cons pe_int pa_nil)))))) (pe_def (ok__law_take (T := T) TX TB) (hr.mono (by decide)) (passes_call tk (fun _ _ _ _ h => h)) (pa_cons (pv 0) (pa_cons pe_int pa_nil))) (fun _ _ => rfl)) pa_nil))) (pa_cons (pv 1) pa_nil))))
    (pss_cons (ps_if (pt_cmpR op_lt (pv 2) pe_int (nomark _)) (pss_cons (ps_set (i := 4) sc__law_sums.nd rfl (by first | exact Or.inl rfl | exact Or.inr rfl) (pe_def (ok__law_take (T := T) TX TB) (hr.mono (by decide)) (passes_call tk (fun _ _ _ _ h => h)) (pa_cons (pv 0) (pa_cons (pv 1) pa_nil))))
    (pss_one (ps_asg (pe_def (ok__law_plus (T := T) TX TB) (hr.mono (by decide)) (passes_call tk (fun _ _ _ _ h => h)) (pa_cons (pe_ix (ix_K K) (pv 3) (pv 4) (fun _ _ => rfl)) (pa_cons (pe_ix (ix_K K) (pe_lst (pa_cons (pe_def (ok__law_small (T := T) TX TB) (hr.mono (by decide)) (passes_call tk (fun _ _ _ _ h => h)) (pa_cons (pv 0) pa_nil)) (pa_cons (pe_tup (pa_cons pe_int (pa_cons pe_int pa_nil))) (pa_cons (pe_tup (pa_cons (pe_un un_neg pe_int) (pa_cons pe_int pa_nil))) pa_nil)))) (pe_def (ok__law_take (T := T) TX TB) (hr.mono (by decide)) (passes_call tk (fun _ _ _ _ h => h)) (pa_cons (pv 0) (pa_cons pe_int pa_nil))) (fun _ _ => rfl)) pa_nil))) (pg_sub (pv 3) (pv 4) set_list)))) pss_nil)
    (pss_one (ps_ret (pv 3))))))))), fun c xq hK hT hE => ?_⟩
  subst hK hT
  exact (ds_seq (ds_asg (de_op d2_add (de_int 1) (DE.dp (de_call hE (da_cons (de_var 0) (da_cons (de_int 11) da_nil))))) (dg_name 1))
    (ds_seq (ds_asg (de_call hE (da_cons (de_var 0) (da_cons (de_int 8) da_nil))) (dg_name 2))
    (ds_seq (ds_if (dt_test (de_opv d2_eq (DE.dp (de_int 0)))) (ds_ret (de_comp (vs := [5]) (di_rng1 (da_cons (de_var 1) da_nil)) (fun _ => (dg_name 5)) (fun _ => dt_yes) (fun _ => (de_call eok0 (da_cons (de_var 0) da_nil))) (gw_name (by simp)))) ds_next)
    (ds_seq (ds_if (dt_test (de_opv d2_eq (DE.dp (de_int 1)))) (ds_ret (de_op d2_cat (de_op d2_rep (de_lst (da_cons (de_tup (da_cons (de_int 0) (da_cons (de_int 1) da_nil))) da_nil)) (DE.dp (de_opv d2_sub (DE.dp (de_int 1))))) (DE.dp (de_lst (da_cons (de_call hE (da_cons (de_var 0) da_nil)) da_nil))))) ds_next)
    (ds_seq (ds_asg (de_call hE (da_cons (de_call hE (da_cons (de_var 0) (da_cons (de_op d2_ix (de_lst (da_cons (de_int 5) (da_cons (de_int 5) (da_cons (de_int 5) (da_cons (de_int 2) (da_cons (de_int 3) da_nil)))))) (DE.dp (de_call hE (da_cons (de_var 0) (da_cons (de_int 5) da_nil))))) da_nil))) (da_cons (de_var 1) da_nil))) (dg_name 3))
    (ds_seq (ds_if (dt_test (de_opv d2_lt (DE.dp (de_int 5)))) (ds_seq (ds_asg (de_call hE (da_cons (de_var 0) (da_cons (de_var 1) da_nil))) (dg_name 4))
    (ds_asg (de_call hE (da_cons (de_ixv 3 (dp_var 4)) (da_cons (de_op d2_ix (de_lst (da_cons (de_call hE (da_cons (de_var 0) da_nil)) (da_cons (de_tup (da_cons (de_int 1) (da_cons (de_int 1) da_nil))) (da_cons (de_tup (da_cons (de_un d1_neg (DE.dp (de_int 1))) (da_cons (de_int 1) da_nil))) da_nil)))) (DE.dp (de_call hE (da_cons (de_var 0) (da_cons (de_int 3) da_nil))))) da_nil))) (dg_sub 3 (dp_var 4)))) ds_next)
    (ds_retV 3)))))))
theorem sc__law_weight_at : FnScope ["_law_crowd_here", "_law_spot", "_law_one", "_law_weight"] ["_law_crowd_here", "_law_spot"] (defScope s__law_weight_at) := ⟨rfl, rfl, rfl, by decide +kernel, rfl, by decide +kernel, by decide +kernel⟩
theorem ok__law_weight_at (TX : Txt bk K mg) (TB : TBs bk K mg base T P) : Def P w K mg base T "_law_weight_at" ["_law_crowd_here", "_law_spot"] 1 F__law_weight_at := by
  refine TX.def_ 64 64 (st := s__law_weight_at) rfl rfl sc__law_weight_at (fun _ _ _ _ _ _ us hl => match us, hl with | [_, _], _ => rfl) (fun _ _ _ _ h => h.1) (fun _ _ _ _ h => h.2) fun fa cdv A outer s H E hcv hr => ?_
  have tk : Takes (cxOf (L2.CX P w) P w K mg base ["_law_crowd_here", "_law_spot", "_law_one", "_law_weight"] "_law_weight_at" (defScope s__law_weight_at) fa cdv A outer s H E) (fun cls d _ H => E cls d H) := takes_of rfl rfl rfl rfl
  refine ⟨_, (pss_cons (ps_for (passes_of rfl) rfl (it_list K (pv 0)) (tg_tup K (n := 2) (pgs_cons (pg_name (i := 2) sc__law_weight_at.nd rfl (by first | exact Or.inl rfl | exact Or.inr rfl)) (pgs_cons (pg_name (i := 3) sc__law_weight_at.nd rfl (by first | exact Or.inl rfl | exact Or.inr rfl)) pgs_nil)))
    (pss_one (ps_if (pt_cmpR (eq_K K hr.units) (pv 2) (pv 1) (nomark _)) (pss_one (ps_ret (pv 3))) pss_nil)))
    (pss_one (ps_ret (pe_tup (pa_cons pe_int (pa_cons pe_int pa_nil)))))), fun c xq hK hT hE => ?_⟩
  subst hK hT
  exact (ds_seq (ds_for (di_list (de_var 0)) (dg_tup (dgs_cons (dg_name 2) (dgs_cons (dg_name 3) dgs_nil)))
    (ds_if (dt_test (de_opv d2_eq (dp_var 1))) (ds_retV 3) ds_next))
    (ds_ret (de_tup (da_cons (de_int 0) (da_cons (de_int 1) da_nil)))))
theorem sc__law_right : FnScope ["_law_sums_here", "_law_spot", "_law_weight", "_law_found", "_law_number", "_law_f", "_law_handed"] ["_law_sums_here", "_law_spot", "_law_weight"] (defScope s__law_right) := ⟨rfl, rfl, rfl, by decide +kernel, rfl, by decide +kernel, by decide +kernel⟩
theorem ok__law_right (TX : Txt bk K mg) (TB : TBs bk K mg base T P) : Def P w K mg base T "_law_right" ["_law_sums_here", "_law_spot", "_law_weight"] 45 F__law_right := by
  refine TX.def_ 65 65 (st := s__law_right) rfl rfl sc__law_right (fun _ _ _ _ _ _ us hl => match us, hl with | [_, _, _], _ => rfl) (fun _ _ _ _ h => h.1) (fun _ _ _ _ h => h.2) fun fa cdv A outer s H E hcv hr => ?_
  have tk : Takes (cxOf (L2.CX P w) P w K mg base ["_law_sums_here", "_law_spot", "_law_weight", "_law_found", "_law_number", "_law_f", "_law_handed"] "_law_right" (defScope s__law_right) fa cdv A outer s H E) (fun cls d _ H => E cls d H) := takes_of rfl rfl rfl rfl
  refine ⟨_, (pss_cons (ps_set (i := 6) sc__law_right.nd rfl (by first | exact Or.inl rfl | exact Or.inr rfl) (pe_list K (TX.free 93 "list" rfl) (pv 0)))
    (pss_cons (ps_if (pt_cmpR (eq_K K hr.units) (pe_def (ok__law_kind (T := T) TX TB) (hr.mono (by decide)) (passes_call tk (fun _ _ _ _ h => h)) (pa_cons (pv 0) pa_nil)) pe_str (nomark _)) (pss_one (ps_ret (pe_cmpR (eq_K K hr.units) (pe_ref (f0 := "_law_right") (k := 42) TX TB 46 46 rfl rfl sc__law_refused (fun _ _ _ _ _ _ us hl => match us, hl with | [_], _ => rfl) (.inl rfl) (fun cdg => giv_ref TX cdg _) (by decide) hcv rfl (hr.mono (by decide)) (by kernel_rfl)
      (fun A2 o2 s2 H2 E f2 c2 hr => have tk : Takes (LamX.lamCx _ A2 o2 s2 H2 E _ f2 c2) (fun cls d _ H => E cls d H) := takes_of rfl rfl rfl rfl; (pe_def (ok_least_square (T := T) TX TB) (hr.mono (by decide)) (passes_call tk (fun _ _ _ _ h => h)) (pa_cons (pv 6) (pa_cons (pv 1) pa_nil))))) (pe_lst (pa_cons pe_int pa_nil)) (nomark _)))) pss_nil)
    (pss_cons (ps_set (i := 3) sc__law_right.nd rfl (by first | exact Or.inl rfl | exact Or.inr rfl) (pe_def (ok_least_square (T := T) TX TB) (hr.mono (by decide)) (passes_call tk (fun _ _ _ _ h => h)) (pa_cons (pv 6) (pa_cons (pv 1) pa_nil))))
    (pss_cons (ps_if (PW.pt (pw_or (pt_not (pt_val (pe_isi K (TX.free 100 "isinstance" rfl) (TX.free 103 "tuple" rfl) PyProof.Rows.boot_tuple (pv 3)))) (pw_or (pt_cmpR (ne_K K hr.units) (pe_len K (TX.free 92 "len" rfl) (pv 3)) pe_int (nomark _)) (pw_or (pt_not (pt_val (pe_def (ok__law_is_polynomial (T := T) TX TB) (hr.mono (by decide)) (passes_call tk (fun _ _ _ _ h => h)) (pa_cons (pe_ix (ix_K K) (pv 3) pe_int (fun _ _ => rfl)) pa_nil)))) (pw_or1 (pt_cmpR (ne_K K hr.units) (pv 6) (pv 0) (nomark _))))))) (pss_one (ps_ret pe_bl)) pss_nil)
    (pss_cons (ps_asg (pv 3) (tg_tup K (n := 2) (pgs_cons (pg_name (i := 4) sc__law_right.nd rfl (by first | exact Or.inl rfl | exact Or.inr rfl)) (pgs_cons (pg_name (i := 5) sc__law_right.nd rfl (by first | exact Or.inl rfl | exact Or.inr rfl)) pgs_nil))))
    (pss_cons (ps_if (PW.pt (pw_or (pt_not (pt_val (pe_def (ok__law_same (T := T) TX TB) (hr.mono (by decide)) (passes_call tk (fun _ _ _ _ h => h)) (pa_cons (pv 4) (pa_cons (pe_def (ok__law_least (T := T) TX TB) (hr.mono (by decide)) (passes_call tk (fun _ _ _ _ h => h)) (pa_cons (pv 0) (pa_cons (pv 1) pa_nil))) pa_nil))))) (pw_or1 (pt_val (pe_def (ok__law_less (T := T) TX TB) (hr.mono (by decide)) (passes_call tk (fun _ _ _ _ h => h)) (pa_cons (pv 4) (pa_cons (pv 2) pa_nil))))))) (pss_one (ps_ret pe_bl)) pss_nil)
    (pss_cons (ps_if (PW.pt (pw_or (pt_cmpR op_gt (pe_op op_sub (pe_op op_mulX pe_int (pe_len K (TX.free 92 "len" rfl) (pv 5))) pe_int) (pe_len K (TX.free 92 "len" rfl) (pv 0)) (nomark _)) (pw_or1 (pt_cmpR (ne_K K hr.units) (pe_def (ok__law_number_at (T := T) TX TB) (hr.mono (by decide)) (passes_call tk (fun _ _ _ _ h => h)) (pa_cons (pv 5) (pa_cons (pv 1) pa_nil))) (pe_tup (pa_cons pe_int (pa_cons pe_int pa_nil))) (nomark _))))) (pss_one (ps_ret pe_bl)) pss_nil)
    (pss_one (ps_ret (pe_cmpR (eq_K K hr.units) (pe_def (ok__law_square (T := T) TX TB) (hr.mono (by decide)) (passes_call tk (fun _ _ _ _ h => h)) (pa_cons (pv 0) (pa_cons (pv 5) (pa_cons (pv 5) pa_nil)))) (pv 4) (nomark _))))))))))), fun c xq hK hT hE => ?_⟩
  subst hK hT
  exact (ds_seq (ds_asg (de_cb1 d1_list (dp_var 0)) (dg_name 6))
    (ds_seq (ds_if (dt_test (de_op d2_eq (de_callB hE (dab_var 0 dab_nil)) (DE.dp (de_str "none")))) (ds_ret (de_op d2_eq (de_ref (caps := [1, 6]) (fun _ _ _ xq hE => (de_call hE (da_cons (de_var 6) (da_cons (de_var 1) da_nil))))) (DE.dp (de_lst (da_cons (de_int 2) da_nil))))) ds_next)
    (ds_seq (ds_asg (de_call hE (da_cons (de_var 6) (da_cons (de_var 1) da_nil))) (dg_name 3))
    (ds_seq (ds_if (dt_or (dt_not (dt_B (de_isi .tuple (dp_var 3)))) (dt_or (dt_test (de_op d2_ne (de_cb1 d1_len (dp_var 3)) (DE.dp (de_int 2)))) (dt_or (dt_not (dt_B (de_call hE (da_cons (de_ixv 3 (DE.dp (de_int 1))) da_nil)))) (dt_test (de_opv d2_ne (dp_var 0)))))) (ds_ret (de_bl false)) ds_next)
    (ds_seq (ds_asg (de_var 3) (dg_tup (dgs_cons (dg_name 4) (dgs_cons (dg_name 5) dgs_nil))))
    (ds_seq (ds_if (dt_or (dt_not (dt_B (de_callB hE (dab_var 4 (dab_cons (de_call hE (da_cons (de_var 0) (da_cons (de_var 1) da_nil))) dab_nil))))) (dt_B (de_callB hE (dab_var 4 (dab_var 2 dab_nil))))) (ds_ret (de_bl false)) ds_next)
    (ds_seq (ds_if (dt_or (dt_test (de_op d2_gt (de_op d2_sub (de_op d2_mul (de_int 2) (DE.dp (de_cb1 d1_len (dp_var 5)))) (DE.dp (de_int 1))) (DE.dp (de_cb1 d1_len (dp_var 0))))) (dt_test (de_op d2_ne (de_call hE (da_cons (de_var 5) (da_cons (de_var 1) da_nil))) (DE.dp (de_tup (da_cons (de_int 1) (da_cons (de_int 1) da_nil))))))) (ds_ret (de_bl false)) ds_next)
    (ds_ret (de_op d2_eq (de_call hE (da_cons (de_var 0) (da_cons (de_var 5) (da_cons (de_var 5) da_nil)))) (dp_var 4))))))))))
theorem sc_law : FnScope ["_law_script", "_law_k", "_law_state_here", "_law_crowd_here", "_law_sums_here", "_law_spot"] ["_law_script"] (defScope s_law) := ⟨rfl, rfl, rfl, by decide +kernel, rfl, by decide +kernel, by decide +kernel⟩
theorem ok_law (TX : Txt bk K mg) (TB : TBs bk K mg base T P) : Def P w K mg base T "law" ["_law_script"] 46 F_law := by
  refine TX.def_ 66 66 (st := s_law) rfl rfl sc_law (fun _ _ _ _ _ _ us hl => match us, hl with | [_], _ => rfl) (fun _ _ _ _ h => h.1) (fun _ _ _ _ h => h.2) fun fa cdv A outer s H E hcv hr => ?_
  have tk : Takes (cxOf (L2.CX P w) P w K mg base ["_law_script", "_law_k", "_law_state_here", "_law_crowd_here", "_law_sums_here", "_law_spot"] "law" (defScope s_law) fa cdv A outer s H E) (fun cls d _ H => E cls d H) := takes_of rfl rfl rfl rfl
  refine ⟨_, (pss_cons (ps_for (passes_of rfl) rfl (pi_range1 rfl (TX.free 95 "range" rfl) (pa_cons (pe_max2 (TX.free 94 "max" rfl) (pa_cons pe_int (pa_cons (pe_min2 (TX.free 98 "min" rfl) (pa_cons (pe_len K (TX.free 92 "len" rfl) (pv 0)) (pa_cons pe_int pa_nil))) pa_nil))) pa_nil)) (pg_name (i := 1) sc_law.nd rfl (by first | exact Or.inl rfl | exact Or.inr rfl))
    (pss_cons (ps_set (i := 2) sc_law.nd rfl (by first | exact Or.inl rfl | exact Or.inr rfl) (pe_def (ok__law_state (T := T) TX TB) (hr.mono (by decide)) (passes_call tk (fun _ _ _ _ h => h)) (pa_cons (pv 0) (pa_cons (pv 1) pa_nil))))
    (pss_cons (ps_asg (pe_def (ok__law_case (T := T) TX TB) (hr.mono (by decide)) (passes_call tk (fun _ _ _ _ h => h)) (pa_cons (pv 2) pa_nil)) (tg_tup K (n := 3) (pgs_cons (pg_name (i := 3) sc_law.nd rfl (by first | exact Or.inl rfl | exact Or.inr rfl)) (pgs_cons (pg_name (i := 4) sc_law.nd rfl (by first | exact Or.inl rfl | exact Or.inr rfl)) (pgs_cons (pg_name (i := 5) sc_law.nd rfl (by first | exact Or.inl rfl | exact Or.inr rfl)) pgs_nil)))))
    (pss_cons (ps_if (PW.pt (pw_or (pt_not (pt_val (pe_def (ok__law_right (T := T) TX TB) (hr.mono (by decide)) (passes_call tk (fun _ _ _ _ h => h)) (pa_cons (pv 4) (pa_cons (pv 5) (pa_cons (pe_def (ok__law_weight_at (T := T) TX TB) (hr.mono (by decide)) (passes_call tk (fun _ _ _ _ h => h)) (pa_cons (pv 3) (pa_cons (pv 5) pa_nil))) pa_nil)))))) (pw_or1 (pt_not (pt_val (pe_def (ok__law_right (T := T) TX TB) (hr.mono (by decide)) (passes_call tk (fun _ _ _ _ h => h)) (pa_cons (pe_def (ok__law_sums (T := T) TX TB) (hr.mono (by decide)) (passes_call tk (fun _ _ _ _ h => h)) (pa_cons (pv 2) pa_nil)) (pa_cons (pv 5) (pa_cons (pe_tup (pa_cons pe_int (pa_cons pe_int pa_nil))) pa_nil))))))))) (pss_one (ps_ret pe_bl)) pss_nil)
    (pss_one (ps_if (pt_not (pt_val (pe_def (ok__law_right (T := T) TX TB) (hr.mono (by decide)) (passes_call tk (fun _ _ _ _ h => h)) (pa_cons (pe_op op_rep (pe_lst (pa_cons (pe_tup (pa_cons pe_int (pa_cons pe_int pa_nil))) pa_nil)) (pe_op op_add pe_int (pe_def (ok__law_take (T := T) TX TB) (hr.mono (by decide)) (passes_call tk (fun _ _ _ _ h => h)) (pa_cons (pv 2) (pa_cons pe_int pa_nil))))) (pa_cons (pv 5) (pa_cons (pe_tup (pa_cons pe_int (pa_cons pe_int pa_nil))) pa_nil)))))) (pss_one (ps_ret pe_bl)) pss_nil))))))
    (pss_one (ps_ret pe_bl))), fun c xq hK hT hE => ?_⟩
  subst hK hT
  exact (ds_seq (ds_for (di_rng1 (da_cons (de_cb db_max2 (da_cons (de_int 1) (da_cons (de_cb db_min2 (da_cons (de_cb1 d1_len (dp_var 0)) (da_cons (de_int 5) da_nil))) da_nil))) da_nil)) (dg_name 1)
    (ds_seq (ds_asg (de_call hE (da_cons (de_var 0) (da_cons (de_var 1) da_nil))) (dg_name 2))
    (ds_seq (ds_asg (de_callLend 2 hE da_nil) (dg_tup (dgs_cons (dg_name 3) (dgs_cons (dg_name 4) (dgs_cons (dg_name 5) dgs_nil)))))
    (ds_seq (ds_if (dt_or (dt_not (dt_B (de_callB hE (dab_var 4 (dab_var 5 (dab_cons (de_call hE (da_cons (de_var 3) (da_cons (de_var 5) da_nil))) dab_nil)))))) (dt_not (dt_B (de_callB hE (dab_cons (de_callLend 2 hE da_nil) (dab_var 5 (dab_cons (de_tup (da_cons (de_int 0) (da_cons (de_int 1) da_nil))) dab_nil))))))) (ds_ret (de_bl false)) ds_next)
    (ds_if (dt_not (dt_B (de_callB hE (dab_cons (de_op d2_rep (de_lst (da_cons (de_tup (da_cons (de_int 0) (da_cons (de_int 1) da_nil))) da_nil)) (DE.dp (de_op d2_add (de_int 1) (DE.dp (de_callLend 2 hE (da_cons (de_int 11) da_nil)))))) (dab_var 5 (dab_cons (de_tup (da_cons (de_int 0) (da_cons (de_int 1) da_nil))) dab_nil)))))) (ds_ret (de_bl false)) ds_next)))))
    (ds_ret (de_bl true)))
end
end Wk
set_option Elab.async false
set_option linter.all false
set_option maxRecDepth 100000
set_option maxHeartbeats 1000000
namespace Ma
open PySem L2 DL Mi
local macro_rules | `(tactic| walk_at "wp") => `(tactic| simp (config := {failIfUnchanged := false}) only [wNext, wSeq, wRet, wRetV, wRetN, wIfS, wDrop, wAsg, wName, wTupT, wTupL, wDSub, lkD, kyD, wGNil, wGCons, wPar, wApp, wClear, wEach, wOwns, eachW, wExt, wPop, wSub, setSt, wFor, wIt, wItT, wRng1, wRng2, wRng3, wEnum, wZip, wRev,
  wV, wPV, wC, wP, wOp, wOpv, wRef, has, frz, pick, blank, wUn, gI, gIC, gAdd, gMin, gMul, gDiv, gMod, gPow, gLt, gLe, gGt, gGe, gNeg, gEq, gNe, gEqE, gNeE, gIn, gInT, gNotIn, wRevL, gIsN, gNotN, gIsB, gNotB, wB, wNot, wAnd, wOr, wAndV, wOrV, wNotV, wIf, wNil, wCons, wTup, wLst, wCB, wCB1,
  gIx, stIx, wIxv, wSl, wSlv, wNoPart, wPart, gLen, gList, gTuple, gCat, gRep, gAbs, gInt, gMax2, gMin2, gAll, gAny, wIsi, wIsi2, wCall, wCallLend, wCallB, wBNil, wBVar, wBCons, wRaise, wComp, wCompB, wYes, kBody, start_, at_, List.set, Sl.d, wChain,
  List.map_cons, List.map_nil, List.length_cons, List.length_nil, List.cons_append, List.nil_append, List.replicate_succ, List.replicate_zero, List.append_nil, Nat.reduceAdd, Nat.reduceSub, ne_eq, reduceCtorEq, not_false_eq_true, true_and, and_true, isScal, ex_some, atI0, atI1, atI2, atI3, fr, noOwn, wipeD, backD, Nat.zero_add, if_true, if_false, List.isEmpty_nil, List.isEmpty_cons, Bool.not_true, Bool.not_false, decide_eq_true_eq, beq_iff_eq, Bool.not_eq_true', beq_eq_false_iff_ne, decide_eq_false_iff_not])
local macro_rules | `(tactic| walk_at "wk") => `(tactic| simp (config := {failIfUnchanged := false, maxSteps := 1000000}) only [wNext, wSeq_K, wRet, wRetV, wRetN, wIfS, wDrop, wAsg, wName, wTupT, wTupL, wDSub, lkD, kyD, wGNil, wGCons, wPar, wApp, wClear, wEach, wOwns, eachW, wExt, wPop, wSub, setSt, wFor, wIt, wItT, wRng1, wRng2, wRng3, wEnum, wZip, wRev, wV, wPV, wC, wP, wOp, wOpv, wRef, has, frz, pick, blank, wUn, gI, gIC, gAdd, gMin, gMul, gDiv, gMod, gPow, gLt, gLe, gGt, gGe, gNeg, gEq, gNe, gEqE, gNeE, gIn, gInT, gNotIn, wRevL, gIsN, gNotN, gIsB, gNotB, wB, wNot, wAnd, wOr, wAndV, wOrV, wNotV, wIf, wNil, wCons, wTup, wLst, wCB, wCB1, gIx, stIx, wIxv, wSl, wSlv, wNoPart, wPart, gLen, gList, gTuple, gCat, gRep, gAbs, gInt, gMax2, gMin2, gAll, gAny, wIsi, wIsi2, wCall_K, wCallLend_K, wCallB_K, wBNil, wBVar, wBCons, wRaise, wComp_K, wYes, kBody, start_, at_, List.set, Sl.d, wChain, List.map_cons, List.map_nil, List.length_cons, List.length_nil, List.cons_append, List.nil_append, List.replicate_succ, List.replicate_zero, List.append_nil, Nat.reduceAdd, Nat.reduceSub, ne_eq, reduceCtorEq, not_false_eq_true, true_and, and_true, isScal, ex_some, atI0, atI1, atI2, atI3, fr, noOwn, wipeD, backD, Nat.zero_add, if_true, if_false, List.isEmpty_nil, List.isEmpty_cons, Bool.not_true, Bool.not_false, decide_eq_true_eq, beq_iff_eq, Bool.not_eq_true', beq_eq_false_iff_ne, decide_eq_false_iff_not, gCatT, gCatS, wCompB, callK_ap, scalK_ap, compK_ap])
local macro_rules | `(tactic| walk_at "wj") => `(tactic| simp (config := {failIfUnchanged := false, maxSteps := 1000000}) only [wNext, wRet, wRetV, wRetN, wIfS, wDrop, wAsg, wName, wTupT, wTupL, wDSub, lkD, kyD, wGNil, wGCons, wPar, wApp, wClear, wEach, wOwns, eachW, wExt, wPop, wSub, setSt, wFor, wIt, wItT, wRng1, wRng2, wRng3, wEnum, wZip, wRev, wV, wPV, wC, wP, wOp, wOpv, wRef, has, frz, pick, blank, wUn, gI, gIC, gAdd, gMin, gMul, gDiv, gMod, gPow, gLt, gLe, gGt, gGe, gNeg, gEq, gNe, gEqE, gNeE, gIn, gInT, gNotIn, wRevL, gIsN, gNotN, gIsB, gNotB, wB, wNot, wAnd, wOr, wAndV, wOrV, wNotV, wIf, wNil, wCons, wTup, wLst, wCB, wCB1, gIx, stIx, wIxv, wSl, wSlv, wNoPart, wPart, gLen, gList, gTuple, gCat, gRep, gAbs, gInt, gMax2, gMin2, gAll, gAny, wIsi, wIsi2, wCall_K, wCallLend_K, wCallB_K, wBNil, wBVar, wBCons, wRaise, wComp_K, wYes, kBody, start_, at_, List.set, Sl.d, wChain, List.map_cons, List.map_nil, List.length_cons, List.length_nil, List.cons_append, List.nil_append, List.replicate_succ, List.replicate_zero, List.append_nil, Nat.reduceAdd, Nat.reduceSub, ne_eq, reduceCtorEq, not_false_eq_true, true_and, and_true, isScal, ex_some, atI0, atI1, atI2, atI3, fr, noOwn, wipeD, backD, Nat.zero_add, if_true, if_false, List.isEmpty_nil, List.isEmpty_cons, Bool.not_true, Bool.not_false, decide_eq_true_eq, beq_iff_eq, Bool.not_eq_true', beq_eq_false_iff_ne, decide_eq_false_iff_not, gCatT, gCatS, wCompB, callK_ap, scalK_ap, compK_ap])
local macro_rules | `(tactic| walk_at "ws") => `(tactic| (walk_at "wj"; repeat ((first | with_reducible refine seqK_nx' ?_ | with_reducible refine seqK_rt' ?_ | with_reducible refine seqK_bk' ?_ | with_reducible refine seqK_ct' ?_ | with_reducible refine wSeq_K' ?_); walk_at "wj")))
local macro_rules | `(tactic| walk_at "wc") => `(tactic| simp (config := {failIfUnchanged := false, implicitDefEqProofs := false, maxSteps := 1000000}) only [wTupT, wTupL, lkD, kyD, wClear, wEach, wOwns, eachW, wPop, setSt, wRef, has, frz, pick, blank, gI, gIC, gAdd, gMin, gMul, gDiv, gMod, gPow, gLt, gLe, gGt, gGe, gNeg, gEq, gNe, gEqE, gNeE, gIn, gInT, gNotIn, wRevL, gIsN, gNotN, gIsB, gNotB, gIx, stIx, gLen, gList, gTuple, gCat, gRep, gAbs, gInt, gMax2, gMin2, gAll, gAny, wCallLend_K, wRaise, kBody, start_, at_, List.set, Sl.d, List.map_cons, List.map_nil, List.length_cons, List.length_nil, List.cons_append, List.nil_append, List.replicate_succ, List.replicate_zero, List.append_nil, Nat.reduceAdd, Nat.reduceSub, ne_eq, reduceCtorEq, not_false_eq_true, true_and, and_true, isScal, ex_some, atI0, atI1, atI2, atI3, fr, noOwn, wipeD, backD, Nat.zero_add, if_true, if_false, List.isEmpty_nil, List.isEmpty_cons, Bool.not_true, Bool.not_false, decide_eq_true_eq, beq_iff_eq, Bool.not_eq_true', beq_eq_false_iff_ne, decide_eq_false_iff_not, gCatT, gCatS, callK_ap, scalK_ap, compK_ap, valK_ap, asg2K_ap, asgK_ap, wAsg_C, gconsK_ap, wGCons_C, wGCons_N, parK_ap, wPar_C, appK_ap, wApp_C, wIns_C, insK_ap, wPick_C, wCallV_C, wFunV_C, wActI_C, popAtK_ap, wPopAt_C, wRefI_C, wPar3_C, par3K_ap, wM1_C, m1K_ap, m1bK_ap, wOrS_C, orSK_ap, wSlS, wSlT, wItS, gCatS, gStr, gIntS, gInS, gNotInS, gIxS, gStarts, gSplit, gPart, gJoin, extK_ap, wExt_C, st2K_ap, subK_ap, wSub_C, forK_ap, wFor_C, rng1K_ap, wRng1_C, rng2K_ap, wRng2_C, rng3K_ap, wRng3_C, enumK_ap, wEnum_C, zipK_ap, zipK_ap', wZip_C, revK_ap, wRev_C, itK_ap, wIt_C, itTK_ap, wItT_C, pK_ap, wP_C, op2K_ap, opK_ap, wOp_C, opvK_ap, wOpv_C, unK_ap, wUn_C, wCB1_C, cbK_ap, wCB_C, bK_ap, wB_C, notK_ap, wNot_C, andK_ap, wAnd_C, orK_ap, wOr_C, andVK_ap, wAndV_C, orVK_ap, wOrV_C, notVK_ap, wNotV_C, ifK_ap, wIf_C, ifsK_ap, wIfS_C, cons2K_ap, consK_ap, wCons_C, tupK_ap, wTup_C, lstK_ap, wLst_C, ixvK_ap, wIxv_C, sl3K_ap, sl2K_ap, sl1K_ap, wSl_C, slv2K_ap, slv1K_ap, wSlv_C, partK_ap, wPart_C, argK_ap, wCall_C, argBK_ap, wCallB_C, bvarK_ap, wBVar_C, bconsK_ap, wBCons_C, cmpK_ap, wComp_C, cmpBK_ap, itD_ap, wCompB_C, dropK_ap, wDrop_C, retK_ap, wRet_C, isiK_ap, wIsi_C, isi2K_ap, wIsi2_C, ch3K_ap, chzK_ap, ch2K_ap, ch1K_ap, wChain_C, dsubK_ap, dsub1K_ap, wDSub_C, wNext_C, wNil_C, wBNil_C, wNoPart_C, wRetN_C, wYes_C, wGNil_C, wC_C, wName_C, wV_C, wPV_C, wRetV_C, wLRev_C, lrevK_ap, wCallF_C, argFK_ap, flatK_ap, wOrL_C, orLK_ap, wLamV, wCallC_C, argCK_ap, wCallCW_C, argCWK_ap, retWK_ap, wRetW_C, tw2K_own, twK_own, wTw_C, callWK_ap, argWK_ap, wCallW_C, vwK_ap, wVW_C, iw0K_ap, wIW0_C, iw1K_ap, wIW1_C, told2K_f, toldK_ap, wTold_C, wTlEnd, wTlOp, wOApp, wOClr, wMv, flatOw, flatL_frs, fndK_ap, wFnd_C, wDIf_C, difK_t, difK_f, dsetK_ap, wDSet_C, dtntK_ap, wDTnt_C, dtupK_ap, wDTup_C, mappK_ap, wMApp_C, wMClr_C, mifK_t, mifK_f, wMIf_C, dmutK_ap, wDMut_C, killD, toldBK_rt, fndO_ap, wFndO, wRetO, startO, difZ_t, difZ_f, wZIf_C, mzK_ap, wZApp_C, zmutK_ap, wZMut_C, ztK_ap, zcK_ap, wZTold_C, zmut2K_ap, wZMut2_C, wCopy, lendEK_ap, wCallLendE_C])
local macro_rules | `(tactic| walk_at "wz") => `(tactic| (walk_at "wc"; repeat ((first | with_reducible refine seqWK_nx' ?_ | with_reducible refine wSeqW' ?_ | with_reducible refine seqOK_nx' ?_ | with_reducible refine wSeqO' ?_ | with_reducible refine seqK_nx' ?_ | with_reducible refine seqK_rt' ?_ | with_reducible refine seqK_bk' ?_ | with_reducible refine seqK_ct' ?_ | with_reducible refine wSeq_K' ?_); walk_at "wc")))
local macro_rules | `(tactic| walk_at "wq") => `(tactic| simp (config := {failIfUnchanged := false, maxSteps := 1000000}) only [wNext, wSeq_K, wRet, wRetV, wRetN, wIfS, wDrop, wAsg, wName, wTupT, wTupL, wDSub, lkD, kyD, wGNil, wGCons, wPar, wApp, wClear, wEach, wOwns, eachW, wExt, wPop, wSub, setSt, wFor, wIt, wItT, wRng1, wRng2, wRng3, wEnum, wZip, wRev, wV, wPV, wC, wP, wOp, wOpv, wRef, has, frz, pick, blank, wUn, gI, gIC, gAdd, gMin, gMul, gDiv, gMod, gPow, gLt, gLe, gGt, gGe, gNeg, gEq, gNe, gEqE, gNeE, gIn, gInT, gNotIn, wRevL, gIsN, gNotN, gIsB, gNotB, wB, wNot, wAnd, wOr, wAndV, wOrV, wNotV, wIf, wNil, wCons, wTup, wLst, wCB, wCB1, gIx, stIx, wIxv, wSl, wSlv, wNoPart, wPart, gLen, gList, gTuple, gCat, gRep, gAbs, gInt, gMax2, gMin2, gAll, gAny, wIsi, wIsi2, wCall_K, wCallLend_K, wCallB_K, wBNil, wBVar, wBCons, wRaise, wComp_K, wYes, kBody, start_, at_, List.set, Sl.d, wChain, List.map_cons, List.map_nil, List.length_cons, List.length_nil, List.cons_append, List.nil_append, List.replicate_succ, List.replicate_zero, List.append_nil, Nat.reduceAdd, Nat.reduceSub, ne_eq, reduceCtorEq, not_false_eq_true, true_and, and_true, isScal, ex_some, atI0, atI1, atI2, atI3, fr, noOwn, wipeD, backD, Nat.zero_add, if_true, if_false, List.isEmpty_nil, List.isEmpty_cons, Bool.not_true, Bool.not_false, decide_eq_true_eq, beq_iff_eq, Bool.not_eq_true', beq_eq_false_iff_ne, decide_eq_false_iff_not, gCatT, gCatS, wCompB, callK_ap, scalK_ap, compK_ap, seqK_nx, seqK_rt, seqK_bk, seqK_ct])
def StOk (x : Int) (b : Bool) : Prop := 0 ≤ x ∧ (∃ n, n ≤ 1048576 ∧ x.natAbs < 2 ^ n) ∧ (b = false → x < 2147483647)
theorem lt_of_bits {z : Int} {n : Nat} (h : PySem.Builtin.Int.intBits z ≤ n) : z.natAbs < 2 ^ n := by
  unfold PySem.Builtin.Int.intBits at h
  split at h
  · rename_i h0
    have : z.natAbs = 0 := by simpa using h0
    rw [this]
    exact Nat.two_pow_pos n
  · rename_i h0
    exact (Nat.log2_lt (by simpa using h0)).mp (by omega)
theorem getD_el {α : Type} {l : List α} {i : Nat} (h : i < l.length) {d : α} : l.getD i d = l[i] := by simp [h]
def ownIf (o : Bool) (l : List D) : Sl := if o = true then .own l else .val (.lst l)
theorem szT (n : Nat) : (n ≤ sizeLine) = (n ≤ 16777216) := rfl
theorem eqOk_bl (b : Bool) : EqOk (.bl b) := rfl
theorem eqv_bl (b : Bool) : (D.bl b).eqv (D.bl b) = true := by cases b <;> rfl
theorem eqOk_one (i : Int) : EqOk (.lst [.int i]) := Nice.eqOk (n := 1) ⟨by show 1 < sizeLine; decide, fun d hd => by simp at hd; subst hd; exact trivial⟩ (by decide)
theorem eqv_one (i : Int) : (D.lst [.int i]).eqv (.lst [.int i]) = true := Nice.eqv (n := 1) ⟨by show 1 < sizeLine; decide, fun d hd => by simp at hd; subst hd; exact trivial⟩
theorem at_frs {l : List Rat} {i : Nat} (h : i < l.length) : atI (l.map fr) (i : Int) = some (fr (l.getD i 0)) := by
  rw [atI_nat' (by simpa using h), List.getElem?_map, List.getElem?_eq_getElem h, getD_el h]
  rfl
theorem cfS_pos {n : Nat} {f : List Rat} (h : CfS n f) : 0 < n := by
  have h1 := (h 0).2
  have h2 := (f.getD 0 0).den_nz
  rcases Nat.eq_zero_or_pos n with z | z
  · subst z
    omega
  · exact z
theorem nice_frl {l : List Rat} (h : l.length < sizeLine) : Nice 2 (.lst (l.map fr)) := ⟨by simpa using h, fun d hd => by obtain ⟨q, _, rfl⟩ := List.mem_map.mp hd; exact nice_fr q⟩
def sg (f : Nat → Rat) : Nat → Rat
  | 0 => 0
  | n + 1 => sg f n + f n
theorem sg_congr {f g : Nat → Rat} : ∀ n, (∀ h, h < n → f h = g h) → sg f n = sg g n
  | 0, _ => rfl
  | n + 1, e => by unfold sg; rw [sg_congr n (fun h hh => e h (by omega)), e n (by omega)]
theorem sg_add {f g : Nat → Rat} : ∀ n, sg (fun i => f i + g i) n = sg f n + sg g n
  | 0 => by simp only [sg]; grind
  | n + 1 => by simp only [sg]; rw [sg_add n]; grind
theorem sg_mul {f : Nat → Rat} (c : Rat) : ∀ n, sg (fun i => f i * c) n = sg f n * c
  | 0 => by simp only [sg]; grind
  | n + 1 => by simp only [sg]; rw [sg_mul c n]; grind
theorem sg_zero {f : Nat → Rat} : ∀ n, (∀ i, i < n → f i = 0) → sg f n = 0
  | 0, _ => rfl
  | n + 1, h => by rw [sg, sg_zero n (fun i hi => h i (by omega)), h n (by omega)]; grind
theorem sg_more {f : Nat → Rat} {n : Nat} : ∀ m, (∀ i, n ≤ i → i < n + m → f i = 0) → sg f (n + m) = sg f n
  | 0, _ => rfl
  | m + 1, h => by rw [← Nat.add_assoc, sg, sg_more m (fun i h1 h2 => h i h1 (by omega)), h (n + m) (by omega) (by omega)]; grind
theorem sg_sz {f : Nat → Rat} {b : Nat} : ∀ n, (∀ i, i < n → Sz b (f i)) → Sz (1 + n * (b + 1)) (sg f n)
  | 0, _ => sz_zero.mono (by omega)
  | n + 1, h => by
    have := sz_add (sg_sz n fun i hi => h i (by omega)) (h n (by omega))
    exact this.mono (by rw [Nat.add_mul]; omega)
theorem sg_sumQ (f : Nat → Rat) : ∀ n, sumQ ((List.range n).map f) = sg f n
  | 0 => rfl
  | n + 1 => by rw [List.range_succ, List.map_append, List.map_cons, List.map_nil, sumQ_snoc, sg_sumQ f n]; rfl
theorem sg_shift {f : Nat → Rat} : ∀ n, sg f (n + 1) = f 0 + sg (fun i => f (i + 1)) n
  | 0 => by simp only [sg]; grind
  | n + 1 => by rw [sg, sg_shift n]; simp only [sg]; grind
theorem sg_swap {a : Nat → Rat} {f : Nat → Nat → Rat} {N : Nat} : ∀ n, sg (fun j => a j * sg (fun i => f i j) n) N = sg (fun i => sg (fun j => a j * f i j) N) n
  | 0 => by
    refine sg_zero N fun i _ => ?_
    show a i * sg _ 0 = 0
    simp only [sg]
    grind
  | n + 1 => by
    have e : (fun j => a j * sg (fun i => f i j) (n + 1)) = fun j => a j * sg (fun i => f i j) n + a j * f n j := by
      funext j
      simp only [sg]
      grind
    rw [e, sg_add, sg_swap n]
    rfl
def evP : List Rat → Rat → Rat
  | [], _ => 0
  | a :: l, x => evP l x * x + a
theorem sz_ev {n m : Nat} {l : List Rat} {x : Rat} (hl : ∀ q ∈ l, Sz n q) (hx : Sz m x) : Sz (1 + l.length * (n + m + 1)) (evP l x) := by
  induction l with
  | nil => simpa [evP] using sz_zero
  | cons a l ih =>
    have h1 := ih fun q hq => hl q (List.mem_cons_of_mem _ hq)
    have := sz_add (sz_mul h1 hx) (hl a (List.mem_cons_self ..))
    refine this.mono ?_
    rw [List.length_cons, Nat.add_mul]
    omega
theorem divisor_go (ft : FT) (fb : FS) (K : Fl → Prop) (s : S) (g : Nat) (hK : ∀ a : Int, a.natAbs = g → K (.nx [.val (.int a), .val (.int 0)] s))
    (hft : ft = wB (wOpv gNe 1 (wP (wC (.int 0))))) (hfb : fb = wPar 0 1 (wCons (wV 1) (wCons (wOpv gMod 0 (wPV 1)) wNil))) :
    ∀ (n : Nat) (a b : Int), b.natAbs < n → Int.gcd a b = g → whileW ft fb K n [.val (.int a), .val (.int b)] s := by
  subst hft hfb
  intro n
  induction n with
  | zero => intro a b h; omega
  | succ n ih =>
    intro a b h hg
    unfold whileW
    walk_at "wp"
    by_cases hb : b = 0
    · rw [if_neg (by simp [hb])]
      subst hb
      exact hK a (by simpa using hg)
    · rw [if_pos hb]
      have h1 := fmod_lt (a := a) hb
      exact ⟨hb, ih b (a.fmod b) (by omega) (by rw [gcd_fmod]; exact hg)⟩
theorem divisor_spec {a b : Int} {s : S} {k xq} (h : k (.val (.int (Int.gcd a b))) s) : F_divisor [.int a, .int b] s k xq := by
  refine ⟨rfl, ?_⟩
  unfold BF_divisor
  walk_at "wp"
  refine ⟨b.natAbs + 1, divisor_go _ _ _ s (Int.gcd a b) (fun c hc => ?_) rfl rfl _ a b (Nat.lt_succ_self _) rfl⟩
  walk_at "wp"
  have e : (if c < 0 then -c else c) = (Int.gcd a b : Int) := by
    rw [← hc]
    split <;> omega
  rw [e]
  exact h
theorem ratio_spec {t b : Int} {s : S} {k xq} (hb : b ≠ 0) {n : Nat} (hz : b.natAbs < 2 ^ n) (hn : n ≤ 60000000) (h : k (.val (fr ((t : Rat) / (b : Rat)))) s) : F_ratio [.int t, .int b] s k xq := by
  refine ⟨rfl, ?_⟩
  unfold BF_ratio
  walk_at "wp"
  rw [if_neg hb]
  refine divisor_spec ?_
  walk_at "wp"
  rw [fr_ratio hb] at h
  have h1 := gcd_ok (t := t) hb hz hn
  by_cases hlt : b < 0
  · rw [if_pos hlt, if_pos hlt] at h
    rw [if_pos hlt]
    exact ⟨(h1 t).2, (h1 b).2, by show 2 ≤ sizeLine; decide, h⟩
  · rw [if_neg hlt, if_neg hlt] at h
    rw [if_neg hlt]
    exact ⟨(h1 t).1, (h1 b).1, by show 2 ≤ sizeLine; decide, h⟩
theorem plus_spec {p q : Rat} {s : S} {k xq n m} (hp : Sz n p) (hq : Sz m q) (hz : n + m ≤ 60000000) (h : k (.val (fr (p + q))) s) : F_plus [fr p, fr q] s k xq := by
  refine ⟨rfl, ?_⟩
  unfold BF_plus
  walk_at "wp"
  have hp0 := p.den_nz
  have hq0 := q.den_nz
  have dp : ((p.den : Int)).natAbs < 2 ^ n := by simpa using hp.2
  have dq : ((q.den : Int)).natAbs < 2 ^ m := by simpa using hq.2
  refine ⟨mulOk hp.1 dq (by omega), mulOk hq.1 dp (by omega), mulOk dp dq (by omega), ratio_spec (Int.mul_ne_zero (by omega) (by omega)) (natAbs_mul_lt dp dq) hz ?_⟩
  rw [rat_add]
  exact h
theorem minus_spec {p q : Rat} {s : S} {k xq n m} (hp : Sz n p) (hq : Sz m q) (hz : n + m ≤ 60000000) (h : k (.val (fr (p - q))) s) : F_minus [fr p, fr q] s k xq := by
  refine ⟨rfl, ?_⟩
  unfold BF_minus
  walk_at "wp"
  have hp0 := p.den_nz
  have hq0 := q.den_nz
  have dp : ((p.den : Int)).natAbs < 2 ^ n := by simpa using hp.2
  have dq : ((q.den : Int)).natAbs < 2 ^ m := by simpa using hq.2
  refine ⟨mulOk hp.1 dq (by omega), mulOk hq.1 dp (by omega), mulOk dp dq (by omega), ratio_spec (Int.mul_ne_zero (by omega) (by omega)) (natAbs_mul_lt dp dq) hz ?_⟩
  rw [rat_sub]
  exact h
theorem times_spec {p q : Rat} {s : S} {k xq n m} (hp : Sz n p) (hq : Sz m q) (hz : n + m ≤ 60000000) (h : k (.val (fr (p * q))) s) : F_times [fr p, fr q] s k xq := by
  refine ⟨rfl, ?_⟩
  unfold BF_times
  walk_at "wp"
  have hp0 := p.den_nz
  have hq0 := q.den_nz
  have dp : ((p.den : Int)).natAbs < 2 ^ n := by simpa using hp.2
  have dq : ((q.den : Int)).natAbs < 2 ^ m := by simpa using hq.2
  refine ⟨mulOk hp.1 hq.1 (by omega), mulOk dp dq (by omega), ratio_spec (Int.mul_ne_zero (by omega) (by omega)) (natAbs_mul_lt dp dq) hz ?_⟩
  rw [rat_mul]
  exact h
theorem over_spec {p q : Rat} {s : S} {k xq n m} (hp : Sz n p) (hq : Sz m q) (hz : n + m ≤ 60000000) (h0 : q ≠ 0) (h : k (.val (fr (p / q))) s) : F_over [fr p, fr q] s k xq := by
  refine ⟨rfl, ?_⟩
  unfold BF_over
  walk_at "wp"
  have hp0 := p.den_nz
  have hq0 := num_ne h0
  have dp : ((p.den : Int)).natAbs < 2 ^ n := by simpa using hp.2
  have dq : ((q.den : Int)).natAbs < 2 ^ m := by simpa using hq.2
  refine ⟨mulOk hp.1 dq (by omega), mulOk dp hq.1 (by omega), ratio_spec (Int.mul_ne_zero (by omega) hq0) (natAbs_mul_lt dp hq.1) hz ?_⟩
  rw [rat_div _ _ h0]
  exact h
def sgn (q : Rat) : Int := (if 0 < q.num then 1 else 0) - (if q.num < 0 then 1 else 0)
theorem sign_of_spec {q : Rat} {s : S} {k xq} (h : k (.val (.int (sgn q))) s) : F_sign_of [fr q] s k xq := by
  refine ⟨rfl, ?_⟩
  unfold BF_sign_of
  walk_at "wp"
  exact h
theorem sgn_neg0 (q : Rat) : sgn q < 0 ↔ q < 0 := by
  unfold sgn
  have h1 : q < 0 ↔ q.num < 0 := by
    have := Rat.lt_iff q 0
    simpa using this
  rw [h1]
  split <;> split <;> omega
theorem total_spec {l : List Rat} {n : Nat} {s : S} {k xq} (hl : ∀ q ∈ l, Sz n q) (hz : (l.length + 1) * (n + 1) ≤ 60000000) (h : k (.val (fr (sumQ l))) s) : F_total [.lst (l.map fr)] s k xq := by
  refine ⟨rfl, ?_⟩
  unfold BF_total
  walk_at "wp"
  refine forW_inv (fun i env s' => ∃ v, env = [.val (.lst (l.map fr)), .val (fr (sumQ (l.take i))), v] ∧ s' = s ∧ Sz (1 + i * (n + 1)) (sumQ (l.take i))) ?_ ⟨.no, rfl, rfl, by simpa [sumQ] using sz_zero⟩ ?_
  · rintro i hi env s' ⟨v, rfl, rfl, hs⟩ KN hk
    walk_at "wp"
    have h1 := hl _ (List.getElem_mem hi)
    have h2 : (i + 1) * (n + 1) ≤ l.length * (n + 1) := Nat.mul_le_mul_right _ hi
    rw [Nat.add_mul] at h2 hz
    refine plus_spec hs h1 (by omega) ?_
    walk_at "wp"
    refine hk _ _ ⟨.val (fr l[i]), ?_, rfl, ?_⟩
    · rw [sumQ_take hi]
      rfl
    · rw [sumQ_take hi]
      exact (sz_add hs h1).mono (by rw [Nat.add_mul]; omega)
  · rintro env s' ⟨v, rfl, rfl, hs⟩
    walk_at "wp"
    rw [List.take_length]
    exact h
theorem clean_go (ft : FT) (fb : FS) (K : Fl → Prop) (l : List Rat) (s : S) (hft : ft = wAnd (wB (wOpv gGt 1 (wP (wC (.int 0))))) (wB (wOp gEq (wIxv 0 (wP (wOpv gMin 1 (wP (wC (.int 1)))))) (wP (wC (.tup [.int 0, .int 1]))))))
    (hfb : fb = wAsg (wOpv gMin 1 (wP (wC (.int 1)))) (wName 1))
    (hK : ∀ m : Nat, m ≤ l.length → clean l = l.take m → K (.nx [.val (.lst (l.map fr)), .val (.int m)] s)) : ∀ m : Nat, m ≤ l.length → (∀ i, m ≤ i → l.getD i 0 = 0) → whileW ft fb K (m + 1) [.val (.lst (l.map fr)), .val (.int m)] s := by
  subst hft hfb
  intro m
  induction m with
  | zero =>
    intro hm hz
    have := hK 0 hm (clean_take hm hz (.inl rfl))
    unfold whileW
    walk_at "wq"
    simpa using this
  | succ m ih =>
    intro hm hz
    have hm' : m < l.length := hm
    have e1 : ((m + 1 : Nat) : Int) - 1 = (m : Int) := by omega
    have e2 : atI (l.map fr) (m : Int) = some (fr l[m]) := by
      rw [atI_nat' (by simpa using hm'), List.getElem?_map, List.getElem?_eq_getElem hm']
      rfl
    have hg : l.getD m 0 = l[m] := by simp [hm']
    unfold whileW
    walk_at "wq"
    rw [if_pos (by omega), e1]
    refine ⟨_, e2, ⟨(nice_fr _).eqOk (by decide), (nice_fr 0).eqOk (by decide)⟩, ?_⟩
    have e3 : (fr l[m]).eqv (.tup [.int 0, .int 1]) = decide (l[m] = 0) := eqv_fr _ 0
    rw [e3]
    by_cases h0 : l[m] = 0
    · rw [if_pos (by simp [h0])]
      exact ih (by omega) (fun i hi => by
        rcases Nat.lt_or_eq_of_le hi with h | h
        · exact hz i h
        · subst h
          rw [hg]
          exact h0)
    · rw [if_neg (by simp [h0])]
      exact hK (m + 1) hm (clean_take hm hz (.inr (by simpa [hm'] using h0)))
theorem clean_spec {l : List Rat} {s : S} {k xq} (h : k (.own ((clean l).map fr)) s) : F_clean [.lst (l.map fr)] s k xq := by
  refine ⟨rfl, ?_⟩
  unfold BF_clean
  walk_at "wq"
  refine ⟨l.length + 1, ?_⟩
  rw [List.length_map]
  refine clean_go _ _ _ l s rfl rfl (fun m hm hc => ?_) l.length (Nat.le_refl _) (fun i hi => by simp [hi])
  walk_at "wq"
  have e : cutD (l.map fr) none (some (m : Int)) = (clean l).map fr := by
    rw [hc]
    unfold cutD
    simp [HT.sIx, hm]
    rw [if_neg (by omega)]
    omega
  rw [e]
  exact h
theorem at_place_spec {l : List Rat} {i : Nat} {s : S} {k xq} (h : k (.val (fr (l.getD i 0))) s) : F_at_place [.lst (l.map fr), .int i] s k xq := by
  refine ⟨rfl, ?_⟩
  unfold BF_at_place
  walk_at "wp"
  by_cases hi : i < l.length
  · rw [if_pos (by simpa using hi)]
    exact ⟨_, at_frs hi, h⟩
  · rw [if_neg (by simpa using hi)]
    have e : l.getD i 0 = 0 := by simp [Nat.le_of_not_lt hi]
    rw [e] at h
    exact h
theorem max_if (a b : Nat) : (if (b : Int) > (a : Nat) then (b : Int) else (a : Nat)) = ((max a b : Nat) : Int) := by
  split <;> omega
theorem summed_spec {f g : List Rat} {n m : Nat} {s : S} {k xq} (hf : CfS n f) (hg : CfS m g) (hz : n + m ≤ 60000000) (hl : f.length < 1000000) (hl' : g.length < 1000000) (h : k (.own ((addP f g).map fr)) s) : F_summed [.lst (f.map fr), .lst (g.map fr)] s k xq := by
  refine ⟨rfl, ?_⟩
  unfold BF_summed
  have sb := size_big
  walk_at "wq"
  simp only [List.length_map]
  rw [max_if]
  refine ⟨⟨by omega, by omega⟩, by simp [intL]; omega, ?_⟩
  refine compW_rfr (g := fun i => f.getD i 0 + g.getD i 0) ?_ ?_
  · intro i hi K hK
    walk_at "wq"
    refine at_place_spec ?_
    walk_at "wq"
    refine at_place_spec ?_
    walk_at "wq"
    refine plus_spec (hf i) (hg i) hz ?_
    walk_at "wq"
    exact hK
  · walk_at "wq"
    refine clean_spec ?_
    walk_at "wq"
    exact h
theorem grown_spec {f : List Rat} {c : Rat} {n m : Nat} {s : S} {k xq} (hf : CfS n f) (hc : Sz m c) (hz : n + m ≤ 60000000) (hl : f.length < 1000000) (h : k (.own ((mulC f c).map fr)) s) : F_grown [.lst (f.map fr), fr c] s k xq := by
  refine ⟨rfl, ?_⟩
  unfold BF_grown
  have sb := size_big
  walk_at "wq"
  refine ⟨by simp; omega, ?_⟩
  refine compW_fr (g := fun q => q * c) ?_ ?_
  · intro q hq K hK
    walk_at "wq"
    refine times_spec (cfS_mem hf q hq) hc hz ?_
    walk_at "wq"
    exact hK
  · walk_at "wq"
    refine clean_spec ?_
    walk_at "wq"
    exact h
theorem lessened_spec {f g : List Rat} {n m : Nat} {s : S} {k xq} (hf : CfS n f) (hg : CfS m g) (hz : n + m ≤ 60000000) (hl : f.length < 1000000) (hl' : g.length < 1000000) (h : k (.own ((subP f g).map fr)) s) : F_lessened [.lst (f.map fr), .lst (g.map fr)] s k xq := by
  refine ⟨rfl, ?_⟩
  unfold BF_lessened
  have sb := size_big
  walk_at "wq"
  simp only [List.length_map]
  rw [max_if]
  refine ⟨⟨by omega, by omega⟩, by simp [intL]; omega, ?_⟩
  refine compW_rfr (g := fun i => f.getD i 0 - g.getD i 0) ?_ ?_
  · intro i hi K hK
    walk_at "wq"
    refine at_place_spec ?_
    walk_at "wq"
    refine at_place_spec ?_
    walk_at "wq"
    refine minus_spec (hf i) (hg i) hz ?_
    walk_at "wq"
    exact hK
  · walk_at "wq"
    refine clean_spec ?_
    walk_at "wq"
    exact h
theorem raised_spec {f : List Rat} {j : Nat} {s : S} {k xq} (hl : f.length + j < 1000000) (h : k (.own ((shiftP f j).map fr)) s) : F_raised [.lst (f.map fr), .int j] s k xq := by
  refine ⟨rfl, ?_⟩
  unfold BF_raised
  have sb := size_big
  walk_at "wq"
  refine ⟨by show 0 ≤ sizeLine; decide, ?_⟩
  by_cases hf : f = []
  · subst hf
    rw [if_pos (by rfl)]
    exact ⟨by show 0 ≤ sizeLine; decide, h⟩
  · have e : (f.map fr).isEmpty = false := by simpa using hf
    rw [if_neg (by simp [e])]
    have e2 : (List.replicate (j : Int).toNat [D.tup [.int 0, .int 1]]).flatten ++ f.map fr = (shiftP f j).map fr := by
      unfold shiftP
      rw [if_neg hf, List.map_append, List.map_replicate]
      simp
      exact .inr rfl
    have e3 : (List.replicate (j : Int).toNat [D.tup [.int 0, .int 1]]).flatten.length = j := by simp
    rw [e2, e3]
    refine ⟨by show 1 ≤ sizeLine; decide, ⟨by omega, by omega, by simp; omega⟩, by simp; omega, h⟩
theorem mulGo_size {f : List Rat} {n m : Nat} (hf : CfS n f) : ∀ (g acc : List Rat) (j a : Nat), CfS m g → CfS a acc → CfS (a + g.length * (n + m + 1)) (mulGo f acc j g)
  | [], acc, j, a, _, h => by simpa [mulGo] using h
  | c :: g, acc, j, a, hg, h => by
    have hc : Sz m c := by simpa using hg 0
    have hg' : CfS m g := fun i => by simpa using hg (i + 1)
    have h1 : CfS (a + (n + m) + 1) (addP acc (shiftP (mulC f c) j)) := fun i => by
      rw [addP_getD, shiftP_getD]
      split
      · have := sz_add (h i) sz_zero
        have hp : 0 < n := by
          have := (hf 0).2
          have := (f.getD 0 0).den_nz
          rcases Nat.eq_zero_or_pos n with z | z
          · subst z
            omega
          · exact z
        exact this.mono (by omega)
      · rw [mulC_getD]
        exact sz_add (h i) (sz_mul (hf _) hc)
    have := mulGo_size hf g _ (j + 1) _ hg' h1
    rw [mulGo, List.length_cons, Nat.add_mul]
    exact cfS_mono this (by omega)
theorem mulGo_len (f : List Rat) : ∀ (g acc : List Rat) (j : Nat), (mulGo f acc j g).length ≤ max acc.length (f.length + j + g.length)
  | [], acc, j => by simp only [mulGo]; omega
  | c :: g, acc, j => by
    have h1 := mulGo_len f g (addP acc (shiftP (mulC f c) j)) (j + 1)
    have h2 := addP_len acc (shiftP (mulC f c) j)
    have h3 := shiftP_len (mulC f c) j
    have h4 := mulC_len f c
    rw [mulGo, List.length_cons]
    omega
theorem sz_nil : CfS 1 [] := fun i => sz_zero
theorem mulGo_snoc (f : List Rat) (c : Rat) : ∀ (g acc : List Rat) (j : Nat), mulGo f acc j (g ++ [c]) = addP (mulGo f acc j g) (shiftP (mulC f c) (j + g.length))
  | [], acc, j => rfl
  | b :: g, acc, j => by
    rw [List.cons_append, mulGo, mulGo_snoc f c g, mulGo, List.length_cons]
    congr 2
    omega
theorem cfS_take {n : Nat} {f : List Rat} (h : CfS n f) (i : Nat) : CfS n (f.take i) := cfS_of (cfS_pos h) fun q hq => cfS_mem h q (List.mem_of_mem_take hq)
theorem cfS_mulC {n m : Nat} {f : List Rat} {c : Rat} (h : CfS n f) (hc : Sz m c) : CfS (n + m) (mulC f c) := fun i => by
  rw [mulC_getD]
  exact sz_mul (h i) hc
theorem cfS_shift {n : Nat} {f : List Rat} (h : CfS n f) (j : Nat) : CfS n (shiftP f j) := fun i => by
  rw [shiftP_getD]
  split
  · exact sz_zero.mono (cfS_pos h)
  · exact h _
theorem multiplied_spec {f g : List Rat} {n m : Nat} {s : S} {k xq} (hf : CfS n f) (hg : CfS m g) (hz : 2 + (g.length + 1) * (n + m + 1) ≤ 60000000) (hl : f.length < 100000) (hl' : g.length < 100000) (h : k (.own ((mulP f g).map fr)) s) : F_multiplied [.lst (f.map fr), .lst (g.map fr)] s k xq := by
  refine ⟨rfl, ?_⟩
  unfold BF_multiplied
  walk_at "wq"
  refine ⟨by show 0 ≤ sizeLine; decide, ?_⟩
  have e : enumD (g.map fr) = g.zipIdx.map fun p => .tup [.int (p.2 : Nat), fr p.1] := by
    unfold enumD
    rw [List.zipIdx_map]
    simp
  rw [e]
  have hp := cfS_pos hf
  refine forW_inv (fun i env s' => ∃ v3 v4, env = [.val (.lst (f.map fr)), .val (.lst (g.map fr)), .own ((mulGo f [] 0 (g.take i)).map fr), v3, v4] ∧ s' = s) ?_ ⟨.no, .no, rfl, rfl⟩ ?_
  · rintro i hi env s' ⟨v3, v4, rfl, rfl⟩ KN hk
    have hi' : i < g.length := by simpa using hi
    have hzi : g.zipIdx[i] = (g[i], i) := by simp
    rw [hzi]
    have hc : Sz m g[i] := cfS_mem hg _ (List.getElem_mem _)
    have hM := cfS_mulC hf hc
    have hA := mulGo_size (m := m) hf (g.take i) [] 0 1 (cfS_take hg i) sz_nil
    have hl1 : (g.take i).length = i := by simp; omega
    rw [hl1] at hA
    have hln := mulGo_len f (g.take i) [] 0
    have hlm := mulC_len f g[i]
    have hls := shiftP_len (mulC f g[i]) i
    have hz2 : (i + 1) * (n + m + 1) ≤ g.length * (n + m + 1) := Nat.mul_le_mul_right _ hi'
    rw [Nat.add_mul] at hz hz2
    walk_at "wq"
    refine grown_spec hf hc (by omega) (by omega) ?_
    walk_at "wq"
    refine raised_spec (by omega) ?_
    walk_at "wq"
    refine summed_spec hA (cfS_shift hM i) (by omega) (by simp at hln; omega) (by omega) ?_
    walk_at "wq"
    refine hk _ _ ⟨.val (.int (i : Nat)), .val (fr g[i]), ?_, rfl⟩
    rw [List.take_succ_eq_append_getElem hi', mulGo_snoc, hl1, Nat.zero_add]
    rfl
  · rintro env s' ⟨v3, v4, rfl, rfl⟩
    have hl2 : g.zipIdx.length = g.length := by simp
    rw [hl2, List.take_length]
    walk_at "wq"
    exact h
theorem flat_zero (m : Nat) : (List.replicate m [D.tup [.int 0, .int 1]]).flatten = (List.replicate m (0 : Rat)).map fr := by
  induction m with
  | zero => rfl
  | succ m ih => rw [List.replicate_succ, List.flatten_cons, List.replicate_succ, List.map_cons, ih]; rfl
theorem power_of_x_spec {d : Nat} {s : S} {k xq} (hd : d < 1000000) (h : k (.own ((List.replicate d (0 : Rat) ++ [1]).map fr)) s) : F_power_of_x [.int d] s k xq := by
  have sb := size_big
  refine ⟨rfl, ?_⟩
  unfold BF_power_of_x
  walk_at "ws"
  rw [Int.toNat_natCast, flat_zero]
  refine ⟨by decide, by simp [szT]; omega, by decide, by simp [szT]; omega, ?_⟩
  rw [List.map_append] at h
  exact h
theorem number_at_spec {f : List Rat} {x : Rat} {n m : Nat} {s : S} {k xq} (hf : ∀ q ∈ f, Sz n q) (hx : Sz m x) (hz : 1 + f.length * (n + m + 1) ≤ 60000000) (h : k (.val (fr (evP f x))) s) : F_number_at [.lst (f.map fr), fr x] s k xq := by
  refine ⟨rfl, ?_⟩
  unfold BF_number_at
  walk_at "wq"
  rw [← List.map_reverse]
  refine forW_inv (fun i env s' => ∃ v, env = [.val (.lst (f.map fr)), .val (fr x), .val (fr (evP (f.drop (f.length - i)) x)), v] ∧ s' = s) ?_ ⟨.no, by rw [Nat.sub_zero, List.drop_length]; rfl, rfl⟩ ?_
  · rintro i hi env s' ⟨v, rfl, rfl⟩ KN hk
    have hi' : i < f.length := by simpa using hi
    have e : f.reverse[i] = f[f.length - 1 - i] := by rw [List.getElem_reverse]
    rw [e]
    have hd : f.drop (f.length - (i + 1)) = f[f.length - 1 - i] :: f.drop (f.length - i) := by
      have : f.length - (i + 1) = f.length - 1 - i := by omega
      rw [this, List.drop_eq_getElem_cons (by omega)]
      congr 2
      omega
    have h1 := sz_ev (l := f.drop (f.length - i)) (fun q hq => hf q (List.mem_of_mem_drop hq)) hx
    have h2 : (f.drop (f.length - i)).length = i := by simp; omega
    rw [h2] at h1
    have h3 : (i + 1) * (n + m + 1) ≤ f.length * (n + m + 1) := Nat.mul_le_mul_right _ (by omega)
    rw [Nat.add_mul] at h3
    walk_at "wq"
    refine times_spec h1 hx (by omega) ?_
    walk_at "wq"
    refine plus_spec (sz_mul h1 hx) (hf _ (List.getElem_mem _)) (by omega) ?_
    walk_at "wq"
    refine hk _ _ ⟨.val (fr f[f.length - 1 - i]), ?_, rfl⟩
    rw [hd]
    rfl
  · rintro env s' ⟨v, rfl, rfl⟩
    walk_at "wq"
    simp only [List.length_reverse, Nat.sub_self, List.drop_zero]
    exact h
def nsm (R : List Rat) (P : Nat → Rat) (k n : Nat) : Rat := sg (fun b => R.getD (R.length - 1 - (b + 1)) 0 * P (k - (b + 1))) n
structure Newt (R : List Rat) (P : Nat → Rat) (m : Nat) : Prop where
  z : P 0 = ((R.length - 1 : Nat) : Rat)
  s : ∀ k, 1 ≤ k → k < m → P k = -1 * (nsm R P k (min (k - 1) (R.length - 1)) + (if k ≤ R.length - 1 then (k : Rat) * R.getD (R.length - 1 - k) 0 else 0))
theorem fr_nat (k : Nat) : fr ((k : Nat) : Rat) = .tup [.int k, .int 1] := by
  unfold fr
  rw [Rat.num_natCast, Rat.den_natCast]
  rfl
theorem sz_nat {k n : Nat} (h : k < 2 ^ n) (hn : 1 ≤ n) : Sz n ((k : Nat) : Rat) := by
  refine ⟨by rw [Rat.num_natCast]; simpa using h, ?_⟩
  rw [Rat.den_natCast]
  exact Nat.lt_of_lt_of_le (by decide) (Nat.pow_le_pow_right (by decide) hn)
theorem root_powers_spec {R : List Rat} {P : Nat → Rat} {m a b : Nat} {s : S} {k xq} (hN : Newt R P m) (hR : CfS a R) (hP : ∀ i, i < m → Sz b (P i)) (hR1 : 1 ≤ R.length) (hR8 : R.length ≤ 8) (hm : 1 ≤ m) (hm2 : m ≤ 60) (hz : 9 * (a + b + 10) ≤ 60000000)
    (h : k (.own (((List.range m).map P).map fr)) s) : F_root_powers [.lst (R.map fr), .int m] s k xq := by
  have sb := size_big
  refine ⟨rfl, ?_⟩
  unfold BF_root_powers
  walk_at "ws"
  refine ⟨by decide, by decide, ?_⟩
  walk_at "ws"
  simp only [List.length_map]
  obtain ⟨d, hd⟩ : ∃ d, R.length = d + 1 := ⟨R.length - 1, by omega⟩
  have hd1 : R.length - 1 = d := by omega
  have e0 : ((R.length : Nat) : Int) - 1 = (d : Nat) := by omega
  have e1 : ((m : Int) - 1).toNat = m - 1 := by omega
  have Hz := hN.z
  have Hs := hN.s
  unfold nsm at Hs
  rw [hd1] at Hz Hs
  rw [e0, e1]
  refine ⟨⟨by omega, by omega, by omega, by omega⟩, ?_⟩
  have ha := cfS_pos hR
  have zd : D.tup [.int d, .int 1] = fr (P 0) := by rw [Hz, fr_nat]
  rw [zd]
  refine forW_int (fun i env s' => ∃ v4 v5 v6, env = [.val (.lst (R.map fr)), .val (.int m), .val (.int d), .own (((List.range (i + 1)).map P).map fr), v4, v5, v6] ∧ s' = s) ?_ ⟨_, _, _, rfl, rfl⟩ ?_
  · rintro i hi env s' ⟨v4, v5, v6, rfl, rfl⟩ KN hk'
    walk_at "ws"
    have e2 : (1 : Int) + (i : Nat) - 1 = (i : Nat) := by omega
    have e3 : (((if (d : Int) < (i : Nat) then (d : Int) else (i : Nat)) + 1 - 1).toNat) = min i d := by split <;> omega
    have e3b : (if (d : Int) < (i : Nat) then (d : Int) else (i : Nat)) + 1 < 100 := by split <;> omega
    have e3c : 0 < (if (d : Int) < (i : Nat) then (d : Int) else (i : Nat)) + 1 := by split <;> omega
    rw [e2, e3]
    refine ⟨⟨by omega, by omega, by omega, by omega⟩, ?_⟩
    have ns := fun j (hj : j ≤ min i d) => sg_sz (f := fun b => R.getD (d - (b + 1)) 0 * P (i + 1 - (b + 1))) j fun b hb => sz_mul (hR (d - (b + 1))) (hP (i + 1 - (b + 1)) (by omega))
    have hb := fun j (hj : j ≤ min i d) => Nat.mul_le_mul_right (a + b + 1) (show j ≤ 7 by omega)
    refine forW_int (fun j env s'' => ∃ v6, env = [.val (.lst (R.map fr)), .val (.int m), .val (.int d), .own (((List.range (i + 1)).map P).map fr), .val (.int (1 + (i : Nat))), .val (fr (sg (fun b => R.getD (d - (b + 1)) 0 * P (i + 1 - (b + 1))) j)), v6] ∧ s'' = s') ?_ ⟨_, rfl, rfl⟩ ?_
    · rintro j hj env s'' ⟨v6, rfl, rfl⟩ KN2 hk2
      walk_at "ws"
      have f1 : (d : Int) - (1 + (j : Nat)) = ((d - (j + 1) : Nat) : Int) := by omega
      have f2 : (1 : Int) + (i : Nat) - (1 + (j : Nat)) = ((i + 1 - (j + 1) : Nat) : Int) := by omega
      rw [f1, f2]
      refine ⟨_, at_frs (by omega), _, at_frs (by simp; omega), ?_⟩
      rw [getD_range, if_pos (by omega)]
      have hb1 := hb j (by omega)
      refine times_spec (hR _) (hP _ (by omega)) (by omega) ?_
      walk_at "ws"
      refine plus_spec (ns j (by omega)) (sz_mul (hR _) (hP _ (by omega))) (by omega) ?_
      walk_at "ws"
      exact hk2 _ _ ⟨_, rfl, rfl⟩
    · rintro env s'' ⟨v6, rfl, rfl⟩
      walk_at "ws"
      have hS := Hs (i + 1) (by omega) (by omega)
      rw [Nat.add_sub_cancel] at hS
      have hb1 := hb (min i d) (Nat.le_refl _)
      have n1 := ns (min i d) (Nat.le_refl _)
      have fin : ∀ q : Rat, Sz (8 * (a + b + 10)) q → -1 * q = P (i + 1) → F_times [.tup [.int (-1), .int 1], fr q] s'' (callK (fun r env1 s1 => match at_ env1 3, r.d with
          | .own ds, d => ds.length < sizeLine ∧ KN (env1.set 3 (.own (ds ++ [d]))) s1
          | _, _ => False) [.val (.lst (R.map fr)), .val (.int m), .val (.int d), .own (((List.range (i + 1)).map P).map fr), .val (.int (1 + (i : Nat))), .val (fr q), v6]) xq := fun q hq e => by
        refine times_spec (p := -1) (n := 1) ⟨by decide, by decide⟩ hq (by omega) ?_
        rw [e]
        walk_at "ws"
        refine ⟨by simp; omega, hk' _ _ ⟨.val (.int (1 + (i : Nat))), .val (fr q), v6, ?_, rfl⟩⟩
        rw [List.range_succ (n := i + 1), List.map_append, List.map_append]
        rfl
      by_cases c : i + 1 ≤ d
      · rw [if_pos (by omega)]
        rw [if_pos c] at hS
        have f1 : (d : Int) - (1 + (i : Nat)) = ((d - (i + 1) : Nat) : Int) := by omega
        have f2 : D.tup [.int (1 + (i : Nat)), .int 1] = fr ((i + 1 : Nat) : Rat) := by
          rw [fr_nat]
          congr 3
          omega
        rw [f1, f2]
        refine ⟨by decide, _, at_frs (by omega), ?_⟩
        have zi : Sz 6 ((i + 1 : Nat) : Rat) := sz_nat (by omega) (by decide)
        refine times_spec zi (hR _) (by omega) ?_
        walk_at "ws"
        refine plus_spec n1 (sz_mul zi (hR _)) (by omega) ?_
        walk_at "ws"
        exact fin _ ((sz_add n1 (sz_mul zi (hR _))).mono (by omega)) hS.symm
      · rw [if_neg (by omega)]
        rw [if_neg c] at hS
        rw [Rat.add_zero] at hS
        walk_at "ws"
        exact fin _ (n1.mono (by omega)) hS.symm
  · rintro env s' ⟨v4, v5, v6, rfl, rfl⟩
    walk_at "ws"
    rw [show m - 1 + 1 = m by omega]
    exact h
theorem zip_fr {f S : List Rat} (h : f.length ≤ S.length) : zipD (f.map fr) (S.map fr) = (List.range f.length).map fun i => .tup [fr (f.getD i 0), fr (S.getD i 0)] := by
  unfold zipD
  refine List.ext_getElem (by simp; omega) fun i h1 h2 => ?_
  have hi : i < f.length := by simpa using h2
  simp [hi, show i < S.length by omega]
theorem dot_sz {f S : List Rat} {n m : Nat} (hf : CfS n f) (hS : CfS m S) : ∀ q ∈ (List.range f.length).map (fun i => f.getD i 0 * S.getD i 0), Sz (n + m) q := fun q hq => by
  obtain ⟨i, _, rfl⟩ := List.mem_map.mp hq
  exact sz_mul (hf i) (hS i)
theorem worth_spec {f S : List Rat} {n m : Nat} {s : DL.S} {k xq} (hl : f.length ≤ S.length) (hf : CfS n f) (hS : CfS m S) (hz : (f.length + 1) * (n + m + 1) ≤ 60000000) (hS1 : S.length < 1000000) (h : k (.val (fr (dotQ f S))) s) : F_worth [.lst (S.map fr), .lst (f.map fr)] s k xq := by
  have sb := size_big
  have hz1 : n + m ≤ 60000000 := by
    have : n + m + 1 ≤ (f.length + 1) * (n + m + 1) := Nat.le_mul_of_pos_left _ (by omega)
    omega
  refine ⟨rfl, ?_⟩
  unfold BF_worth
  walk_at "wq"
  rw [if_neg (by simp; omega), zip_fr hl]
  refine ⟨by simp; omega, ?_⟩
  refine compW_fr (g := fun i => f.getD i 0 * S.getD i 0) ?_ ?_
  · intro i hi K hK
    walk_at "wq"
    refine times_spec (hf i) (hS i) hz1 ?_
    walk_at "wq"
    exact hK
  walk_at "wq"
  refine total_spec (n := n + m) (dot_sz hf hS) (by simpa using hz) ?_
  exact h
theorem square_sum_spec {f g S : List Rat} {n m l o : Nat} {s : DL.S} {k} {xq : Str → DL.S → Prop} (hf : CfS n f) (hg : CfS m g) (hz : 2 + (g.length + 1) * (n + m + 1) ≤ 60000000) (hl1 : f.length < 100000) (hl2 : g.length < 100000) (hl : (mulP f g).length ≤ S.length)
    (hm : CfS l (mulP f g)) (hS : CfS o S) (hz2 : ((mulP f g).length + 1) * (l + o + 1) ≤ 60000000) (hS1 : S.length < 1000000) (h : k (.val (fr (dotQ (mulP f g) S))) s) : F_square_sum [.lst (S.map fr), .lst (f.map fr), .lst (g.map fr)] s k xq := by
  refine ⟨rfl, ?_⟩
  unfold BF_square_sum
  walk_at "wq"
  refine multiplied_spec hf hg hz hl1 hl2 ?_
  walk_at "wq"
  exact worth_spec hl hm hS hz2 hS1 h
theorem pigeon : ∀ (b a : Nat) (F : Nat → Nat), (∀ i, i < a → F i < b) → b < a → ∃ i j, i < j ∧ j < a ∧ F i = F j
  | 0, a, F, h, hb => absurd (h 0 hb) (by omega)
  | b + 1, a, F, h, hb => by
    obtain ⟨a, rfl⟩ : ∃ c, a = c + 1 := ⟨a - 1, by omega⟩
    by_cases hc : ∃ i, i < a ∧ F i = F a
    · obtain ⟨i, hi, e⟩ := hc
      exact ⟨i, a, hi, by omega, e⟩
    · have hne : ∀ i, i < a → F i ≠ F a := fun i hi e => hc ⟨i, hi, e⟩
      have ha := h a (by omega)
      obtain ⟨i, j, h1, h2, h3⟩ := pigeon b a (fun i => if F i = b then F a else F i) (fun i hi => by
        have h1 := h i (by omega)
        have h2 := hne i hi
        show (if F i = b then F a else F i) < b
        split <;> omega) (by omega)
      refine ⟨i, j, h1, by omega, ?_⟩
      have e1 := hne i (by omega)
      have e2 := hne j h2
      have h3' : (if F i = b then F a else F i) = (if F j = b then F a else F j) := h3
      split at h3' <;> split at h3' <;> omega
def enc (b : Nat) (f : Nat → Nat) : Nat → Nat
  | 0 => 0
  | n + 1 => enc b f n + b ^ n * f n
theorem enc_lt {b : Nat} {f : Nat → Nat} : ∀ n, (∀ i, i < n → f i < b) → enc b f n < b ^ n
  | 0, _ => by simp [enc]
  | n + 1, h => by
    have h1 := enc_lt n fun i hi => h i (by omega)
    have h2 := h n (by omega)
    have h3 : b ^ n * (f n + 1) ≤ b ^ n * b := Nat.mul_le_mul_left _ h2
    rw [enc, Nat.pow_succ]
    rw [Nat.mul_add] at h3
    omega
theorem enc_inj {b : Nat} {f g : Nat → Nat} : ∀ n, (∀ i, i < n → f i < b) → (∀ i, i < n → g i < b) → enc b f n = enc b g n → ∀ i, i < n → f i = g i
  | 0, _, _, _, i, hi => by omega
  | n + 1, hf, hg, e, i, hi => by
    have h1 := enc_lt n fun i hi => hf i (by omega)
    have h2 := enc_lt n fun i hi => hg i (by omega)
    rw [enc, enc] at e
    have e1 : (enc b f n + b ^ n * f n) / b ^ n = f n := by
      rw [Nat.add_mul_div_left _ _ (by omega), Nat.div_eq_of_lt h1, Nat.zero_add]
    have e2 : (enc b g n + b ^ n * g n) / b ^ n = g n := by
      rw [Nat.add_mul_div_left _ _ (by omega), Nat.div_eq_of_lt h2, Nat.zero_add]
    have e3 : f n = g n := by rw [← e1, e, e2]
    by_cases hin : i = n
    · subst hin
      exact e3
    · rw [e3] at e
      exact enc_inj n (fun i hi => hf i (by omega)) (fun i hi => hg i (by omega)) (by omega) i (by omega)
theorem enc_dec (b t : Nat) : ∀ n, enc b (fun k => t / b ^ k % b) n = t % b ^ n
  | 0 => by simp [enc, Nat.mod_one]
  | n + 1 => by rw [enc, enc_dec b t n, Nat.mod_pow_succ]
def sgI (f : Nat → Int) : Nat → Int
  | 0 => 0
  | n + 1 => sgI f n + f n
theorem sgI_abs {f : Nat → Int} {m : Nat} : ∀ n, (∀ i, i < n → (f i).natAbs ≤ m) → (sgI f n).natAbs ≤ n * m
  | 0, _ => by simp [sgI]
  | n + 1, h => by
    have h1 := sgI_abs n fun i hi => h i (by omega)
    have h2 := h n (by omega)
    rw [sgI, Nat.add_mul]
    omega
theorem sgI_sub {f g : Nat → Int} : ∀ n, sgI (fun i => f i - g i) n = sgI f n - sgI g n
  | 0 => rfl
  | n + 1 => by rw [sgI, sgI_sub n, sgI, sgI]; omega
theorem siegel {z : Nat → Int} {M n : Nat} (hz : ∀ k, (z k).natAbs ≤ M) (hM : 0 < M) : ∃ a : Nat → Int, (∃ j, j < n + 1 ∧ a j ≠ 0) ∧ (∀ j, (a j).natAbs ≤ (2 * ((n + 1) * M)) ^ n) ∧ ∀ i, i < n → sgI (fun j => a j * z (i + j)) (n + 1) = 0 := by
  generalize hX : (2 * ((n + 1) * M)) ^ n = X
  generalize hK : (n + 1) * (X * M) = K
  have hdig : ∀ t k, t / (X + 1) ^ k % (X + 1) ≤ X := fun t k => by have := Nat.mod_lt (t / (X + 1) ^ k) (show 0 < X + 1 by omega); omega
  have hV : ∀ t i, (sgI (fun j => ((t / (X + 1) ^ j % (X + 1) : Nat) : Int) * z (i + j)) (n + 1)).natAbs ≤ K := fun t i => by
    rw [← hK]
    refine sgI_abs (n + 1) fun j _ => ?_
    rw [Int.natAbs_mul]
    exact Nat.mul_le_mul (by rw [Int.natAbs_natCast]; exact hdig t j) (hz _)
  generalize hVd : (fun t i => (sgI (fun j => ((t / (X + 1) ^ j % (X + 1) : Nat) : Int) * z (i + j)) (n + 1))) = V at *
  have hV' : ∀ t i, (V t i).natAbs ≤ K := fun t i => by rw [← hVd]; exact hV t i
  obtain ⟨t, u, h1, h2, h3⟩ := pigeon ((2 * K + 1) ^ n) ((X + 1) ^ (n + 1)) (fun t => enc (2 * K + 1) (fun i => (V t i + K).toNat) n) (fun t _ => enc_lt n fun i _ => by have := hV' t i; omega) (by
    have e : (2 * ((n + 1) * M) * (X + 1)) ^ n = X * (X + 1) ^ n := by rw [Nat.mul_pow, hX]
    have h1 : 2 * K + 1 ≤ 2 * ((n + 1) * M) * (X + 1) := by
      have e2 : 2 * ((n + 1) * M) * (X + 1) = 2 * K + 2 * ((n + 1) * M) := by
        rw [Nat.mul_add, Nat.mul_one, ← hK, Nat.mul_comm X M, ← Nat.mul_assoc (n + 1) M X, Nat.mul_assoc 2]
      have h0 : 0 < (n + 1) * M := Nat.mul_pos (by omega) hM
      omega
    have h2 := Nat.pow_le_pow_left h1 n
    rw [e] at h2
    have h4 : 0 < (X + 1) ^ n := Nat.pow_pos (by omega)
    have h5 : (X + 1) ^ (n + 1) = X * (X + 1) ^ n + (X + 1) ^ n := by rw [Nat.pow_succ, Nat.mul_comm, Nat.add_mul, Nat.one_mul]
    omega)
  have hVe : ∀ i, i < n → V t i = V u i := fun i hi => by
    have := enc_inj n (fun i _ => by have := hV' t i; omega) (fun i _ => by have := hV' u i; omega) h3 i hi
    have a1 := hV' t i
    have a2 := hV' u i
    have this : (V t i + K).toNat = (V u i + K).toNat := this
    omega
  refine ⟨fun j => ((t / (X + 1) ^ j % (X + 1) : Nat) : Int) - ((u / (X + 1) ^ j % (X + 1) : Nat) : Int), ?_, fun j => ?_, fun i hi => ?_⟩
  · apply Classical.byContradiction
    intro hc
    have hall : ∀ j, j < n + 1 → t / (X + 1) ^ j % (X + 1) = u / (X + 1) ^ j % (X + 1) := fun j hj => by
      apply Classical.byContradiction
      intro hne
      refine hc ⟨j, hj, fun z => hne ?_⟩
      have z : ((t / (X + 1) ^ j % (X + 1) : Nat) : Int) - ((u / (X + 1) ^ j % (X + 1) : Nat) : Int) = 0 := z
      generalize t / (X + 1) ^ j % (X + 1) = p at *
      generalize u / (X + 1) ^ j % (X + 1) = q at *
      omega
    have e1 := enc_dec (X + 1) t (n + 1)
    have e2 := enc_dec (X + 1) u (n + 1)
    have e3 : ∀ m, m ≤ n + 1 → enc (X + 1) (fun k => t / (X + 1) ^ k % (X + 1)) m = enc (X + 1) (fun k => u / (X + 1) ^ k % (X + 1)) m := fun m => by
      induction m with
      | zero => intro _; rfl
      | succ m ih => intro hm; rw [enc, enc, ih (by omega)]; show _ + _ * (t / (X + 1) ^ m % (X + 1)) = _ + _ * (u / (X + 1) ^ m % (X + 1)); rw [hall m (by omega)]
    rw [e3 _ (Nat.le_refl _), e2, Nat.mod_eq_of_lt h2, Nat.mod_eq_of_lt (show t < (X + 1) ^ (n + 1) by omega)] at e1
    omega
  · have a1 := hdig t j
    have a2 := hdig u j
    show (((t / (X + 1) ^ j % (X + 1) : Nat) : Int) - ((u / (X + 1) ^ j % (X + 1) : Nat) : Int)).natAbs ≤ X
    omega
  · have e : (fun j => (((t / (X + 1) ^ j % (X + 1) : Nat) : Int) - ((u / (X + 1) ^ j % (X + 1) : Nat) : Int)) * z (i + j)) = fun j => ((t / (X + 1) ^ j % (X + 1) : Nat) : Int) * z (i + j) - ((u / (X + 1) ^ j % (X + 1) : Nat) : Int) * z (i + j) := by
      funext j
      rw [Int.sub_mul]
    show sgI (fun j => (((t / (X + 1) ^ j % (X + 1) : Nat) : Int) - ((u / (X + 1) ^ j % (X + 1) : Nat) : Int)) * z (i + j)) (n + 1) = 0
    rw [e, sgI_sub]
    have := hVe i hi
    rw [← hVd] at this
    have this : sgI (fun j => ((t / (X + 1) ^ j % (X + 1) : Nat) : Int) * z (i + j)) (n + 1) = sgI (fun j => ((u / (X + 1) ^ j % (X + 1) : Nat) : Int) * z (i + j)) (n + 1) := this
    omega
def ipx (s f : Nat → Rat) (i : Nat) : Rat := sg (fun j => f j * s (i + j)) 12
def bil (s f g : Nat → Rat) : Rat := sg (fun i => g i * ipx s f i) 12
def shF (f : Nat → Rat) : Nat → Rat := fun i => if i = 0 then 0 else f (i - 1)
theorem bil_comm (s f g : Nat → Rat) : bil s f g = bil s g f := by
  unfold bil ipx
  rw [sg_swap]
  refine sg_congr _ fun i _ => ?_
  rw [Rat.mul_comm, ← sg_mul]
  refine sg_congr _ fun j _ => ?_
  rw [Nat.add_comm j i]
  grind
theorem ipx_lin (s f g : Nat → Rat) (c : Rat) (i : Nat) : ipx s (fun j => f j - c * g j) i = ipx s f i - c * ipx s g i := by
  unfold ipx
  have e : (fun j => (f j - c * g j) * s (i + j)) = fun j => f j * s (i + j) + g j * s (i + j) * (-c) := by
    funext j
    grind
  rw [e, sg_add, sg_mul]
  grind
theorem bil_lin (s f g k : Nat → Rat) (c : Rat) : bil s (fun j => f j - c * g j) k = bil s f k - c * bil s g k := by
  unfold bil
  have e : (fun i => k i * ipx s (fun j => f j - c * g j) i) = fun i => k i * ipx s f i + k i * ipx s g i * (-c) := by
    funext i
    rw [ipx_lin]
    grind
  rw [e, sg_add, sg_mul]
  grind
theorem ipx_sh {s f : Nat → Rat} (hf : f 11 = 0) (i : Nat) : ipx s (shF f) i = ipx s f (i + 1) := by
  unfold ipx
  rw [sg_shift, sg]
  show (0 : Rat) * _ + sg (fun j => f j * s (i + (j + 1))) 11 = sg _ 11 + f 11 * _
  rw [hf]
  have : (fun j => f j * s (i + (j + 1))) = fun j => f j * s (i + 1 + j) := by
    funext j
    rw [show i + (j + 1) = i + 1 + j by omega]
  rw [this]
  grind
theorem bil_sh {s f g : Nat → Rat} (hf : f 11 = 0) (hg : g 11 = 0) : bil s (shF f) g = bil s f (shF g) := by
  unfold bil
  have e : (fun i => g i * ipx s (shF f) i) = fun i => g i * ipx s f (i + 1) := by
    funext i
    rw [ipx_sh hf]
  rw [e, sg_shift (f := fun i => shF g i * ipx s f i), sg]
  show sg (fun i => g i * ipx s f (i + 1)) 11 + g 11 * _ = (0 : Rat) * _ + sg (fun i => g i * ipx s f (i + 1)) 11
  rw [hg]
  grind
def stp (s : Nat → Rat) : Nat → (Nat → Rat) × (Nat → Rat)
  | 0 => (fun j => if j = 0 then 1 else 0, fun _ => 0)
  | n + 1 => (fun j => shF (stp s n).1 j - bil s (shF (stp s n).1) (stp s n).1 / bil s (stp s n).1 (stp s n).1 * (stp s n).1 j - bil s (stp s n).1 (stp s n).1 / bil s (stp s n).2 (stp s n).2 * (stp s n).2 j, (stp s n).1)
def stP (s : Nat → Rat) (n : Nat) : Nat → Rat := (stp s n).1
def stQ (s : Nat → Rat) (n : Nat) : Nat → Rat := (stp s n).2
def stH (s : Nat → Rat) (n : Nat) : Rat := bil s (stP s n) (stP s n)
def stT (s : Nat → Rat) (n : Nat) : Rat := bil s (shF (stP s n)) (stP s n) / stH s n
theorem stQ_succ (s : Nat → Rat) (n : Nat) : stQ s (n + 1) = stP s n := rfl
theorem stP_succ (s : Nat → Rat) (n : Nat) : stP s (n + 1) = fun j => shF (stP s n) j - stT s n * stP s n j - stH s n / bil s (stQ s n) (stQ s n) * stQ s n j := rfl
theorem stPQ_deg (s : Nat → Rat) : ∀ n, (∀ j, n < j → stP s n j = 0) ∧ stP s n n = 1 ∧ (∀ j, n ≤ j → stQ s n j = 0)
  | 0 => ⟨fun j hj => if_neg (by omega), rfl, fun _ _ => rfl⟩
  | n + 1 => by
    obtain ⟨h1, h2, h3⟩ := stPQ_deg s n
    refine ⟨fun j hj => ?_, ?_, fun j hj => h1 j (by omega)⟩
    · rw [stP_succ]
      show shF (stP s n) j - stT s n * stP s n j - _ * stQ s n j = 0
      unfold shF
      rw [if_neg (by omega), h1 (j - 1) (by omega), h1 j (by omega), h3 j (by omega)]
      grind
    · rw [stP_succ]
      show shF (stP s n) (n + 1) - stT s n * stP s n (n + 1) - _ * stQ s n (n + 1) = 1
      unfold shF
      rw [if_neg (by omega), Nat.add_sub_cancel, h2, h1 (n + 1) (by omega), h3 (n + 1) (by omega)]
      grind
theorem bil_zero (s g : Nat → Rat) : bil s (fun _ => 0) g = 0 := by
  unfold bil
  refine sg_zero _ fun i _ => ?_
  have : ipx s (fun _ => 0) i = 0 := sg_zero _ fun j _ => by grind
  rw [this]
  grind
theorem sh_step (s : Nat → Rat) (n : Nat) : shF (stP s n) = fun j => (fun j => stP s (n + 1) j - (-stT s n) * stP s n j) j - (-(stH s n / bil s (stQ s n) (stQ s n))) * stQ s n j := by
  funext j
  rw [stP_succ]
  grind
theorem orth {s : Nat → Rat} : ∀ n, n ≤ 10 → (∀ k, k < n → stH s k ≠ 0) → ∀ m k, m ≤ n → k < m → bil s (stP s m) (stP s k) = 0
  | 0, _, _, m, k, hm, hk => by omega
  | n + 1, hn, hh, m, k, hm, hk => by
    have ih := orth (s := s) n (by omega) fun k hk => hh k (by omega)
    by_cases hmn : m ≤ n
    · exact ih m k hmn hk
    have hm : m = n + 1 := by omega
    subst hm
    have f11 : ∀ i, i ≤ 10 → stP s i 11 = 0 := fun i hi => (stPQ_deg s i).1 11 (by omega)
    have hq : ∀ g, bil s (stP s (n + 1)) g = bil s (shF (stP s n)) g - stT s n * bil s (stP s n) g - stH s n / bil s (stQ s n) (stQ s n) * bil s (stQ s n) g := fun g => by
      rw [stP_succ, bil_lin (f := fun j => shF (stP s n) j - stT s n * stP s n j), bil_lin]
    rw [hq]
    by_cases hkn : k = n
    · subst hkn
      have h0 : bil s (stQ s k) (stP s k) = 0 := by
        cases k with
        | zero => exact bil_zero s _
        | succ k =>
          rw [stQ_succ, bil_comm]
          exact ih (k + 1) k (by omega) (by omega)
      rw [h0]
      have h1 := hh k (by omega)
      unfold stT
      have e : bil s (stP s k) (stP s k) = stH s k := rfl
      rw [e]
      grind
    · have hk' : k < n := by omega
      have e0 := ih n k (by omega) hk'
      rw [e0, bil_sh (f11 n (by omega)) (f11 k (by omega)), sh_step, bil_comm, bil_lin (f := fun j => stP s (k + 1) j - (-stT s k) * stP s k j), bil_lin, bil_comm s (stP s (k + 1)), bil_comm s (stP s k), e0]
      have e1 : bil s (stQ s k) (stP s n) = 0 := by
        cases k with
        | zero => exact bil_zero s _
        | succ k =>
          rw [stQ_succ, bil_comm]
          exact ih n k (by omega) (by omega)
      rw [e1]
      obtain ⟨n, rfl⟩ : ∃ c, n = c + 1 := ⟨n - 1, by omega⟩
      rw [stQ_succ]
      by_cases hk2 : k = n
      · subst hk2
        have e2 : bil s (stP s k) (stP s k) = stH s k := rfl
        have e3 : bil s (stP s (k + 1)) (stP s (k + 1)) = stH s (k + 1) := rfl
        have h1 := hh k (by omega)
        rw [e2, e3]
        grind
      · rw [ih (n + 1) (k + 1) (by omega) (by omega), ih n k (by omega) (by omega)]
        grind
theorem zero_of_orth {s : Nat → Rat} : ∀ (m : Nat) (r : Nat → Rat), m ≤ 10 → (∀ k, k < m → stH s k ≠ 0) → (∀ j, m ≤ j → r j = 0) → (∀ k, k < m → bil s r (stP s k) = 0) → ∀ j, r j = 0
  | 0, r, _, _, hr, _ => fun j => hr j (by omega)
  | m + 1, r, hm, hh, hr, hb => by
    have hP := stPQ_deg s m
    have h0 := zero_of_orth (s := s) m (fun j => r j - r m * stP s m j) (by omega) (fun k hk => hh k (by omega)) (fun j hj => by
      show r j - r m * stP s m j = 0
      by_cases e : j = m
      · subst e
        rw [hP.2.1]
        grind
      · rw [hr j (by omega), hP.1 j (by omega)]
        grind) (fun k hk => by
      rw [bil_lin (f := r), hb k (by omega), orth (m + 1) (by omega) hh m k (by omega) hk]
      grind)
    have h1 : ∀ j, r j = r m * stP s m j := fun j => by
      have : r j - r m * stP s m j = 0 := h0 j
      grind
    have h2 := hb m (by omega)
    have h3 : bil s r (stP s m) = r m * stH s m := by
      have e : r = fun j => (fun _ => (0 : Rat)) j - (-r m) * stP s m j := by
        funext j
        rw [h1 j]
        grind
      refine Eq.trans (congrArg (fun f => bil s f (stP s m)) e) ?_
      show bil s (fun j => (fun _ => (0 : Rat)) j - (-r m) * stP s m j) (stP s m) = _
      rw [bil_lin (f := fun _ => (0 : Rat)), bil_zero]
      unfold stH
      grind
    rw [h3] at h2
    have h4 : r m = 0 := by
      have := hh m (by omega)
      grind
    intro j
    rw [h1 j, h4]
    grind
theorem intRat_ne {d : Int} (h : d ≠ 0) : (d : Rat) ≠ 0 := fun z => h (by exact_mod_cast z)
theorem sg_int (f : Nat → Int) : ∀ n, sg (fun j => ((f j : Int) : Rat)) n = ((sgI f n : Int) : Rat)
  | 0 => rfl
  | n + 1 => by rw [sg, sg_int f n, sgI, Rat.intCast_add]
theorem stP_small {s : Nat → Rat} {z : Nat → Int} {B : Int} {M n : Nat} (hs : ∀ k, s k = (z k : Rat) / (B : Rat)) (hz : ∀ k, (z k).natAbs ≤ M) (hM : 0 < M) (hn : n ≤ 10) (hh : ∀ k, k < n → stH s k ≠ 0) : ∃ (a : Nat → Int) (D : Int), D ≠ 0 ∧ D.natAbs ≤ (2 * ((n + 1) * M)) ^ n ∧ (∀ j, (a j).natAbs ≤ (2 * ((n + 1) * M)) ^ n) ∧ ∀ j, stP s n j = (a j : Rat) / (D : Rat) := by
  obtain ⟨a, ⟨j0, hj0, hne⟩, ha, he⟩ := siegel (n := n) hz hM
  have hP := stPQ_deg s n
  generalize hA : (fun j => if j < n + 1 then ((a j : Int) : Rat) else 0) = A
  have hAj : ∀ j, A j = if j < n + 1 then ((a j : Int) : Rat) else 0 := fun j => by rw [← hA]
  have hip : ∀ i, i < n → ipx s A i = 0 := fun i hi => by
    unfold ipx
    have e : 12 = (n + 1) + (11 - n) := by omega
    rw [e, sg_more _ fun j h1 _ => by rw [hAj, if_neg (by omega)]; grind]
    have e2 : sg (fun j => A j * s (i + j)) (n + 1) = sg (fun j => ((a j * z (i + j) : Int) : Rat) * (1 / (B : Rat))) (n + 1) := sg_congr _ fun j hj => by
      rw [hAj, if_pos hj, hs, Rat.intCast_mul]
      grind
    rw [e2, sg_mul, sg_int, he i hi]
    grind
  have hr := zero_of_orth (s := s) n (fun j => A j - A n * stP s n j) hn hh (fun j hj => by
    show A j - A n * stP s n j = 0
    by_cases e : j = n
    · subst e
      rw [hP.2.1]
      grind
    · rw [hAj j, if_neg (by omega), hP.1 j (by omega)]
      grind) (fun k hk => by
    rw [bil_lin (f := A), orth n hn hh n k (Nat.le_refl _) hk]
    have : bil s A (stP s k) = 0 := by
      unfold bil
      refine sg_zero _ fun i _ => ?_
      by_cases hi : i < n
      · rw [hip i hi]
        grind
      · rw [(stPQ_deg s k).1 i (by omega)]
        grind
    rw [this]
    grind)
  have h1 : ∀ j, A j = A n * stP s n j := fun j => by
    have : A j - A n * stP s n j = 0 := hr j
    grind
  have hAn : A n = (a n : Rat) := by rw [hAj, if_pos (by omega)]
  have hD : a n ≠ 0 := fun e => by
    have h2 := h1 j0
    rw [hAn, e, hAj, if_pos hj0] at h2
    have h3 := intRat_ne hne
    have : ((0 : Int) : Rat) = 0 := rfl
    rw [this] at h2
    grind
  have hDq := intRat_ne hD
  refine ⟨fun j => if j < n + 1 then a j else 0, a n, hD, ha n, fun j => ?_, fun j => ?_⟩
  · show (if j < n + 1 then a j else 0).natAbs ≤ _
    split
    · exact ha j
    · simp
  · have h2 := h1 j
    rw [hAn] at h2
    have e : (((if j < n + 1 then a j else 0 : Int)) : Rat) = A j := by
      rw [hAj]
      split <;> rfl
    show stP s n j = (((if j < n + 1 then a j else 0 : Int)) : Rat) / _
    rw [e, h2]
    grind
def Cb (D : Int) (X : Nat) (l : List Rat) : Prop := ∀ i, ∃ z : Int, z.natAbs ≤ X ∧ l.getD i 0 = (z : Rat) / (D : Rat)
theorem Cb.cf {D : Int} {X n : Nat} {l : List Rat} (h : Cb D X l) (hD : D ≠ 0) (h1 : D.natAbs < 2 ^ n) (h2 : X < 2 ^ n) : CfS n l := fun i => by
  obtain ⟨z, h3, h4⟩ := h i
  rw [h4]
  exact sz_div hD (by omega) h1
theorem Cb.mem {D : Int} {X : Nat} {l : List Rat} (h : Cb D X l) : ∀ q ∈ l, ∃ z : Int, z.natAbs ≤ X ∧ q = (z : Rat) / (D : Rat) := fun q hq => by
  obtain ⟨i, hi, rfl⟩ := List.mem_iff_getElem.mp hq
  have := h i
  rwa [getD_el hi] at this
theorem sums_top {S : List Rat} (h : SumsOk S) : ∃ z : Nat → Int, (∀ k, (z k).natAbs ≤ 2 ^ 90) ∧ ∀ k, S.getD k 0 = (z k : Rat) / ((6 ^ 11 : Int) : Rat) := by
  have hg : ∀ k, ∃ z : Int, z.natAbs ≤ 2 ^ 90 ∧ S.getD k 0 = (z : Rat) / ((6 ^ 11 : Int) : Rat) := fun k => gr_getD h.2.2 k
  exact ⟨fun k => Classical.choose (hg k), fun k => (Classical.choose_spec (hg k)).1, fun k => (Classical.choose_spec (hg k)).2⟩
theorem cvl_far {f : List Rat} : ∀ {g : List Rat} {j k : Nat}, f.length + g.length + j ≤ k + 1 → cvl f k j g = 0
  | [], j, k, _ => rfl
  | c :: g, j, k, h => by
    rw [List.length_cons] at h
    rw [cvl, cvl_far (by omega)]
    by_cases hk : k < j
    · rw [if_pos hk]; grind
    · rw [if_neg hk, getD_big (l := f) (by omega)]; grind
theorem sg_off (F : Nat → Rat) (M : Nat) : ∀ j, sg (fun k => if k < j then 0 else F k) (j + M) = sg (fun m => F (j + m)) M
  | 0 => by rw [Nat.zero_add]; exact sg_congr _ fun m _ => by rw [if_neg (by omega), Nat.zero_add]
  | j + 1 => by
    rw [show j + 1 + M = (j + M) + 1 by omega, sg_shift, if_pos (by omega)]
    have e : sg (fun k => if k + 1 < j + 1 then 0 else F (k + 1)) (j + M) = sg (fun k => if k < j then 0 else F (k + 1)) (j + M) := sg_congr _ fun k _ => by
      by_cases h : k < j
      · rw [if_pos h, if_pos (by omega)]
      · rw [if_neg h, if_neg (by omega)]
    rw [e, sg_off (fun k => F (k + 1)) M j]
    rw [show sg (fun m => F (j + m + 1)) M = sg (fun m => F (j + 1 + m)) M from sg_congr _ fun m _ => by rw [show j + m + 1 = j + 1 + m by omega]]
    grind
theorem cv_sum (s : Nat → Rat) {f : List Rat} {M N : Nat} (hf : f.length ≤ M) : ∀ (g : List Rat) (j : Nat), j + g.length + M ≤ N → sg (fun k => cvl f k j g * s k) N = sg (fun i => g.getD i 0 * sg (fun m => f.getD m 0 * s (j + i + m)) M) g.length
  | [], j, _ => by
    rw [show ([] : List Rat).length = 0 from rfl]
    exact sg_zero N fun i _ => by rw [cvl]; grind
  | c :: g, j, h => by
    rw [List.length_cons] at h ⊢
    have ih := cv_sum s (N := N) hf g (j + 1) (by omega)
    have e : (fun k => cvl f k j (c :: g) * s k) = fun k => (if k < j then 0 else f.getD (k - j) 0 * s k) * c + cvl f k (j + 1) g * s k := by
      funext k
      rw [cvl]
      split <;> grind
    rw [e, sg_add, ih, sg_mul, sg_shift]
    have e1 : sg (fun k => if k < j then 0 else f.getD (k - j) 0 * s k) N = sg (fun m => f.getD m 0 * s (j + m)) M := by
      have e2 : N = (j + M) + (N - (j + M)) := by omega
      rw [e2, sg_more (n := j + M) _ fun k h1 _ => by rw [if_neg (show ¬ k < j by omega), getD_big (show f.length ≤ k - j by omega)]; grind, sg_off (fun k => f.getD (k - j) 0 * s k)]
      exact sg_congr _ fun m _ => by rw [Nat.add_sub_cancel_left]
    rw [e1]
    have e3 : (c :: g).getD 0 0 = c := rfl
    rw [e3, Nat.add_zero]
    have e4 : sg (fun i => (c :: g).getD (i + 1) 0 * sg (fun m => f.getD m 0 * s (j + (i + 1) + m)) M) g.length = sg (fun i => g.getD i 0 * sg (fun m => f.getD m 0 * s (j + 1 + i + m)) M) g.length := sg_congr _ fun i _ => by
      rw [show (c :: g).getD (i + 1) 0 = g.getD i 0 by simp, show j + (i + 1) = j + 1 + i by omega]
    rw [e4]
    grind
theorem mulP_len12 {f g : List Rat} (hf : f.length ≤ 12) (hg : g.length ≤ 12) : (mulP f g).length ≤ 24 := by
  rcases Nat.lt_or_ge 24 (mulP f g).length with z | z
  · exfalso
    rcases mulP_clean f g with e | hc
    · rw [e] at z
      simp at z
    · apply hc
      have hl : (mulP f g).length - 1 < (mulP f g).length := by omega
      have h0 : (mulP f g).getD ((mulP f g).length - 1) 0 = 0 := by
        rw [mulP_getD]
        exact cvl_far (by omega)
      rw [getD_el hl] at h0
      rw [List.getLast?_eq_getElem?, List.getElem?_eq_getElem hl, h0]
  · exact z
theorem dot_bil {f g S : List Rat} (hf : f.length ≤ 12) (hg : g.length ≤ 12) : dotQ (mulP f g) S = bil (fun k => S.getD k 0) (fun k => f.getD k 0) (fun k => g.getD k 0) := by
  have h := cv_sum (fun k => S.getD k 0) (N := 24) hf g 0 (by omega)
  have e1 : dotQ (mulP f g) S = sg (fun k => cvl f k 0 g * S.getD k 0) 24 := by
    unfold dotQ
    rw [sg_sumQ]
    have hl := mulP_len12 hf hg
    have e2 : 24 = (mulP f g).length + (24 - (mulP f g).length) := by omega
    rw [e2, sg_more _ fun k h1 _ => by rw [← mulP_getD, getD_big h1]; grind]
    exact sg_congr _ fun k _ => by rw [mulP_getD]
  rw [e1, h]
  unfold bil ipx
  have e3 : 12 = g.length + (12 - g.length) := by omega
  have e4 := sg_more (f := fun i => g.getD i 0 * sg (fun j => f.getD j 0 * S.getD (i + j) 0) 12) (n := g.length) (12 - g.length) fun k h1 _ => by
    show g.getD k 0 * _ = 0
    rw [getD_big h1]
    grind
  rw [← e3] at e4
  rw [e4]
  exact sg_congr _ fun i _ => by
    congr 1
    exact sg_congr _ fun m _ => by rw [Nat.zero_add]
abbrev sF (S : List Rat) : Nat → Rat := fun k => S.getD k 0
def stL (S : List Rat) (n : Nat) : List Rat := (List.range (n + 1)).map (stP (sF S) n)
theorem stL_len (S : List Rat) (n : Nat) : (stL S n).length = n + 1 := by simp [stL]
theorem stL_getD (S : List Rat) (n j : Nat) : (stL S n).getD j 0 = stP (sF S) n j := by
  unfold stL
  rw [getD_range]
  split
  · rfl
  · exact ((stPQ_deg (sF S) n).1 j (by omega)).symm
theorem clean_top {l : List Rat} {n : Nat} (hl : l.length = n + 1) (h : l.getD n 0 ≠ 0) : Clean l := by
  refine .inr fun e => h ?_
  rw [List.getLast?_eq_getElem?, hl, Nat.add_sub_cancel, List.getElem?_eq_getElem (by omega)] at e
  rw [getD_el (by omega)]
  exact Option.some.inj e
theorem stL_top (S : List Rat) (n : Nat) : (stL S n).getD n 0 = 1 := by rw [stL_getD]; exact (stPQ_deg (sF S) n).2.1
theorem stL_clean (S : List Rat) (n : Nat) : Clean (stL S n) := clean_top (stL_len S n) (by rw [stL_top]; decide)
theorem stL_fn (S : List Rat) (n : Nat) : (fun k => (stL S n).getD k 0) = stP (sF S) n := funext fun k => stL_getD S n k
theorem sh_ne {S : List Rat} {n : Nat} : stL S n ≠ [] := fun e => by
  have := stL_len S n
  rw [e] at this
  simp at this
theorem sh_len (S : List Rat) (n : Nat) : (shiftP (stL S n) 1).length = n + 2 := by
  unfold shiftP
  rw [if_neg sh_ne]
  simp [stL_len]
theorem sh_fn (S : List Rat) (n : Nat) : (fun k => (shiftP (stL S n) 1).getD k 0) = shF (stP (sF S) n) := funext fun k => by
  rw [shiftP_getD]
  unfold shF
  by_cases h : k = 0
  · rw [if_pos (by omega), if_pos h]
  · rw [if_neg (by omega), if_neg h, stL_getD]
def NzH (S : List Rat) (n : Nat) : Prop := ∀ k, k < n → stH (sF S) k ≠ 0
theorem stL_cb {S : List Rat} (hS : SumsOk S) {n : Nat} (hn : n ≤ 5) (hh : NzH S n) : ∃ (D : Int) (X : Nat), D ≠ 0 ∧ D.natAbs < 2 ^ 475 ∧ X < 2 ^ 475 ∧ Cb D X (stL S n) := by
  obtain ⟨z, z1, z2⟩ := sums_top hS
  obtain ⟨a, D, hD, h1, h2, h3⟩ := stP_small (s := sF S) (n := n) z2 z1 (by decide) (by omega) hh
  have hX : (2 * ((n + 1) * 2 ^ 90)) ^ n < 2 ^ 475 := by
    have e1 : 2 * ((n + 1) * 2 ^ 90) ≤ 2 ^ 94 := by
      have := Nat.mul_le_mul_right (2 ^ 90) (show n + 1 ≤ 6 by omega)
      omega
    refine Nat.lt_of_le_of_lt (Nat.pow_le_pow_left e1 n) ?_
    rw [← Nat.pow_mul]
    exact Nat.pow_lt_pow_right (by decide) (by omega)
  exact ⟨D, _, hD, by omega, hX, fun i => ⟨a i, h2 i, by rw [stL_getD]; exact h3 i⟩⟩
theorem mulP_lenL {f g : List Rat} {n m : Nat} (hf : f.length = n + 1) (hg : g.length = m + 1) : (mulP f g).length ≤ n + m + 1 := by
  rcases Nat.lt_or_ge (n + m + 1) (mulP f g).length with z | z
  · exfalso
    rcases mulP_clean f g with e | hc
    · rw [e] at z
      simp at z
    · apply hc
      have hl : (mulP f g).length - 1 < (mulP f g).length := by omega
      have h0 : (mulP f g).getD ((mulP f g).length - 1) 0 = 0 := by
        rw [mulP_getD]
        exact cvl_far (by omega)
      rw [getD_el hl] at h0
      rw [List.getLast?_eq_getElem?, List.getElem?_eq_getElem hl, h0]
  · exact z
def soD (S : List Rat) (m : Nat) : List DL.D := (List.range m).map fun n => .tup [.lst ((stL S n).map fr), fr (stH (sF S) n)]
theorem soD_len (S : List Rat) (m : Nat) : (soD S m).length = m := by simp [soD]
theorem soD_last (S : List Rat) (m : Nat) : atI (soD S (m + 1)) (-1) = some (.tup [.lst ((stL S m).map fr), fr (stH (sF S) m)]) := by
  unfold atI ixN
  rw [if_neg (by decide), soD_len, if_pos (by omega)]
  have e : (-1 + ((m + 1 : Nat) : Int)).toNat = m := by omega
  rw [e]
  simp [soD]
theorem soD_last2 (S : List Rat) (m : Nat) : atI (soD S (m + 2)) (-2) = some (.tup [.lst ((stL S m).map fr), fr (stH (sF S) m)]) := by
  unfold atI ixN
  rw [if_neg (by decide), soD_len, if_pos (by omega)]
  have e : (-2 + ((m + 2 : Nat) : Int)).toNat = m := by omega
  rw [e]
  simp [soD]
theorem clean_lenG : ∀ l : List Rat, (clean l).length ≤ l.length
  | [] => Nat.le_refl _
  | a :: l => by
    have := clean_lenG l
    unfold clean
    split
    · exact Nat.zero_le _
    · rw [List.length_cons, List.length_cons]
      omega
theorem stL_cf {S : List Rat} (hS : SumsOk S) {n : Nat} (hn : n ≤ 5) (hh : NzH S n) : CfS 475 (stL S n) := by
  obtain ⟨D, X, hD, h1, h2, h3⟩ := stL_cb hS hn hh
  exact h3.cf hD h1 h2
theorem cfS_mulCG {f : List Rat} {c : Rat} {n m : Nat} (hf : CfS n f) (hc : Sz m c) : CfS (n + m) (mulC f c) := fun i => by
  rw [mulC_getD]
  exact sz_mul (hf i) hc
theorem cfS_subG {f g : List Rat} {n m : Nat} (hf : CfS n f) (hg : CfS m g) : CfS (n + m + 1) (subP f g) := fun i => by
  rw [subP_getD]
  exact sz_sub (hf i) (hg i)
theorem subP_lenG {f g : List Rat} : (subP f g).length ≤ max f.length g.length := by
  unfold subP
  refine Nat.le_trans (clean_lenG _) ?_
  rw [List.length_map, List.length_range]
  exact Nat.le_refl _
theorem flat_frs (l : List Rat) : flatL (l.map fr) := by
  induction l with
  | nil => trivial
  | cons a l ih => exact ⟨⟨trivial, trivial, trivial⟩, ih⟩
def stM (S : List Rat) : Nat → Nat → Nat
  | 0, m => m + 1
  | f + 1, m => if 0 < stH (sF S) m ∧ 2 * (m + 1) < S.length then stM S f (m + 1) else m + 1
def stN (S : List Rat) : Nat := stM S 6 0
theorem sgn_pos0 (q : Rat) : 0 < sgn q ↔ 0 < q := by
  unfold sgn
  have h1 : 0 < q ↔ 0 < q.num := by
    have := Rat.lt_iff 0 q
    simpa using this
  rw [h1]
  split <;> split <;> omega
theorem soD_succ (S : List Rat) (m : Nat) : soD S (m + 1) = soD S m ++ [.tup [.lst ((stL S m).map fr), fr (stH (sF S) m)]] := by
  unfold soD
  rw [List.range_succ, List.map_append]
  rfl
theorem ipx_one (s : Nat → Rat) (i : Nat) : ipx s (fun j => if j = 0 then 1 else 0) i = s i := by
  unfold ipx
  rw [sg_shift]
  show (if (0 : Nat) = 0 then (1 : Rat) else 0) * s (i + 0) + sg (fun j => (if j + 1 = 0 then (1 : Rat) else 0) * s (i + (j + 1))) 11 = _
  rw [if_pos rfl, sg_zero 11 fun i _ => by rw [if_neg (by omega)]; grind, Nat.add_zero]
  grind
theorem stH_zero (S : List Rat) : stH (sF S) 0 = S.getD 0 0 := by
  have e0 : stP (sF S) 0 = fun j => if j = 0 then 1 else 0 := rfl
  unfold stH bil
  rw [e0, sg_shift]
  show (if (0 : Nat) = 0 then (1 : Rat) else 0) * ipx (sF S) (fun j => if j = 0 then 1 else 0) 0 + sg (fun i => (if i + 1 = 0 then (1 : Rat) else 0) * ipx (sF S) (fun j => if j = 0 then 1 else 0) (i + 1)) 11 = _
  rw [if_pos rfl, sg_zero 11 fun i _ => by rw [if_neg (by omega)]; grind, ipx_one]
  show 1 * S.getD 0 0 + 0 = _
  grind
structure StB (b : Nat) (S : List Rat) : Prop where
  l1 : 1 ≤ S.length
  l2 : S.length ≤ 11
  b0 : 1 ≤ b
  b1 : b ≤ 24000
  sz : CfS b S
  st : ∀ n, n ≤ 5 → NzH S n → CfS b (stL S n)
theorem SumsOk.stB {S : List Rat} (h : SumsOk S) : StB 475 S := ⟨h.1, h.2.1, by decide, by decide, fun i => (h.sz i).mono (by decide), fun n hn hh => stL_cf h hn hh⟩
theorem dot_szG {f S : List Rat} {n m : Nat} (hf : CfS n f) (hS : CfS m S) : Sz (1 + f.length * (n + m + 1)) (dotQ f S) := by
  unfold dotQ
  rw [sg_sumQ]
  exact sg_sz _ fun i _ => sz_mul (hf i) (hS i)
theorem mulP_szG {f g : List Rat} {n m : Nat} (hf : CfS n f) (hg : CfS m g) : CfS (1 + g.length * (n + m + 1)) (mulP f g) := mulGo_size hf g [] 0 1 hg sz_nil
theorem squareG {f g S : List Rat} {b a c : Nat} {s : DL.S} {k xq} (hB : StB b S) (hf : CfS a f) (hg : CfS c g) (ha : a + c ≤ 2 * b) (hf8 : f.length ≤ 12) (hg8 : g.length ≤ 12) (hl : (mulP f g).length ≤ S.length)
    (h : Sz (600 * b) (bil (sF S) (fun j => f.getD j 0) (fun j => g.getD j 0)) → k (.val (fr (bil (sF S) (fun j => f.getD j 0) (fun j => g.getD j 0)))) s) : F_square_sum [.lst (S.map fr), .lst (f.map fr), .lst (g.map fr)] s k xq := by
  have h2 := hB.l2
  have hb0 := hB.b0
  have hb := hB.b1
  have hm := mulP_szG hf hg
  have e1 : g.length * (a + c + 1) ≤ 12 * (2 * b + 1) := Nat.mul_le_mul hg8 (by omega)
  have hm' : CfS (24 * b + 13) (mulP f g) := cfS_mono hm (by omega)
  have hd := dot_szG hm' hB.sz
  have e2 : (mulP f g).length * (24 * b + 13 + b + 1) ≤ 11 * (24 * b + 13 + b + 1) := Nat.mul_le_mul_right _ (by omega)
  have e3 : ((mulP f g).length + 1) * (24 * b + 13 + b + 1) ≤ 12 * (24 * b + 13 + b + 1) := Nat.mul_le_mul_right _ (by omega)
  have e4 : (g.length + 1) * (a + c + 1) ≤ 13 * (2 * b + 1) := Nat.mul_le_mul (by omega) (by omega)
  refine square_sum_spec hf hg (by omega) (by omega) (by omega) hl hm' hB.sz (by omega) (by omega) ?_
  rw [dot_bil (by omega) (by omega)]
  refine h ?_
  rw [← dot_bil (by omega) (by omega)]
  exact hd.mono (by omega)
theorem square_stepG {S : List Rat} {b n : Nat} {s : DL.S} {k xq} (hB : StB b S) (hn : n ≤ 5) (hh : NzH S n) (hl : 2 * n + 1 ≤ S.length) (h : Sz (600 * b) (stH (sF S) n) → k (.val (fr (stH (sF S) n))) s) : F_square_sum [.lst (S.map fr), .lst ((stL S n).map fr), .lst ((stL S n).map fr)] s k xq := by
  have hc := hB.st n hn hh
  have hle := mulP_lenL (stL_len S n) (stL_len S n)
  have hL := stL_len S n
  refine squareG hB hc hc (by omega) (by omega) (by omega) (by omega) ?_
  rw [stL_fn]
  exact h
theorem square_turnG {S : List Rat} {b n : Nat} {s : DL.S} {k xq} (hB : StB b S) (hn : n ≤ 5) (hh : NzH S n) (hl : 2 * n + 2 ≤ S.length) (h : Sz (600 * b) (bil (sF S) (shF (stP (sF S) n)) (stP (sF S) n)) → k (.val (fr (bil (sF S) (shF (stP (sF S) n)) (stP (sF S) n)))) s) : F_square_sum [.lst (S.map fr), .lst ((shiftP (stL S n) 1).map fr), .lst ((stL S n).map fr)] s k xq := by
  have hc := hB.st n hn hh
  have hle := mulP_lenL (f := shiftP (stL S n) 1) (n := n + 1) (sh_len S n) (stL_len S n)
  have hL := stL_len S n
  have hL2 := sh_len S n
  refine squareG hB (cfS_shift hc 1) hc (by omega) (by omega) (by omega) (by omega) ?_
  rw [stL_fn, sh_fn]
  exact h
theorem turn_ofG {S : List Rat} {b m : Nat} {s : DL.S} {k xq} (hB : StB b S) (hm : m ≤ 5) (hh : NzH S (m + 1)) (hz : Sz (600 * b) (stH (sF S) m)) (hl : 2 * m + 2 ≤ S.length) (h : Sz (1200 * b) (stT (sF S) m) → k (.val (fr (stT (sF S) m))) s) : F_turn_of [.lst (S.map fr), .lst (soD S (m + 1))] s k xq := by
  have hb := hB.b1
  refine ⟨rfl, ?_⟩
  unfold BF_turn_of
  walk_at "wz"
  refine ⟨_, soD_last S m, ?_⟩
  walk_at "wz"
  refine raised_spec (j := 1) (by rw [stL_len]; omega) ?_
  walk_at "wz"
  refine square_turnG hB hm (fun k hk => hh k (by omega)) hl fun h1 => ?_
  walk_at "wz"
  have h0 := hh m (by omega)
  refine over_spec h1 hz (by omega) h0 ?_
  walk_at "wz"
  exact h ((sz_quot h1 hz h0).mono (by omega))
def nxP (s : Nat → Rat) (m : Nat) (t : Rat) : Nat → Rat := fun j => stP s (m + 1) j - (t - stT s m) * stP s m j
def nxL (S : List Rat) (m : Nat) (t : Rat) : List Rat := (List.range (m + 2)).map (nxP (sF S) m t)
theorem nxP_turn (s : Nat → Rat) (m : Nat) : nxP s m (stT s m) = stP s (m + 1) := by
  funext j
  unfold nxP
  grind
theorem nxP_far (s : Nat → Rat) (m : Nat) (t : Rat) : ∀ j, m + 2 ≤ j → nxP s m t j = 0 := fun j hj => by
  unfold nxP
  rw [(stPQ_deg s (m + 1)).1 j (by omega), (stPQ_deg s m).1 j (by omega)]
  grind
theorem nxP_top (s : Nat → Rat) (m : Nat) (t : Rat) : nxP s m t (m + 1) = 1 := by
  unfold nxP
  rw [(stPQ_deg s (m + 1)).2.1, (stPQ_deg s m).1 (m + 1) (by omega)]
  grind
theorem nxL_len (S : List Rat) (m : Nat) (t : Rat) : (nxL S m t).length = m + 2 := by simp [nxL]
theorem nxL_getD (S : List Rat) (m : Nat) (t : Rat) (j : Nat) : (nxL S m t).getD j 0 = nxP (sF S) m t j := by
  unfold nxL
  rw [getD_range]
  split
  · rfl
  · exact (nxP_far _ _ _ j (by omega)).symm
theorem nxL_clean (S : List Rat) (m : Nat) (t : Rat) : Clean (nxL S m t) := clean_top (nxL_len S m t) (by rw [nxL_getD, nxP_top]; decide)
theorem nxL_turn (S : List Rat) (m : Nat) : nxL S m (stT (sF S) m) = stL S (m + 1) := by
  unfold nxL stL
  rw [nxP_turn]
theorem nxL_eq {S : List Rat} {m : Nat} {t : Rat} : nxL S m t = (if m = 0 then subP (shiftP (stL S 0) 1) (mulC (stL S 0) t) else subP (subP (shiftP (stL S m) 1) (mulC (stL S m) t)) (mulC (stL S (m - 1)) (stH (sF S) m / stH (sF S) (m - 1)))) := by
  have g1 : ∀ m j, (shiftP (stL S m) 1).getD j 0 = shF (stP (sF S) m) j := fun m j => congrFun (sh_fn S m) j
  cases m with
  | zero =>
    rw [if_pos rfl]
    refine clean_ext (nxL_clean _ _ _) (subP_clean _ _) fun j => ?_
    rw [nxL_getD, subP_getD, mulC_getD, g1, stL_getD]
    unfold nxP
    rw [stP_succ]
    show shF (stP (sF S) 0) j - stT (sF S) 0 * stP (sF S) 0 j - _ * 0 - _ = _
    grind
  | succ m =>
    rw [if_neg (by omega), Nat.add_sub_cancel]
    refine clean_ext (nxL_clean _ _ _) (subP_clean _ _) fun j => ?_
    rw [nxL_getD, subP_getD, subP_getD, mulC_getD, mulC_getD, g1, stL_getD, stL_getD]
    unfold nxP
    rw [stP_succ]
    show shF (stP (sF S) (m + 1)) j - stT (sF S) (m + 1) * stP (sF S) (m + 1) j - stH (sF S) (m + 1) / stH (sF S) m * stP (sF S) m j - _ = _
    grind
theorem next_stepG {S : List Rat} {b m : Nat} {t : Rat} {s : DL.S} {k xq} (hB : StB b S) (hm : m ≤ 5) (hh : NzH S (m + 1)) (hz : ∀ i, i ≤ m → Sz (600 * b) (stH (sF S) i)) (ht : Sz (1200 * b) t) (h : CfS (2500 * b) (nxL S m t) → k (.own ((nxL S m t).map fr)) s) : F_next_step [.lst (soD S (m + 1)), fr t] s k xq := by
  have hb0 := hB.b0
  have hb := hB.b1
  have c0 := hB.st m (by omega) fun k hk => hh k (by omega)
  have cs : CfS b (shiftP (stL S m) 1) := cfS_shift c0 1
  have l1 := sh_len S m
  have l2 := stL_len S m
  have l3 := mulC_len (stL S m) t
  refine ⟨rfl, ?_⟩
  unfold BF_next_step
  walk_at "wz"
  refine ⟨_, soD_last S m, ?_⟩
  walk_at "wz"
  refine raised_spec (j := 1) (by omega) ?_
  walk_at "wz"
  refine grown_spec c0 ht (by omega) (by omega) ?_
  walk_at "wz"
  refine lessened_spec cs (cfS_mulCG c0 ht) (by omega) (by omega) (by omega) ?_
  walk_at "wz"
  rw [soD_len]
  have d1 := cfS_subG cs (cfS_mulCG c0 ht)
  cases m with
  | zero =>
    rw [if_neg (by decide)]
    walk_at "wz"
    rw [nxL_eq, if_pos rfl] at h
    exact h (cfS_mono d1 (by omega))
  | succ m =>
    rw [if_pos (by omega)]
    walk_at "wz"
    refine ⟨_, soD_last2 S m, ?_⟩
    walk_at "wz"
    refine ⟨_, soD_last2 S m, ?_⟩
    walk_at "wz"
    have h0 := hh m (by omega)
    have c1 := hB.st m (by omega) fun k hk => hh k (by omega)
    have hq := sz_quot (hz (m + 1) (by omega)) (hz m (by omega)) h0
    have l4 := stL_len S m
    have l5 := mulC_len (stL S m) (stH (sF S) (m + 1) / stH (sF S) m)
    have l6 := subP_lenG (f := shiftP (stL S (m + 1)) 1) (g := mulC (stL S (m + 1)) t)
    refine over_spec (hz (m + 1) (by omega)) (hz m (by omega)) (by omega) h0 ?_
    walk_at "wz"
    refine grown_spec c1 hq (by omega) (by omega) ?_
    walk_at "wz"
    refine lessened_spec d1 (cfS_mulCG c1 hq) (by omega) (by omega) (by omega) ?_
    walk_at "wz"
    rw [nxL_eq, if_neg (by omega), Nat.add_sub_cancel] at h
    exact h (cfS_mono (cfS_subG d1 (cfS_mulCG c1 hq)) (by omega))
theorem steps_goG (ft : FT) (fb : FS) (xq : Str → DL.S → Prop) {S : List Rat} {b : Nat} (hS : StB b S) (s : DL.S) (hft : ft = (wAnd (wB (wOp gGt (wCall F_sign_of xq (wCons (wOp gIx (wIxv 1 (wP (wUn gNeg (wP (wC (.int 1)))))) (wP (wC (.int 1)))) wNil)) (wP (wC (.int 0))))) (wB (wOp gLt (wOp gMul (wC (.int 2)) (wP (wCB1 gLen (wPV 1)))) (wP (wCB1 gLen (wPV 0)))))))
    (hfb : fb = (wSeq (wAsg (wCallF F_next_step xq (wBVar 1 (wBCons (wCallF F_turn_of xq (wBVar 0 (wBVar 1 wBNil))) wBNil))) (wName 2))
  (wApp 1 (wTup (wCons (wV 2) (wCons (wCall F_square_sum xq (wCons (wV 0) (wCons (wV 2) (wCons (wV 2) wNil)))) wNil)))))) :
    ∀ (f m : Nat) (v2 : Sl) (K : Fl → Prop), m + f = 6 → NzH S m → 2 * m + 1 ≤ S.length → (∀ i, i ≤ m → Sz (600 * b) (stH (sF S) i)) → (∀ v2, (∀ i, i < stM S f m → Sz (600 * b) (stH (sF S) i)) → K (.nx [.val (.lst (S.map fr)), .own (soD S (stM S f m)), v2] s)) →
      whileW ft fb K (f + 1) [.val (.lst (S.map fr)), .own (soD S (m + 1)), v2] s := by
  subst hft hfb
  have sb := size_big
  have hS2 := hS.l2
  intro f
  induction f with
  | zero =>
    intro m v2 K hm hh hl hz hK
    omega
  | succ f ih =>
    intro m v2 K hm hh hl hz hK
    unfold whileW
    walk_at "wz"
    refine ⟨_, soD_last S m, ?_⟩
    walk_at "wz"
    refine sign_of_spec ?_
    walk_at "wz"
    have hK' := hK
    unfold stM at hK'
    by_cases h1 : 0 < stH (sF S) m
    · rw [if_pos ((sgn_pos0 _).mpr h1)]
      walk_at "wz"
      simp only [List.length_map, soD_len]
      refine ⟨mulOk (n := 2) (m := 10) (by decide) (by omega) (by decide), ?_⟩
      by_cases h2 : 2 * (m + 1) < S.length
      · rw [if_pos (by omega)]
        walk_at "wz"
        rw [if_pos ⟨h1, h2⟩] at hK'
        have hh' : NzH S (m + 1) := fun k hk => by
          by_cases e : k = m
          · subst e
            intro z
            rw [z] at h1
            exact absurd h1 (by decide)
          · exact hh k (by omega)
        refine turn_ofG hS (by omega) hh' (hz m (Nat.le_refl _)) (by omega) fun ht => ?_
        walk_at "wz"
        refine ⟨⟨trivial, trivial, trivial⟩, ?_⟩
        refine next_stepG hS (by omega) hh' hz ht fun _ => ?_
        rw [nxL_turn]
        walk_at "wz"
        refine ⟨flat_frs _, ?_⟩
        walk_at "wz"
        refine square_stepG hS (by omega) hh' (by omega) fun hq => ?_
        walk_at "wz"
        refine ⟨by decide, by rw [soD_len]; show m + 1 < sizeLine; omega, ?_⟩
        have e1 : soD S (m + 1) ++ [D.tup [.lst ((stL S (m + 1)).map fr), .tup [.int (stH (sF S) (m + 1)).num, .int (stH (sF S) (m + 1)).den]]] = soD S (m + 1 + 1) := (soD_succ S (m + 1)).symm
        rw [e1]
        exact ih (m + 1) _ K (by omega) hh' (by omega) (fun i hi => by
          by_cases e : i = m + 1
          · subst e
            exact hq
          · exact hz i (by omega)) hK'
      · rw [if_neg (by omega)]
        walk_at "wz"
        rw [if_neg fun z => h2 z.2] at hK'
        exact hK' _ fun i hi => hz i (by omega)
    · rw [if_neg fun z => h1 ((sgn_pos0 _).mp z)]
      walk_at "wz"
      rw [if_neg fun z => h1 z.1] at hK'
      exact hK' _ fun i hi => hz i (by omega)
theorem stepsG {S : List Rat} {b : Nat} {s : DL.S} {k xq} (hS : StB b S) (h : (∀ i, i < stN S → Sz (600 * b) (stH (sF S) i)) → k (.own (soD S (stN S))) s) : F_steps [.lst (S.map fr)] s k xq := by
  have sb := size_big
  have hS1 := hS.l1
  have hS2 := hS.l2
  have hb0 := hS.b0
  refine ⟨rfl, ?_⟩
  unfold BF_steps
  walk_at "wz"
  refine ⟨by decide, _, at_frs (i := 0) (by omega), ?_⟩
  walk_at "wz"
  refine ⟨by decide, by decide, ?_⟩
  walk_at "wz"
  refine ⟨7, ?_⟩
  have e0 : [D.tup [.lst [.tup [.int 1, .int 1]], .tup [.int (S.getD 0 0).num, .int (S.getD 0 0).den]]] = soD S 1 := by
    have e1 : soD S 1 = [.tup [.lst ((stL S 0).map fr), fr (stH (sF S) 0)]] := rfl
    rw [e1, stH_zero]
    rfl
  rw [e0]
  refine steps_goG _ _ xq hS s rfl rfl 6 0 _ _ (by decide) (fun k hk => by omega) (by omega) (fun i hi => ?_) ?_
  · have : i = 0 := by omega
    subst this
    rw [stH_zero]
    exact (hS.sz 0).mono (by omega)
  · intro v2 hz
    walk_at "wz"
    exact h hz
def nbF (S f : List Rat) : Nat → Option Nat
  | 0 => none
  | n + 1 => match nbF S f n with
    | some i => some i
    | none => if ipx (sF S) (fun j => f.getD j 0) n ≠ 0 then some n else none
theorem nbF_none {S f : List Rat} : ∀ n, nbF S f n = none → ∀ i, i < n → ipx (sF S) (fun j => f.getD j 0) i = 0
  | 0, _, i, hi => by omega
  | n + 1, h, i, hi => by
    unfold nbF at h
    cases e : nbF S f n with
    | some j => rw [e] at h; cases h
    | none =>
      rw [e] at h
      dsimp only at h
      by_cases z : ipx (sF S) (fun j => f.getD j 0) n = 0
      · by_cases hin : i = n
        · rw [hin]; exact z
        · exact nbF_none n e i (by omega)
      · rw [if_pos z] at h
        cases h
theorem nbF_hit {S f : List Rat} {j : Nat} (h1 : nbF S f j = none) (h2 : ipx (sF S) (fun j => f.getD j 0) j ≠ 0) : ∀ n, j < n → nbF S f n = some j
  | 0, h => by omega
  | n + 1, h => by
    unfold nbF
    by_cases e : j = n
    · subst e
      rw [h1]
      exact if_pos h2
    · rw [nbF_hit h1 h2 n (by omega)]
def xpL (d : Nat) : List Rat := List.replicate d (0 : Rat) ++ [1]
theorem xpL_len (d : Nat) : (xpL d).length = d + 1 := by simp [xpL]
theorem xpL_getD (d j : Nat) : (xpL d).getD j 0 = if j = d then 1 else 0 := by
  unfold xpL
  by_cases h : j < d
  · rw [if_neg (by omega)]
    simp [List.getD, List.getElem?_append, h]
  · by_cases e : j = d
    · subst e
      rw [if_pos rfl]
      simp [List.getD, List.getElem?_append]
    · rw [if_neg e]
      simp [List.getD, List.getElem?_append, h]
      rw [List.getElem?_eq_none (by simp; omega)]
      rfl
theorem xpL_cf (d : Nat) : CfS 1 (xpL d) := fun i => by
  rw [xpL_getD]
  split
  · exact sz_one
  · exact sz_zero
theorem bil_xp {S f : List Rat} {d : Nat} (hd : d < 12) : bil (sF S) (fun j => f.getD j 0) (fun j => (xpL d).getD j 0) = ipx (sF S) (fun j => f.getD j 0) d := by
  unfold bil
  obtain ⟨r, hr⟩ : ∃ r, 12 = (d + 1) + r := ⟨11 - d, by omega⟩
  rw [hr, sg_more r fun i h1 _ => by dsimp only; rw [xpL_getD, if_neg (by omega)]; grind, sg, sg_zero d fun i hi => by dsimp only; rw [xpL_getD, if_neg (by omega)]; grind]
  dsimp only
  rw [xpL_getD, if_pos rfl]
  grind
theorem nought_bar_spec {S f : List Rat} {b c : Nat} {s : DL.S} {k xq} (hB : StB b S) (hf : CfS c f) (hc : c + 1 ≤ 2 * b) (hl : f.length ≤ S.length) (hl1 : 1 ≤ f.length)
    (h0 : nbF S f (S.length - f.length + 1) = none → k (.val .non) s) (h1 : ∀ d, nbF S f (S.length - f.length + 1) = some d → k (.val (.tup [.str "nought", .lst (f.map fr), .lst ((xpL d).map fr)])) s) : F_nought_bar [.lst (S.map fr), .lst (f.map fr)] s k xq := by
  have sb := size_big
  have h2 := hB.l2
  refine ⟨rfl, ?_⟩
  unfold BF_nought_bar
  walk_at "wz"
  simp only [List.length_map]
  rw [show ((S.length : Int) - (f.length : Int) + 1).toNat = S.length - f.length + 1 by omega]
  refine ⟨⟨by omega, by omega⟩, ?_⟩
  refine forW_rng (fun i env s' => ∃ v2, env = [.val (.lst (S.map fr)), .val (.lst (f.map fr)), v2] ∧ s' = s ∧ nbF S f i = none) ?_ ⟨_, rfl, rfl, rfl⟩ ?_
  · rintro i hi env s' ⟨v2, rfl, rfl, hn⟩ KN hk
    walk_at "wz"
    refine power_of_x_spec (d := i) (by omega) ?_
    walk_at "wz"
    have hfl : f ≠ [] := fun e => by rw [e] at hl1; simp at hl1
    have hml : (mulP f (xpL i)).length ≤ S.length := by
      have := mulP_lenL (f := f) (g := xpL i) (n := f.length - 1) (m := i) (by omega) (xpL_len i)
      omega
    refine squareG (f := f) (g := xpL i) hB hf (xpL_cf i) hc (by omega) (by rw [xpL_len]; omega) hml fun _ => ?_
    rw [bil_xp (by omega)]
    walk_at "wz"
    refine ⟨⟨(nice_fr _).eqOk (by decide), (nice_fr 0).eqOk (by decide)⟩, ?_⟩
    have e3 : (D.tup [.int (ipx (sF S) (fun j => f.getD j 0) i).num, .int (ipx (sF S) (fun j => f.getD j 0) i).den]).eqv (.tup [.int 0, .int 1]) = decide (ipx (sF S) (fun j => f.getD j 0) i = 0) := eqv_fr _ 0
    rw [e3]
    by_cases z : ipx (sF S) (fun j => f.getD j 0) i = 0
    · rw [if_neg (by rw [decide_eq_true z]; decide)]
      walk_at "wz"
      refine hk _ _ ⟨_, rfl, rfl, ?_⟩
      unfold nbF
      rw [hn]
      exact if_neg fun w => w z
    · rw [if_pos (decide_eq_false z)]
      walk_at "wz"
      refine power_of_x_spec (d := i) (by omega) ?_
      walk_at "wz"
      exact ⟨by omega, h1 i (nbF_hit hn z _ hi)⟩
  · rintro env s' ⟨v2, rfl, rfl, hn⟩
    walk_at "wz"
    exact h0 hn
def rowL (f : Nat → Rat) (w : Nat) : List Rat := (List.range w).map f
theorem rowL_len (f : Nat → Rat) (w : Nat) : (rowL f w).length = w := by simp [rowL]
theorem rowL_getD {f : Nat → Rat} {w i : Nat} (h : i < w) : (rowL f w).getD i 0 = f i := by
  unfold rowL
  rw [getD_range, if_pos h]
theorem row_less_spec {f g : Nat → Rat} {w a b c : Nat} {t : Rat} {s : S} {k xq} (hf : ∀ i, i < w → Sz a (f i)) (hg : ∀ i, i < w → Sz b (g i)) (ht : Sz c t) (hz : a + b + c ≤ 60000000) (hw : w < 1000)
    (h : k (.own ((rowL (fun i => f i - g i * t) w).map fr)) s) : F_row_less [.lst ((rowL f w).map fr), .lst ((rowL g w).map fr), fr t] s k xq := by
  have sb := size_big
  refine ⟨rfl, ?_⟩
  unfold BF_row_less
  walk_at "wz"
  rw [zip_fr (by rw [rowL_len, rowL_len]; omega)]
  refine ⟨by simp [rowL_len]; omega, ?_⟩
  rw [rowL_len]
  refine compW_fr (g := fun i => f i - g i * t) ?_ ?_
  · intro i hi K hK
    rw [List.mem_range] at hi
    rw [rowL_getD hi, rowL_getD hi]
    walk_at "wz"
    refine times_spec (hg i hi) ht (by omega) ?_
    walk_at "wz"
    refine minus_spec (hf i hi) (sz_mul (hg i hi) ht) (by omega) ?_
    walk_at "wz"
    exact hK
  walk_at "wz"
  exact h
def rdot (L : Nat → Nat → Rat) (n : Nat) (v : Nat → Rat) (k : Nat) : Rat := sg (fun j => L k j * v j) (n + 1)
def rnull (L : Nat → Nat → Rat) (n : Nat) (v : Nat → Rat) : Prop := ∀ k, k < n → rdot L n v k = 0
def swR (L : Nat → Nat → Rat) (p q : Nat) : Nat → Nat → Rat := fun k => if k = q then L p else if k = p then L q else L k
def scR (L : Nat → Nat → Rat) (p : Nat) : Nat → Nat → Rat := fun k => if k = p then fun j => L p j / L p p else L k
def elR (L : Nat → Nat → Rat) (p i : Nat) : Nat → Nat → Rat := fun k => if k < i ∧ k ≠ p then fun j => L k j - L p j * L k p else L k
theorem swR_null {L : Nat → Nat → Rat} {n p q : Nat} {v : Nat → Rat} (hp : p < n) (hq : q < n) (h : rnull (swR L p q) n v) : rnull L n v := fun k hk => by
  have e : ∀ a b, swR L p q a = L b → rdot (swR L p q) n v a = rdot L n v b := fun a b e => by unfold rdot; rw [e]
  by_cases h1 : k = p
  · rw [← e q k (by unfold swR; rw [if_pos rfl, h1])]
    exact h q hq
  · by_cases h2 : k = q
    · rw [← e p k (by unfold swR; by_cases z : p = q; · rw [if_pos z, h2, z]
                      · rw [if_neg z, if_pos rfl, h2])]
      exact h p hp
    · rw [← e k k (by unfold swR; rw [if_neg h2, if_neg h1])]
      exact h k hk
theorem scR_null {L : Nat → Nat → Rat} {n p : Nat} {v : Nat → Rat} (h0 : L p p ≠ 0) (h : rnull (scR L p) n v) : rnull L n v := fun k hk => by
  have h := h k hk
  unfold rdot scR at h
  unfold rdot
  by_cases e : k = p
  · subst e
    rw [if_pos rfl] at h
    have : sg (fun j => L k j / L k k * v j) (n + 1) = sg (fun j => L k j * v j) (n + 1) * (1 / L k k) := by
      rw [← sg_mul]
      exact sg_congr _ fun j _ => by grind
    rw [this] at h
    rcases Rat.mul_eq_zero.mp h with z | z
    · exact z
    · exact absurd z (by grind)
  · rwa [if_neg e] at h
theorem elR_null {L : Nat → Nat → Rat} {n p i : Nat} {v : Nat → Rat} (hp : p < n) (h : rnull (elR L p i) n v) : rnull L n v := fun k hk => by
  have hpp := h p hp
  unfold rdot elR at hpp
  rw [if_neg (by simp)] at hpp
  have h := h k hk
  unfold rdot elR at h
  unfold rdot
  by_cases e : k < i ∧ k ≠ p
  · rw [if_pos e] at h
    have : sg (fun j => (L k j - L p j * L k p) * v j) (n + 1) = sg (fun j => L k j * v j) (n + 1) - sg (fun j => L p j * v j) (n + 1) * L k p := by
      have e2 : (fun j => (L k j - L p j * L k p) * v j) = fun j => L k j * v j + L p j * v j * (-L k p) := by funext j; grind
      rw [e2, sg_add, sg_mul]
      grind
    rw [this, hpp] at h
    grind
  · rwa [if_neg e] at h
def Clr (L : Nat → Nat → Rat) (n p : Nat) : Prop := ∀ j, j < p → ∀ i, i < n → L i j = if i = j then 1 else 0
theorem sg_one {f : Nat → Rat} {k : Nat} : ∀ n, k < n → (∀ i, i < n → i ≠ k → f i = 0) → sg f n = f k
  | 0, h, _ => by omega
  | n + 1, h, hz => by
    by_cases e : k = n
    · subst e
      rw [sg, sg_zero k fun i hi => hz i (by omega) (by omega)]
      grind
    · rw [sg, sg_one n (by omega) fun i hi hne => hz i (by omega) hne, hz n (by omega) (by omega)]
      grind
theorem sg_two {f : Nat → Rat} {a b : Nat} (n : Nat) (ha : a < n) (hb : b < n) (hab : a ≠ b) (hz : ∀ i, i < n → i ≠ a → i ≠ b → f i = 0) : sg f n = f a + f b := by
  have e : f = fun i => (if i = a then f a else 0) + (if i = a then 0 else f i) := by funext i; split <;> grind
  rw [e, sg_add, sg_one (k := a) n ha (fun i _ h => if_neg h), sg_one (k := b) n hb (fun i hi h => by
    by_cases e : i = a
    · exact if_pos e
    · show (if i = a then 0 else f i) = 0
      rw [if_neg e]; exact hz i hi e h), if_pos rfl, if_neg (Ne.symm hab)]
  simp [hab, Ne.symm hab]
  grind
theorem pivot {A L : Nat → Nat → Rat} {n p : Nat} (hp : p < n) (hr : ∀ v : Nat → Rat, v n = 0 → rnull A n v → ∀ j, j < n → v j = 0) (hn : ∀ v, rnull L n v → rnull A n v) (hc : Clr L n p) : ∃ q, p ≤ q ∧ q < n ∧ L q p ≠ 0 := by
  apply Classical.byContradiction
  intro hno
  have hz : ∀ q, p ≤ q → q < n → L q p = 0 := fun q h1 h2 => Classical.byContradiction fun h3 => hno ⟨q, h1, h2, h3⟩
  have := hr (fun j => if j = p then 1 else if j < p then -L j p else 0) (by show (if n = p then (1 : Rat) else if n < p then -L n p else 0) = 0; rw [if_neg (by omega), if_neg (by omega)]) (hn _ fun k hk => by
    unfold rdot
    by_cases hkp : k < p
    · rw [sg_two (a := k) (b := p) (n + 1) (by omega) (by omega) (by omega)]
      · dsimp only
        rw [if_neg (by omega), if_pos hkp, if_pos rfl, hc k hkp k hk, if_pos rfl]
        grind
      · intro i hi h1 h2
        dsimp only
        rw [if_neg h2]
        by_cases hip : i < p
        · rw [hc i hip k hk, if_neg (by omega)]
          grind
        · rw [if_neg hip]
          grind
    · refine sg_zero _ fun j hj => ?_
      dsimp only
      by_cases h1 : j = p
      · subst h1
        rw [hz k (by omega) hk]
        grind
      · rw [if_neg h1]
        by_cases h2 : j < p
        · rw [hc j h2 k hk, if_neg (by omega)]
          grind
        · rw [if_neg h2]
          grind) p hp
  rw [if_pos rfl] at this
  exact absurd this (by decide)
theorem turn_clr {L : Nat → Nat → Rat} {n p q : Nat} (hp : p < n) (hpq : p ≤ q) (hq : q < n) (hc : Clr L n p) (h0 : L q p ≠ 0) : Clr (elR (scR (swR L p q) p) p n) n (p + 1) := by
  have spp : swR L p q p = L q := by
    unfold swR
    by_cases e : p = q
    · rw [if_pos e, e]
    · rw [if_neg e, if_pos rfl]
  have s0 : ∀ j, j < p → ∀ i, i < n → swR L p q i j = if i = j then 1 else 0 := fun j hj i hi => by
    unfold swR
    split
    · rename_i e
      rw [hc j hj p (by omega), if_neg (by omega), if_neg (by omega)]
    · split
      · rename_i e
        rw [hc j hj q hq, if_neg (by omega), if_neg (by omega)]
      · exact hc j hj i hi
  have c0 : ∀ j, j < p → ∀ i, i < n → scR (swR L p q) p i j = if i = j then 1 else 0 := fun j hj i hi => by
    unfold scR
    split
    · rename_i e
      dsimp only
      rw [s0 j hj p (by omega), if_neg (by omega), if_neg (by omega)]
      grind
    · exact s0 j hj i hi
  have cp : scR (swR L p q) p p p = 1 := by
    unfold scR
    rw [if_pos rfl, spp]
    grind
  intro j hj i hi
  unfold elR
  by_cases e : i < n ∧ i ≠ p
  · rw [if_pos e]
    by_cases hjp : j = p
    · subst hjp
      rw [cp, if_neg e.2]
      grind
    · rw [c0 j (by omega) i hi, c0 j (by omega) p hp, if_neg (show ¬ p = j by omega)]
      grind
  · have : i = p := by omega
    subst this
    rw [if_neg e]
    by_cases hjp : j = i
    · subst hjp
      rw [cp, if_pos rfl]
    · exact c0 j (by omega) i hi
theorem end_sol {A L : Nat → Nat → Rat} {n : Nat} (hn : ∀ v, rnull L n v → rnull A n v) (hc : Clr L n n) : ∀ i, i < n → sg (fun j => A i j * L j n) n = A i n := by
  have h := hn (fun j => if j = n then -1 else L j n) fun k hk => by
    unfold rdot
    rw [sg_two (a := k) (b := n) (n + 1) (by omega) (by omega) (by omega)]
    · dsimp only
      rw [if_neg (by omega), if_pos rfl, hc k hk k hk, if_pos rfl]
      grind
    · intro i hi h1 h2
      dsimp only
      rw [hc i (by omega) k hk, if_neg (by omega)]
      grind
  intro i hi
  have h := h i hi
  unfold rdot at h
  rw [sg] at h
  dsimp only at h
  rw [if_pos rfl, sg_congr (g := fun j => A i j * L j n) n fun j hj => by rw [if_neg (by omega)]] at h
  grind
def matD (L : Nat → Nat → Rat) (n w : Nat) : List DL.D := (List.range n).map fun i => .lst ((rowL (L i) w).map fr)
theorem matD_len (L : Nat → Nat → Rat) (n w : Nat) : (matD L n w).length = n := by simp [matD]
theorem matD_at {L : Nat → Nat → Rat} {n w i : Nat} (h : i < n) : atI (matD L n w) (i : Int) = some (.lst ((rowL (L i) w).map fr)) := by
  rw [atI_nat' (by rw [matD_len]; exact h)]
  simp [matD, h]
def gzS (a : Nat) : Nat → Nat
  | 0 => a
  | p + 1 => 4 * gzS a p + 1
theorem matD_set {L : Nat → Nat → Rat} {n w i : Nat} {f : Nat → Rat} : (matD L n w).set i (.lst ((rowL f w).map fr)) = matD (fun k => if k = i then f else L k) n w := by
  refine List.ext_getElem (by simp [matD]) fun j h1 h2 => ?_
  simp only [matD, List.getElem_set, List.getElem_map, List.getElem_range]
  by_cases hj : i = j
  · subst hj; simp
  · rw [if_neg hj, if_neg (Ne.symm hj)]
theorem ixN_nat {n i : Nat} (h : i < n) : ixN n (i : Int) = some i := by
  unfold ixN
  rw [if_pos (by omega), if_pos (by omega)]
  simp
theorem at_lastS {l : List Rat} {p : Nat} (h : l.length = p + 1) : atI (l.map fr) (-1) = some (fr (l.getD p 0)) := by
  unfold atI ixN
  rw [if_neg (by decide)]
  simp only [List.length_map]
  rw [if_pos (by omega)]
  have e : (-1 + (l.length : Int)).toNat = p := by omega
  have hp : p < l.length := by omega
  simp [e, hp]
theorem gzS_le {a : Nat} : ∀ {p q}, p ≤ q → gzS a p ≤ gzS a q := fun {p q} h => by
  induction h with
  | refl => exact Nat.le_refl _
  | step _ ih => rw [gzS]; omega
theorem solved_spec {A : Nat → Nat → Rat} {n a : Nat} {s : S} {k xq} (hn : n ≤ 6) (hA : ∀ i j, i < n → j < n + 1 → Sz a (A i j)) (hz : gzS a n ≤ 60000000)
    (hr : ∀ v : Nat → Rat, v n = 0 → rnull A n v → ∀ j, j < n → v j = 0)
    (h : ∀ z : Nat → Rat, (∀ i, i < n → sg (fun j => A i j * z j) n = A i n) → k (.own ((rowL z n).map fr)) s) : F_solved [.lst (matD A n (n + 1))] s k xq := by
  have sb := size_big
  refine ⟨rfl, ?_⟩
  unfold BF_solved
  walk_at "wz"
  refine ⟨by rw [matD_len]; omega, ?_⟩
  rw [show matD A n (n + 1) = (List.range n).map fun i => .lst ((rowL (A i) (n + 1)).map fr) from rfl]
  refine compW_map (g := fun i => .lst ((rowL (A i) (n + 1)).map fr)) (List.range n) [] (fun i hi K hK => ?_) ?_
  · walk_at "wz"
    exact hK
  rw [List.nil_append, show ((List.range n).map fun i => D.lst ((rowL (A i) (n + 1)).map fr)) = matD A n (n + 1) from rfl]
  walk_at "wz"
  rw [matD_len]
  refine ⟨⟨by omega, by omega⟩, ?_⟩
  rw [Int.toNat_natCast]
  refine forW_rng (fun p env s' => ∃ (L : Nat → Nat → Rat) (v2 v3 v4 : Sl), env = [.val (.lst (matD A n (n + 1))), .own (matD L n (n + 1)), v2, v3, v4, .no, .no] ∧ s' = s ∧ (v3 = .no ∨ ∃ d, v3 = .val d) ∧ (∀ v, rnull L n v → rnull A n v) ∧ Clr L n p ∧ ∀ i j, i < n → j < n + 1 → Sz (gzS a p) (L i j)) ?_ ⟨A, _, _, _, rfl, rfl, .inl rfl, fun v hv => hv, fun j hj => absurd hj (by omega), hA⟩ ?_
  · rintro p hp env s' ⟨L, v2, v3, v4, rfl, rfl, hv3, hL1, hL2, hL3⟩ KN hk
    have gz1 : gzS a (p + 1) ≤ 60000000 := Nat.le_trans (gzS_le hp) hz
    rw [gzS] at gz1
    obtain ⟨q0, hq1, hq2, hq3⟩ := pivot hp hr hL1 hL2
    walk_at "wz"
    rw [matD_len]
    refine ⟨⟨by omega, by omega, by omega, by omega⟩, by rcases hv3 with rfl | ⟨d, rfl⟩ <;> trivial, by simp [intL]; omega, ?_⟩
    have e1 : intL (p : Int) ((n : Int) - (p : Int)).toNat = (List.range (n - p)).map fun i => .int (((p + i : Nat)) : Int) := by
      unfold intL
      rw [show ((n : Int) - (p : Int)).toNat = n - p by omega]
      refine List.map_congr_left fun i _ => ?_
      rw [Int.natCast_add]
    rw [e1]
    refine compW_filter (f := fun i : Nat => D.int (((p + i : Nat)) : Int)) (g := fun i => .int (((p + i : Nat)) : Int)) (p := fun i => decide (L (p + i) p ≠ 0)) (List.range (n - p)) [] ?_ ?_
    · intro i hi K1 K2 h1 h2
      rw [List.mem_range] at hi
      walk_at "wz"
      refine ⟨_, matD_at (by omega), ?_⟩
      walk_at "wz"
      refine ⟨_, at_frs (by rw [rowL_len]; omega), ?_⟩
      rw [rowL_getD (by omega)]
      refine ⟨⟨(nice_fr _).eqOk (by decide), (nice_fr 0).eqOk (by decide)⟩, ?_⟩
      have e3 : (fr (L (p + i) p)).eqv (.tup [.int 0, .int 1]) = decide (L (p + i) p = 0) := eqv_fr _ 0
      rw [e3]
      by_cases z : L (p + i) p = 0
      · rw [if_neg (by simp [z])]
        exact h2 (by simp [z])
      · rw [if_pos (by simp [z])]
        exact h1 (by simp [z])
    have hf : ∃ i0 r, (List.range (n - p)).filter (fun i => decide (L (p + i) p ≠ 0)) = i0 :: r := by
      cases e : (List.range (n - p)).filter (fun i => decide (L (p + i) p ≠ 0)) with
      | nil =>
        exfalso
        have : q0 - p ∈ (List.range (n - p)).filter (fun i => decide (L (p + i) p ≠ 0)) := List.mem_filter.mpr ⟨by rw [List.mem_range]; omega, by rw [show p + (q0 - p) = q0 by omega]; exact decide_eq_true hq3⟩
        rw [e] at this
        cases this
      | cons i0 r => exact ⟨i0, r, rfl⟩
    obtain ⟨i0, r, hfe⟩ := hf
    have hi0 : i0 < n - p ∧ L (p + i0) p ≠ 0 := by
      have : i0 ∈ (List.range (n - p)).filter (fun i => decide (L (p + i) p ≠ 0)) := by rw [hfe]; exact List.mem_cons_self ..
      obtain ⟨h1, h2⟩ := List.mem_filter.mp this
      exact ⟨by simpa using h1, of_decide_eq_true h2⟩
    rw [hfe, List.nil_append, List.map_cons]
    obtain ⟨q, hqe⟩ : ∃ q, q = p + i0 := ⟨_, rfl⟩
    rw [← hqe] at hi0 ⊢
    obtain ⟨hi1, hi2⟩ := hi0
    have hqn : q < n := by omega
    have hpq : p ≤ q := by omega
    walk_at "wz"
    refine ⟨_, matD_at hqn, ?_⟩
    walk_at "wz"
    refine ⟨_, matD_at hp, ?_⟩
    walk_at "wz"
    rw [matD_len]
    refine ⟨by omega, p, ixN_nat hp, ?_⟩
    walk_at "wz"
    rw [List.length_set, matD_len]
    refine ⟨q, ixN_nat hqn, ?_⟩
    have e2 : ((matD L n (n + 1)).set p (D.lst (List.map fr (rowL (L q) (n + 1))))).set q (D.lst (List.map fr (rowL (L p) (n + 1)))) = matD (swR L p q) n (n + 1) := by
      rw [matD_set, matD_set]
      rfl
    rw [e2]
    have hB1 : ∀ i j, i < n → j < n + 1 → Sz (gzS a p) (swR L p q i j) := fun i j hi hj => by
      unfold swR
      split
      · exact hL3 _ _ hp hj
      · split
        · exact hL3 _ _ hqn hj
        · exact hL3 _ _ hi hj
    have hB0 : swR L p q p p ≠ 0 := by
      unfold swR
      split
      · rename_i e
        rw [← e] at hi2
        exact hi2
      · rw [if_pos rfl]
        exact hi2
    have hB2 := fun v (hv : rnull (swR L p q) n v) => hL1 v (swR_null hp hqn hv)
    have hC := turn_clr hp hpq hqn hL2 hi2
    generalize swR L p q = B at *
    walk_at "wz"
    refine ⟨_, matD_at hp, ?_⟩
    walk_at "wz"
    simp only [List.length_map, rowL_len]
    refine ⟨by omega, ?_⟩
    refine compW_fr (g := fun x => x / B p p) (fun x hx K hK => ?_) ?_
    · walk_at "wz"
      refine ⟨_, matD_at hp, ?_⟩
      walk_at "wz"
      refine ⟨_, at_frs (by rw [rowL_len]; omega), ?_⟩
      rw [rowL_getD (by omega)]
      obtain ⟨j, hj, rfl⟩ := List.mem_map.mp hx
      rw [List.mem_range] at hj
      refine over_spec (hB1 p j hp hj) (hB1 p p hp (by omega)) (by omega) hB0 ?_
      walk_at "wz"
      exact hK
    rw [show (rowL (B p) (n + 1)).map (fun x => x / B p p) = rowL (fun j => B p j / B p p) (n + 1) by unfold rowL; rw [List.map_map]; rfl]
    walk_at "wz"
    rw [matD_len]
    refine ⟨p, ixN_nat hp, ?_⟩
    rw [matD_set]
    have hD1 : ∀ i j, i < n → j < n + 1 → Sz (if i = p then 2 * gzS a p else gzS a p) (scR B p i j) := fun i j hi hj => by
      unfold scR
      by_cases e : i = p
      · rw [if_pos e, if_pos e]
        exact (sz_quot (hB1 p j hp hj) (hB1 p p hp (by omega)) hB0).mono (by omega)
      · rw [if_neg e, if_neg e]
        exact hB1 i j hi hj
    have hD2 := fun v (hv : rnull (scR B p) n v) => hB2 v (scR_null hB0 hv)
    rw [show (fun k => if k = p then (fun j => B p j / B p p) else B k) = scR B p from rfl]
    generalize scR B p = C at *
    walk_at "wz"
    rw [matD_len]
    refine ⟨⟨by omega, by omega⟩, ?_⟩
    rw [Int.toNat_natCast]
    refine forW_rng (fun i env s'' => ∃ v3, env = [.val (.lst (matD A n (n + 1))), .own (matD (elR C p i) n (n + 1)), .val (.int p), v3, .own (D.int q :: List.map (fun i => D.int (((p + i : Nat)) : Int)) r), .no, .no] ∧ s'' = s' ∧ (v3 = .no ∨ ∃ d, v3 = .val d)) ?_ ⟨v3, ?_, rfl, hv3⟩ ?_
    · rintro i hi env s'' ⟨v3, rfl, rfl, hv3⟩ KN2 hk2
      walk_at "wz"
      by_cases hip : i = p
      · rw [if_neg (by omega)]
        walk_at "wz"
        refine hk2 _ _ ⟨.val (.int i), ?_, rfl, .inr ⟨_, rfl⟩⟩
        have : elR C p (i + 1) = elR C p i := by
          funext k
          unfold elR
          by_cases z : k < i ∧ k ≠ p
          · rw [if_pos z, if_pos ⟨by omega, z.2⟩]
          · rw [if_neg z, if_neg (by omega)]
        rw [this]
      · rw [if_pos (by omega)]
        walk_at "wz"
        have ei : elR C p i i = C i := by unfold elR; rw [if_neg (by omega)]
        have ep : elR C p i p = C p := by unfold elR; rw [if_neg (by omega)]
        refine ⟨_, matD_at hi, _, matD_at hp, ?_⟩
        walk_at "wz"
        refine ⟨_, matD_at hi, ?_⟩
        walk_at "wz"
        refine ⟨_, at_frs (by rw [rowL_len]; omega), ?_⟩
        rw [rowL_getD (by omega), ei, ep]
        refine row_less_spec (a := gzS a p) (b := 2 * gzS a p) (c := gzS a p) (fun j hj => ?_) (fun j hj => ?_) ?_ (by omega) (by omega) ?_
        · have := hD1 i j hi hj
          rwa [if_neg hip] at this
        · have := hD1 p j hp hj
          rwa [if_pos rfl] at this
        · have := hD1 i p hi (by omega)
          rwa [if_neg hip] at this
        walk_at "wz"
        rw [matD_len]
        refine ⟨i, ixN_nat hi, ?_⟩
        refine hk2 _ _ ⟨.val (.int i), ?_, rfl, .inr ⟨_, rfl⟩⟩
        rw [matD_set]
        have : elR C p (i + 1) = fun k => if k = i then (fun j => C i j - C p j * C i p) else elR C p i k := by
          funext k
          unfold elR
          by_cases z : k = i
          · subst z
            rw [if_pos ⟨by omega, hip⟩, if_pos rfl]
          · rw [if_neg z]
            by_cases z2 : k < i ∧ k ≠ p
            · rw [if_pos z2, if_pos ⟨by omega, z2.2⟩]
            · rw [if_neg z2, if_neg (by omega)]
        rw [this]
    · have : elR C p 0 = C := by
        funext k
        unfold elR
        rw [if_neg (by omega)]
      rw [this]
    · rintro env s'' ⟨v3, rfl, rfl, hv3⟩
      walk_at "wz"
      refine hk _ _ ⟨elR C p n, _, _, _, rfl, rfl, hv3, fun v hv => hD2 v (elR_null hp hv), hC, fun i j hi hj => ?_⟩
      rw [gzS]
      unfold elR
      have g0 := hD1 i j hi hj
      split
      · rename_i z
        rw [if_neg z.2] at g0
        have g1 := hD1 p j hp hj
        have g2 := hD1 i p hi (by omega)
        rw [if_pos rfl] at g1
        rw [if_neg z.2] at g2
        exact (sz_sub g0 (sz_mul g1 g2)).mono (by omega)
      · split at g0
        · exact g0.mono (by omega)
        · exact g0.mono (by omega)
  · rintro env s' ⟨L, v2, v3, v4, rfl, rfl, hv3, hL1, hL2, hL3⟩
    walk_at "wz"
    refine ⟨by rw [matD_len]; omega, ?_⟩
    rw [show matD L n (n + 1) = (List.range n).map fun i => .lst ((rowL (L i) (n + 1)).map fr) from rfl]
    refine compW_fr (g := fun i => L i n) (fun i hi K hK => ?_) ?_
    · walk_at "wz"
      refine ⟨_, at_lastS (p := n) (by rw [rowL_len]), ?_⟩
      rw [rowL_getD (by omega)]
      exact hK
    · walk_at "wz"
      exact h (fun i => L i n) (end_sol hL1 hL2)
def Dg (n : Nat) (c : Nat → Rat) : Prop := ∀ j, n ≤ j → c j = 0
theorem Dg.mono {n m : Nat} {c : Nat → Rat} (h : Dg n c) (e : n ≤ m) : Dg m c := fun j hj => h j (by omega)
def vl (c : Nat → Rat) (n : Nat) (x : Rat) : Rat := sg (fun i => c i * x ^ i) n
theorem vl_more {c : Nat → Rat} {n m : Nat} (h : Dg n c) (e : n ≤ m) (x : Rat) : vl c m x = vl c n x := by
  obtain ⟨k, rfl⟩ : ∃ k, m = n + k := ⟨m - n, by omega⟩
  exact sg_more k fun i h1 _ => by rw [h i h1]; grind
theorem vl_congr {c d : Nat → Rat} {n : Nat} (h : ∀ i, i < n → c i = d i) (x : Rat) : vl c n x = vl d n x := sg_congr n fun i hi => by rw [h i hi]
theorem vl_head (c : Nat → Rat) (n : Nat) (x : Rat) : vl c (n + 1) x = c 0 + x * vl (fun i => c (i + 1)) n x := by
  unfold vl
  rw [sg_shift, Rat.pow_zero]
  have e : sg (fun i => c (i + 1) * x ^ (i + 1)) n = sg (fun i => c (i + 1) * x ^ i) n * x := by
    rw [← sg_mul]
    refine sg_congr n fun i _ => ?_
    rw [Rat.pow_succ]
    grind
  rw [e]
  grind
theorem vl_sh (c : Nat → Rat) (n : Nat) (x : Rat) : vl (shF c) (n + 1) x = x * vl c n x := by
  rw [vl_head]
  show (0 : Rat) + _ = _
  rw [vl_congr (c := fun i => shF c (i + 1)) (d := c) fun i _ => rfl]
  grind
theorem vl_add (c d : Nat → Rat) (n : Nat) (x : Rat) : vl (fun j => c j + d j) n x = vl c n x + vl d n x := by
  unfold vl
  rw [← sg_add]
  exact sg_congr n fun i _ => by grind
theorem vl_smul (c : Nat → Rat) (k : Rat) (n : Nat) (x : Rat) : vl (fun j => k * c j) n x = k * vl c n x := by
  unfold vl
  rw [Rat.mul_comm, ← sg_mul]
  exact sg_congr n fun i _ => by grind
theorem vl_sub (c d : Nat → Rat) (k : Rat) (n : Nat) (x : Rat) : vl (fun j => c j - k * d j) n x = vl c n x - k * vl d n x := by
  have e : (fun j => c j - k * d j) = fun j => c j + (-k) * d j := by funext j; grind
  rw [e, vl_add c (fun j => (-k) * d j), vl_smul]
  grind
theorem vl_zero {c : Nat → Rat} {n : Nat} (h : ∀ i, i < n → c i = 0) (x : Rat) : vl c n x = 0 := sg_zero n fun i hi => by rw [h i hi]; grind
theorem vl_sg (c : Nat → Nat → Rat) (a : Nat → Rat) (n : Nat) (x : Rat) : ∀ m, vl (fun j => sg (fun l => a l * c l j) m) n x = sg (fun l => a l * vl (c l) n x) m
  | 0 => vl_zero (fun _ _ => rfl) x
  | m + 1 => by
    show vl (fun j => (fun j => sg (fun l => a l * c l j) m) j + (fun j => a m * c m j) j) n x = _
    rw [vl_add (fun j => sg (fun l => a l * c l j) m) (fun j => a m * c m j), vl_sg c a n x m, vl_smul]
    rfl
theorem vl_syn (a : Rat) : ∀ (n : Nat) (c : Nat → Rat), ∃ q : Nat → Rat, ∀ x, vl c (n + 1) x = vl c (n + 1) a + (x - a) * vl q n x
  | 0, c => ⟨fun _ => 0, fun x => by
    rw [vl_head, vl_head]
    show c 0 + x * 0 = c 0 + a * 0 + (x - a) * 0
    grind⟩
  | n + 1, c => by
    obtain ⟨q, hq⟩ := vl_syn a n fun i => c (i + 1)
    refine ⟨fun i => if i = 0 then vl (fun i => c (i + 1)) (n + 1) a else q (i - 1), fun x => ?_⟩
    rw [vl_head, vl_head c, vl_head (fun i => if i = 0 then vl (fun i => c (i + 1)) (n + 1) a else q (i - 1)), if_pos rfl, hq x]
    rw [vl_congr (c := fun i => if i + 1 = 0 then vl (fun i => c (i + 1)) (n + 1) a else q (i + 1 - 1)) (d := q) fun i _ => by rw [if_neg (by omega), Nat.add_sub_cancel]]
    grind
theorem vl_none : ∀ (n : Nat) (c : Nat → Rat) (p : Nat → Rat), (∀ i j, i < n → j < n → i ≠ j → p i ≠ p j) → (∀ i, i < n → vl c n (p i) = 0) → ∀ x, vl c n x = 0
  | 0, c, p, _, _, x => rfl
  | n + 1, c, p, hd, hz, x => by
    obtain ⟨q, hq⟩ := vl_syn (p n) n c
    have ih := vl_none n q p (fun i j hi hj h => hd i j (by omega) (by omega) h) fun i hi => by
      have e := hq (p i)
      rw [hz i (by omega), hz n (by omega)] at e
      have hne := hd i n (by omega) (by omega) (by omega)
      have : p i - p n ≠ 0 := fun z => hne (by grind)
      rcases Rat.mul_eq_zero.mp (show (p i - p n) * vl q n (p i) = 0 by grind) with z | z
      · exact absurd z this
      · exact z
    rw [hq x, hz n (by omega), ih x]
    grind
theorem natRat_inj {a b : Nat} (h : ((a : Nat) : Rat) = (b : Nat)) : a = b := by exact_mod_cast h
theorem vl_coef : ∀ (n : Nat) (c : Nat → Rat), (∀ x, vl c n x = 0) → ∀ i, i < n → c i = 0
  | 0, _, _, i, hi => by omega
  | n + 1, c, h, i, hi => by
    have h0 : c 0 = 0 := by
      have := h 0
      rw [vl_head] at this
      grind
    have h1 : ∀ x, x ≠ 0 → vl (fun i => c (i + 1)) n x = 0 := fun x hx => by
      have := h x
      rw [vl_head, h0] at this
      rcases Rat.mul_eq_zero.mp (show x * vl (fun i => c (i + 1)) n x = 0 by grind) with z | z
      · exact absurd z hx
      · exact z
    have h2 := vl_none n (fun i => c (i + 1)) (fun i => ((i + 1 : Nat) : Rat)) (fun i j _ _ hne z => hne (by have := natRat_inj z; omega)) fun i _ => h1 _ fun z => by
      have := natRat_inj (b := 0) z
      omega
    cases i with
    | zero => exact h0
    | succ i => exact vl_coef n (fun i => c (i + 1)) h2 i (by omega)
theorem vl_inj {c d : Nat → Rat} {n : Nat} (h : ∀ x, vl c n x = vl d n x) : ∀ i, i < n → c i = d i := fun i hi => by
  have := vl_coef n (fun j => c j - 1 * d j) (fun x => by rw [vl_sub, h x]; grind) i hi
  have this : c i - 1 * d i = 0 := this
  grind
def shN (i : Nat) (f : Nat → Rat) : Nat → Rat := fun k => if k < i then 0 else f (k - i)
def mulF (f g : Nat → Rat) (n : Nat) : Nat → Rat := fun k => sg (fun i => g i * shN i f k) n
theorem shN_succ (i : Nat) (f : Nat → Rat) : shN (i + 1) f = shF (shN i f) := by
  funext k
  unfold shN shF
  by_cases h : k = 0
  · subst h
    rw [if_pos (by omega), if_pos rfl]
  · rw [if_neg h]
    by_cases h1 : k < i + 1
    · rw [if_pos h1]
      show 0 = if k - 1 < i then 0 else f (k - 1 - i)
      rw [if_pos (by omega)]
    · rw [if_neg h1]
      show f (k - (i + 1)) = if k - 1 < i then 0 else f (k - 1 - i)
      rw [if_neg (by omega)]
      congr 1
      omega
theorem vl_shN {f : Nat → Rat} {m : Nat} (h : Dg m f) (x : Rat) : ∀ i, vl (shN i f) (m + i) x = x ^ i * vl f m x
  | 0 => by
    have : shN 0 f = f := by funext k; unfold shN; rw [if_neg (by omega), Nat.sub_zero]
    rw [this, Rat.pow_zero]
    show vl f m x = _
    grind
  | i + 1 => by
    rw [shN_succ]
    show vl _ (m + i + 1) x = _
    rw [vl_sh, vl_shN h x i, Rat.pow_succ]
    grind
theorem dg_shN {f : Nat → Rat} {m : Nat} (h : Dg m f) (i : Nat) : Dg (m + i) (shN i f) := fun j hj => by
  unfold shN
  rw [if_neg (by omega), h _ (by omega)]
theorem dg_mulF {f g : Nat → Rat} {m n : Nat} (hf : Dg m f) : Dg (m + n) (mulF f g n) := fun j hj => sg_zero n fun i hi => by
  rw [dg_shN hf i j (by omega)]
  grind
theorem dg_mulF' {f g : Nat → Rat} {m n : Nat} (hf : Dg (m + 1) f) : Dg (m + n) (mulF f g n) := fun j hj => sg_zero n fun i hi => by
  rw [dg_shN hf i j (by omega)]
  grind
theorem vl_mulF {f g : Nat → Rat} {m : Nat} (hf : Dg m f) (x : Rat) (n : Nat) : vl (mulF f g n) (m + n) x = vl f m x * vl g n x := by
  unfold mulF
  rw [vl_sg (fun i k => shN i f k) g (m + n) x n]
  unfold vl
  rw [Rat.mul_comm, ← sg_mul]
  refine sg_congr n fun i hi => ?_
  have := vl_more (dg_shN hf i) (show m + i ≤ m + n by omega) x
  have e := vl_shN hf x i
  unfold vl at this e
  show g i * sg (fun j => shN i f j * x ^ j) (m + n) = _
  rw [this, e]
  grind
def lw (s : Nat → Rat) (c : Nat → Rat) (n : Nat) : Rat := sg (fun i => c i * s i) n
theorem lw_more {s c : Nat → Rat} {n m : Nat} (h : Dg n c) (e : n ≤ m) : lw s c m = lw s c n := by
  obtain ⟨k, rfl⟩ : ∃ k, m = n + k := ⟨m - n, by omega⟩
  exact sg_more k fun i h1 _ => by rw [h i h1]; grind
theorem lw_congr {s c d : Nat → Rat} {n : Nat} (h : ∀ i, i < n → c i = d i) : lw s c n = lw s d n := sg_congr n fun i hi => by rw [h i hi]
theorem lw_sg (s : Nat → Rat) (c : Nat → Nat → Rat) (a : Nat → Rat) (n : Nat) (m : Nat) : lw s (fun j => sg (fun l => a l * c l j) m) n = sg (fun l => a l * lw s (c l) n) m := by
  unfold lw
  have e : (fun i => sg (fun l => a l * c l i) m * s i) = fun i => s i * sg (fun l => a l * c l i) m := by funext i; grind
  rw [e, sg_swap (a := s) (f := fun l i => a l * c l i)]
  refine sg_congr m fun l _ => ?_
  rw [Rat.mul_comm, ← sg_mul]
  exact sg_congr n fun i _ => by grind
theorem lw_shN (s : Nat → Rat) {f : Nat → Rat} {m : Nat} (h : Dg m f) : ∀ i, lw s (shN i f) (m + i) = sg (fun j => f j * s (i + j)) m := fun i => by
  unfold lw
  have key : ∀ i (t : Nat → Rat), sg (fun k => shN i f k * t k) (m + i) = sg (fun j => f j * t (i + j)) m := by
    intro i
    induction i with
    | zero =>
      intro t
      refine sg_congr m fun j _ => ?_
      unfold shN
      rw [if_neg (by omega), Nat.sub_zero, Nat.zero_add]
    | succ i ih =>
      intro t
      show sg _ (m + i + 1) = _
      rw [sg_shift, shN_succ]
      have e : (fun k => shF (shN i f) (k + 1) * t (k + 1)) = fun k => shN i f k * t (k + 1) := rfl
      rw [e, ih fun k => t (k + 1)]
      show (0 : Rat) * _ + _ = _
      rw [sg_congr (g := fun j => f j * t (i + 1 + j)) m fun j _ => by rw [show i + j + 1 = i + 1 + j by omega]]
      grind
  exact key i s
theorem lw_mulF (s : Nat → Rat) {f g : Nat → Rat} {m n : Nat} (hf : Dg m f) : lw s (mulF f g n) (m + n) = sg (fun i => g i * sg (fun j => f j * s (i + j)) m) n := by
  unfold mulF
  rw [lw_sg s (fun i k => shN i f k) g (m + n) n]
  refine sg_congr n fun i hi => ?_
  show g i * lw s (shN i f) (m + n) = _
  rw [lw_more (dg_shN hf i) (show m + i ≤ m + n by omega), lw_shN s hf i]
theorem sg_to {f : Nat → Rat} {n m : Nat} (h : ∀ i, n ≤ i → f i = 0) (e : n ≤ m) : sg f m = sg f n := by
  obtain ⟨k, rfl⟩ : ∃ k, m = n + k := ⟨m - n, by omega⟩
  exact sg_more k fun i h1 _ => h i h1
theorem lw_bil (s : Nat → Rat) {f g : Nat → Rat} {m n : Nat} (hf : Dg m f) (hg : Dg n g) (hm : m ≤ 12) (hn : n ≤ 12) : lw s (mulF f g n) (m + n) = bil s f g := by
  rw [lw_mulF s hf]
  unfold bil ipx
  rw [sg_to (n := n) (m := 12) (fun i hi => by rw [hg i hi]; grind) hn]
  refine sg_congr n fun i _ => ?_
  rw [sg_to (n := m) (m := 12) (fun j hj => by rw [hf j hj]; grind) hm]
def dF (c : Nat → Rat) : Nat → Rat := fun j => ((j + 1 : Nat) : Rat) * c (j + 1)
theorem dF_sh (c : Nat → Rat) : dF (shF c) = fun j => c j + shF (dF c) j := by
  funext j
  unfold dF shF
  rw [if_neg (by omega), Nat.add_sub_cancel]
  by_cases h : j = 0
  · subst h
    rw [if_pos rfl]
    have : ((0 + 1 : Nat) : Rat) = 1 := rfl
    rw [this]
    grind
  · rw [if_neg h]
    obtain ⟨i, rfl⟩ : ∃ i, j = i + 1 := ⟨j - 1, by omega⟩
    rw [Nat.add_sub_cancel]
    have : ((i + 1 + 1 : Nat) : Rat) = ((i + 1 : Nat) : Rat) + 1 := by simp
    rw [this]
    grind
theorem dF_sub (c d : Nat → Rat) (k : Rat) : dF (fun j => c j - k * d j) = fun j => dF c j - k * dF d j := by
  funext j
  unfold dF
  grind
theorem dg_dF {c : Nat → Rat} {n : Nat} (h : Dg (n + 1) c) : Dg n (dF c) := fun j hj => by
  unfold dF
  rw [h (j + 1) (by omega)]
  grind
theorem dg_sh {c : Nat → Rat} {n : Nat} (h : Dg n c) : Dg (n + 1) (shF c) := fun j hj => by
  unfold shF
  rw [if_neg (by omega), h _ (by omega)]
theorem dg_sub {c d : Nat → Rat} {n : Nat} (h : Dg n c) (h2 : Dg n d) (k : Rat) : Dg n (fun j => c j - k * d j) := fun j hj => by
  show c j - k * d j = 0
  rw [h j hj, h2 j hj]
  grind
theorem dg_stP (s : Nat → Rat) (n : Nat) : Dg (n + 1) (stP s n) := fun j hj => (stPQ_deg s n).1 j (by omega)
theorem dg_stQ (s : Nat → Rat) (n : Nat) : Dg n (stQ s n) := fun j hj => (stPQ_deg s n).2.2 j (by omega)
theorem vl_shT {c : Nat → Rat} {n N : Nat} (h : Dg n c) (e : n + 1 ≤ N) (x : Rat) : vl (shF c) N x = x * vl c N x := by
  rw [vl_more (dg_sh h) e, vl_sh, vl_more (n := n) (m := N) h (by omega)]
def Kv (s : Nat → Rat) (x : Rat) (m : Nat) : Rat := sg (fun k => vl (stP s k) 14 x * vl (stP s k) 14 x / stH s k) m
theorem cd {s : Nat → Rat} (x : Rat) : ∀ m, m ≤ 10 → (∀ k, k ≤ m → stH s k ≠ 0) → vl (dF (stP s (m + 1))) 14 x * vl (stP s m) 14 x - vl (stP s (m + 1)) 14 x * vl (dF (stP s m)) 14 x = stH s m * Kv s x (m + 1) := by
  intro m
  have P1 : ∀ m, m ≤ 10 → vl (stP s (m + 1)) 14 x = x * vl (stP s m) 14 x - stT s m * vl (stP s m) 14 x - stH s m / bil s (stQ s m) (stQ s m) * vl (stQ s m) 14 x := fun m hm => by
    rw [stP_succ, vl_sub (fun j => shF (stP s m) j - stT s m * stP s m j), vl_sub (shF (stP s m)), vl_shT (dg_stP s m) (by omega)]
  have D1 : ∀ m, m ≤ 10 → vl (dF (stP s (m + 1))) 14 x = vl (stP s m) 14 x + x * vl (dF (stP s m)) 14 x - stT s m * vl (dF (stP s m)) 14 x - stH s m / bil s (stQ s m) (stQ s m) * vl (dF (stQ s m)) 14 x := fun m hm => by
    rw [stP_succ, dF_sub (fun j => shF (stP s m) j - stT s m * stP s m j), dF_sub (shF (stP s m)), vl_sub (fun j => dF (shF (stP s m)) j - stT s m * dF (stP s m) j), vl_sub (dF (shF (stP s m))), dF_sh, vl_add (stP s m), vl_shT (dg_dF (dg_stP s m)) (by omega)]
  induction m with
  | zero =>
    intro _ hh
    have h0 := hh 0 (by omega)
    rw [P1 0 (by omega), D1 0 (by omega)]
    have q0 : vl (stQ s 0) 14 x = 0 := vl_zero (fun i _ => dg_stQ s 0 i (by omega)) x
    have q1 : vl (dF (stQ s 0)) 14 x = 0 := vl_zero (fun i _ => by unfold dF; rw [dg_stQ s 0 (i + 1) (by omega)]; grind) x
    rw [q0, q1]
    show _ = stH s 0 * (0 + vl (stP s 0) 14 x * vl (stP s 0) 14 x / stH s 0)
    grind
  | succ m ih =>
    intro hm hh
    have ih := ih (by omega) fun k hk => hh k (by omega)
    have h0 := hh (m + 1) (by omega)
    have h1 := hh m (by omega)
    rw [P1 (m + 1) hm, D1 (m + 1) hm, stQ_succ]
    have e : bil s (stP s m) (stP s m) = stH s m := rfl
    rw [e]
    have e2 : Kv s x (m + 1 + 1) = Kv s x (m + 1) + vl (stP s (m + 1)) 14 x * vl (stP s (m + 1)) 14 x / stH s (m + 1) := rfl
    rw [e2]
    generalize vl (stP s (m + 1)) 14 x = p at *
    generalize vl (stP s m) 14 x = q at *
    generalize vl (dF (stP s (m + 1))) 14 x = dp at *
    generalize vl (dF (stP s m)) 14 x = dq at *
    generalize Kv s x (m + 1) = K at *
    generalize stH s (m + 1) = h' at *
    generalize stH s m = h at *
    generalize stT s (m + 1) = t at *
    have e3 : h' / h * (dp * q - p * dq) = h' * K := by rw [ih]; grind
    have e4 : h' * (K + p * p / h') = h' * K + p * p := by grind
    rw [e4, ← e3]
    grind
def rr (Q : Nat → Rat) (m : Nat) : Nat → Nat → Rat
  | 0 => dF Q
  | k + 1 => fun j => shF (rr Q m k) j - rr Q m k m * Q j
def AA (Q : Nat → Rat) (m : Nat) : Nat → Nat → Rat
  | 0 => fun _ => 0
  | k + 1 => fun j => if j = 0 then rr Q m k m else AA Q m k (j - 1)
section
variable {Q : Nat → Rat} {m : Nat}
theorem rr_dg (hQ : Dg (m + 2) Q) (h1 : Q (m + 1) = 1) : ∀ k, Dg (m + 1) (rr Q m k)
  | 0 => dg_dF hQ
  | k + 1 => fun j hj => by
    have ih := rr_dg hQ h1 k
    show shF (rr Q m k) j - rr Q m k m * Q j = 0
    unfold shF
    rw [if_neg (by omega)]
    by_cases e : j = m + 1
    · subst e
      rw [h1, Nat.add_sub_cancel]
      grind
    · rw [ih (j - 1) (by omega), hQ j (by omega)]
      grind
theorem AA_dg : ∀ k, Dg k (AA Q m k)
  | 0 => fun _ _ => rfl
  | k + 1 => fun j hj => by
    show (if j = 0 then rr Q m k m else AA Q m k (j - 1)) = 0
    rw [if_neg (by omega), AA_dg k (j - 1) (by omega)]
theorem rr_vl (hQ : Dg (m + 2) Q) (h1 : Q (m + 1) = 1) (x : Rat) {N : Nat} (hN : m + 2 ≤ N) : ∀ k, k + 1 ≤ N → x ^ k * vl (dF Q) N x = vl (AA Q m k) N x * vl Q N x + vl (rr Q m k) N x
  | 0, _ => by
    rw [Rat.pow_zero, vl_zero (c := AA Q m 0) (fun _ _ => rfl) x]
    show _ = 0 * _ + vl (dF Q) N x
    grind
  | k + 1, hk => by
    have ih := rr_vl hQ h1 x hN k (by omega)
    have e1 : vl (AA Q m (k + 1)) N x = x * vl (AA Q m k) N x + rr Q m k m := by
      have : AA Q m (k + 1) = fun j => shF (AA Q m k) j + (if j = 0 then rr Q m k m else 0) := by
        funext j
        show (if j = 0 then rr Q m k m else AA Q m k (j - 1)) = _
        unfold shF
        by_cases h : j = 0
        · rw [if_pos h, if_pos h, if_pos h]; grind
        · rw [if_neg h, if_neg h, if_neg h]; grind
      rw [this, vl_add (shF (AA Q m k)), vl_shT (AA_dg k) (by omega)]
      obtain ⟨M, rfl⟩ : ∃ M, N = M + 1 := ⟨N - 1, by omega⟩
      rw [vl_head (fun j => if j = 0 then rr Q m k m else 0), vl_zero (c := fun i => if i + 1 = 0 then rr Q m k m else 0) (fun i _ => if_neg (by omega)) x, if_pos rfl]
      grind
    have e2 : vl (rr Q m (k + 1)) N x = x * vl (rr Q m k) N x - rr Q m k m * vl Q N x := by
      have : rr Q m (k + 1) = fun j => shF (rr Q m k) j - rr Q m k m * Q j := rfl
      rw [this, vl_sub (shF (rr Q m k)), vl_shT (rr_dg hQ h1 k) hN]
    rw [e1, e2, Rat.pow_succ]
    have e3 : x ^ k * x * vl (dF Q) N x = x * (x ^ k * vl (dF Q) N x) := by grind
    rw [e3, ih]
    grind
theorem rr_sum : ∀ k j, rr Q m k j = (if k ≤ j then dF Q (j - k) else 0) - sg (fun b => rr Q m (k - 1 - b) m * Q (j - b)) (min k (j + 1))
  | 0, j => by
    rw [if_pos (Nat.zero_le _), Nat.sub_zero, Nat.zero_min]
    show dF Q j = dF Q j - 0
    grind
  | k + 1, 0 => by
    show (0 : Rat) - rr Q m k m * Q 0 = _
    rw [if_neg (by omega), show min (k + 1) (0 + 1) = 1 by omega]
    show _ = (0 : Rat) - (0 + rr Q m (k + 1 - 1 - 0) m * Q (0 - 0))
    rw [show k + 1 - 1 - 0 = k by omega]
    grind
  | k + 1, j + 1 => by
    show rr Q m k j - rr Q m k m * Q (j + 1) = _
    rw [rr_sum k j, show min (k + 1) (j + 1 + 1) = min k (j + 1) + 1 by omega, sg_shift]
    have e : (fun i => rr Q m (k + 1 - 1 - (i + 1)) m * Q (j + 1 - (i + 1))) = fun b => rr Q m (k - 1 - b) m * Q (j - b) := by
      funext b
      rw [show k + 1 - 1 - (b + 1) = k - 1 - b by omega, show j + 1 - (b + 1) = j - b by omega]
    rw [e, show k + 1 - 1 - 0 = k by omega, Nat.sub_zero]
    by_cases h : k ≤ j
    · rw [if_pos h, if_pos (by omega), show j + 1 - (k + 1) = j - k by omega]
      grind
    · rw [if_neg h, if_neg (by omega)]
      grind
theorem rr_null (hQ : Dg (m + 2) Q) (h1 : Q (m + 1) = 1) {y : Nat → Rat} (hy : ∀ i, i < m + 1 → sg (fun l => y l * rr Q m (i + l) m) (m + 1) = 0) : ∀ j, sg (fun l => y l * rr Q m l j) (m + 1) = 0 := by
  have step : ∀ i, i < m + 1 → ∀ j, sg (fun l => y l * rr Q m (i + 1 + l) j) (m + 1) = if j = 0 then 0 else sg (fun l => y l * rr Q m (i + l) (j - 1)) (m + 1) := fun i hi j => by
    have e : (fun l => y l * rr Q m (i + 1 + l) j) = fun l => (if j = 0 then 0 else y l * rr Q m (i + l) (j - 1)) + y l * rr Q m (i + l) m * (-Q j) := by
      funext l
      rw [show i + 1 + l = i + l + 1 by omega]
      show y l * (shF (rr Q m (i + l)) j - rr Q m (i + l) m * Q j) = _
      unfold shF
      split <;> grind
    rw [e, sg_add, sg_mul, hy i hi]
    split
    · rw [sg_zero (m + 1) fun _ _ => rfl]; grind
    · grind
  have down : ∀ i, i ≤ m → ∀ j, sg (fun l => y l * rr Q m (i + l) (j + i)) (m + 1) = sg (fun l => y l * rr Q m l j) (m + 1) := by
    intro i
    induction i with
    | zero => intro _ j; exact sg_congr _ fun l _ => by rw [Nat.zero_add, Nat.add_zero]
    | succ i ih =>
      intro hi j
      rw [step i (by omega), if_neg (by omega), show j + (i + 1) - 1 = j + i by omega]
      exact ih (by omega) j
  intro j
  by_cases hj : j ≤ m
  · rw [← down (m - j) (by omega) j, show j + (m - j) = m by omega]
    exact hy (m - j) (by omega)
  · exact sg_zero _ fun l _ => by rw [rr_dg hQ h1 l j (by omega)]; grind
end
def IsP (N : Nat) (f : Rat → Rat) : Prop := ∃ c, Dg N c ∧ ∀ x, f x = vl c N x
theorem IsP.mono {N M : Nat} {f : Rat → Rat} (h : IsP N f) (e : N ≤ M) : IsP M f := by
  obtain ⟨c, h1, h2⟩ := h
  exact ⟨c, h1.mono e, fun x => by rw [h2, vl_more h1 e]⟩
theorem IsP.add {N M : Nat} {f g : Rat → Rat} (h : IsP N f) (h' : IsP M g) : IsP (N + M) fun x => f x + g x := by
  obtain ⟨c, h1, h2⟩ := h.mono (show N ≤ N + M by omega)
  obtain ⟨d, h3, h4⟩ := h'.mono (show M ≤ N + M by omega)
  exact ⟨fun j => c j + d j, fun j hj => by show c j + d j = 0; rw [h1 j hj, h3 j hj]; grind, fun x => by show f x + g x = _; rw [vl_add, h2, h4]⟩
theorem IsP.smul {N : Nat} {f : Rat → Rat} (k : Rat) (h : IsP N f) : IsP N fun x => k * f x := by
  obtain ⟨c, h1, h2⟩ := h
  exact ⟨fun j => k * c j, fun j hj => by show k * c j = 0; rw [h1 j hj]; grind, fun x => by show k * f x = _; rw [vl_smul, h2]⟩
theorem IsP.mul {N M : Nat} {f g : Rat → Rat} (h : IsP N f) (h' : IsP M g) : IsP (N + M) fun x => f x * g x := by
  obtain ⟨c, h1, h2⟩ := h
  obtain ⟨d, h3, h4⟩ := h'
  exact ⟨mulF c d M, dg_mulF h1, fun x => by show f x * g x = _; rw [vl_mulF h1, h2, h4]⟩
theorem IsP.vl {N : Nat} {c : Nat → Rat} (h : Dg N c) : IsP N (vl c N) := ⟨c, h, fun _ => rfl⟩
theorem IsP.sg {N : Nat} {f : Nat → Rat → Rat} : ∀ n, (∀ k, k < n → IsP N (f k)) → ∃ M, IsP M fun x => Ma.sg (fun k => f k x) n
  | 0, _ => ⟨0, fun _ => 0, fun _ _ => rfl, fun _ => rfl⟩
  | n + 1, h => by
    obtain ⟨M, hM⟩ := IsP.sg n fun k hk => h k (by omega)
    exact ⟨M + N, hM.add (h n (by omega))⟩
theorem pdiv {Q : Nat → Rat} {m : Nat} (hQ : Dg (m + 2) Q) (h1 : Q (m + 1) = 1) {N : Nat} (hN : m + 2 ≤ N) : ∀ (M : Nat) (c : Nat → Rat), ∃ (B : Nat → Rat) (r : Nat → Rat), Dg M B ∧ Dg (m + 1) r ∧ ∀ x, vl c M x = vl B M x * vl Q N x + vl r N x
  | 0, c => ⟨fun _ => 0, fun _ => 0, fun _ _ => rfl, fun _ _ => rfl, fun x => by rw [vl_zero (c := fun _ => (0 : Rat)) (n := N) (fun _ _ => rfl)]; show (0 : Rat) = 0 * _ + 0; grind⟩
  | M + 1, c => by
    obtain ⟨B, r, hB, hr, h⟩ := pdiv hQ h1 hN M fun i => c (i + 1)
    refine ⟨fun j => if j = 0 then r m else B (j - 1), fun j => shF r j - r m * Q j + (if j = 0 then c 0 else 0), fun j hj => ?_, fun j hj => ?_, fun x => ?_⟩
    · show (if j = 0 then r m else B (j - 1)) = 0
      rw [if_neg (by omega), hB _ (by omega)]
    · show shF r j - r m * Q j + (if j = 0 then c 0 else 0) = 0
      unfold shF
      rw [if_neg (by omega), if_neg (by omega)]
      by_cases e : j = m + 1
      · subst e
        rw [h1, Nat.add_sub_cancel]
        grind
      · rw [hr (j - 1) (by omega), hQ j (by omega)]
        grind
    · rw [vl_head, h x, vl_head (fun j => if j = 0 then r m else B (j - 1)), if_pos rfl, vl_congr (c := fun i => if i + 1 = 0 then r m else B (i + 1 - 1)) (d := B) fun i _ => by rw [if_neg (by omega), Nat.add_sub_cancel]]
      rw [vl_add (fun j => shF r j - r m * Q j), vl_sub (shF r), vl_shT hr (by omega)]
      have e : vl (fun j => if j = 0 then c 0 else 0) N x = c 0 := by
        obtain ⟨K, rfl⟩ : ∃ K, N = K + 1 := ⟨N - 1, by omega⟩
        rw [vl_head, vl_zero (c := fun i => if i + 1 = 0 then c 0 else 0) (fun i _ => if_neg (by omega)) x, if_pos rfl]
        grind
      rw [e]
      grind
theorem short_of {Q g : Nat → Rat} {m M n : Nat} (hQ : Dg (m + 2) Q) (h1 : Q (m + 1) = 1) (hg : Dg M g) (h : ∀ k, m + 1 + n ≤ k → mulF Q g M k = 0) : Dg n g := by
  have key : ∀ d i, M ≤ i + d → n ≤ i → g i = 0 := by
    intro d
    induction d with
    | zero => intro i hi _; exact hg i (by omega)
    | succ d ih =>
      intro i hi hn
      by_cases hM : M ≤ i
      · exact hg i hM
      have e := h (i + (m + 1)) (by omega)
      unfold mulF at e
      obtain ⟨K, rfl⟩ : ∃ K, M = i + 1 + K := ⟨M - (i + 1), by omega⟩
      rw [sg_more K fun l hl _ => by rw [ih l (by omega) (by omega)]; grind, sg, sg_zero i fun l hl => by
        have : shN l Q (i + (m + 1)) = 0 := by
          unfold shN
          rw [if_neg (by omega), hQ _ (by omega)]
        rw [this]; grind] at e
      have e2 : shN i Q (i + (m + 1)) = 1 := by
        unfold shN
        rw [if_neg (by omega), show i + (m + 1) - i = m + 1 by omega, h1]
      rw [e2] at e
      grind
  exact fun i hi => key M i (by omega) hi
theorem bil_pos {s : Nat → Rat} : ∀ n, n ≤ 11 → (∀ k, k < n → 0 < stH s k) → ∀ f, Dg n f → 0 ≤ bil s f f ∧ (bil s f f = 0 → ∀ j, f j = 0)
  | 0, _, _, f, hf => by
    have e : f = fun _ => 0 := by funext j; exact hf j (by omega)
    subst e
    rw [bil_zero]
    exact ⟨by decide, fun _ _ => rfl⟩
  | n + 1, hn, hh, f, hf => by
    have hnz : ∀ k, k < n → stH s k ≠ 0 := fun k hk z => by have := hh k (by omega); rw [z] at this; exact absurd this (by decide)
    have hP := stPQ_deg s n
    have dg' : Dg n (fun j => f j - f n * stP s n j) := fun j hj => by
      show f j - f n * stP s n j = 0
      by_cases e : j = n
      · subst e; rw [hP.2.1]; grind
      · rw [hf j (by omega), hP.1 j (by omega)]; grind
    obtain ⟨i1, i2⟩ := bil_pos n (by omega) (fun k hk => hh k (by omega)) _ dg'
    have horth : bil s (fun j => f j - f n * stP s n j) (stP s n) = 0 := by
      rw [bil_comm]
      unfold bil
      refine sg_zero _ fun i _ => ?_
      by_cases hi : i < n
      · have : ∀ m k, k < m → m ≤ n → ipx s (stP s n) k = 0 := by
          intro m
          induction m with
          | zero => intro k hk; omega
          | succ m ih =>
            intro k hk hm
            by_cases e : k = m
            · subst e
              have ho := orth n (by omega) hnz n k (Nat.le_refl _) (by omega)
              have hP2 := stPQ_deg s k
              unfold bil at ho
              have e12 : 12 = (k + 1) + (11 - k) := by omega
              rw [e12, sg_more _ fun i h1 _ => by rw [hP2.1 i (by omega)]; grind, sg, sg_zero k fun i hi => by rw [ih i hi (by omega)]; grind, hP2.2.1] at ho
              grind
            · exact ih k (by omega) (by omega)
        rw [this (i + 1) i (by omega) (by omega)]
        grind
      · rw [dg' i (by omega)]
        grind
    have hsum : bil s f f = bil s (fun j => f j - f n * stP s n j) (fun j => f j - f n * stP s n j) + f n * f n * stH s n := by
      have a1 : bil s f f = bil s (fun j => f j - f n * stP s n j) f + f n * bil s (stP s n) f := by rw [bil_lin]; grind
      have a2 : bil s (fun j => f j - f n * stP s n j) f = bil s (fun j => f j - f n * stP s n j) (fun j => f j - f n * stP s n j) + f n * bil s (fun j => f j - f n * stP s n j) (stP s n) := by
        rw [bil_comm s _ f]
        have e : f = fun j => (fun j => f j - f n * stP s n j) j - (-f n) * stP s n j := by funext j; grind
        have e2 := bil_lin s (fun j => f j - f n * stP s n j) (stP s n) (fun j => f j - f n * stP s n j) (-f n)
        rw [← e] at e2
        rw [e2, bil_comm s (fun j => f j - f n * stP s n j) (stP s n)]
        grind
      have a3 : bil s (stP s n) f = f n * stH s n := by
        have := horth
        rw [bil_lin, bil_comm] at this
        unfold stH
        grind
      rw [a1, a2, horth, a3]
      grind
    have hsq : 0 ≤ f n * f n * stH s n := by
      have h1 : 0 ≤ f n * f n := by
        rcases Rat.le_total (a := 0) (b := f n) with h | h
        · exact Rat.mul_nonneg h h
        · have := Rat.mul_nonneg (show 0 ≤ -f n by grind) (show 0 ≤ -f n by grind)
          grind
      exact Rat.mul_nonneg h1 (by have := hh n (by omega); grind)
    refine ⟨by rw [hsum]; grind, fun z => ?_⟩
    rw [hsum] at z
    have z1 : f n * f n * stH s n = 0 := by grind
    have z2 : f n = 0 := by
      have := hh n (by omega)
      rcases Rat.mul_eq_zero.mp z1 with w | w
      · rcases Rat.mul_eq_zero.mp w with w | w <;> exact w
      · rw [w] at this; exact absurd this (by decide)
    have z3 := i2 (by grind)
    intro j
    have : f j - f n * stP s n j = 0 := z3 j
    rw [z2] at this
    grind
theorem sg_nn {f : Nat → Rat} : ∀ n, (∀ i, i < n → 0 ≤ f i) → 0 ≤ sg f n
  | 0, _ => Rat.le_refl
  | n + 1, h => by
    have h1 := sg_nn n fun i hi => h i (by omega)
    have h2 := h n (by omega)
    show 0 ≤ sg f n + f n
    grind
theorem sg_nn0 {f : Nat → Rat} : ∀ n, (∀ i, i < n → 0 ≤ f i) → sg f n = 0 → ∀ i, i < n → f i = 0
  | 0, _, _, i, hi => by omega
  | n + 1, h, e, i, hi => by
    have h1 := sg_nn n fun i hi => h i (by omega)
    have h2 := h n (by omega)
    have e : sg f n + f n = 0 := e
    by_cases hn : i = n
    · subst hn; grind
    · exact sg_nn0 n (fun i hi => h i (by omega)) (by grind) i (by omega)
theorem regular {s : Nat → Rat} {m : Nat} (hm : m ≤ 9) (hh : ∀ k, k < m + 1 → 0 < stH s k) (c : Rat) {Q : Nat → Rat} (eQ : Q = fun j => stP s (m + 1) j - c * stP s m j) {y : Nat → Rat} (hyd : Dg (m + 1) y)
    (hQo : ∀ i, i < m → ipx s Q i = 0) (hy : ∀ i, i < m + 1 → sg (fun l => y l * rr Q m (i + l) m) (m + 1) = 0) : ∀ j, y j = 0 := by
  have hnz : ∀ k, k < m + 1 → stH s k ≠ 0 := fun k hk z => by have := hh k hk; rw [z] at this; exact absurd this (by decide)
  have hP := stPQ_deg s (m + 1)
  have hP' := stPQ_deg s m
  have hQ : Dg (m + 2) Q := by
    subst eQ
    exact dg_sub (dg_stP s (m + 1)) ((dg_stP s m).mono (by omega)) c
  have h1 : Q (m + 1) = 1 := by
    subst eQ
    show stP s (m + 1) (m + 1) - c * stP s m (m + 1) = 1
    rw [hP.2.1, hP'.1 (m + 1) (by omega)]
    grind
  have hcd : ∀ x, vl (dF Q) 14 x * vl (stP s m) 14 x - vl Q 14 x * vl (dF (stP s m)) 14 x = stH s m * Kv s x (m + 1) := fun x => by
    have := cd x m (by omega) fun k hk => hnz k (by omega)
    subst eQ
    rw [dF_sub, vl_sub, vl_sub, ← this]
    grind
  have hnull := rr_null hQ h1 hy
  have e14 : ∀ x, vl y 14 x = vl y (m + 1) x := fun x => vl_more hyd (by omega) x
  have hA : ∀ x, vl y 14 x * vl (dF Q) 14 x = sg (fun l => y l * vl (AA Q m l) 14 x) (m + 1) * vl Q 14 x := fun x => by
    have a1 : vl y 14 x * vl (dF Q) 14 x = sg (fun l => y l * vl (AA Q m l) 14 x * vl Q 14 x + y l * vl (rr Q m l) 14 x) (m + 1) := by
      rw [e14 x]
      unfold vl
      rw [← sg_mul]
      refine sg_congr _ fun l hl => ?_
      have := rr_vl hQ h1 x (N := 14) (by omega) l (by omega)
      unfold vl at this
      have e : y l * x ^ l * sg (fun i => dF Q i * x ^ i) 14 = y l * (x ^ l * sg (fun i => dF Q i * x ^ i) 14) := by grind
      rw [e, this]
      grind
    rw [a1, sg_add, sg_mul, ← vl_sg (fun l j => rr Q m l j) y 14 x (m + 1), vl_zero (c := fun j => sg (fun l => y l * rr Q m l j) (m + 1)) fun j _ => hnull j]
    grind
  have hdiv : ∀ k, ∃ p : (Rat → Rat) × (Nat → Rat), k < m + 1 → IsP 40 p.1 ∧ Dg (m + 1) p.2 ∧ (k = 0 → p.2 = y) ∧ ∀ x, vl y 14 x * vl (stP s k) 14 x = p.1 x * vl Q 14 x + vl p.2 14 x := by
    intro k
    by_cases hk0 : k = 0
    · subst hk0
      refine ⟨(fun _ => 0, y), fun _ => ⟨⟨fun _ => 0, fun _ _ => rfl, fun x => (vl_zero (fun _ _ => rfl) x).symm⟩, hyd, fun _ => rfl, fun x => ?_⟩⟩
      have : vl (stP s 0) 14 x = 1 := by
        rw [vl_head, vl_zero (c := fun i => stP s 0 (i + 1)) (fun i _ => (stPQ_deg s 0).1 (i + 1) (by omega)), (stPQ_deg s 0).2.1]
        grind
      show vl y 14 x * vl (stP s 0) 14 x = 0 * vl Q 14 x + vl y 14 x
      rw [this]
      grind
    · by_cases hk : k < m + 1
      · obtain ⟨B, r, hB, hr, h⟩ := pdiv hQ h1 (N := 14) (by omega) (m + 1 + (k + 1)) (mulF y (stP s k) (k + 1))
        refine ⟨(vl B (m + 1 + (k + 1)), r), fun _ => ⟨(IsP.vl hB).mono (by omega), hr, fun z => absurd z hk0, fun x => ?_⟩⟩
        rw [← h x, vl_mulF hyd, e14 x, vl_more (dg_stP s k) (show k + 1 ≤ 14 by omega)]
      · exact ⟨(fun _ => 0, y), fun z => absurd z hk⟩
  obtain ⟨p, hp⟩ := Classical.axiomOfChoice hdiv
  have hsq : ∀ x, sg (fun k => vl (p k).2 14 x * vl (p k).2 14 x / stH s k) (m + 1) = vl Q 14 x * ((1 / stH s m) * (vl y 14 x * (sg (fun l => y l * vl (AA Q m l) 14 x) (m + 1) * vl (stP s m) 14 x + (-1) * (vl y 14 x * vl (dF (stP s m)) 14 x))) + (-1) * sg (fun k => (1 / stH s k) * ((p k).1 x * ((p k).1 x * vl Q 14 x + 2 * vl (p k).2 14 x))) (m + 1)) := fun x => by
    have b1 : vl y 14 x * (vl y 14 x * Kv s x (m + 1)) = sg (fun k => vl (p k).2 14 x * vl (p k).2 14 x / stH s k) (m + 1) + vl Q 14 x * sg (fun k => (1 / stH s k) * ((p k).1 x * ((p k).1 x * vl Q 14 x + 2 * vl (p k).2 14 x))) (m + 1) := by
      unfold Kv
      rw [Rat.mul_comm (vl Q 14 x), ← sg_mul (vl Q 14 x), ← sg_add, ← Rat.mul_assoc, Rat.mul_comm (vl y 14 x * vl y 14 x), ← sg_mul]
      refine sg_congr _ fun k hk => ?_
      obtain ⟨_, _, _, q4⟩ := hp k hk
      have q4 := q4 x
      have := hnz k hk
      have e : vl (stP s k) 14 x * vl (stP s k) 14 x / stH s k * (vl y 14 x * vl y 14 x) = (vl y 14 x * vl (stP s k) 14 x) * (vl y 14 x * vl (stP s k) 14 x) / stH s k := by grind
      show vl (stP s k) 14 x * vl (stP s k) 14 x / stH s k * (vl y 14 x * vl y 14 x) = _
      rw [e, q4]
      grind
    have b2 := hcd x
    have b3 := hA x
    have b4 := hnz m (by omega)
    generalize sg (fun k => vl (p k).2 14 x * vl (p k).2 14 x / stH s k) (m + 1) = S at *
    generalize sg (fun k => (1 / stH s k) * ((p k).1 x * ((p k).1 x * vl Q 14 x + 2 * vl (p k).2 14 x))) (m + 1) = T at *
    generalize sg (fun l => y l * vl (AA Q m l) 14 x) (m + 1) = A at *
    generalize vl (dF Q) 14 x = dq at *
    generalize vl (dF (stP s m)) 14 x = dp at *
    generalize vl (stP s m) 14 x = p' at *
    generalize vl y 14 x = yv at *
    generalize vl Q 14 x = qv at *
    generalize Kv s x (m + 1) = K at *
    generalize stH s m = h at *
    have b5 : yv * (yv * (h * K)) = yv * (A * qv * p' - yv * qv * dp) := by rw [← b2, ← b3]; grind
    have b6 : h * S = h * (yv * (yv * K)) - h * (qv * T) := by rw [b1]; grind
    have b7 : h * (yv * (yv * K)) = yv * (A * qv * p' - yv * qv * dp) := by rw [← b5]; grind
    grind
  obtain ⟨M1, hM1⟩ : ∃ M, IsP M fun x => sg (fun l => y l * vl (AA Q m l) 14 x) (m + 1) := IsP.sg (N := 14) (f := fun l x => y l * vl (AA Q m l) 14 x) (m + 1) fun l hl => (IsP.vl ((AA_dg (Q := Q) (m := m) l).mono (by omega))).smul (y l)
  obtain ⟨M2, hM2⟩ : ∃ M, IsP M fun x => sg (fun k => (1 / stH s k) * ((p k).1 x * ((p k).1 x * vl Q 14 x + 2 * vl (p k).2 14 x))) (m + 1) := IsP.sg (N := 40 + (40 + 14 + 14)) (f := fun k x => (1 / stH s k) * ((p k).1 x * ((p k).1 x * vl Q 14 x + 2 * vl (p k).2 14 x))) (m + 1) fun k hk => by
    obtain ⟨q1, q2, _, _⟩ := hp k hk
    exact (q1.mul ((q1.mul (IsP.vl (hQ.mono (by omega)))).add ((IsP.vl (q2.mono (by omega))).smul 2))).smul _
  have iy : IsP 14 (vl y 14) := IsP.vl (hyd.mono (by omega))
  have ip : IsP 14 (vl (stP s m) 14) := IsP.vl ((dg_stP s m).mono (by omega))
  have idp : IsP 14 (vl (dF (stP s m)) 14) := IsP.vl ((dg_dF (dg_stP s m)).mono (by omega))
  obtain ⟨g, hg, hgx⟩ := ((iy.mul ((hM1.mul ip).add ((iy.mul idp).smul (-1)))).smul (1 / stH s m)).add (hM2.smul (-1))
  generalize hMM : (14 + (M1 + 14 + (14 + 14))) + M2 = M at *
  have he : ∀ k, mulF Q g M k = sg (fun k' => (1 / stH s k') * mulF (p k').2 (p k').2 (m + 1) k) (m + 1) := by
    have dq : Dg (m + 2 + M) (mulF Q g M) := dg_mulF hQ
    have de : Dg (m + 1 + (m + 1)) (fun k => sg (fun k' => (1 / stH s k') * mulF (p k').2 (p k').2 (m + 1) k) (m + 1)) := fun j hj => sg_zero _ fun k hk => by
      rw [dg_mulF (hp k hk).2.1 j hj]
      grind
    have all : ∀ x, vl (mulF Q g M) (m + 2 + M + (m + 1 + (m + 1))) x = vl (fun k => sg (fun k' => (1 / stH s k') * mulF (p k').2 (p k').2 (m + 1) k) (m + 1)) (m + 2 + M + (m + 1 + (m + 1))) x := fun x => by
      rw [vl_more dq (by omega), vl_mulF hQ, vl_more de (by omega), vl_sg (fun k' k => mulF (p k').2 (p k').2 (m + 1) k) (fun k' => 1 / stH s k')]
      have := hsq x
      rw [← hgx x, ← vl_more hQ (show m + 2 ≤ 14 by omega)]
      dsimp only
      rw [← this]
      refine sg_congr _ fun k hk => ?_
      rw [vl_mulF (hp k hk).2.1, vl_more (hp k hk).2.1 (show m + 1 ≤ 14 by omega)]
      grind
    intro k
    by_cases hk : k < m + 2 + M + (m + 1 + (m + 1))
    · exact vl_inj all k hk
    · rw [dq k (by omega)]
      exact (de k (by omega)).symm
  have hgs : Dg m g := short_of hQ h1 hg fun k hk => by
    rw [he k]
    refine sg_zero _ fun k' hk' => ?_
    rw [dg_mulF' (m := m) (n := m + 1) (hp k' hk').2.1 k (by omega)]
    grind
  have hL : lw s (mulF Q g M) (m + 2 + M) = 0 := by
    rw [lw_mulF s hQ]
    refine sg_zero _ fun i hi => ?_
    by_cases him : i < m
    · have := hQo i him
      unfold ipx at this
      rw [sg_to (n := m + 2) (m := 12) (fun j hj => by rw [hQ j hj]; grind) (by omega)] at this
      rw [this]
      grind
    · rw [hgs i (by omega)]
      grind
  have hL2 : lw s (mulF Q g M) (m + 2 + M + (m + 1 + (m + 1))) = sg (fun k => (1 / stH s k) * bil s (p k).2 (p k).2) (m + 1) := by
    rw [lw_congr (d := fun k => sg (fun k' => (1 / stH s k') * mulF (p k').2 (p k').2 (m + 1) k) (m + 1)) fun i _ => he i, lw_sg s (fun k' k => mulF (p k').2 (p k').2 (m + 1) k) (fun k' => 1 / stH s k')]
    refine sg_congr _ fun k hk => ?_
    have d := (hp k hk).2.1
    show 1 / stH s k * lw s (mulF (p k).2 (p k).2 (m + 1)) _ = _
    rw [lw_more (dg_mulF d) (by omega), lw_bil s d d (by omega) (by omega)]
  rw [lw_more (dg_mulF hQ) (by omega), hL] at hL2
  have hpos := fun k (hk : k < m + 1) => bil_pos (s := s) (m + 1) (by omega) hh (p k).2 (hp k hk).2.1
  have hinv : ∀ k, k < m + 1 → 0 < 1 / stH s k := fun k hk => by
    have := hh k hk
    rw [Rat.div_def, Rat.one_mul]
    exact Rat.inv_pos.mpr this
  have z := sg_nn0 (m + 1) (fun k hk => Rat.mul_nonneg (by have := hinv k hk; grind) (hpos k hk).1) hL2.symm 0 (by omega)
  have z0 : bil s (p 0).2 (p 0).2 = 0 := by
    rcases Rat.mul_eq_zero.mp z with w | w
    · have := hinv 0 (by omega)
      rw [w] at this
      exact absurd this (by decide)
    · exact w
  have := (hpos 0 (by omega)).2 z0
  rw [(hp 0 (by omega)).2.2.1 rfl] at this
  exact this
theorem newt_rr {Q : Nat → Rat} {m : Nat} (h1 : Q (m + 1) = 1) {k : Nat} (hk : 1 ≤ k) : rr Q m k m = -1 * (sg (fun b => Q (m + 1 - (b + 1)) * rr Q m (k - (b + 1)) m) (min (k - 1) (m + 1)) + (if k ≤ m + 1 then (k : Rat) * Q (m + 1 - k) else 0)) := by
  rw [rr_sum]
  by_cases hkm : k ≤ m + 1
  · rw [if_pos hkm, show min k (m + 1) = (k - 1) + 1 by omega, show min (k - 1) (m + 1) = k - 1 by omega, sg, show k - 1 - (k - 1) = 0 by omega]
    have e0 : rr Q m 0 m = ((m + 1 : Nat) : Rat) := by
      show ((m + 1 : Nat) : Rat) * Q (m + 1) = _
      rw [h1]
      grind
    have e1 : sg (fun b => rr Q m (k - 1 - b) m * Q (m - b)) (k - 1) = sg (fun b => Q (m + 1 - (b + 1)) * rr Q m (k - (b + 1)) m) (k - 1) := sg_congr _ fun b hb => by
      rw [show m + 1 - (b + 1) = m - b by omega, show k - (b + 1) = k - 1 - b by omega]
      grind
    rw [e0, e1, show m - (k - 1) = m + 1 - k by omega]
    have e2 : (if k ≤ m then dF Q (m - k) else 0) = (((m + 1 : Nat) : Rat) - (k : Rat)) * Q (m + 1 - k) := by
      by_cases h : k ≤ m
      · rw [if_pos h]
        unfold dF
        rw [show m - k + 1 = m + 1 - k by omega]
        have : ((m + 1 - k : Nat) : Rat) = ((m + 1 : Nat) : Rat) - (k : Rat) := by
          have : ((m + 1 - k + k : Nat) : Rat) = ((m + 1 : Nat) : Rat) := by rw [Nat.sub_add_cancel hkm]
          rw [← this]
          simp
          grind
        rw [this]
      · rw [if_neg h]
        have : k = m + 1 := by omega
        subst this
        grind
    rw [e2]
    grind
  · rw [if_neg (by omega), if_neg hkm, show min k (m + 1) = m + 1 by omega, show min (k - 1) (m + 1) = m + 1 by omega]
    have e1 : sg (fun b => rr Q m (k - 1 - b) m * Q (m - b)) (m + 1) = sg (fun b => Q (m + 1 - (b + 1)) * rr Q m (k - (b + 1)) m) (m + 1) := sg_congr _ fun b hb => by
      rw [show m + 1 - (b + 1) = m - b by omega, show k - (b + 1) = k - 1 - b by omega]
      grind
    rw [e1]
    grind
theorem rr_zero {Q : Nat → Rat} {m : Nat} (h1 : Q (m + 1) = 1) : rr Q m 0 m = ((m + 1 : Nat) : Rat) := by
  show ((m + 1 : Nat) : Rat) * Q (m + 1) = _
  rw [h1]
  grind
theorem sg_zint {f : Nat → Rat} {D : Int} {X : Nat} : ∀ n, (∀ i, i < n → ∃ z : Int, z.natAbs ≤ X ∧ f i = (z : Rat) / (D : Rat)) → ∃ z : Int, z.natAbs ≤ n * X ∧ sg f n = (z : Rat) / (D : Rat)
  | 0, _ => ⟨0, by simp, by
    show (0 : Rat) = ((0 : Int) : Rat) / _
    have : ((0 : Int) : Rat) = 0 := rfl
    rw [this]
    grind⟩
  | n + 1, h => by
    obtain ⟨z, h1, h2⟩ := sg_zint n fun i hi => h i (by omega)
    obtain ⟨y, h3, h4⟩ := h n (by omega)
    refine ⟨z + y, by rw [Nat.add_mul]; omega, ?_⟩
    show sg f n + f n = _
    rw [h2, h4, Rat.intCast_add]
    grind
theorem rr_small {Q : Nat → Rat} {m Y : Nat} {E : Int} {z : Nat → Int} (h1 : Q (m + 1) = 1) (hm : m ≤ 6) (hE : E ≠ 0) (hY : 1 ≤ Y) (hEY : E.natAbs ≤ Y) (hz : ∀ j, (z j).natAbs ≤ Y ∧ Q j = (z j : Rat) / (E : Rat)) : ∀ k, ∃ w : Int, w.natAbs ≤ 8 * (8 * Y) ^ k ∧ rr Q m k m = (w : Rat) / ((E ^ k : Int) : Rat) := by
  intro k
  have cE := intRat_ne hE
  induction k using Nat.strongRecOn with
  | _ k ih =>
    by_cases hk : k = 0
    · subst hk
      refine ⟨((m + 1 : Nat) : Int), by simp; omega, ?_⟩
      rw [rr_zero h1, Int.pow_zero]
      have e1 : (((m + 1 : Nat) : Int) : Rat) = ((m + 1 : Nat) : Rat) := rfl
      have : ((1 : Int) : Rat) = 1 := rfl
      rw [e1, this]
      grind
    · rw [newt_rr h1 (by omega)]
      have t1 : ∀ b, b < min (k - 1) (m + 1) → ∃ u : Int, u.natAbs ≤ (8 * Y) ^ k ∧ Q (m + 1 - (b + 1)) * rr Q m (k - (b + 1)) m = (u : Rat) / ((E ^ k : Int) : Rat) := fun b hb => by
        obtain ⟨w, w1, w2⟩ := ih (k - (b + 1)) (by omega)
        obtain ⟨z1, z2⟩ := hz (m + 1 - (b + 1))
        refine ⟨z (m + 1 - (b + 1)) * w * E ^ b, ?_, ?_⟩
        · rw [Int.natAbs_mul, Int.natAbs_mul, Int.natAbs_pow]
          have a1 : (z (m + 1 - (b + 1))).natAbs * w.natAbs ≤ Y * (8 * (8 * Y) ^ (k - (b + 1))) := Nat.mul_le_mul z1 w1
          have a2 : E.natAbs ^ b ≤ (8 * Y) ^ b := Nat.pow_le_pow_left (by omega) b
          have a3 := Nat.mul_le_mul a1 a2
          have a4 : Y * (8 * (8 * Y) ^ (k - (b + 1))) * (8 * Y) ^ b = (8 * Y) ^ k := by
            rw [show Y * (8 * (8 * Y) ^ (k - (b + 1))) = (8 * Y) * (8 * Y) ^ (k - (b + 1)) by rw [← Nat.mul_assoc, Nat.mul_comm Y 8], ← Nat.pow_succ', ← Nat.pow_add]
            congr 1
            omega
          omega
        · rw [z2, w2, Rat.intCast_mul, Rat.intCast_mul]
          have p1 : ((E ^ k : Int) : Rat) = (E : Rat) * ((E ^ (k - (b + 1)) : Int) : Rat) * ((E ^ b : Int) : Rat) := by
            rw [← Rat.intCast_mul, ← Rat.intCast_mul]
            congr 1
            rw [← Int.pow_succ', ← Int.pow_add]
            congr 1
            omega
          have n1 : ((E ^ b : Int) : Rat) ≠ 0 := intRat_ne (Int.pow_ne_zero hE)
          have n2 : ((E ^ (k - (b + 1)) : Int) : Rat) ≠ 0 := intRat_ne (Int.pow_ne_zero hE)
          rw [p1]
          generalize ((E ^ b : Int) : Rat) = eb at *
          generalize ((E ^ (k - (b + 1)) : Int) : Rat) = ek at *
          generalize (E : Rat) = e at *
          generalize (w : Rat) = w' at *
          generalize ((z (m + 1 - (b + 1)) : Int) : Rat) = z' at *
          grind
      obtain ⟨u, u1, u2⟩ := sg_zint _ t1
      have hp1 : 8 ≤ (8 * Y) ^ k := by
        have : (8 * Y) ^ 1 ≤ (8 * Y) ^ k := Nat.pow_le_pow_right (by omega) (by omega)
        rw [Nat.pow_one] at this
        omega
      have hu : u.natAbs ≤ 7 * (8 * Y) ^ k := Nat.le_trans u1 (Nat.mul_le_mul_right _ (by omega))
      by_cases hkm : k ≤ m + 1
      · rw [if_pos hkm, u2]
        obtain ⟨z1, z2⟩ := hz (m + 1 - k)
        refine ⟨-(u + (k : Int) * z (m + 1 - k) * E ^ (k - 1)), ?_, ?_⟩
        · rw [Int.natAbs_neg]
          have b1 : ((k : Int) * z (m + 1 - k) * E ^ (k - 1)).natAbs ≤ (8 * Y) ^ k := by
            rw [Int.natAbs_mul, Int.natAbs_mul, Int.natAbs_pow, Int.natAbs_natCast]
            have a1 : k * (z (m + 1 - k)).natAbs ≤ 8 * Y := Nat.mul_le_mul (by omega) z1
            have a2 : E.natAbs ^ (k - 1) ≤ (8 * Y) ^ (k - 1) := Nat.pow_le_pow_left (by omega) _
            have a3 := Nat.mul_le_mul a1 a2
            rw [← Nat.pow_succ', show (k - 1).succ = k by omega] at a3
            exact a3
          have := Int.natAbs_add_le u ((k : Int) * z (m + 1 - k) * E ^ (k - 1))
          omega
        · rw [z2, Rat.intCast_neg, Rat.intCast_add, Rat.intCast_mul, Rat.intCast_mul]
          have p1 : ((E ^ k : Int) : Rat) = (E : Rat) * ((E ^ (k - 1) : Int) : Rat) := by
            rw [← Rat.intCast_mul]
            congr 1
            rw [← Int.pow_succ']
            congr 1
            omega
          have n2 : ((E ^ (k - 1) : Int) : Rat) ≠ 0 := intRat_ne (Int.pow_ne_zero hE)
          have e1 : (((k : Nat) : Int) : Rat) = ((k : Nat) : Rat) := rfl
          rw [p1, e1]
          generalize ((E ^ (k - 1) : Int) : Rat) = ek at *
          generalize (E : Rat) = e at *
          generalize (u : Rat) = u' at *
          generalize ((k : Nat) : Rat) = k' at *
          generalize ((z (m + 1 - k) : Int) : Rat) = z' at *
          grind
      · rw [if_neg hkm, u2]
        refine ⟨-u, by rw [Int.natAbs_neg]; omega, ?_⟩
        rw [Rat.intCast_neg]
        grind
theorem cut_part {f : Nat → Rat} {N a b : Nat} (hb : a + b ≤ N) : cutD (((List.range N).map f).map fr) (some (a : Int)) (some ((a + b : Nat) : Int)) = (rowL (fun j => f (a + j)) b).map fr := by
  unfold cutD
  rw [HT.sIx_nat, HT.sIx_nat]
  simp only [List.length_map, List.length_range]
  rw [show min (a + b) N = a + b by omega, show min a N = a by omega, show a + b - a = b by omega]
  refine List.ext_getElem (by simp [rowL]; omega) fun i h1 h2 => ?_
  simp [rowL]
theorem flock_by_roots_spec {S R : List Rat} {m w X : Nat} {E : Int} {s : DL.S} {k xq} (hR1 : R.length = m + 2) (hm : m ≤ 5) (hRt : R.getD (m + 1) 0 = 1) (hE : E ≠ 0) (hcb : Cb E X R) (hE1 : E.natAbs ≤ 2 ^ w) (hX : X ≤ 2 ^ w) (hw : w ≤ 1400) (hS : m + 1 ≤ S.length) (hS1 : S.length ≤ 1000) (hSz : ∀ i, i < m + 1 → Sz 9000 (S.getD i 0))
    (hreg : ∀ y : Nat → Rat, Dg (m + 1) y → (∀ i, i < m + 1 → sg (fun l => y l * rr (fun j => R.getD j 0) m (i + l) m) (m + 1) = 0) → ∀ j, y j = 0)
    (h : ∀ z : Nat → Rat, (∀ i, i < m + 1 → sg (fun j => rr (fun j => R.getD j 0) m (i + j) m * z j) (m + 1) = S.getD i 0) → k (.val (.tup [.lst (R.map fr), .lst ((clean (rowL z (m + 1))).map fr)])) s) : F_flock_by_roots [.lst (S.map fr), .lst (R.map fr)] s k xq := by
  have sb := size_big
  generalize hQ : (fun j => R.getD j 0) = Q at *
  have hQt : Q (m + 1) = 1 := by rw [← hQ]; exact hRt
  have hsm := rr_small (Q := Q) (Y := 2 ^ w) (z := fun j => Classical.choose (hcb j)) hQt (by omega) hE (Nat.pow_pos (by decide)) hE1 fun j => by
    obtain ⟨z1, z2⟩ := Classical.choose_spec (hcb j)
    exact ⟨by omega, by rw [← hQ]; exact z2⟩
  have hPz : ∀ k, k ≤ 11 → Sz (k * (w + 3) + 4) (rr Q m k m) := fun k hk => by
    obtain ⟨u, u1, u2⟩ := hsm k
    rw [u2]
    have e1 : 8 * (8 * 2 ^ w) ^ k = 2 ^ (k * (w + 3) + 3) := by
      rw [show 8 * 2 ^ w = 2 ^ (w + 3) by rw [Nat.pow_add, Nat.mul_comm], ← Nat.pow_mul, Nat.pow_add, Nat.mul_comm 8, Nat.mul_comm (w + 3) k]
    refine sz_div (Int.pow_ne_zero hE) ?_ ?_
    · rw [e1] at u1
      exact Nat.lt_of_le_of_lt u1 (Nat.pow_lt_pow_right (by decide) (by omega))
    · rw [Int.natAbs_pow]
      refine Nat.lt_of_le_of_lt (Nat.pow_le_pow_left hE1 k) ?_
      rw [← Nat.pow_mul]
      exact Nat.pow_lt_pow_right (by decide) (by rw [Nat.mul_add, Nat.mul_comm w k]; omega)
  have hN : Newt R (fun k => rr Q m k m) (2 * (m + 1)) := ⟨by
    show rr Q m 0 m = _
    rw [rr_zero hQt, hR1]
    rfl, fun k hk1 hk2 => by
    show rr Q m k m = _
    rw [newt_rr hQt hk1]
    unfold nsm
    rw [hR1, ← hQ]
    rfl⟩
  have hRc : CfS (w + 1) R := hcb.cf hE (Nat.lt_of_le_of_lt hE1 (Nat.pow_lt_pow_right (by decide) (by omega))) (Nat.lt_of_le_of_lt hX (Nat.pow_lt_pow_right (by decide) (by omega)))
  refine ⟨rfl, ?_⟩
  unfold BF_flock_by_roots
  walk_at "wz"
  simp only [List.length_map, hR1]
  rw [show ((m + 2 : Nat) : Int) - 1 = ((m + 1 : Nat) : Int) by omega]
  refine ⟨mulOk (n := 2) (m := 10) (by decide) (by omega) (by decide), ?_⟩
  rw [show (2 : Int) * ((m + 1 : Nat) : Int) = ((2 * (m + 1) : Nat) : Int) by omega]
  refine root_powers_spec (P := fun k => rr Q m k m) (b := 11 * (w + 3) + 4) hN hRc (fun i hi => (hPz i (by omega)).mono (by have := Nat.mul_le_mul_right (w + 3) (show i ≤ 11 by omega); omega)) (by omega) (by omega) (by omega) (by omega) (by omega) ?_
  walk_at "wz"
  refine ⟨by omega, ?_⟩
  walk_at "wz"
  refine ⟨⟨by omega, by omega⟩, ?_⟩
  rw [Int.toNat_natCast]
  generalize hA : (fun i j => if j < m + 1 then rr Q m (i + j) m else S.getD i 0) = A
  refine forW_rng (fun i env s' => ∃ v5, env = [.val (.lst (S.map fr)), .val (.lst (R.map fr)), .val (.int ((m + 1 : Nat) : Int)), .own (((List.range (2 * (m + 1))).map (fun k => rr Q m k m)).map fr), .own (matD A i (m + 1 + 1)), v5] ∧ s' = s) ?_ ⟨_, rfl, rfl⟩ ?_
  · rintro i hi env s' ⟨v5, rfl, rfl⟩ KN hk
    walk_at "wz"
    rw [show (i : Int) + ((m + 1 : Nat) : Int) = ((i + (m + 1) : Nat) : Int) by omega, cut_part (by omega)]
    refine ⟨_, at_frs (by omega), by omega, by simp [rowL]; omega, by rw [matD_len]; omega, ?_⟩
    refine hk _ _ ⟨.val (.int i), ?_, rfl⟩
    have e : matD A i (m + 1 + 1) ++ [D.lst ((rowL (fun j => rr Q m (i + j) m) (m + 1)).map fr ++ [fr (S.getD i 0)])] = matD A (i + 1) (m + 1 + 1) := by
      unfold matD
      rw [List.range_succ (n := i), List.map_append, List.map_cons, List.map_nil]
      congr 3
      unfold rowL
      rw [List.range_succ (n := m + 1), List.map_append, List.map_append, List.map_cons, List.map_nil, List.map_cons, List.map_nil, ← hA]
      congr 1
      · congr 1
        refine List.map_congr_left fun j hj => ?_
        rw [List.mem_range] at hj
        show _ = if j < m + 1 then rr Q m (i + j) m else S.getD i 0
        rw [if_pos hj]
      · show _ = [fr (if m + 1 < m + 1 then rr Q m (i + (m + 1)) m else S.getD i 0)]
        rw [if_neg (by omega)]
    rw [← e]
  · rintro env s' ⟨v5, rfl, rfl⟩
    walk_at "wz"
    have hgz : gzS 14040 (m + 1) ≤ 60000000 := Nat.le_trans (gzS_le (show m + 1 ≤ 6 by omega)) (by decide)
    refine solved_spec (a := 14040) (by omega) (fun i j hi hj => ?_) hgz (fun v hv hv2 => ?_) fun z hz => ?_
    · rw [← hA]
      dsimp only
      split
      · refine (hPz (i + j) (by omega)).mono ?_
        have := Nat.mul_le_mul_right (w + 3) (show i + j ≤ 10 by omega)
        omega
      · exact (hSz i hi).mono (by omega)
    · have hy := hreg (fun j => if j < m + 1 then v j else 0) (fun j hj => if_neg (by omega)) fun i hi => by
        have := hv2 i hi
        unfold rdot at this
        rw [sg, hv, ← hA] at this
        dsimp only at this
        rw [if_neg (by omega)] at this
        have e : sg (fun l => (if l < m + 1 then v l else 0) * rr Q m (i + l) m) (m + 1) = sg (fun j => (if j < m + 1 then rr Q m (i + j) m else S.getD i 0) * v j) (m + 1) := sg_congr _ fun l hl => by
          rw [if_pos hl, if_pos hl]
          grind
        rw [e]
        grind
      intro j hj
      have := hy j
      rwa [if_pos hj] at this
    · walk_at "wz"
      refine clean_spec ?_
      walk_at "wz"
      refine ⟨by omega, h z fun i hi => ?_⟩
      have := hz i hi
      rw [← hA] at this
      dsimp only at this
      rw [if_neg (by omega)] at this
      rw [← this]
      exact sg_congr _ fun j hj => by rw [if_pos hj]
theorem flock_by_none {S : List Rat} {s : DL.S} {k xq} (hS1 : S.length ≤ 1000) (h : k (.val (.tup [.lst ([(1 : Rat)].map fr), .lst (([] : List Rat).map fr)])) s) : F_flock_by_roots [.lst (S.map fr), .lst ([(1 : Rat)].map fr)] s k xq := by
  have sb := size_big
  refine ⟨rfl, ?_⟩
  unfold BF_flock_by_roots
  walk_at "wz"
  refine ⟨mulOk (n := 2) (m := 10) (by decide) (by decide) (by decide), ?_⟩
  refine ⟨rfl, ?_⟩
  unfold BF_root_powers
  walk_at "wz"
  refine ⟨by omega, by omega, ?_⟩
  walk_at "wz"
  refine ⟨⟨by omega, by omega, by omega, by omega⟩, ?_⟩
  rw [show ((2 : Int) * (((1 : Nat) : Int) - 1) - 1).toNat = 0 from rfl, show intL 1 0 = [] from rfl]
  unfold forW
  walk_at "wz"
  refine ⟨by omega, ?_⟩
  walk_at "wz"
  refine ⟨⟨by omega, by omega⟩, ?_⟩
  rw [show (((1 : Nat) : Int) - 1).toNat = 0 from rfl, show intL 0 0 = [] from rfl]
  unfold forW
  walk_at "wz"
  refine solved_spec (A := fun _ _ => 0) (n := 0) (a := 1) (by omega) (fun i j hi => absurd hi (by omega)) (by decide) (fun v _ _ j hj => absurd hj (by omega)) fun z _ => ?_
  walk_at "wz"
  refine clean_spec (l := []) ?_
  walk_at "wz"
  exact ⟨by omega, h⟩
theorem stM_G {S : List Rat} (h2 : S.length ≤ 11) : ∀ f m, m + f = 6 → (∀ k, k < m → 0 < stH (sF S) k) → 2 * m + 1 ≤ S.length → m + 1 ≤ stM S f m ∧ (∀ k, k + 1 < stM S f m → 0 < stH (sF S) k) ∧ 2 * stM S f m ≤ S.length + 1 ∧ (0 < stH (sF S) (stM S f m - 1) → S.length ≤ 2 * stM S f m)
  | 0, m, hm, _, hl => by omega
  | f + 1, m, hm, hp, hl => by
    unfold stM
    by_cases h : 0 < stH (sF S) m ∧ 2 * (m + 1) < S.length
    · rw [if_pos h]
      obtain ⟨a, b, c, d⟩ := stM_G h2 f (m + 1) (by omega) (fun k hk => by
        by_cases e : k = m
        · rw [e]; exact h.1
        · exact hp k (by omega)) (by omega)
      exact ⟨by omega, b, c, d⟩
    · rw [if_neg h]
      refine ⟨Nat.le_refl _, fun k hk => hp k (by omega), by omega, fun z => ?_⟩
      rw [Nat.add_sub_cancel] at z
      have : ¬ 2 * (m + 1) < S.length := fun w => h ⟨z, w⟩
      omega
theorem stN_G {S : List Rat} {b : Nat} (hB : StB b S) : 1 ≤ stN S ∧ stN S ≤ 6 ∧ (∀ k, k + 1 < stN S → 0 < stH (sF S) k) ∧ 2 * stN S ≤ S.length + 1 ∧ (0 < stH (sF S) (stN S - 1) → S.length ≤ 2 * stN S) := by
  obtain ⟨a, b, c, d⟩ := stM_G hB.l2 6 0 rfl (fun k hk => by omega) hB.l1
  have := hB.l2
  exact ⟨a, by unfold stN; omega, b, c, d⟩
theorem ne_of_pos {q : Rat} (h : 0 < q) : q ≠ 0 := fun z => by rw [z] at h; exact absurd h (by decide)
theorem nz_of {S : List Rat} {n : Nat} (h : ∀ k, k < n → 0 < stH (sF S) k) : NzH S n := fun k hk => ne_of_pos (h k hk)
theorem ipx_orG {s : Nat → Rat} {n : Nat} (hn : n ≤ 10) (hh : ∀ k, k < n → stH s k ≠ 0) : ∀ m k, k < m → m ≤ n → ipx s (stP s n) k = 0
  | 0, k, hk, _ => by omega
  | m + 1, k, hk, hm => by
    by_cases e : k = m
    · subst e
      have ho := orth n hn hh n k (Nat.le_refl _) (by omega)
      have hP := stPQ_deg s k
      unfold bil at ho
      have e12 : 12 = (k + 1) + (11 - k) := by omega
      rw [e12, sg_more _ fun i h1 _ => by rw [hP.1 i (by omega)]; grind, sg, sg_zero k fun i hi => by rw [ipx_orG hn hh k i hi (by omega)]; grind, hP.2.1] at ho
      grind
    · exact ipx_orG hn hh m k (by omega) (by omega)
theorem stH_ipG {s : Nat → Rat} {n : Nat} (hn : n ≤ 10) (hh : ∀ k, k < n → stH s k ≠ 0) : stH s n = ipx s (stP s n) n := by
  have hP := stPQ_deg s n
  unfold stH bil
  have e12 : 12 = (n + 1) + (11 - n) := by omega
  rw [e12, sg_more _ fun i h1 _ => by rw [hP.1 i (by omega)]; grind, sg, sg_zero n fun i hi => by rw [ipx_orG hn hh n i hi (Nat.le_refl _)]; grind, hP.2.1]
  grind
theorem nxP_orth {s : Nat → Rat} {m : Nat} (hm : m ≤ 9) (hh : ∀ k, k < m + 1 → stH s k ≠ 0) (t : Rat) : ∀ i, i < m → ipx s (nxP s m t) i = 0 := fun i hi => by
  unfold nxP
  rw [ipx_lin, ipx_orG (by omega) hh (m + 1) i (by omega) (Nat.le_refl _), ipx_orG (by omega) (fun k hk => hh k (by omega)) m i hi (Nat.le_refl _)]
  grind
theorem nx_regular {S : List Rat} {m : Nat} (hm : m ≤ 5) (hh : ∀ k, k < m + 1 → 0 < stH (sF S) k) (t : Rat) : ∀ y : Nat → Rat, Dg (m + 1) y → (∀ i, i < m + 1 → sg (fun l => y l * rr (fun j => (nxL S m t).getD j 0) m (i + l) m) (m + 1) = 0) → ∀ j, y j = 0 := fun y hy h => by
  have e : (fun j => (nxL S m t).getD j 0) = nxP (sF S) m t := by
    funext j
    exact nxL_getD S m t j
  rw [e] at h
  exact regular (by omega) hh (t - stT (sF S) m) rfl hy (nxP_orth (by omega) (fun k hk => ne_of_pos (hh k hk)) t) h
def opT (S : List Rat) : Rat := if S.length % 2 = 0 then stT (sF S) (stN S - 1) else 0
theorem open_roots_spec {S : List Rat} {b : Nat} {s : DL.S} {k xq} (hB : StB b S) (hz : ∀ i, i < stN S → Sz (600 * b) (stH (sF S) i)) (hp : 0 < stH (sF S) (stN S - 1)) (h : CfS (2500 * b) (nxL S (stN S - 1) (opT S)) → k (.own ((nxL S (stN S - 1) (opT S)).map fr)) s) : F_open_roots [.lst (S.map fr), .lst (soD S (stN S))] s k xq := by
  have sb := size_big
  have h2 := hB.l2
  have hb0 := hB.b0
  have hb1 := hB.b1
  obtain ⟨n1, n2, n3, n4, n5⟩ := stN_G hB
  have hl := n5 hp
  obtain ⟨m, hm⟩ : ∃ m, stN S = m + 1 := ⟨stN S - 1, by omega⟩
  have hh : NzH S (m + 1) := nz_of fun k hk => by
    by_cases e : k = m
    · rw [e]
      rwa [hm, Nat.add_sub_cancel] at hp
    · exact n3 k (by omega)
  unfold opT at h
  rw [hm, Nat.add_sub_cancel] at h
  rw [hm]
  refine ⟨rfl, ?_⟩
  unfold BF_open_roots
  walk_at "wz"
  simp only [List.length_map]
  refine ⟨by decide, ?_⟩
  have hz' : ∀ i, i ≤ m → Sz (600 * b) (stH (sF S) i) := fun i hi => hz i (by omega)
  by_cases hev : S.length % 2 = 0
  · rw [if_pos (by rw [Int.fmod_eq_emod_of_nonneg _ (by decide)]; omega)]
    rw [if_pos hev] at h
    refine turn_ofG hB (by omega) hh (hz' m (Nat.le_refl _)) (by omega) fun ht => ?_
    walk_at "wz"
    refine ⟨⟨trivial, trivial, trivial⟩, ?_⟩
    refine next_stepG hB (by omega) hh hz' ht fun hc => ?_
    walk_at "wz"
    refine ⟨flat_frs _, ?_⟩
    walk_at "wz"
    exact h hc
  · rw [if_neg (by rw [Int.fmod_eq_emod_of_nonneg _ (by decide)]; omega)]
    rw [if_neg hev] at h
    walk_at "wz"
    refine next_stepG (t := 0) hB (by omega) hh hz' (sz_zero.mono (by omega)) fun hc => ?_
    walk_at "wz"
    refine ⟨flat_frs _, ?_⟩
    walk_at "wz"
    exact h hc
def CbS (R : List Rat) : Prop := ∃ (E : Int) (X : Nat), E ≠ 0 ∧ E.natAbs ≤ 2 ^ 1400 ∧ X ≤ 2 ^ 1400 ∧ Cb E X R
structure BkB (S : List Rat) : Prop where
  rt1 : ∀ n, 1 ≤ n → n ≤ 5 → NzH S n → 2 * n ≤ S.length → CbS (stL S n)
  rt0 : ∀ m, m ≤ 5 → NzH S (m + 1) → S.length = 2 * m + 1 → CbS (nxL S m 0)
  sm : ∀ i, i < 6 → Sz 9000 (S.getD i 0)
def FlW (S R W : List Rat) : Prop := (R = [1] ∧ W = []) ∨ ∃ (m : Nat) (z : Nat → Rat), R.length = m + 2 ∧ W = clean (rowL z (m + 1)) ∧ ∀ i, i < m + 1 → sg (fun j => rr (fun j => R.getD j 0) m (i + j) m * z j) (m + 1) = S.getD i 0
theorem stL_zero (S : List Rat) : stL S 0 = [1] := rfl
theorem back_spec {S : List Rat} {b : Nat} {s : DL.S} {k xq} (hB : StB b S) (hK : BkB S)
    (hneg : stH (sF S) (stN S - 1) < 0 → k (.val (.tup [.str "below", .lst ((stL S (stN S - 1)).map fr)])) s)
    (hopen : 0 < stH (sF S) (stN S - 1) → ∀ W, FlW S (nxL S (stN S - 1) (opT S)) W → k (.val (.tup [.str "flock", .tup [.lst ((nxL S (stN S - 1) (opT S)).map fr), .lst (W.map fr)]])) s)
    (hbar : stH (sF S) (stN S - 1) = 0 → ∀ d, nbF S (stL S (stN S - 1)) (S.length - stN S + 1) = some d → k (.val (.tup [.str "nought", .lst ((stL S (stN S - 1)).map fr), .lst ((xpL d).map fr)])) s)
    (htight : stH (sF S) (stN S - 1) = 0 → nbF S (stL S (stN S - 1)) (S.length - stN S + 1) = none → ∀ W, FlW S (stL S (stN S - 1)) W → k (.val (.tup [.str "flock", .tup [.lst ((stL S (stN S - 1)).map fr), .lst (W.map fr)]])) s) : F_back [.lst (S.map fr)] s k xq := by
  have sb := size_big
  have h2 := hB.l2
  have hb0 := hB.b0
  have hb1 := hB.b1
  obtain ⟨n1, n2, n3, n4, n5⟩ := stN_G hB
  obtain ⟨m, hm⟩ : ∃ m, stN S = m + 1 := ⟨stN S - 1, by omega⟩
  have hm1 : stN S - 1 = m := by omega
  have hnz : NzH S m := nz_of fun k hk => n3 k (by omega)
  refine ⟨rfl, ?_⟩
  unfold BF_back
  walk_at "wz"
  refine stepsG hB fun hz => ?_
  walk_at "wz"
  rw [hm1] at hneg hopen hbar htight
  have hlast := soD_last S m
  rw [← hm] at hlast
  refine ⟨_, hlast, ?_⟩
  walk_at "wz"
  refine sign_of_spec ?_
  walk_at "wz"
  by_cases c1 : stH (sF S) m < 0
  · rw [if_pos ((sgn_neg0 _).mpr c1)]
    walk_at "wz"
    exact ⟨by omega, hneg c1⟩
  rw [if_neg fun z => c1 ((sgn_neg0 _).mp z)]
  walk_at "wz"
  refine sign_of_spec ?_
  walk_at "wz"
  by_cases c2 : 0 < stH (sF S) m
  · rw [if_pos ((sgn_pos0 _).mpr c2)]
    walk_at "wz"
    have hp : 0 < stH (sF S) (stN S - 1) := by rw [hm1]; exact c2
    have hhp : ∀ k, k < m + 1 → 0 < stH (sF S) k := fun k hk => by
      by_cases e : k = m
      · rw [e]; exact c2
      · exact n3 k (by omega)
    have hl := n5 hp
    refine open_roots_spec hB hz hp fun _ => ?_
    rw [hm1]
    walk_at "wz"
    have hcb : CbS (nxL S m (opT S)) := by
      unfold opT
      by_cases hev : S.length % 2 = 0
      · rw [if_pos hev, hm1, nxL_turn]
        exact hK.rt1 (m + 1) (by omega) (by omega) (nz_of hhp) (by omega)
      · rw [if_neg hev]
        exact hK.rt0 m (by omega) (nz_of hhp) (by omega)
    obtain ⟨E, X, e1, e2, e3, e4⟩ := hcb
    refine flock_by_roots_spec (nxL_len S m _) (by omega) (by rw [nxL_getD, nxP_top]) e1 e4 e2 e3 (by omega) (by omega) (by omega) (fun i hi => hK.sm i (by omega)) (nx_regular (by omega) hhp _) fun z hz => ?_
    walk_at "wz"
    exact ⟨by omega, hopen c2 _ (.inr ⟨m, z, nxL_len S m _, rfl, hz⟩)⟩
  rw [if_neg fun z => c2 ((sgn_pos0 _).mp z)]
  walk_at "wz"
  have c3 : stH (sF S) m = 0 := by grind
  have hc := hB.st m (by omega) hnz
  refine nought_bar_spec hB hc (by omega) (by rw [stL_len]; omega) (by rw [stL_len]; omega) (fun hn => ?_) fun d hd => ?_
  · rw [stL_len, ← hm] at hn
    walk_at "wz"
    cases m with
    | zero =>
      rw [stL_zero] at htight ⊢
      refine flock_by_none (by omega) ?_
      walk_at "wz"
      exact ⟨by omega, htight c3 hn [] (.inl ⟨rfl, rfl⟩)⟩
    | succ m =>
      obtain ⟨E, X, e1, e2, e3, e4⟩ := hK.rt1 (m + 1) (by omega) (by omega) hnz (by omega)
      have hr := nx_regular (S := S) (m := m) (by omega) (fun k hk => n3 k (by omega)) (stT (sF S) m)
      rw [nxL_turn] at hr
      refine flock_by_roots_spec (stL_len S (m + 1)) (by omega) (stL_top S (m + 1)) e1 e4 e2 e3 (by omega) (by omega) (by omega) (fun i hi => hK.sm i (by omega)) hr fun z hz => ?_
      walk_at "wz"
      exact ⟨by omega, htight c3 hn _ (.inr ⟨m, z, stL_len S (m + 1), rfl, hz⟩)⟩
  · rw [stL_len, ← hm] at hd
    walk_at "wz"
    exact hbar c3 d hd
theorem stH_top {S : List Rat} {z : Nat → Int} {B : Int} {M n : Nat} (hB0 : B ≠ 0) (hs : ∀ k, sF S k = (z k : Rat) / (B : Rat)) (hz : ∀ k, (z k).natAbs ≤ M) (hM : 0 < M) (hn : n ≤ 10) (hh : ∀ k, k < n → stH (sF S) k ≠ 0) : ∃ (a : Nat → Int) (D N : Int), D ≠ 0 ∧ D.natAbs ≤ (2 * ((n + 1) * M)) ^ n ∧ (∀ j, (a j).natAbs ≤ (2 * ((n + 1) * M)) ^ n) ∧ (∀ j, stP (sF S) n j = (a j : Rat) / (D : Rat)) ∧ N.natAbs ≤ (n + 1) * ((2 * ((n + 1) * M)) ^ n * M) ∧ stH (sF S) n = (N : Rat) / ((D * B : Int) : Rat) := by
  obtain ⟨a, D, hD, h1, h2, h3⟩ := stP_small (s := sF S) (n := n) hs hz hM hn hh
  have c1 := intRat_ne hD
  have c2 := intRat_ne hB0
  obtain ⟨N, n1, n2⟩ := sg_zint (f := fun j => stP (sF S) n j * sF S (n + j)) (D := D * B) (X := (2 * ((n + 1) * M)) ^ n * M) (n + 1) fun j _ => by
    refine ⟨a j * z (n + j), by rw [Int.natAbs_mul]; exact Nat.mul_le_mul (h2 j) (hz _), ?_⟩
    rw [h3, hs, Rat.intCast_mul, Rat.intCast_mul]
    grind
  refine ⟨a, D, N, hD, h1, h2, h3, n1, ?_⟩
  rw [stH_ipG hn hh, ← n2]
  unfold ipx
  obtain ⟨r, hr⟩ : ∃ r, 12 = (n + 1) + r := ⟨11 - n, by omega⟩
  rw [hr]
  exact sg_more r fun i h _ => by rw [(stPQ_deg (sF S) n).1 i (by omega)]; grind
theorem nx_alg {d d' n n' b w a x : Rat} (c1 : d ≠ 0) (c2 : d' ≠ 0) (c3 : n' ≠ 0) (c4 : b ≠ 0) : w / d - x * 0 - a / d' * (n / (d * b) / (n' / (d' * b))) = (w * n' - n * a) / (n' * d) := by
  grind
theorem SumsOk.bkB {S : List Rat} (h : SumsOk S) : BkB S := by
  have p1 : 2 ^ 475 ≤ 2 ^ 1400 := Nat.pow_le_pow_right (by decide) (by decide)
  refine ⟨fun n _ hn hh _ => ?_, fun m hm hh _ => ?_, fun i _ => (h.sz i).mono (by decide)⟩
  · obtain ⟨D, X, a1, a2, a3, a4⟩ := stL_cb h hn hh
    exact ⟨D, X, a1, Nat.le_trans (Nat.le_of_lt a2) p1, Nat.le_trans (Nat.le_of_lt a3) p1, a4⟩
  · have g1 : ∀ m j, (shiftP (stL S m) 1).getD j 0 = shF (stP (sF S) m) j := fun m j => congrFun (sh_fn S m) j
    cases m with
    | zero =>
      refine ⟨1, 1, by decide, Nat.one_le_two_pow, Nat.one_le_two_pow, fun j => ?_⟩
      rw [nxL_eq, if_pos rfl, subP_getD, mulC_getD, g1]
      have e0 : shF (stP (sF S) 0) j = if j = 1 then 1 else 0 := by
        unfold shF
        by_cases hj : j = 0
        · rw [if_pos hj, if_neg (by omega)]
        · rw [if_neg hj]
          show (if j - 1 = 0 then (1 : Rat) else 0) = _
          by_cases h1 : j = 1
          · rw [if_pos h1, if_pos (by omega)]
          · rw [if_neg h1, if_neg (by omega)]
      rw [e0]
      refine ⟨if j = 1 then 1 else 0, by split <;> decide, ?_⟩
      have e1 : ((1 : Int) : Rat) = 1 := rfl
      have e2 : ((0 : Int) : Rat) = 0 := rfl
      split
      · rw [e1]; grind
      · rw [e1, e2]; grind
    | succ m =>
      obtain ⟨z, z1, z2⟩ := sums_top h
      have hB : ((6 : Int) ^ 11) ≠ 0 := by decide
      obtain ⟨a, D, N, hD, d1, d2, d3, n1, n2⟩ := stH_top (n := m + 1) hB z2 z1 (by decide) (by omega) fun k hk => hh k (by omega)
      obtain ⟨a', D', N', hD', d1', d2', d3', n1', n2'⟩ := stH_top (n := m) hB z2 z1 (by decide) (by omega) fun k hk => hh k (by omega)
      have hN' : N' ≠ 0 := fun e => hh m (by omega) (by
        rw [n2', e]
        have : ((0 : Int) : Rat) = 0 := rfl
        rw [this]
        grind)
      have b1 : (2 * ((m + 1 + 1) * 2 ^ 90)) ^ (m + 1) ≤ 2 ^ 470 := by
        have e1 : 2 * ((m + 1 + 1) * 2 ^ 90) ≤ 2 ^ 94 := by
          have := Nat.mul_le_mul_right (2 ^ 90) (show m + 1 + 1 ≤ 6 by omega)
          omega
        refine Nat.le_trans (Nat.pow_le_pow_left e1 _) ?_
        rw [← Nat.pow_mul]
        exact Nat.pow_le_pow_right (by decide) (by omega)
      have b2 : (2 * ((m + 1) * 2 ^ 90)) ^ m ≤ 2 ^ 376 := by
        have e1 : 2 * ((m + 1) * 2 ^ 90) ≤ 2 ^ 94 := by
          have := Nat.mul_le_mul_right (2 ^ 90) (show m + 1 ≤ 6 by omega)
          omega
        refine Nat.le_trans (Nat.pow_le_pow_left e1 _) ?_
        rw [← Nat.pow_mul]
        exact Nat.pow_le_pow_right (by decide) (by omega)
      have q1 : D.natAbs ≤ 2 ^ 470 := Nat.le_trans d1 b1
      have q2 : ∀ j, (a j).natAbs ≤ 2 ^ 470 := fun j => Nat.le_trans (d2 j) b1
      have q3 : ∀ j, (a' j).natAbs ≤ 2 ^ 376 := fun j => Nat.le_trans (d2' j) b2
      have q4 : N.natAbs ≤ 2 ^ 564 := by
        refine Nat.le_trans n1 (Nat.le_trans (Nat.mul_le_mul (show m + 1 + 1 ≤ 2 ^ 4 by omega) (Nat.mul_le_mul_right _ b1)) ?_)
        rw [← Nat.pow_add, ← Nat.pow_add]
        exact Nat.pow_le_pow_right (by decide) (by decide)
      have q5 : N'.natAbs ≤ 2 ^ 470 := by
        refine Nat.le_trans n1' (Nat.le_trans (Nat.mul_le_mul (show m + 1 ≤ 2 ^ 4 by omega) (Nat.mul_le_mul_right _ b2)) ?_)
        rw [← Nat.pow_add, ← Nat.pow_add]
        exact Nat.pow_le_pow_right (by decide) (by decide)
      refine ⟨N' * D, 2 ^ 940 + 2 ^ 940, Int.mul_ne_zero hN' hD, ?_, ?_, fun j => ?_⟩
      · rw [Int.natAbs_mul]
        refine Nat.le_trans (Nat.mul_le_mul q5 q1) ?_
        rw [← Nat.pow_add]
        exact Nat.pow_le_pow_right (by decide) (by decide)
      · have e : 2 ^ 940 + 2 ^ 940 = 2 ^ 940 * 2 ^ 1 := by rw [Nat.pow_one, Nat.mul_two]
        rw [e, ← Nat.pow_add]
        exact Nat.pow_le_pow_right (by decide) (by decide)
      · rw [nxL_eq, if_neg (by omega), Nat.add_sub_cancel, subP_getD, subP_getD, mulC_getD, mulC_getD, g1, stL_getD, stL_getD]
        have c1 := intRat_ne hD
        have c2 := intRat_ne hD'
        have c3 := intRat_ne hN'
        have c4 := intRat_ne hB
        have e0 : ((0 : Int) : Rat) = 0 := rfl
        have m1 : ∀ x : Int, x.natAbs ≤ 2 ^ 470 → (x * N').natAbs ≤ 2 ^ 940 := fun x hx => by
          rw [Int.natAbs_mul]
          refine Nat.le_trans (Nat.mul_le_mul hx q5) ?_
          rw [← Nat.pow_add]
          exact Nat.pow_le_pow_right (by decide) (by decide)
        have m2 : (N * a' j).natAbs ≤ 2 ^ 940 := by
          rw [Int.natAbs_mul]
          refine Nat.le_trans (Nat.mul_le_mul q4 (q3 j)) ?_
          rw [← Nat.pow_add]
          exact Nat.pow_le_pow_right (by decide) (by decide)
        have hw : ∃ w : Int, w.natAbs ≤ 2 ^ 470 ∧ shF (stP (sF S) (m + 1)) j = (w : Rat) / (D : Rat) := by
          unfold shF
          by_cases hj : j = 0
          · rw [if_pos hj]
            exact ⟨0, by simp, by rw [e0]; grind⟩
          · rw [if_neg hj, d3]
            exact ⟨a (j - 1), q2 _, rfl⟩
        obtain ⟨w, w1, w2⟩ := hw
        refine ⟨w * N' - N * a' j, Nat.le_trans (Int.natAbs_sub_le _ _) (Nat.add_le_add (m1 w w1) m2), ?_⟩
        rw [w2, n2, n2', d3']
        simp only [Rat.intCast_mul, Rat.intCast_sub]
        exact nx_alg c1 c2 c3 c4
theorem ipx_shN {s Q : Nat → Rat} {n : Nat} (hQ : Dg n Q) (i : Nat) {j : Nat} (hj : n + j ≤ 12) : ipx s (shN j Q) i = ipx s Q (i + j) := by
  unfold ipx
  have e := lw_shN (fun l => s (i + l)) hQ j
  unfold lw at e
  rw [sg_to (n := n + j) (m := 12) (fun l hl => by rw [dg_shN hQ j l hl]; grind) hj, e, sg_to (n := n) (m := 12) (fun l hl => by rw [hQ l hl]; grind) (by omega)]
  exact sg_congr n fun l _ => by rw [show i + (j + l) = i + j + l by omega]
theorem ipx_mulF {s Q B : Nat → Rat} {n : Nat} (hQ : Dg n Q) (i : Nat) : ∀ k, n + k ≤ 13 → ipx s (mulF Q B k) i = sg (fun j => B j * ipx s Q (i + j)) k
  | 0, _ => by
    refine sg_zero _ fun j _ => ?_
    show (0 : Rat) * _ = 0
    grind
  | k + 1, hk => by
    have e : mulF Q B (k + 1) = fun l => mulF Q B k l - (-B k) * shN k Q l := by
      funext l
      show sg (fun i => B i * shN i Q l) k + B k * shN k Q l = _
      unfold mulF
      grind
    rw [e, ipx_lin, ipx_mulF hQ i k (by omega), ipx_shN hQ i (by omega), sg]
    grind
theorem bil_add (s f g k : Nat → Rat) : bil s (fun j => f j + g j) k = bil s f k + bil s g k := by
  have e : (fun j => f j + g j) = fun j => f j - (-1) * g j := by funext j; grind
  rw [e, bil_lin]
  grind
theorem bil_nil (s : Nat → Rat) {f g : Nat → Rat} (h : ∀ j, f j = 0) : bil s f g = 0 := by
  have e : f = fun _ => 0 := funext h
  rw [e, bil_zero]
theorem tight_split {s : Nat → Rat} {N m : Nat} (hm : m ≤ 6) (hN : N ≤ 11) (hQ : ∀ i, i + m < N → ipx s (stP s m) i = 0) {f : Nat → Rat} {p : Nat} (hf : Dg p f) (hp : 2 * p ≤ N + 1) :
    ∃ r, Dg m r ∧ Dg p r ∧ ∀ g p', Dg p' g → p + p' ≤ N + 1 → bil s f g = bil s r g := by
  by_cases hpm : p ≤ m
  · exact ⟨f, hf.mono hpm, hf, fun _ _ _ _ => rfl⟩
  have hPd := stPQ_deg s m
  have main : ∃ (B r : Nat → Rat), Dg (p - m) B ∧ Dg m r ∧ ∀ k, f k = mulF (stP s m) B (p - m) k + r k := by
    cases m with
    | zero =>
      refine ⟨f, fun _ => 0, by rw [Nat.sub_zero]; exact hf, fun _ _ => rfl, fun k => ?_⟩
      rw [Nat.sub_zero]
      unfold mulF
      have e : ∀ i, shN i (stP s 0) k = if k = i then 1 else 0 := fun i => by
        unfold shN
        by_cases h1 : k < i
        · rw [if_pos h1, if_neg (by omega)]
        · rw [if_neg h1]
          by_cases h2 : k = i
          · subst h2
            rw [if_pos rfl, Nat.sub_self, hPd.2.1]
          · rw [if_neg h2, hPd.1 (k - i) (by omega)]
      by_cases hk : k < p
      · have : sg (fun i => f i * shN i (stP s 0) k) p = f k := by
          have e2 : ∀ n, sg (fun i => f i * shN i (stP s 0) k) n = if k < n then f k else 0 := by
            intro n
            induction n with
            | zero => rw [if_neg (by omega)]; rfl
            | succ n ih =>
              rw [sg, ih, e]
              by_cases h1 : k < n
              · rw [if_pos h1, if_neg (show ¬ k = n by omega), if_pos (show k < n + 1 by omega)]; grind
              · rw [if_neg h1]
                by_cases h2 : k = n
                · rw [if_pos h2, if_pos (show k < n + 1 by omega), h2]; grind
                · rw [if_neg h2, if_neg (show ¬ k < n + 1 by omega)]; grind
          rw [e2, if_pos hk]
        rw [this]
        grind
      · rw [hf k (by omega), sg_zero p fun i hi => by rw [e, if_neg (by omega)]; grind]
        grind
    | succ m =>
      have hQd : Dg (m + 2) (stP s (m + 1)) := dg_stP s (m + 1)
      obtain ⟨B, r, hB, hr, h⟩ := pdiv hQd hPd.2.1 (N := 14) (by omega) p f
      have hco : ∀ k, f k = mulF (stP s (m + 1)) B p k + r k := by
        have all : ∀ x, vl f (m + 2 + p + 14) x = vl (fun k => mulF (stP s (m + 1)) B p k + r k) (m + 2 + p + 14) x := fun x => by
          rw [vl_more hf (by omega), h x, vl_add (mulF (stP s (m + 1)) B p), vl_more (dg_mulF hQd) (by omega), vl_mulF hQd, vl_more hr (show m + 1 ≤ 14 by omega), vl_more hr (show m + 1 ≤ m + 2 + p + 14 by omega), vl_more hQd (show m + 2 ≤ 14 by omega)]
          grind
        intro k
        by_cases hk : k < m + 2 + p + 14
        · exact vl_inj all k hk
        · rw [hf k (by omega), dg_mulF hQd k (by omega), hr k (by omega)]
          grind
      have hBs : Dg (p - (m + 1)) B := short_of hQd hPd.2.1 hB fun k hk => by
        have := hco k
        rw [hf k (by omega), hr k (by omega)] at this
        grind
      refine ⟨B, r, hBs, hr, fun k => ?_⟩
      rw [hco k]
      congr 1
      unfold mulF
      exact sg_to (fun i hi => by rw [hBs i hi]; grind) (by omega)
  obtain ⟨B, r, hB, hr, hfk⟩ := main
  refine ⟨r, hr, hr.mono (by omega), fun g p' hg hpp => ?_⟩
  have e : f = fun k => mulF (stP s m) B (p - m) k + r k := funext hfk
  rw [e, bil_add]
  have z : bil s (mulF (stP s m) B (p - m)) g = 0 := by
    unfold bil
    refine sg_zero _ fun i hi => ?_
    by_cases hip : i < p'
    · rw [ipx_mulF (dg_stP s m) i (p - m) (by omega), sg_zero _ fun j hj => by rw [hQ (i + j) (by omega)]; grind]
      grind
    · rw [hg i (by omega)]
      grind
  rw [z]
  grind
theorem psd_tight {s : Nat → Rat} {N m : Nat} (hm : m ≤ 6) (hN : N ≤ 11) (hh : ∀ k, k < m → 0 < stH s k) (hQ : ∀ i, i + m < N → ipx s (stP s m) i = 0) {f : Nat → Rat} {p : Nat} (hf : Dg p f) (hp : 2 * p ≤ N + 1) :
    0 ≤ bil s f f ∧ (bil s f f = 0 → ∀ g p', Dg p' g → p + p' ≤ N + 1 → bil s f g = 0) := by
  obtain ⟨r, hr, hrp, h⟩ := tight_split hm hN hQ hf hp
  have e : bil s f f = bil s r r := by
    rw [h f p hf (by omega), bil_comm, h r p hrp (by omega)]
  obtain ⟨h1, h2⟩ := bil_pos m (by omega) hh r hr
  refine ⟨by rw [e]; exact h1, fun z g p' hg hpp => ?_⟩
  rw [e] at z
  rw [h g p' hg hpp]
  exact bil_nil s (h2 z)
theorem psd_open {s : Nat → Rat} {n : Nat} (hn : n ≤ 6) (hh : ∀ k, k < n → 0 < stH s k) {f : Nat → Rat} (hf : Dg n f) : 0 ≤ bil s f f ∧ (bil s f f = 0 → ∀ g, bil s f g = 0) := by
  obtain ⟨h1, h2⟩ := bil_pos n (by omega) hh f hf
  exact ⟨h1, fun z g => bil_nil s (h2 z)⟩
theorem bil_first {s t : Nat → Rat} {f g : Nat → Rat} {p q N : Nat} (hf : Dg p f) (hg : Dg q g) (hpq : p + q ≤ N + 1) (h : ∀ k, k < N → s k = t k) : bil s f g = bil t f g := by
  unfold bil
  refine sg_congr _ fun i hi => ?_
  by_cases hiq : i < q
  · congr 1
    unfold ipx
    refine sg_congr _ fun j hj => ?_
    by_cases hjp : j < p
    · rw [h (i + j) (by omega)]
    · rw [hf j (by omega)]; grind
  · rw [hg i (by omega)]; grind
def FlkB (S : List Rat) : Prop := 0 < stH (sF S) (stN S - 1) ∨ (stH (sF S) (stN S - 1) = 0 ∧ nbF S (stL S (stN S - 1)) (S.length - stN S + 1) = none)
theorem dg_list (f : List Rat) : Dg f.length (fun j => f.getD j 0) := fun j hj => getD_big hj
theorem flk_psd {S : List Rat} {b : Nat} (hB : StB b S) (hF : FlkB S) {f : List Rat} (hf : 2 * f.length ≤ S.length + 1) : 0 ≤ bil (sF S) (fun j => f.getD j 0) (fun j => f.getD j 0) ∧
    (bil (sF S) (fun j => f.getD j 0) (fun j => f.getD j 0) = 0 → ∀ g : List Rat, f.length + g.length ≤ S.length + 1 → bil (sF S) (fun j => f.getD j 0) (fun j => g.getD j 0) = 0) := by
  obtain ⟨n1, n2, n3, n4, n5⟩ := stN_G hB
  obtain ⟨m, hm⟩ : ∃ m, stN S = m + 1 := ⟨stN S - 1, by omega⟩
  have hm1 : stN S - 1 = m := by omega
  have h2 := hB.l2
  rcases hF with h | ⟨h, hn⟩
  · have hl := n5 h
    rw [hm1] at h
    obtain ⟨a, c⟩ := psd_open (s := sF S) (n := stN S) n2 (fun k hk => by
      by_cases e : k = m
      · rw [e]; exact h
      · exact n3 k (by omega)) ((dg_list f).mono (by omega))
    exact ⟨a, fun z g _ => c z _⟩
  · rw [hm1, hm] at hn
    rw [hm1] at h
    have hQ : ∀ i, i + m < S.length → ipx (sF S) (stP (sF S) m) i = 0 := fun i hi => by
      have := nbF_none _ hn i (by omega)
      rwa [stL_fn] at this
    obtain ⟨a, c⟩ := psd_tight (s := sF S) (N := S.length) (m := m) (by omega) h2 (fun k hk => n3 k (by omega)) hQ (dg_list f) hf
    exact ⟨a, fun z g hg => c z _ g.length (dg_list g) hg⟩
theorem okSt (x : String) (h : PyData.strOk (Str.ofString x) = true) : EqOk (.str (Str.ofString x)) := Nice.eqOk (n := 0) h (by decide)
theorem eqvSt (x y : Str) : (D.str x).eqv (.str y) = decide (x = y) := by
  show PyData.eqv (.str x) (.str y) = _
  by_cases h : x = y
  · subst h; simp [PyData.eqv]
  · simp [PyData.eqv, h]
theorem need_flock_spec {S : List Rat} {b : Nat} {s : DL.S} {k} {xq : Str → DL.S → Prop} (hB : StB b S) (hK : BkB S) (h1 : FlkB S → k (.val .non) s) (h2 : ¬ FlkB S → xq "NoSums" s) : F_need_flock [.lst (S.map fr)] s k xq := by
  have okF : EqOk (.str "flock") := okSt "flock" (by decide +kernel)
  refine ⟨rfl, ?_⟩
  unfold BF_need_flock
  walk_at "wz"
  refine back_spec hB hK (fun h => ?_) (fun h W _ => ?_) (fun h d hd => ?_) (fun h hn W _ => ?_)
  · walk_at "wz"
    refine ⟨⟨okSt "below" (by decide +kernel), okF⟩, ?_⟩
    rw [eqvSt, if_pos (by decide +kernel)]
    walk_at "wz"
    refine h2 fun hF => ?_
    rcases hF with hF | ⟨hF, _⟩ <;> grind
  · walk_at "wz"
    refine ⟨⟨okF, okF⟩, ?_⟩
    rw [eqvSt, if_neg (by decide +kernel)]
    walk_at "wz"
    exact h1 (.inl h)
  · walk_at "wz"
    refine ⟨⟨okSt "nought" (by decide +kernel), okF⟩, ?_⟩
    rw [eqvSt, if_pos (by decide +kernel)]
    walk_at "wz"
    refine h2 fun hF => ?_
    rcases hF with hF | ⟨_, hF⟩
    · rw [h] at hF; exact absurd hF (by decide)
    · rw [hF] at hd; cases hd
  · walk_at "wz"
    refine ⟨⟨okF, okF⟩, ?_⟩
    rw [eqvSt, if_neg (by decide +kernel)]
    walk_at "wz"
    exact h1 (.inr ⟨h, hn⟩)
theorem tight_step_spec {S : List Rat} {b : Nat} {s : DL.S} {k xq} (hB : StB b S) (h1 : stH (sF S) (stN S - 1) = 0 → k (.val (.lst ((stL S (stN S - 1)).map fr))) s) (h2 : stH (sF S) (stN S - 1) ≠ 0 → k (.val .non) s) : F_tight_step [.lst (S.map fr)] s k xq := by
  obtain ⟨n1, n2, n3, n4, n5⟩ := stN_G hB
  obtain ⟨m, hm⟩ : ∃ m, stN S = m + 1 := ⟨stN S - 1, by omega⟩
  have hm1 : stN S - 1 = m := by omega
  rw [hm1] at h1 h2
  refine ⟨rfl, ?_⟩
  unfold BF_tight_step
  walk_at "wz"
  refine stepsG hB fun hz => ?_
  walk_at "wz"
  have hlast := soD_last S m
  rw [← hm] at hlast
  refine ⟨_, hlast, ?_⟩
  walk_at "wz"
  refine ⟨⟨(nice_fr _).eqOk (by decide), (nice_fr 0).eqOk (by decide)⟩, ?_⟩
  have e3 : (D.tup [.int (stH (sF S) m).num, .int (stH (sF S) m).den]).eqv (.tup [.int 0, .int 1]) = decide (stH (sF S) m = 0) := eqv_fr _ 0
  rw [e3]
  by_cases z : stH (sF S) m = 0
  · rw [if_pos (decide_eq_true z)]
    walk_at "wz"
    exact h1 z
  · rw [if_neg (by rw [decide_eq_false z]; decide)]
    walk_at "wz"
    exact h2 z
theorem evP_vl (x : Rat) : ∀ (l : List Rat) (N : Nat), l.length ≤ N → evP l x = vl (fun j => l.getD j 0) N x
  | [], N, _ => (vl_zero (fun i _ => rfl) x).symm
  | a :: l, N, h => by
    obtain ⟨N, rfl⟩ : ∃ M, N = M + 1 := ⟨N - 1, by rw [List.length_cons] at h; omega⟩
    rw [List.length_cons] at h
    rw [vl_head]
    show evP l x * x + a = a + x * vl (fun j => l.getD j 0) N x
    rw [← evP_vl x l N (by omega)]
    grind
theorem evP_add2 (f g : List Rat) (x : Rat) : evP (addP f g) x = evP f x + evP g x := by
  have hl := addP_len f g
  rw [evP_vl x (addP f g) (f.length + g.length) (by omega), evP_vl x f (f.length + g.length) (by omega), evP_vl x g (f.length + g.length) (by omega), ← vl_add]
  exact vl_congr (fun i _ => addP_getD f g i) x
theorem evP_mulC2 (f : List Rat) (c x : Rat) : evP (mulC f c) x = evP f x * c := by
  have hl := mulC_len f c
  rw [evP_vl x (mulC f c) f.length (by omega), evP_vl x f f.length (Nat.le_refl _)]
  have e : vl (fun j => (mulC f c).getD j 0) f.length x = vl (fun j => c * f.getD j 0) f.length x := vl_congr (fun i _ => by rw [mulC_getD]; grind) x
  rw [e, vl_smul]
  grind
theorem stH_600 {S : List Rat} (h : SumsOk S) {m : Nat} (hm : m ≤ 5) (hh : NzH S m) : Sz 600 (stH (sF S) m) := by
  obtain ⟨z, z1, z2⟩ := sums_top h
  have hB : ((6 : Int) ^ 11) ≠ 0 := by decide
  obtain ⟨a, D, N, hD, d1, d2, d3, n1, n2⟩ := stH_top (n := m) hB z2 z1 (by decide) (by omega) hh
  have b1 : (2 * ((m + 1) * 2 ^ 90)) ^ m ≤ 2 ^ 470 := by
    have e1 : 2 * ((m + 1) * 2 ^ 90) ≤ 2 ^ 94 := by
      have := Nat.mul_le_mul_right (2 ^ 90) (show m + 1 ≤ 6 by omega)
      omega
    refine Nat.le_trans (Nat.pow_le_pow_left e1 _) ?_
    rw [← Nat.pow_mul]
    exact Nat.pow_le_pow_right (by decide) (by omega)
  have q4 : N.natAbs ≤ 2 ^ 564 := by
    refine Nat.le_trans n1 (Nat.le_trans (Nat.mul_le_mul (show m + 1 ≤ 2 ^ 4 by omega) (Nat.mul_le_mul_right _ b1)) ?_)
    rw [← Nat.pow_add, ← Nat.pow_add]
    exact Nat.pow_le_pow_right (by decide) (by decide)
  rw [n2]
  refine sz_div (Int.mul_ne_zero hD hB) (Nat.lt_of_le_of_lt q4 (Nat.pow_lt_pow_right (by decide) (by decide))) ?_
  refine Nat.lt_of_lt_of_le (natAbs_mul_lt (n := 471) (m := 30) (Nat.lt_of_le_of_lt (Nat.le_trans d1 b1) (Nat.pow_lt_pow_right (by decide) (by decide))) (by decide)) (Nat.pow_le_pow_right (by decide) (by decide))
def lsL (S : List Rat) (t : Rat) : Nat → List Rat
  | 0 => []
  | i + 1 => addP (lsL S t i) (mulC (stL S i) (evP (stL S i) t / stH (sF S) i))
def lsK (S : List Rat) (t : Rat) (i : Nat) : Rat := sg (fun k => evP (stL S k) t * evP (stL S k) t / stH (sF S) k) i
theorem lsL_getD (S : List Rat) (t : Rat) (j : Nat) : ∀ i, (lsL S t i).getD j 0 = sg (fun k => stP (sF S) k j * (evP (stL S k) t / stH (sF S) k)) i
  | 0 => rfl
  | i + 1 => by rw [lsL, addP_getD, lsL_getD S t j i, mulC_getD, stL_getD]; rfl
theorem lsL_len (S : List Rat) (t : Rat) : ∀ i, (lsL S t i).length ≤ i
  | 0 => Nat.le_refl _
  | i + 1 => by
    have h1 := lsL_len S t i
    have h2 := addP_len (lsL S t i) (mulC (stL S i) (evP (stL S i) t / stH (sF S) i))
    have h3 := mulC_len (stL S i) (evP (stL S i) t / stH (sF S) i)
    have h4 := stL_len S i
    rw [lsL]
    omega
theorem lsL_ev (S : List Rat) (t : Rat) : ∀ i, evP (lsL S t i) t = lsK S t i
  | 0 => rfl
  | i + 1 => by
    rw [lsL, evP_add2, evP_mulC2, lsL_ev S t i]
    show _ = lsK S t i + evP (stL S i) t * evP (stL S i) t / stH (sF S) i
    grind
theorem lsK_pos {S : List Rat} {t : Rat} {n : Nat} (hn : 1 ≤ n) (hp : ∀ k, k < n → 0 < stH (sF S) k) : 0 < lsK S t n := by
  have nn : ∀ k, k < n → 0 ≤ evP (stL S k) t * evP (stL S k) t / stH (sF S) k := fun k hk => by
    have h1 : 0 ≤ evP (stL S k) t * evP (stL S k) t := by
      rcases Rat.le_total (a := 0) (b := evP (stL S k) t) with h | h
      · exact Rat.mul_nonneg h h
      · have := Rat.mul_nonneg (show 0 ≤ -evP (stL S k) t by grind) (show 0 ≤ -evP (stL S k) t by grind)
        grind
    rw [Rat.div_def]
    exact Rat.mul_nonneg h1 (by have := Rat.inv_pos.mpr (hp k hk); grind)
  have h0 := hp 0 (by omega)
  have hge := sg_nn n nn
  rcases Rat.le_total (a := lsK S t n) (b := 0) with h | h
  · exfalso
    have z : lsK S t n = 0 := by unfold lsK at h ⊢; grind
    have := sg_nn0 n nn z 0 (by omega)
    have e : evP (stL S 0) t = 1 := by
      rw [stL_zero]
      simp only [evP]
      grind
    rw [e, Rat.div_def] at this
    have := Rat.inv_pos.mpr h0
    grind
  · by_cases z : lsK S t n = 0
    · exfalso
      have := sg_nn0 n nn z 0 (by omega)
      have e : evP (stL S 0) t = 1 := by
        rw [stL_zero]
        simp only [evP]
        grind
      rw [e, Rat.div_def] at this
      have := Rat.inv_pos.mpr h0
      grind
    · grind
theorem stL_at_sz {S : List Rat} (hS : SumsOk S) {t : Rat} (ht : Sz 8 t) {i : Nat} (hi : i ≤ 5) (hh : NzH S i) : Sz 2905 (evP (stL S i) t) := by
  have c := stL_cf hS hi hh
  have := sz_ev (l := stL S i) (cfS_mem c) ht
  refine this.mono ?_
  rw [stL_len]
  have := Nat.mul_le_mul_right (475 + 8 + 1) (show i + 1 ≤ 6 by omega)
  omega
theorem lsL_sz {S : List Rat} (hS : SumsOk S) {t : Rat} (ht : Sz 8 t) {n : Nat} (hn : n ≤ 6) (hp : ∀ k, k < n → 0 < stH (sF S) k) : CfS 23887 (lsL S t n) := fun j => by
  rw [lsL_getD]
  have := sg_sz (f := fun k => stP (sF S) k j * (evP (stL S k) t / stH (sF S) k)) (b := 3980) n fun k hk => by
    have hh : NzH S k := nz_of fun i hi => hp i (by omega)
    have c := stL_cf hS (n := k) (by omega) hh j
    rw [stL_getD] at c
    exact (sz_mul c (sz_quot (stL_at_sz hS ht (by omega) hh) (stH_600 hS (by omega) hh) (ne_of_pos (hp k hk)))).mono (by decide)
  refine this.mono ?_
  have := Nat.mul_le_mul_right (3980 + 1) hn
  omega
theorem lsK_sz {S : List Rat} (hS : SumsOk S) {t : Rat} (ht : Sz 8 t) {n : Nat} (hn : n ≤ 6) (hp : ∀ k, k < n → 0 < stH (sF S) k) : Sz 38467 (lsK S t n) := by
  have := sg_sz (f := fun k => evP (stL S k) t * evP (stL S k) t / stH (sF S) k) (b := 6410) n fun k hk => by
    have hh : NzH S k := nz_of fun i hi => hp i (by omega)
    have v := stL_at_sz hS ht (i := k) (by omega) hh
    exact (sz_quot (sz_mul v v) (stH_600 hS (by omega) hh) (ne_of_pos (hp k hk))).mono (by decide)
  refine this.mono ?_
  have := Nat.mul_le_mul_right (6410 + 1) hn
  omega
theorem cut_lastL (l : List DL.D) : cutD l none (some (-1)) = l.dropLast := by
  unfold cutD
  rw [List.dropLast_eq_take]
  have e : HT.sIx l.length l.length (some (-1)) - HT.sIx l.length 0 none = l.length - 1 := by
    simp [HT.sIx]
    omega
  have e2 : HT.sIx l.length 0 none = 0 := rfl
  rw [e, e2, List.drop_zero]
theorem least_go {S : List Rat} (hS : SumsOk S) {t : Rat} (ht : Sz 8 t) {n : Nat} (hn1 : 1 ≤ n) (hn : n ≤ 6) (hp : ∀ k, k < n → 0 < stH (sF S) k) {s : DL.S} {xq : Str → DL.S → Prop} {K : Fl → Prop} {o : Bool} {v2 v4 : Sl}
    (hK : K (.rt (.val (.tup [fr (1 / lsK S t n), .lst ((mulC (lsL S t n) (1 / lsK S t n)).map fr)])) s)) :
  ((wSeq (wFor (wIt (wV 3)) (wTupT 2 (wGCons (wName 6) (wGCons (wName 7) wGNil)))
  (wAsg (wCall F_summed xq (wCons (wV 5) (wCons (wCall F_grown xq (wCons (wV 6) (wCons (wCall F_over xq (wCons (wCall F_number_at xq (wCons (wV 6) (wCons (wV 1) wNil))) (wCons (wV 7) wNil))) wNil))) wNil))) (wName 5)))
  (wSeq (wAsg (wCall F_over xq (wCons (wC (.tup [.int 1, .int 1])) (wCons (wCall F_number_at xq (wCons (wV 5) (wCons (wV 1) wNil))) wNil))) (wName 8))
  (wRet (wTup (wCons (wV 8) (wCons (wCall F_grown xq (wCons (wV 5) (wCons (wV 8) wNil))) wNil))))))) [.val (.lst (S.map fr)), .val (fr t), v2, ownIf o (soD S n), v4, .own [], .no, .no, .no] s K := by
  have sb := size_big
  cases o <;> simp only [ownIf] <;> walk_at "wz"
  all_goals
    rw [show soD S n = (List.range n).map fun n => .tup [.lst ((stL S n).map fr), fr (stH (sF S) n)] from rfl]
    refine forW_inv (α := Nat) (l := List.range n) (f := fun n => .tup [.lst ((stL S n).map fr), fr (stH (sF S) n)]) (fun i env s' => ∃ v3 v6 v7, env = [.val (.lst (S.map fr)), .val (fr t), v2, v3, v4, .own ((lsL S t i).map fr), v6, v7, .no] ∧ s' = s) ?_ ⟨_, _, _, rfl, rfl⟩ ?_
    · rintro i hi env s' ⟨v3, v6, v7, rfl, rfl⟩ KN hk
      rw [List.length_range] at hi
      rw [List.getElem_range]
      have hh : NzH S i := nz_of fun k hk => hp k (by omega)
      have c := stL_cf hS (n := i) (by omega) hh
      have l1 := stL_len S i
      have v := stL_at_sz hS ht (i := i) (by omega) hh
      have h6 := stH_600 hS (m := i) (by omega) hh
      have hl := lsL_len S t i
      have hz := lsL_sz hS ht (n := i) (by omega) fun k hk => hp k (by omega)
      have hmz : CfS 3980 (mulC (stL S i) (evP (stL S i) t / stH (sF S) i)) := cfS_mulCG c (sz_quot v h6 (ne_of_pos (hp i hi)))
      have hml := mulC_len (stL S i) (evP (stL S i) t / stH (sF S) i)
      walk_at "wz"
      refine number_at_spec (cfS_mem c) ht (by rw [l1]; have := Nat.mul_le_mul_right (475 + 8 + 1) (show i + 1 ≤ 6 by omega); omega) ?_
      walk_at "wz"
      refine over_spec v h6 (by decide) (ne_of_pos (hp i hi)) ?_
      walk_at "wz"
      refine grown_spec c (sz_quot v h6 (ne_of_pos (hp i hi))) (by decide) (by omega) ?_
      walk_at "wz"
      refine summed_spec hz hmz (by decide) (by omega) (by omega) ?_
      walk_at "wz"
      exact hk _ _ ⟨_, _, _, rfl, rfl⟩
    · rintro env s' ⟨v3, v6, v7, rfl, rfl⟩
      rw [List.length_range]
      have hl := lsL_len S t n
      have hz := lsL_sz hS ht hn hp
      have hk0 := lsK_pos (t := t) hn1 hp
      have hkz := lsK_sz hS ht hn hp
      walk_at "wz"
      refine number_at_spec (cfS_mem hz) ht (by have := Nat.mul_le_mul_right (23887 + 8 + 1) (show (lsL S t n).length ≤ 6 by omega); omega) ?_
      rw [lsL_ev]
      walk_at "wz"
      refine over_spec (p := 1) (n := 1) sz_one hkz (by decide) (ne_of_pos hk0) ?_
      walk_at "wz"
      refine grown_spec hz (sz_quot sz_one hkz (ne_of_pos hk0)) (by decide) (by omega) ?_
      walk_at "wz"
      exact ⟨by omega, hK⟩
theorem least_square_spec {S : List Rat} {t : Rat} (hS : SumsOk S) (ht : Sz 8 t) {s : DL.S} {k} {xq : Str → DL.S → Prop} (h0 : ¬ FlkB S → xq "NoSums" s)
    (hA : FlkB S → stH (sF S) (stN S - 1) = 0 → evP (stL S (stN S - 1)) t ≠ 0 → k (.val (.tup [fr 0, .lst ((mulC (stL S (stN S - 1)) (1 / evP (stL S (stN S - 1)) t)).map fr)])) s)
    (hBc : FlkB S → ∀ n, 1 ≤ n → (n = stN S ∧ 0 < stH (sF S) (stN S - 1) ∨ n + 1 = stN S ∧ stH (sF S) n = 0 ∧ evP (stL S n) t = 0) → k (.val (.tup [fr (1 / lsK S t n), .lst ((mulC (lsL S t n) (1 / lsK S t n)).map fr)])) s) : F_least_square [.lst (S.map fr), fr t] s k xq := by
  have sb := size_big
  have hB := SumsOk.stB hS
  have hK := SumsOk.bkB hS
  obtain ⟨n1, n2, n3, n4, n5⟩ := stN_G hB
  have hl2 := hB.l2
  obtain ⟨m, hm⟩ : ∃ m, stN S = m + 1 := ⟨stN S - 1, by omega⟩
  have hm1 : stN S - 1 = m := by omega
  have hnz : NzH S m := nz_of fun k hk => n3 k (by omega)
  refine ⟨rfl, ?_⟩
  unfold BF_least_square
  walk_at "wz"
  refine need_flock_spec hB hK (fun hF => ?_) h0
  walk_at "wz"
  have hend : ∀ n, 1 ≤ n → (n = stN S ∧ 0 < stH (sF S) (stN S - 1) ∨ n + 1 = stN S ∧ stH (sF S) n = 0 ∧ evP (stL S n) t = 0) → ∀ k, k < n → 0 < stH (sF S) k := fun n _ hn k hk => by
    rcases hn with ⟨e, h⟩ | ⟨e, _, _⟩
    · by_cases e2 : k + 1 < stN S
      · exact n3 k e2
      · have : k = stN S - 1 := by omega
        rw [this]
        exact h
    · exact n3 k (by omega)
  refine tight_step_spec hB (fun hz => ?_) fun hz => ?_
  · rw [hm1] at hz hA ⊢
    walk_at "wz"
    refine stepsG hB fun _ => ?_
    walk_at "wz"
    have c := stL_cf hS (n := m) (by omega) hnz
    have l1 := stL_len S m
    have v := stL_at_sz hS ht (i := m) (by omega) hnz
    refine number_at_spec (cfS_mem c) ht (by rw [l1]; have := Nat.mul_le_mul_right (475 + 8 + 1) (show m + 1 ≤ 6 by omega); omega) ?_
    walk_at "wz"
    refine ⟨⟨(nice_fr _).eqOk (by decide), (nice_fr 0).eqOk (by decide)⟩, ?_⟩
    have e3 : (D.tup [.int (evP (stL S m) t).num, .int (evP (stL S m) t).den]).eqv (.tup [.int 0, .int 1]) = decide (evP (stL S m) t = 0) := eqv_fr _ 0
    rw [e3]
    by_cases z : evP (stL S m) t = 0
    · rw [if_neg (by rw [decide_eq_true z]; decide)]
      walk_at "wz"
      have hmp : 1 ≤ m := by
        rcases Nat.eq_zero_or_pos m with w | w
        · exfalso
          subst w
          rw [stL_zero] at z
          simp only [evP] at z
          grind
        · exact w
      have hor : m = stN S ∧ 0 < stH (sF S) (stN S - 1) ∨ m + 1 = stN S ∧ stH (sF S) m = 0 ∧ evP (stL S m) t = 0 := .inr ⟨by omega, hz, z⟩
      rw [cut_lastL, hm, soD_succ, List.dropLast_concat]
      refine ⟨by decide, ?_⟩
      exact least_go hS ht hmp (by omega) (hend m hmp hor) (o := true) (K := kBody k) (hBc hF m hmp hor)
    · rw [if_pos (decide_eq_false z)]
      walk_at "wz"
      refine over_spec (p := 1) (n := 1) sz_one v (by decide) z ?_
      walk_at "wz"
      refine grown_spec c (sz_quot sz_one v z) (by decide) (by omega) ?_
      walk_at "wz"
      exact ⟨by omega, hA hF hz z⟩
  · walk_at "wz"
    refine stepsG hB fun _ => ?_
    walk_at "wz"
    rw [if_neg (by decide)]
    walk_at "wz"
    have hor : stN S = stN S ∧ 0 < stH (sF S) (stN S - 1) ∨ stN S + 1 = stN S ∧ stH (sF S) (stN S) = 0 ∧ evP (stL S (stN S)) t = 0 := .inl ⟨rfl, by
      rcases hF with h | ⟨h, _⟩
      · exact h
      · exact absurd h hz⟩
    refine ⟨by decide, ?_⟩
    exact least_go hS ht n1 n2 (hend (stN S) n1 hor) (o := true) (K := kBody k) (hBc hF (stN S) n1 hor)
theorem nil_bilL (s : Nat → Rat) (g : Nat → Rat) : bil s (fun j => ([] : List Rat).getD j 0) g = 0 := bil_nil s fun j => rfl
theorem bil_smulL {s : Nat → Rat} {f : List Rat} {c : Rat} {g : Nat → Rat} : bil s (fun j => (mulC f c).getD j 0) g = c * bil s (fun j => f.getD j 0) g := by
  have e : (fun j => (mulC f c).getD j 0) = fun j => (fun _ => (0 : Rat)) j - (-c) * f.getD j 0 := by
    funext j
    rw [mulC_getD]
    grind
  rw [e]
  show bil s (fun j => (fun _ => (0 : Rat)) j - (-c) * f.getD j 0) g = _
  rw [bil_lin (f := fun _ => (0 : Rat)), bil_zero]
  grind
theorem lsL_bil {S : List Rat} {t : Rat} {n : Nat} (hn : n ≤ 6) (hp : ∀ k, k < n → 0 < stH (sF S) k) : ∀ i, i ≤ n → (∀ k, i ≤ k → k < n → bil (sF S) (fun j => (lsL S t i).getD j 0) (stP (sF S) k) = 0) ∧ bil (sF S) (fun j => (lsL S t i).getD j 0) (fun j => (lsL S t i).getD j 0) = lsK S t i
  | 0, _ => ⟨fun k _ _ => nil_bilL _ _, nil_bilL _ _⟩
  | i + 1, hi => by
    obtain ⟨h1, h2⟩ := lsL_bil hn hp i (by omega)
    have hnz : ∀ k, k < n → stH (sF S) k ≠ 0 := fun k hk => ne_of_pos (hp k hk)
    have e : (fun j => (lsL S t (i + 1)).getD j 0) = fun j => (fun j => (lsL S t i).getD j 0) j - (-(evP (stL S i) t / stH (sF S) i)) * stP (sF S) i j := by
      funext j
      rw [lsL, addP_getD, mulC_getD, stL_getD]
      grind
    have hb : ∀ g, bil (sF S) (fun j => (lsL S t (i + 1)).getD j 0) g = bil (sF S) (fun j => (lsL S t i).getD j 0) g + evP (stL S i) t / stH (sF S) i * bil (sF S) (stP (sF S) i) g := fun g => by
      rw [e, bil_lin]
      grind
    refine ⟨fun k hk hkn => ?_, ?_⟩
    · rw [hb, h1 k (by omega) hkn, bil_comm, orth (n - 1) (by omega) (fun j hj => hnz j (by omega)) k i (by omega) (by omega)]
      grind
    · rw [hb, bil_comm (sF S) (fun j => (lsL S t i).getD j 0) (fun j => (lsL S t (i + 1)).getD j 0), hb, h2, bil_comm (sF S) (stP (sF S) i) (fun j => (lsL S t (i + 1)).getD j 0), hb, h1 i (Nat.le_refl _) (by omega), bil_comm (sF S) (stP (sF S) i) (fun j => (lsL S t i).getD j 0), h1 i (Nat.le_refl _) (by omega)]
      have e2 : bil (sF S) (stP (sF S) i) (stP (sF S) i) = stH (sF S) i := rfl
      rw [e2]
      show _ = lsK S t i + evP (stL S i) t * evP (stL S i) t / stH (sF S) i
      have := hnz i (by omega)
      grind
structure LsOk (S : List Rat) (t q : Rat) (f : List Rat) : Prop where
  c : Clean f
  l : 2 * f.length ≤ S.length + 1
  e : evP f t = 1
  b : bil (sF S) (fun j => f.getD j 0) (fun j => f.getD j 0) = q
  zf : CfS 62400 f
  zq : Sz 38500 q
theorem ls_okA {S : List Rat} {t : Rat} (hS : SumsOk S) (ht : Sz 8 t) (hz : stH (sF S) (stN S - 1) = 0) (hv : evP (stL S (stN S - 1)) t ≠ 0) : LsOk S t 0 (mulC (stL S (stN S - 1)) (1 / evP (stL S (stN S - 1)) t)) := by
  obtain ⟨n1, n2, n3, n4, n5⟩ := stN_G (SumsOk.stB hS)
  have hnz : NzH S (stN S - 1) := nz_of fun k hk => n3 k (by omega)
  have c := stL_cf hS (n := stN S - 1) (by omega) hnz
  have v := stL_at_sz hS ht (i := stN S - 1) (by omega) hnz
  have l1 := stL_len S (stN S - 1)
  have l2 := mulC_len (stL S (stN S - 1)) (1 / evP (stL S (stN S - 1)) t)
  refine ⟨mulC_clean _ _, by omega, ?_, ?_, cfS_mono (cfS_mulCG c (sz_quot sz_one v hv)) (by decide), sz_zero.mono (by decide)⟩
  · rw [evP_mulC2]
    grind
  · rw [bil_smulL, bil_comm, bil_smulL, stL_fn]
    have e2 : bil (sF S) (stP (sF S) (stN S - 1)) (stP (sF S) (stN S - 1)) = stH (sF S) (stN S - 1) := rfl
    rw [e2, hz]
    grind
theorem ls_okB {S : List Rat} {t : Rat} (hS : SumsOk S) (ht : Sz 8 t) {n : Nat} (hn1 : 1 ≤ n) (hn : n ≤ stN S) (hp : ∀ k, k < n → 0 < stH (sF S) k) : LsOk S t (1 / lsK S t n) (mulC (lsL S t n) (1 / lsK S t n)) := by
  obtain ⟨n1, n2, n3, n4, n5⟩ := stN_G (SumsOk.stB hS)
  have hk := ne_of_pos (lsK_pos (t := t) hn1 hp)
  have hkz := lsK_sz hS ht (n := n) (by omega) hp
  have hz := lsL_sz hS ht (n := n) (by omega) hp
  have l1 := lsL_len S t n
  have l2 := mulC_len (lsL S t n) (1 / lsK S t n)
  refine ⟨mulC_clean _ _, by omega, ?_, ?_, cfS_mono (cfS_mulCG hz (sz_quot sz_one hkz hk)) (by decide), (sz_quot sz_one hkz hk).mono (by decide)⟩
  · rw [evP_mulC2, lsL_ev]
    grind
  · rw [bil_smulL, bil_comm, bil_smulL, (lsL_bil (by omega) hp n (Nat.le_refl _)).2]
    grind
theorem _law_divisor_go (ft : FT) (fb : FS) (K : Fl → Prop) (s : S) (g : Nat) (hK : ∀ a : Int, a.natAbs = g → K (.nx [.val (.int a), .val (.int 0)] s))
    (hft : ft = wB (wOpv gNe 1 (wP (wC (.int 0))))) (hfb : fb = wPar 0 1 (wCons (wV 1) (wCons (wOpv gMod 0 (wPV 1)) wNil))) :
    ∀ (n : Nat) (a b : Int), b.natAbs < n → Int.gcd a b = g → whileW ft fb K n [.val (.int a), .val (.int b)] s := by
  subst hft hfb
  intro n
  induction n with
  | zero => intro a b h; omega
  | succ n ih =>
    intro a b h hg
    unfold whileW
    walk_at "wp"
    by_cases hb : b = 0
    · rw [if_neg (by simp [hb])]
      subst hb
      exact hK a (by simpa using hg)
    · rw [if_pos hb]
      have h1 := fmod_lt (a := a) hb
      exact ⟨hb, ih b (a.fmod b) (by omega) (by rw [gcd_fmod]; exact hg)⟩
theorem _law_divisor_spec {a b : Int} {s : S} {k xq} (h : k (.val (.int (Int.gcd a b))) s) : F__law_divisor [.int a, .int b] s k xq := by
  refine ⟨rfl, ?_⟩
  unfold BF__law_divisor
  walk_at "wp"
  refine ⟨b.natAbs + 1, _law_divisor_go _ _ _ s (Int.gcd a b) (fun c hc => ?_) rfl rfl _ a b (Nat.lt_succ_self _) rfl⟩
  walk_at "wp"
  have e : (if c < 0 then -c else c) = (Int.gcd a b : Int) := by
    rw [← hc]
    split <;> omega
  rw [e]
  exact h
theorem _law_low_spec {t b : Int} {s : S} {k xq} (hb : b ≠ 0) {n : Nat} (hz : b.natAbs < 2 ^ n) (hn : n ≤ 60000000) (h : k (.val (fr ((t : Rat) / (b : Rat)))) s) : F__law_low [.int t, .int b] s k xq := by
  refine ⟨rfl, ?_⟩
  unfold BF__law_low
  walk_at "wp"
  refine _law_divisor_spec ?_
  walk_at "wp"
  rw [fr_ratio hb] at h
  have h1 := gcd_ok (t := t) hb hz hn
  by_cases hlt : b < 0
  · rw [if_pos hlt, if_pos hlt] at h
    rw [if_pos hlt]
    exact ⟨(h1 t).2, (h1 b).2, by show 2 ≤ sizeLine; decide, h⟩
  · rw [if_neg hlt, if_neg hlt] at h
    rw [if_neg hlt]
    exact ⟨(h1 t).1, (h1 b).1, by show 2 ≤ sizeLine; decide, h⟩
theorem _law_over_spec {p q : Rat} {s : S} {k xq n m} (hp : Sz n p) (hq : Sz m q) (hz : n + m ≤ 60000000) (h0 : q ≠ 0) (h : k (.val (fr (p / q))) s) : F__law_over [fr p, fr q] s k xq := by
  refine ⟨rfl, ?_⟩
  unfold BF__law_over
  walk_at "wp"
  have hp0 := p.den_nz
  have hq0 := num_ne h0
  have dp : ((p.den : Int)).natAbs < 2 ^ n := by simpa using hp.2
  have dq : ((q.den : Int)).natAbs < 2 ^ m := by simpa using hq.2
  refine ⟨mulOk hp.1 dq (by omega), mulOk dp hq.1 (by omega), _law_low_spec (Int.mul_ne_zero (by omega) hq0) (natAbs_mul_lt dp hq.1) hz ?_⟩
  rw [rat_div _ _ h0]
  exact h
theorem _law_plus_spec {p q : Rat} {s : S} {k xq n m} (hp : Sz n p) (hq : Sz m q) (hz : n + m ≤ 60000000) (h : k (.val (fr (p + q))) s) : F__law_plus [fr p, fr q] s k xq := by
  refine ⟨rfl, ?_⟩
  unfold BF__law_plus
  walk_at "wp"
  have hp0 := p.den_nz
  have hq0 := q.den_nz
  have dp : ((p.den : Int)).natAbs < 2 ^ n := by simpa using hp.2
  have dq : ((q.den : Int)).natAbs < 2 ^ m := by simpa using hq.2
  refine ⟨mulOk hp.1 dq (by omega), mulOk hq.1 dp (by omega), mulOk dp dq (by omega), _law_low_spec (Int.mul_ne_zero (by omega) (by omega)) (natAbs_mul_lt dp dq) hz ?_⟩
  rw [rat_add]
  exact h
theorem _law_times_spec {p q : Rat} {s : S} {k xq n m} (hp : Sz n p) (hq : Sz m q) (hz : n + m ≤ 60000000) (h : k (.val (fr (p * q))) s) : F__law_times [fr p, fr q] s k xq := by
  refine ⟨rfl, ?_⟩
  unfold BF__law_times
  walk_at "wp"
  have hp0 := p.den_nz
  have hq0 := q.den_nz
  have dp : ((p.den : Int)).natAbs < 2 ^ n := by simpa using hp.2
  have dq : ((q.den : Int)).natAbs < 2 ^ m := by simpa using hq.2
  refine ⟨mulOk hp.1 hq.1 (by omega), mulOk dp dq (by omega), _law_low_spec (Int.mul_ne_zero (by omega) (by omega)) (natAbs_mul_lt dp dq) hz ?_⟩
  rw [rat_mul]
  exact h
theorem _law_worth_spec {f S : List Rat} {n m : Nat} {s : DL.S} {k xq} (hl : f.length ≤ S.length) (hf : CfS n f) (hS : CfS m S) (hz : (f.length + 1) * (n + m + 1) ≤ 60000000) (hS1 : S.length < 1000000) (h : k (.val (fr (dotQ f S))) s) : F__law_worth [.lst (S.map fr), .lst (f.map fr)] s k xq := by
  have sb := size_big
  refine ⟨rfl, ?_⟩
  unfold BF__law_worth
  walk_at "wq"
  refine ⟨by show 2 ≤ sizeLine; decide, ⟨by rw [List.length_map]; omega, by rw [List.length_map]; omega⟩, ?_⟩
  have hd := dot_sz hf hS
  generalize hP : (List.range f.length).map (fun i => f.getD i 0 * S.getD i 0) = P at hd
  have hPl : P.length = f.length := by rw [← hP]; simp
  have hPi : ∀ i (h : i < P.length), P[i] = f.getD i 0 * S.getD i 0 := fun i h => by subst hP; simp
  have hq : dotQ f S = sumQ P := by rw [← hP]; rfl
  rw [List.length_map, Int.toNat_natCast]
  refine forW_rng (fun i env s' => ∃ v, env = [.val (.lst (S.map fr)), .val (.lst (f.map fr)), .val (fr (sumQ (P.take i))), v] ∧ s' = s ∧ Sz (1 + i * (n + m + 1)) (sumQ (P.take i))) ?_ ⟨.no, rfl, rfl, by simpa [sumQ] using sz_zero⟩ ?_
  · rintro i hi env s' ⟨v, rfl, rfl, hs⟩ KN hk
    have hi' : i < P.length := by omega
    walk_at "wq"
    refine ⟨_, at_frs hi, _, at_frs (by omega), ?_⟩
    have h2 : (i + 1) * (n + m + 1) ≤ f.length * (n + m + 1) := Nat.mul_le_mul_right _ (by omega)
    rw [Nat.add_mul] at h2 hz
    refine _law_times_spec (hf i) (hS i) (by omega) ?_
    walk_at "wq"
    have h1 := sz_mul (hf i) (hS i)
    refine _law_plus_spec hs h1 (by omega) ?_
    walk_at "wq"
    refine hk _ _ ⟨.val (.int (i : Nat)), ?_, rfl, ?_⟩
    · rw [sumQ_take hi', hPi]
      rfl
    · rw [sumQ_take hi', hPi]
      exact (sz_add hs h1).mono (by rw [Nat.add_mul]; omega)
  · rintro env s' ⟨v, rfl, rfl, hs⟩
    walk_at "wq"
    rw [← hPl, List.take_length, ← hq]
    exact h
theorem _law_clean_go (ft : FT) (fb : FS) (K : Fl → Prop) (l : List Rat) (v : Sl) (hv : v = .val (.lst (l.map fr)) ∨ v = .own (l.map fr)) (s : S) (hft : ft = wAnd (wB (wOpv gGt 1 (wP (wC (.int 0))))) (wB (wOp gEq (wOp gIx (wIxv 0 (wP (wOpv gMin 1 (wP (wC (.int 1)))))) (wP (wC (.int 0)))) (wP (wC (.int 0))))))
    (hfb : fb = wAsg (wOpv gMin 1 (wP (wC (.int 1)))) (wName 1))
    (hK : ∀ m : Nat, m ≤ l.length → clean l = l.take m → K (.nx [v, .val (.int m)] s)) : ∀ m : Nat, m ≤ l.length → (∀ i, m ≤ i → l.getD i 0 = 0) → whileW ft fb K (m + 1) [v, .val (.int m)] s := by
  subst hft hfb
  intro m
  induction m with
  | zero =>
    intro hm hz
    have := hK 0 hm (clean_take hm hz (.inl rfl))
    rcases hv with rfl | rfl <;> (unfold whileW; walk_at "wp"; simpa using this)
  | succ m ih =>
    intro hm hz
    have hm' : m < l.length := hm
    have e1 : ((m + 1 : Nat) : Int) - 1 = (m : Int) := by omega
    have e2 : atI (l.map fr) (m : Int) = some (fr l[m]) := by
      rw [atI_nat' (by simpa using hm'), List.getElem?_map, List.getElem?_eq_getElem hm']
      rfl
    have hg : l.getD m 0 = l[m] := by simp [hm']
    by_cases h0 : l[m] = 0
    · have ih' := ih (by omega) (fun i hi => by
        rcases Nat.lt_or_eq_of_le hi with h | h
        · exact hz i h
        · subst h
          rw [hg]
          exact h0)
      rcases hv with rfl | rfl <;>
      · unfold whileW
        walk_at "wp"
        rw [if_pos (by omega)]
        refine ⟨fr l[m], by rw [e1]; exact e2, ?_⟩
        walk_at "wp"
        rw [h0, if_pos (by rfl), e1]
        exact ih'
    · have hK' := hK (m + 1) hm (clean_take hm hz (.inr (by simpa [hm'] using h0)))
      rcases hv with rfl | rfl <;>
      · unfold whileW
        walk_at "wp"
        rw [if_pos (by omega)]
        refine ⟨fr l[m], by rw [e1]; exact e2, ?_⟩
        walk_at "wp"
        rw [if_neg (num_ne h0)]
        exact hK'
theorem _law_clean_spec {l : List Rat} {s : S} {k xq} (h : k (.own ((clean l).map fr)) s) : F__law_clean [.lst (l.map fr)] s k xq := by
  refine ⟨rfl, ?_⟩
  unfold BF__law_clean
  walk_at "wp"
  refine ⟨l.length + 1, ?_⟩
  rw [List.length_map]
  refine _law_clean_go _ _ _ l _ (.inl rfl) s rfl rfl (fun m hm hc => ?_) l.length (Nat.le_refl _) (fun i hi => by simp [hi])
  walk_at "wp"
  have e : cutD (l.map fr) none (some (m : Int)) = (clean l).map fr := by
    rw [hc]
    unfold cutD
    simp [HT.sIx, hm]
    rw [if_neg (by omega)]
    omega
  rw [e]
  exact h
def rowT (f g : List Rat) : Nat → Nat → Rat
  | 0, _ => 0
  | i + 1, k => rowT f g i k + (if i ≤ k ∧ k - i < g.length then f.getD i 0 * g.getD (k - i) 0 else 0)
def rowW (f g : List Rat) (i j k : Nat) : Rat := rowT f g i k + (if i ≤ k ∧ k - i < j then f.getD i 0 * g.getD (k - i) 0 else 0)
theorem rowT_nil (f : List Rat) : ∀ i k, rowT f [] i k = 0
  | 0, k => rfl
  | i + 1, k => by
    rw [rowT, rowT_nil f i k, if_neg (by simp)]
    grind
theorem rowT_cons (f g : List Rat) (c : Rat) : ∀ i k, rowT f (c :: g) i k = (if k < i then f.getD k 0 * c else 0) + (if k = 0 then 0 else rowT f g i (k - 1))
  | 0, k => by
    simp only [rowT]
    rw [if_neg (by omega)]
    split <;> grind
  | i + 1, k => by
    rw [rowT, rowT_cons f g c i k, rowT]
    rcases Nat.lt_trichotomy k i with h | h | h
    · rw [if_pos h, if_neg (show ¬ (i ≤ k ∧ _) by omega), if_pos (show k < i + 1 by omega), if_neg (show ¬ (i ≤ k - 1 ∧ _) by omega)]
      split <;> grind
    · subst h
      rw [if_neg (show ¬ k < k by omega), if_pos (show k ≤ k ∧ k - k < (c :: g).length from ⟨Nat.le_refl _, by simp⟩), if_pos (show k < k + 1 by omega)]
      rw [Nat.sub_self]
      have e : (c :: g).getD 0 0 = c := rfl
      rw [e]
      by_cases hk : k = 0
      · simp only [if_pos hk]
        grind
      · simp only [if_neg hk]
        rw [if_neg (show ¬ (k ≤ k - 1 ∧ _) by omega)]
        grind
    · have hk : k ≠ 0 := by omega
      have e1 : k - i = (k - 1 - i) + 1 := by omega
      rw [if_neg (show ¬ k < i by omega), if_neg hk, if_neg (show ¬ k < i + 1 by omega), if_neg hk]
      have e2 : (i ≤ k ∧ k - i < (c :: g).length) = (i ≤ k - 1 ∧ k - 1 - i < g.length) := by
        rw [List.length_cons, eq_iff_iff]
        omega
      have e3 : (c :: g).getD (k - i) 0 = g.getD (k - 1 - i) 0 := by rw [e1]; simp
      simp only [e2, e3]
      grind
theorem cvl_succ (f : List Rat) : ∀ (g : List Rat) (j k : Nat), cvl f k (j + 1) g = if k = 0 then 0 else cvl f (k - 1) j g
  | [], j, k => by simp [cvl]
  | c :: g, j, k => by
    rw [cvl, cvl_succ f g (j + 1) k]
    by_cases hk : k = 0
    · rw [if_pos hk, if_pos hk, if_pos (by omega)]
      grind
    · rw [if_neg hk, if_neg hk, cvl]
      have e : k - (j + 1) = k - 1 - j := by omega
      have e2 : (k < j + 1) = (k - 1 < j) := by rw [eq_iff_iff]; omega
      simp only [e, e2]
theorem rowT_cvl (f : List Rat) : ∀ (g : List Rat) (k : Nat), rowT f g f.length k = cvl f k 0 g
  | [], k => by rw [rowT_nil]; rfl
  | c :: g, k => by
    rw [rowT_cons, cvl, cvl_succ, Nat.sub_zero, if_neg (show ¬ k < 0 by omega)]
    by_cases hk : k = 0
    · subst hk
      simp only [if_true]
      by_cases hf : 0 < f.length
      · rw [if_pos hf]
      · rw [if_neg hf, getD_big (l := f) (by omega), Rat.zero_mul]
    · rw [if_neg hk, if_neg hk, rowT_cvl f g (k - 1)]
      by_cases hf : k < f.length
      · rw [if_pos hf]
      · rw [if_neg hf, getD_big (l := f) (by omega), Rat.zero_mul]
theorem cvl_big {f : List Rat} : ∀ {g : List Rat} {j k : Nat}, f.length + g.length + j ≤ k → cvl f k j g = 0
  | [], j, k, _ => rfl
  | c :: g, j, k, h => by
    rw [List.length_cons] at h
    rw [cvl, cvl_big (by omega), if_neg (by omega), getD_big (l := f) (by omega)]
    grind
theorem rowT_sz {f g : List Rat} {n m : Nat} (hf : CfS n f) (hg : CfS m g) : ∀ i k, Sz (1 + i * (n + m + 1)) (rowT f g i k)
  | 0, k => sz_zero.mono (by omega)
  | i + 1, k => by
    have h := rowT_sz hf hg i k
    rw [rowT]
    have e : 1 + (i + 1) * (n + m + 1) = 1 + i * (n + m + 1) + (n + m) + 1 := by rw [Nat.add_mul]; omega
    rw [e]
    split
    · exact sz_add h (sz_mul (hf _) (hg _))
    · exact sz_add h (sz_zero.mono (by have := cfS_pos hf; omega))
def lstT (N : Nat) (T : Nat → Rat) : List Rat := (List.range N).map T
theorem lstT_set {N k : Nat} {T T' : Nat → Rat} (h : ∀ i, i < N → i ≠ k → T' i = T i) (hk : k < N) : ((lstT N T).map fr).set k (fr (T' k)) = (lstT N T').map fr := by
  rw [← List.map_set]
  congr 1
  refine List.ext_getElem (by simp [lstT]) fun i h1 h2 => ?_
  rw [List.getElem_set]
  have hi : i < N := by simpa [lstT] using h2
  simp only [lstT, List.getElem_map, List.getElem_range]
  by_cases hik : k = i
  · rw [if_pos hik, hik]
  · rw [if_neg hik, h i hi (fun e => hik e.symm)]
theorem _law_multiplied_spec {f g : List Rat} {n m : Nat} {s : S} {k xq} (hf : CfS n f) (hg : CfS m g) (hz : 2 + (f.length + g.length + 1) * (n + m + 1) ≤ 60000000) (hl : f.length < 100000) (hl' : g.length < 100000) (h : k (.own ((mulP f g).map fr)) s) : F__law_multiplied [.lst (f.map fr), .lst (g.map fr)] s k xq := by
  refine ⟨rfl, ?_⟩
  unfold BF__law_multiplied
  have sb := size_big
  walk_at "wq"
  simp only [List.length_map]
  have e0 : (List.replicate ((f.length : Int) + (g.length : Nat)).toNat [D.tup [.int 0, .int 1]]).flatten = (lstT (f.length + g.length) (rowT f g 0)).map fr := by
    have e1 : ((f.length : Int) + (g.length : Nat)).toNat = f.length + g.length := by omega
    have e2 : lstT (f.length + g.length) (rowT f g 0) = List.replicate (f.length + g.length) 0 := by
      refine List.ext_getElem (by simp [lstT]) fun i h1 h2 => ?_
      simp [lstT, rowT]
    rw [e1, e2, List.map_replicate]
    simp
    exact .inr rfl
  rw [e0]
  refine ⟨by show 2 ≤ sizeLine; decide, by show 1 ≤ sizeLine; decide, ⟨by omega, by omega, by omega⟩, ⟨by omega, by omega⟩, ?_⟩
  refine forW_rng (fun i env s' => ∃ v3 v4, env = [.val (.lst (f.map fr)), .val (.lst (g.map fr)), .own ((lstT (f.length + g.length) (rowT f g i)).map fr), v3, v4] ∧ s' = s) ?_ ⟨.no, .no, rfl, rfl⟩ ?_
  · rintro i hi env s' ⟨v3, v4, rfl, rfl⟩ KN hk
    have hi' : i < f.length := by simpa using hi
    walk_at "wq"
    simp only [List.length_map]
    refine ⟨⟨by omega, by omega⟩, ?_⟩
    have ew : rowW f g i 0 = rowT f g i := by
      funext k
      unfold rowW
      rw [if_neg (by omega)]
      grind
    have ee : rowW f g i g.length = rowT f g (i + 1) := by
      funext k
      unfold rowW
      rw [rowT]
    refine forW_rng (fun j env s'' => ∃ v4, env = [.val (.lst (f.map fr)), .val (.lst (g.map fr)), .own ((lstT (f.length + g.length) (rowW f g i j)).map fr), .val (.int (i : Nat)), v4] ∧ s'' = s') ?_ ⟨v4, by rw [ew], rfl⟩ ?_
    · rintro j hj env s'' ⟨v4, rfl, rfl⟩ KN2 hk2
      have hj' : j < g.length := by simpa using hj
      have e3 : (i : Int) + (j : Nat) = ((i + j : Nat) : Int) := by omega
      have hL : (lstT (f.length + g.length) (rowW f g i j)).length = f.length + g.length := by simp [lstT]
      have hG : (lstT (f.length + g.length) (rowW f g i j)).getD (i + j) 0 = rowT f g i (i + j) := by
        unfold lstT
        rw [getD_range, if_pos (by omega)]
        unfold rowW
        rw [if_neg (by omega)]
        grind
      walk_at "wq"
      rw [e3]
      refine ⟨_, at_frs (by rw [hL]; omega), _, at_frs hi', _, at_frs hj', ?_⟩
      rw [hG]
      have hzz : (i + 1) * (n + m + 1) ≤ (f.length + g.length + 1) * (n + m + 1) := Nat.mul_le_mul_right _ (by omega)
      rw [Nat.add_mul] at hzz
      refine _law_times_spec (hf i) (hg j) (by omega) ?_
      walk_at "wq"
      refine _law_plus_spec (rowT_sz hf hg i (i + j)) (sz_mul (hf i) (hg j)) (by omega) ?_
      walk_at "wq"
      refine ⟨i + j, ?_, hk2 _ _ ⟨.val (.int (j : Nat)), ?_, rfl⟩⟩
      · unfold ixN
        rw [if_pos (by omega), if_pos (by rw [List.length_map, hL]; omega)]
        exact congrArg some (by omega)
      · have e4 : rowT f g i (i + j) + f.getD i 0 * g.getD j 0 = rowW f g i (j + 1) (i + j) := by
          unfold rowW
          rw [if_pos (by omega)]
          have : i + j - i = j := by omega
          rw [this]
        have e5 := lstT_set (N := f.length + g.length) (k := i + j) (T := rowW f g i j) (T' := rowW f g i (j + 1)) (fun q hq hne => by
          unfold rowW
          by_cases hc : i ≤ q ∧ q - i < j
          · rw [if_pos hc, if_pos (by omega)]
          · rw [if_neg hc, if_neg (by omega)]) (by omega)
        rw [← e5, ← e4]
        rfl
    · rintro env s'' ⟨v4, rfl, rfl⟩
      have e6 : ((g.length : Nat) : Int).toNat = g.length := by omega
      rw [e6, ee]
      exact hk _ _ ⟨_, _, rfl, rfl⟩
  · rintro env s' ⟨v3, v4, rfl, rfl⟩
    have e6 : ((f.length : Nat) : Int).toNat = f.length := by omega
    rw [e6]
    walk_at "wq"
    refine _law_clean_spec ?_
    walk_at "wq"
    have e7 : clean (lstT (f.length + g.length) (rowT f g f.length)) = mulP f g := by
      refine clean_ext (clean_clean _) (mulP_clean f g) fun q => ?_
      rw [clean_getD, mulP_getD]
      unfold lstT
      rw [getD_range]
      split
      · exact rowT_cvl f g q
      · rw [cvl_big (by omega)]
    rw [e7]
    exact h
theorem _law_square_spec {f g S : List Rat} {n m l o : Nat} {s : DL.S} {k} {xq : Str → DL.S → Prop} (hf : CfS n f) (hg : CfS m g) (hz : 2 + (f.length + g.length + 1) * (n + m + 1) ≤ 60000000) (hl1 : f.length < 100000) (hl2 : g.length < 100000) (hl : (mulP f g).length ≤ S.length)
    (hm : CfS l (mulP f g)) (hS : CfS o S) (hz2 : ((mulP f g).length + 1) * (l + o + 1) ≤ 60000000) (hS1 : S.length < 1000000) (h : k (.val (fr (dotQ (mulP f g) S))) s) : F__law_square [.lst (S.map fr), .lst (f.map fr), .lst (g.map fr)] s k xq := by
  refine ⟨rfl, ?_⟩
  unfold BF__law_square
  walk_at "wq"
  refine _law_multiplied_spec hf hg hz hl1 hl2 ?_
  walk_at "wq"
  exact _law_worth_spec hl hm hS hz2 hS1 h
def addCP (f g : List Rat) (c : Rat) : List Rat := clean ((List.range (max f.length g.length)).map fun i => f.getD i 0 + g.getD i 0 * c)
theorem addCP_getD (f g : List Rat) (c : Rat) (i : Nat) : (addCP f g c).getD i 0 = f.getD i 0 + g.getD i 0 * c := by
  unfold addCP
  rw [clean_getD, getD_range]
  split
  · rfl
  · rename_i h
    rw [getD_big (show f.length ≤ i by omega), getD_big (show g.length ≤ i by omega)]
    grind
def padP (f g : List Rat) (c : Rat) (j : Nat) : List Rat := (List.range (max f.length g.length)).map fun i => if i < j then f.getD i 0 + g.getD i 0 * c else f.getD i 0
theorem max_if0 (a : Int) : (if a > 0 then a else 0) = ((a.toNat : Nat) : Int) := by split <;> omega
theorem _law_summed_spec {f g : List Rat} {c : Rat} {n m l : Nat} {s : S} {k xq} (hf : CfS n f) (hg : CfS m g) (hc : Sz l c) (hz : n + m + l ≤ 60000000) (hl : f.length < 1000000) (hl' : g.length < 1000000) (h : k (.own ((addCP f g c).map fr)) s) : F__law_summed [.lst (f.map fr), .lst (g.map fr), fr c] s k xq := by
  refine ⟨rfl, ?_⟩
  unfold BF__law_summed
  have sb := size_big
  walk_at "wq"
  simp only [List.length_map, max_if0]
  have e1 : ((g.length : Int) - (f.length : Nat)).toNat = g.length - f.length := by omega
  rw [e1]
  have e2 : List.map fr f ++ (List.replicate (((g.length - f.length : Nat) : Int)).toNat [D.tup [.int 0, .int 1]]).flatten = (padP f g c 0).map fr := by
    have : (List.replicate (((g.length - f.length : Nat) : Int)).toNat [D.tup [.int 0, .int 1]]).flatten = (List.replicate (g.length - f.length) (0 : Rat)).map fr := by
      rw [List.map_replicate]
      simp
      exact .inr rfl
    rw [this, ← List.map_append]
    congr 1
    refine List.ext_getElem (by simp [padP]; omega) fun i h1 h2 => ?_
    by_cases hi : i < f.length
    · simp [padP, List.getElem_append, hi]
    · simp [padP, List.getElem_append, hi]
  have e3 : (List.replicate (((g.length - f.length : Nat) : Int)).toNat [D.tup [.int 0, .int 1]]).flatten.length = g.length - f.length := by simp
  rw [e2, e3]
  refine ⟨by show 2 ≤ sizeLine; decide, by show 1 ≤ sizeLine; decide, ⟨by omega, by omega, by simp; omega⟩, by omega, ⟨by omega, by omega⟩, ?_⟩
  refine forW_rng (fun j env s' => ∃ v4, env = [.val (.lst (f.map fr)), .val (.lst (g.map fr)), .val (fr c), .own ((padP f g c j).map fr), v4] ∧ s' = s) ?_ ⟨.no, rfl, rfl⟩ ?_
  · rintro j hj env s' ⟨v4, rfl, rfl⟩ KN hk
    have hj' : j < g.length := by simpa using hj
    have hpl : ∀ j, (padP f g c j).length = max f.length g.length := fun j => by simp [padP]
    have hg0 : (padP f g c j).getD j 0 = f.getD j 0 := by
      unfold padP
      rw [getD_range, if_pos (by omega), if_neg (by omega)]
    walk_at "wq"
    refine ⟨_, at_frs (by rw [hpl]; omega), _, at_frs hj', ?_⟩
    rw [hg0]
    refine _law_times_spec (hg j) hc (by omega) ?_
    walk_at "wq"
    refine _law_plus_spec (hf j) (sz_mul (hg j) hc) (by omega) ?_
    walk_at "wq"
    refine ⟨j, ?_, hk _ _ ⟨.val (.int (j : Nat)), ?_, rfl⟩⟩
    · unfold ixN
      rw [if_pos (by omega), if_pos (by rw [List.length_map, hpl]; omega)]
      simp
    · have e4 : ((padP f g c j).map fr).set j (fr (f.getD j 0 + g.getD j 0 * c)) = (padP f g c (j + 1)).map fr := by
        rw [← List.map_set]
        congr 1
        refine List.ext_getElem (by simp [padP]) fun i h1 h2 => ?_
        rw [List.getElem_set]
        have hi : i < max f.length g.length := by simpa [padP] using h2
        by_cases hij : j = i
        · subst hij
          simp [padP]
        · rw [if_neg hij]
          simp only [padP, List.getElem_map, List.getElem_range]
          by_cases h3 : i < j
          · rw [if_pos h3, if_pos (by omega)]
          · rw [if_neg h3, if_neg (by omega)]
      exact congrArg (fun z => [Sl.val (.lst (f.map fr)), .val (.lst (g.map fr)), .val (fr c), .own z, .val (.int (j : Nat))]) e4
  · rintro env s' ⟨v4, rfl, rfl⟩
    walk_at "wq"
    refine _law_clean_spec ?_
    walk_at "wq"
    have e5 : clean (padP f g c g.length) = addCP f g c := by
      refine clean_ext (clean_clean _) (clean_clean _) fun i => ?_
      rw [clean_getD, addCP_getD]
      unfold padP
      rw [getD_range]
      by_cases h1 : i < max f.length g.length
      · rw [if_pos h1]
        by_cases h2 : i < g.length
        · rw [if_pos h2]
        · rw [if_neg h2, getD_big (l := g) (by omega)]
          grind
      · rw [if_neg h1, getD_big (l := f) (by omega), getD_big (l := g) (by omega)]
        grind
    rw [Int.toNat_natCast, e5]
    exact h
def alF (s : Nat → Rat) (m i : Nat) : Nat → Rat := fun j => (if j = m then 1 else 0) - sg (fun k => bil s (fun j => if j = m then 1 else 0) (stP s k) / stH s k * stP s k j) i
theorem alF_succ (s : Nat → Rat) (m i : Nat) : alF s m (i + 1) = fun j => alF s m i j - bil s (fun j => if j = m then 1 else 0) (stP s i) / stH s i * stP s i j := by
  funext j
  unfold alF
  rw [sg]
  grind
theorem alF_bil {s : Nat → Rat} {m : Nat} (hm : m ≤ 9) (hh : ∀ k, k < m → stH s k ≠ 0) : ∀ i, i ≤ m → ∀ k, k < m → bil s (alF s m i) (stP s k) = if k < i then 0 else bil s (fun j => if j = m then 1 else 0) (stP s k)
  | 0, _, k, hk => by
    rw [if_neg (by omega)]
    congr 1
    funext j
    show (if j = m then (1 : Rat) else 0) - 0 = _
    grind
  | i + 1, hi, k, hk => by
    rw [alF_succ, bil_lin, alF_bil hm hh i (by omega) k hk]
    by_cases h1 : k < i
    · rw [if_pos h1, if_pos (by omega), orth (m - 1) (by omega) (fun k hk => hh k (by omega)) i k (by omega) h1]
      grind
    · rw [if_neg h1]
      by_cases h2 : k = i
      · subst h2
        rw [if_pos (by omega)]
        have := hh k hk
        have e : bil s (stP s k) (stP s k) = stH s k := rfl
        rw [e]
        grind
      · rw [if_neg (by omega), bil_comm s (stP s i), orth (m - 1) (by omega) (fun k hk => hh k (by omega)) k i (by omega) (by omega)]
        grind
theorem alF_end {s : Nat → Rat} {m : Nat} (hm : m ≤ 9) (hh : ∀ k, k < m → stH s k ≠ 0) : alF s m m = stP s m := by
  have hd : ∀ j, m < j → alF s m m j = 0 := fun j hj => by
    unfold alF
    rw [if_neg (by omega), sg_zero m fun k hk => by rw [(stPQ_deg s k).1 j (by omega)]; grind]
    grind
  have ht : alF s m m m = 1 := by
    unfold alF
    rw [if_pos rfl, sg_zero m fun k hk => by rw [(stPQ_deg s k).1 m (by omega)]; grind]
    grind
  have := zero_of_orth (s := s) m (fun j => alF s m m j - 1 * stP s m j) (by omega) hh (fun j hj => by
    show alF s m m j - 1 * stP s m j = 0
    by_cases e : j = m
    · subst e; rw [ht, (stPQ_deg s j).2.1]; grind
    · rw [hd j (by omega), (stPQ_deg s m).1 j (by omega)]; grind) fun k hk => by
    rw [bil_lin, alF_bil hm hh m (Nat.le_refl _) k hk, if_pos hk, orth m (by omega) hh m k (Nat.le_refl _) hk]
    grind
  funext j
  have this : alF s m m j - 1 * stP s m j = 0 := this j
  grind
def alL (S : List Rat) (m i : Nat) : List Rat := (List.range (m + 1)).map (alF (sF S) m i)
theorem alL_getD (S : List Rat) (m i j : Nat) (hi : i ≤ m) : (alL S m i).getD j 0 = alF (sF S) m i j := by
  unfold alL
  rw [getD_range]
  split
  · rfl
  · unfold alF
    rw [if_neg (by omega), sg_zero i fun k hk => by rw [(stPQ_deg (sF S) k).1 j (by omega)]; grind]
    grind
theorem alL_clean (S : List Rat) (m i : Nat) (hi : i ≤ m) : Clean (alL S m i) := clean_top (n := m) (by simp [alL]) (by
  rw [alL_getD S m i m hi]
  unfold alF
  rw [if_pos rfl, sg_zero i fun k hk => by rw [(stPQ_deg (sF S) k).1 m (by omega)]; grind, show (1 : Rat) - 0 = 1 by grind]
  decide)
theorem alL_zero (S : List Rat) (m : Nat) : alL S m 0 = xpL m := clean_ext (alL_clean S m 0 (Nat.zero_le _)) (clean_top (xpL_len m) (by rw [xpL_getD, if_pos rfl]; decide)) fun j => by
  rw [alL_getD S m 0 j (Nat.zero_le _), xpL_getD]
  show (if j = m then (1 : Rat) else 0) - 0 = _
  grind
theorem alL_succ (S : List Rat) (m i : Nat) (hi : i < m) : alL S m (i + 1) = addCP (alL S m i) (stL S i) (-(bil (sF S) (fun j => if j = m then 1 else 0) (stP (sF S) i) / stH (sF S) i)) := clean_ext (alL_clean S m (i + 1) (by omega)) (clean_clean _) fun j => by
  rw [alL_getD S m (i + 1) j (by omega), addCP_getD, alL_getD S m i j (by omega), stL_getD, alF_succ]
  grind
theorem alL_end {S : List Rat} {m : Nat} (hm : m ≤ 9) (hh : NzH S m) : alL S m m = stL S m := clean_ext (alL_clean S m m (Nat.le_refl _)) (stL_clean S m) fun j => by
  rw [alL_getD S m m j (Nat.le_refl _), stL_getD, alF_end hm hh]
theorem sz_negA {q : Rat} {n : Nat} (h : Sz n q) : Sz n (-q) := ⟨by rw [Rat.neg_num, Int.natAbs_neg]; exact h.1, by rw [Rat.neg_den]; exact h.2⟩
theorem neg_frA (q : Rat) : D.tup [.int (0 - q.num), .int q.den] = fr (-q) := by
  unfold fr
  rw [Rat.neg_num, Rat.neg_den]
  congr 3
  omega
theorem _law_squareG {f g S : List Rat} {b a c : Nat} {s : DL.S} {k xq} (hB : StB b S) (hf : CfS a f) (hg : CfS c g) (ha : a + c ≤ 2 * b) (hf8 : f.length ≤ 12) (hg8 : g.length ≤ 12) (hl : (mulP f g).length ≤ S.length)
    (h : Sz (600 * b) (bil (sF S) (fun j => f.getD j 0) (fun j => g.getD j 0)) → k (.val (fr (bil (sF S) (fun j => f.getD j 0) (fun j => g.getD j 0)))) s) : F__law_square [.lst (S.map fr), .lst (f.map fr), .lst (g.map fr)] s k xq := by
  have h2 := hB.l2
  have hb0 := hB.b0
  have hb := hB.b1
  have hm := mulP_szG hf hg
  have e1 : g.length * (a + c + 1) ≤ 12 * (2 * b + 1) := Nat.mul_le_mul hg8 (by omega)
  have hm' : CfS (24 * b + 13) (mulP f g) := cfS_mono hm (by omega)
  have hd := dot_szG hm' hB.sz
  have e2 : (mulP f g).length * (24 * b + 13 + b + 1) ≤ 11 * (24 * b + 13 + b + 1) := Nat.mul_le_mul_right _ (by omega)
  have e3 : ((mulP f g).length + 1) * (24 * b + 13 + b + 1) ≤ 12 * (24 * b + 13 + b + 1) := Nat.mul_le_mul_right _ (by omega)
  have e4 : (f.length + g.length + 1) * (a + c + 1) ≤ 25 * (2 * b + 1) := Nat.mul_le_mul (by omega) (by omega)
  refine _law_square_spec hf hg (by omega) (by omega) (by omega) hl hm' hB.sz (by omega) (by omega) ?_
  rw [dot_bil (by omega) (by omega)]
  refine h ?_
  rw [← dot_bil (by omega) (by omega)]
  exact hd.mono (by omega)
theorem _law_along_spec {S : List Rat} {b m : Nat} {s : DL.S} {k xq} (hB : StB b S) (hb7 : b ≤ 7000) (hm : m ≤ 5) (hh : NzH S m) (hl : 2 * m ≤ S.length) (hz : ∀ i, i < m → Sz (600 * b) (stH (sF S) i)) (h : k (.own ((stL S m).map fr)) s) : F__law_along [.lst (S.map fr), .lst ((xpL m).map fr), .lst (soD S m)] s k xq := by
  have sb := size_big
  have h2 := hB.l2
  have hb0 := hB.b0
  have hb := hB.b1
  refine ⟨rfl, ?_⟩
  unfold BF__law_along
  walk_at "wz"
  rw [show soD S m = (List.range m).map fun n => .tup [.lst ((stL S n).map fr), fr (stH (sF S) n)] from rfl]
  refine forW_inv (α := Nat) (l := List.range m) (f := fun n => .tup [.lst ((stL S n).map fr), fr (stH (sF S) n)]) (fun i env s' => ∃ v4 v5 v6, env = [.val (.lst (S.map fr)), .val (.lst ((xpL m).map fr)), .val (.lst ((List.range m).map fun n => .tup [.lst ((stL S n).map fr), fr (stH (sF S) n)])), .own ((alL S m i).map fr), v4, v5, v6] ∧ s' = s ∧ CfS (1 + i * (1202 * b)) (alL S m i)) ?_ ⟨.no, .no, .no, by rw [alL_zero], rfl, by rw [alL_zero]; exact cfS_mono (xpL_cf m) (by omega)⟩ ?_
  · rintro i hi env s' ⟨v4, v5, v6, rfl, rfl, hc⟩ KN hk
    rw [List.length_range] at hi
    rw [List.getElem_range]
    have c1 := hB.st i (by omega) fun k hk => hh k (by omega)
    have l1 := stL_len S i
    have hle := mulP_lenL (f := xpL m) (g := stL S i) (n := m) (m := i) (xpL_len m) l1
    have h0 := hh i hi
    walk_at "wz"
    refine _law_squareG (f := xpL m) (g := stL S i) (a := 1) hB (xpL_cf m) c1 (by omega) (by rw [xpL_len]; omega) (by omega) (by omega) fun hq => ?_
    have e1 : bil (sF S) (fun j => (xpL m).getD j 0) (fun j => (stL S i).getD j 0) = bil (sF S) (fun j => if j = m then 1 else 0) (stP (sF S) i) := by
      rw [stL_fn]
      congr 1
      funext j
      exact xpL_getD m j
    rw [e1] at hq ⊢
    walk_at "wz"
    refine _law_over_spec hq (hz i hi) (by omega) h0 ?_
    have hqq := sz_quot hq (hz i hi) h0
    have e2 := alL_succ S m i hi
    generalize bil (sF S) (fun j => if j = m then 1 else 0) (stP (sF S) i) / stH (sF S) i = q at *
    walk_at "wz"
    rw [neg_frA]
    have hi5 : i * (1202 * b) ≤ 5 * (1202 * b) := Nat.mul_le_mul_right _ (by omega)
    have l2 : (alL S m i).length = m + 1 := by simp [alL]
    refine ⟨by omega, ?_⟩
    refine _law_summed_spec hc c1 (sz_negA hqq) (by omega) (by omega) (by omega) ?_
    rw [← e2]
    walk_at "wz"
    refine hk _ _ ⟨_, _, _, rfl, rfl, ?_⟩
    rw [e2]
    intro j
    rw [addCP_getD]
    have := sz_add (hc j) (sz_mul (c1 j) (sz_negA hqq))
    exact this.mono (by rw [Nat.add_mul]; omega)
  · rintro env s' ⟨v4, v5, v6, rfl, rfl, hc⟩
    rw [List.length_range, alL_end (by omega) hh] at *
    walk_at "wz"
    exact h
theorem _law_x_spec {m : Nat} {s : S} {k xq} (hm : m < 1000) (h : k (.own ((xpL m).map fr)) s) : F__law_x [.int m] s k xq := by
  have sb := size_big
  refine ⟨rfl, ?_⟩
  unfold BF__law_x
  walk_at "wz"
  rw [Int.toNat_natCast, flat_zero]
  refine ⟨by decide, by decide, ⟨by omega, by omega, by omega⟩, by decide, by decide, by simp; omega, ?_⟩
  have eX : (List.replicate m (0 : Rat)).map fr ++ [D.tup [.int 1, .int 1]] = (xpL m).map fr := by
    unfold xpL
    rw [List.map_append]
    rfl
  rw [eX]
  exact h
theorem num_pos0 (q : Rat) : 0 < q.num ↔ 0 < q := by
  have := Rat.lt_iff 0 q
  simpa using this.symm
theorem law_steps_go (ft : FT) (fb : FS) (xq : Str → DL.S → Prop) {S : List Rat} {b : Nat} (hS : StB b S) (hb7 : b ≤ 7000) (s : DL.S) (hft : ft = (wAnd (wB (wOp gLt (wOp gMul (wC (.int 2)) (wP (wCB1 gLen (wPV 1)))) (wP (wCB1 gLen (wPV 0))))) (wOr (wB (wOpv gEqE 1 (wP (wLst wNil)))) (wB (wOp gGt (wOp gIx (wOp gIx (wIxv 1 (wP (wUn gNeg (wP (wC (.int 1)))))) (wP (wC (.int 1)))) (wP (wC (.int 0)))) (wP (wC (.int 0))))))))
    (hfb : fb = (wSeq (wAsg (wCallF F__law_along xq (wBVar 0 (wBCons (wCall F__law_x xq (wCons (wCB1 gLen (wPV 1)) wNil)) (wBVar 1 wBNil)))) (wName 2))
  (wApp 1 (wTup (wCons (wV 2) (wCons (wCall F__law_square xq (wCons (wV 0) (wCons (wV 2) (wCons (wV 2) wNil)))) wNil)))))) :
    ∀ (f m : Nat) (v2 : Sl) (K : Fl → Prop), m + f = 6 → NzH S m → 2 * m + 1 ≤ S.length → (∀ i, i ≤ m → Sz (600 * b) (stH (sF S) i)) → (∀ v2, (∀ i, i < stM S f m → Sz (600 * b) (stH (sF S) i)) → K (.nx [.val (.lst (S.map fr)), .own (soD S (stM S f m)), v2] s)) →
      whileW ft fb K (f + 1) [.val (.lst (S.map fr)), .own (soD S (m + 1)), v2] s := by
  subst hft hfb
  have sb := size_big
  have hS2 := hS.l2
  intro f
  induction f with
  | zero =>
    intro m v2 K hm hh hl hz hK
    omega
  | succ f ih =>
    intro m v2 K hm hh hl hz hK
    unfold whileW
    walk_at "wz"
    simp only [List.length_map, soD_len]
    refine ⟨mulOk (n := 2) (m := 10) (by decide) (by omega) (by decide), ?_⟩
    have hK' := hK
    unfold stM at hK'
    by_cases h2 : 2 * (m + 1) < S.length
    · rw [if_pos (by omega)]
      walk_at "wz"
      refine ⟨by decide, ?_⟩
      have hne : (soD S (m + 1)).isEmpty = false := by rw [soD_succ]; cases soD S m <;> rfl
      rw [hne, if_neg (by decide)]
      walk_at "wz"
      refine ⟨_, soD_last S m, ?_⟩
      walk_at "wz"
      by_cases h1 : 0 < stH (sF S) m
      · rw [if_pos ((num_pos0 _).mpr h1)]
        walk_at "wz"
        rw [if_pos ⟨h1, h2⟩] at hK'
        have hh' : NzH S (m + 1) := fun k hk => by
          by_cases e : k = m
          · subst e
            exact ne_of_pos h1
          · exact hh k (by omega)
        rw [soD_len]
        refine _law_x_spec (m := m + 1) (by omega) ?_
        walk_at "wz"
        refine _law_along_spec (m := m + 1) hS hb7 (by omega) hh' (by omega) (fun i hi => hz i (by omega)) ?_
        walk_at "wz"
        refine ⟨flat_frs _, ?_⟩
        walk_at "wz"
        have hle := mulP_lenL (stL_len S (m + 1)) (stL_len S (m + 1))
        have hL := stL_len S (m + 1)
        have hc := hS.st (m + 1) (by omega) hh'
        refine _law_squareG hS hc hc (by omega) (by omega) (by omega) (by omega) fun hq => ?_
        have eq : bil (sF S) (fun j => (stL S (m + 1)).getD j 0) (fun j => (stL S (m + 1)).getD j 0) = stH (sF S) (m + 1) := by rw [stL_fn]; rfl
        rw [eq] at hq ⊢
        walk_at "wz"
        refine ⟨by decide, by rw [soD_len]; show m + 1 < sizeLine; omega, ?_⟩
        have e1 : soD S (m + 1) ++ [D.tup [.lst ((stL S (m + 1)).map fr), .tup [.int (stH (sF S) (m + 1)).num, .int (stH (sF S) (m + 1)).den]]] = soD S (m + 1 + 1) := (soD_succ S (m + 1)).symm
        rw [e1]
        exact ih (m + 1) _ K (by omega) hh' (by omega) (fun i hi => by
          by_cases e : i = m + 1
          · subst e
            exact hq
          · exact hz i (by omega)) hK'
      · rw [if_neg fun z => h1 ((num_pos0 _).mp z)]
        walk_at "wz"
        rw [if_neg fun z => h1 z.1] at hK'
        exact hK' _ fun i hi => hz i (by omega)
    · rw [if_neg (by omega)]
      walk_at "wz"
      rw [if_neg fun z => h2 z.2] at hK'
      exact hK' _ fun i hi => hz i (by omega)
theorem _law_steps_spec {S : List Rat} {b : Nat} {s : DL.S} {k xq} (hB : StB b S) (hb7 : b ≤ 7000) (h : (∀ i, i < stN S → Sz (600 * b) (stH (sF S) i)) → k (.own (soD S (stN S))) s) : F__law_steps [.lst (S.map fr)] s k xq := by
  have sb := size_big
  have h1 := hB.l1
  have h2 := hB.l2
  have hb0 := hB.b0
  have zN : NzH S 0 := fun k hk => by omega
  refine ⟨rfl, ?_⟩
  unfold BF__law_steps
  walk_at "wz"
  refine ⟨by decide, ?_⟩
  walk_at "wz"
  refine ⟨8, ?_⟩
  unfold whileW
  walk_at "wz"
  simp only [List.length_map]
  refine ⟨mulOk (n := 2) (m := 10) (by decide) (by decide) (by decide), ?_⟩
  rw [if_pos (by omega)]
  walk_at "wz"
  refine ⟨by decide, ?_⟩
  walk_at "wz"
  refine _law_x_spec (m := 0) (by decide) ?_
  walk_at "wz"
  refine _law_along_spec (m := 0) hB hb7 (by omega) zN (by omega) (fun i hi => by omega) ?_
  walk_at "wz"
  refine ⟨flat_frs _, ?_⟩
  walk_at "wz"
  have hle := mulP_lenL (stL_len S 0) (stL_len S 0)
  have hL := stL_len S 0
  have hc := hB.st 0 (by omega) zN
  refine _law_squareG hB hc hc (by omega) (by omega) (by omega) (by omega) fun hq => ?_
  have eq : bil (sF S) (fun j => (stL S 0).getD j 0) (fun j => (stL S 0).getD j 0) = stH (sF S) 0 := by rw [stL_fn]; rfl
  rw [eq] at hq ⊢
  walk_at "wz"
  refine ⟨by decide, by decide, ?_⟩
  refine law_steps_go _ _ xq hB hb7 s rfl rfl 6 0 _ _ (by decide) zN (by omega) (fun i hi => ?_) ?_
  · have : i = 0 := by omega
    subst this
    exact hq
  · intro v2 hz
    walk_at "wz"
    exact h hz
def zpL (d : Nat) (f : List Rat) : List Rat := List.replicate d (0 : Rat) ++ f
theorem zpL_len (d : Nat) (f : List Rat) : (zpL d f).length = d + f.length := by simp [zpL]
theorem zpL_getD (d : Nat) (f : List Rat) (k : Nat) : (zpL d f).getD k 0 = shN d (fun j => f.getD j 0) k := by
  unfold zpL shN
  by_cases h : k < d
  · rw [if_pos h]
    simp [List.getD, List.getElem?_append, h]
  · rw [if_neg h]
    simp [List.getD, List.getElem?_append, h]
theorem dot_zp {S f : List Rat} {d : Nat} (hf : f.length ≤ 12) : dotQ (zpL d f) S = ipx (sF S) (fun j => f.getD j 0) d := by
  unfold dotQ
  rw [sg_sumQ, zpL_len]
  have e : sg (fun i => (zpL d f).getD i 0 * S.getD i 0) (d + f.length) = lw (sF S) (shN d (fun j => f.getD j 0)) (f.length + d) := by
    rw [Nat.add_comm]
    exact sg_congr _ fun i _ => by rw [zpL_getD]
  rw [e, lw_shN (sF S) (dg_list f)]
  unfold ipx
  exact (sg_to (n := f.length) (m := 12) (fun j hj => by rw [getD_big hj]; grind) hf).symm
theorem zpL_cf {n d : Nat} {f : List Rat} (hn : 1 ≤ n) (h : CfS n f) : CfS n (zpL d f) := fun i => by
  rw [zpL_getD]
  unfold shN
  split
  · exact sz_zero.mono hn
  · exact h _
def kindS (S : List Rat) : Str := if 0 < stH (sF S) (stN S - 1) then ("open" : String) else match nbF S (stL S (stN S - 1)) (S.length - stN S + 1) with
  | none => ("tight" : String)
  | some _ => ("none" : String)
theorem flk_kind {S : List Rat} {b : Nat} (hB : StB b S) : FlkB S ↔ kindS S ≠ ("none" : String) := by
  obtain ⟨n1, n2, n3, n4, n5⟩ := stN_G hB
  unfold kindS FlkB
  by_cases h : 0 < stH (sF S) (stN S - 1)
  · rw [if_pos h]
    exact ⟨fun _ => by decide +kernel, fun _ => .inl h⟩
  · rw [if_neg h]
    cases e : nbF S (stL S (stN S - 1)) (S.length - stN S + 1) with
    | none =>
      refine ⟨fun _ => by decide +kernel, fun _ => .inr ⟨?_, rfl⟩⟩
      have := nbF_none _ e (stN S - 1) (by omega)
      rw [stL_fn, ← stH_ipG (by omega) (nz_of fun k hk => n3 k (by omega))] at this
      exact this
    | some d =>
      refine ⟨fun z => ?_, fun z => absurd rfl z⟩
      rcases z with z | ⟨_, z⟩
      · exact absurd z h
      · cases z
theorem _law_kind_spec {S : List Rat} {b : Nat} {s : DL.S} {k xq} (hB : StB b S) (hb7 : b ≤ 7000) (h : k (.val (.str (kindS S))) s) : F__law_kind [.lst (S.map fr)] s k xq := by
  have sb := size_big
  have h2 := hB.l2
  have hb0 := hB.b0
  obtain ⟨n1, n2, n3, n4, n5⟩ := stN_G hB
  obtain ⟨m, hm⟩ : ∃ m, stN S = m + 1 := ⟨stN S - 1, by omega⟩
  have hm1 : stN S - 1 = m := by omega
  have hc := hB.st m (by omega) (nz_of fun k hk => n3 k (by omega))
  have hl := stL_len S m
  unfold kindS at h
  rw [hm1, hm] at h
  refine ⟨rfl, ?_⟩
  unfold BF__law_kind
  walk_at "wz"
  refine _law_steps_spec hB hb7 fun hz => ?_
  walk_at "wz"
  have hlast := soD_last S m
  rw [← hm] at hlast
  refine ⟨_, hlast, ?_⟩
  walk_at "wz"
  by_cases c1 : 0 < stH (sF S) m
  · rw [if_pos ((num_pos0 _).mpr c1)]
    rw [if_pos c1] at h
    walk_at "wz"
    exact h
  rw [if_neg fun z => c1 ((num_pos0 _).mp z)]
  rw [if_neg c1] at h
  walk_at "wz"
  simp only [List.length_map, hl]
  rw [show ((S.length : Int) - ((m + 1 : Nat) : Int) + 1).toNat = S.length - (m + 1) + 1 by omega]
  refine ⟨⟨by omega, by omega⟩, ?_⟩
  refine forW_rng (fun i env s' => ∃ v3, env = [.val (.lst (S.map fr)), .val (.lst ((stL S m).map fr)), .val (fr (stH (sF S) m)), v3] ∧ s' = s ∧ nbF S (stL S m) i = none) ?_ ⟨_, rfl, rfl, rfl⟩ ?_
  · rintro i hi env s' ⟨v3, rfl, rfl, hn⟩ KN hk
    walk_at "wz"
    rw [Int.toNat_natCast, flat_zero]
    have ez : (List.replicate i (0 : Rat)).map fr ++ (stL S m).map fr = (zpL i (stL S m)).map fr := by
      unfold zpL
      rw [List.map_append]
    rw [ez]
    refine ⟨by decide, by decide, ⟨by omega, by omega, by omega⟩, by simp; omega, ?_⟩
    have e3 : ((zpL i (stL S m)).length + 1) * (b + b + 1) ≤ 12 * (b + b + 1) := Nat.mul_le_mul_right _ (by rw [zpL_len]; omega)
    refine _law_worth_spec (by rw [zpL_len]; omega) (zpL_cf hb0 hc) hB.sz (by omega) (by omega) ?_
    rw [dot_zp (by omega)]
    walk_at "wz"
    by_cases z : ipx (sF S) (fun j => (stL S m).getD j 0) i = 0
    · rw [if_neg (by rw [z]; decide)]
      walk_at "wz"
      refine hk _ _ ⟨_, rfl, rfl, ?_⟩
      unfold nbF
      rw [hn]
      exact if_neg fun w => w z
    · rw [if_pos (fun w => z (Rat.num_eq_zero.mp w))]
      rw [nbF_hit hn z _ hi] at h
      walk_at "wz"
      exact h
  · rintro env s' ⟨v3, rfl, rfl, hn⟩
    rw [hn] at h
    walk_at "wz"
    exact h
def isWh : D → Bool
  | .int _ => true
  | _ => false
theorem _law_whole_spec {d : D} {s : S} {k xq} (hd : notScr d) (h : k (.val (.bl (isWh d))) s) : F__law_whole [d] s k xq := by
  refine ⟨rfl, ?_⟩
  unfold BF__law_whole
  cases d with
  | scr ns => exact hd.elim
  | st a => exact hd.elim
  | exc a => exact hd.elim
  | fn _ _ _ _ => exact hd.elim
  | _ => exact ⟨trivial, by first | exact h | exact ⟨trivial, h⟩⟩
def isFr : D → Bool
  | .tup [.int a, .int b] => decide (0 < b) && (Int.gcd a b == 1)
  | _ => false
theorem isFr_fr (q : Rat) : isFr (fr q) = true := by
  have h1 := q.den_nz
  have h2 : Int.gcd q.num (q.den : Int) = 1 := q.reduced
  unfold isFr fr
  simp [h2]
  omega
theorem isFr_elim {d : D} (h : isFr d = true) : ∃ q, d = fr q := by
  unfold isFr at h
  split at h
  · rename_i a b
    rw [Bool.and_eq_true] at h
    have hb : 0 < b := of_decide_eq_true h.1
    have hg : Int.gcd a b = 1 := by simpa using h.2
    have e1 : ((b.toNat : Nat) : Int) = b := by omega
    refine ⟨⟨a, b.toNat, by omega, ?_⟩, ?_⟩
    · show Nat.gcd a.natAbs b.toNat = 1
      have : b.toNat = b.natAbs := by omega
      rw [this]
      exact hg
    · unfold fr
      rw [e1]
  · exact absurd h (by simp)
def Pl (d : D) : Prop := notScr d ∧ ∀ ds, d = .tup ds → ∀ e ∈ ds, notScr e
theorem pl_fr (q : Rat) : Pl (fr q) := ⟨trivial, fun ds h e he => by
  unfold fr at h
  injection h with h
  subst h
  simp at he
  rcases he with rfl | rfl <;> exact trivial⟩
theorem _law_is_fraction_spec {d : D} {s : S} {k xq} (hd : Pl d) (h : k (.val (.bl (isFr d))) s) : F__law_is_fraction [d] s k xq := by
  refine ⟨rfl, ?_⟩
  unfold BF__law_is_fraction
  obtain ⟨h1, h2⟩ := hd
  cases d with
  | scr ns => exact h1.elim
  | st a => exact h1.elim
  | exc a => exact h1.elim
  | fn _ _ _ _ => exact h1.elim
  | tup ds =>
    have t1 : isTy (.tup ds) "tuple" = true := by show tyB "tuple" "tuple" = true; decide
    walk_at "wp"
    simp only [t1, notScr, true_and, Bool.not_true, Bool.false_eq_true, if_false]
    match ds, h2, h with
    | [], h2, h => simpa [isFr] using h
    | [a], h2, h => simpa [isFr] using h
    | [a, b], h2, h =>
      have ha := h2 _ rfl a (by simp)
      have hb := h2 _ rfl b (by simp)
      simp only [List.length_cons, List.length_nil]
      rw [if_neg (by simp)]
      walk_at "wp"
      refine _law_whole_spec ha ?_
      walk_at "wp"
      by_cases wa : isWh a = true
      · rw [if_neg (by simp [wa])]
        refine _law_whole_spec hb ?_
        walk_at "wp"
        by_cases wb : isWh b = true
        · rw [if_neg (by simp [wb])]
          cases a with
          | int i =>
            cases b with
            | int j =>
              walk_at "wp"
              unfold isFr at h
              by_cases hj : 0 < j
              · rw [if_pos hj]
                refine _law_divisor_spec ?_
                walk_at "wp"
                simp only [decide_eq_true hj, Bool.true_and] at h
                have e : (((Int.gcd i j : Nat) : Int) == 1) = (Int.gcd i j == 1) := by
                  rw [Bool.eq_iff_iff, beq_iff_eq, beq_iff_eq]
                  omega
                rw [e]
                exact h
              · rw [if_neg hj]
                simp only [decide_eq_false hj, Bool.false_and] at h
                exact h
            | _ => exact absurd wb (by simp [isWh])
          | _ => exact absurd wa (by simp [isWh])
        · rw [if_pos (by simp [wb])]
          have : isFr (.tup [a, b]) = false := by
            cases b <;> first | exact absurd rfl wb | (cases a <;> rfl)
          rw [this] at h
          exact h
      · rw [if_pos (by simp [wa])]
        have : isFr (.tup [a, b]) = false := by
          cases a <;> first | exact absurd rfl wa | rfl
        rw [this] at h
        exact h
    | a :: b :: c :: r, h2, h =>
      have e : ¬ (((a :: b :: c :: r).length : Nat) : Int) = 2 := by simp only [List.length_cons]; omega
      rw [if_pos e]
      have : isFr (.tup (a :: b :: c :: r)) = false := by cases a <;> first | rfl | (cases b <;> rfl)
      rw [this] at h
      exact h
  | _ =>
    exact ⟨trivial, h⟩
def isPoly : D → Bool
  | .lst ds => ds.all isFr && (ds.isEmpty || !(match ds.getLast? with | some d => d.eqv (fr 0) | none => false))
  | _ => false
def PlL (d : D) : Prop := Pl d ∧ ∀ ds, d = .lst ds → ds.length < sizeLine ∧ ∀ e ∈ ds, Pl e
theorem all_fr : ∀ {ds : List D}, ds.all isFr = true → ∃ l : List Rat, ds = l.map fr
  | [], _ => ⟨[], rfl⟩
  | d :: ds, h => by
    rw [List.all_cons, Bool.and_eq_true] at h
    obtain ⟨q, rfl⟩ := isFr_elim h.1
    obtain ⟨l, rfl⟩ := all_fr h.2
    exact ⟨q :: l, rfl⟩
theorem isPoly_lst (ds : List D) : isPoly (.lst ds) = (ds.all isFr && (ds.isEmpty || !(match ds.getLast? with | some d => d.eqv (fr 0) | none => false))) := rfl
theorem isPoly_fr (l : List Rat) : isPoly (.lst (l.map fr)) = true ↔ Clean l := by
  have h1 : (l.map fr).all isFr = true := by simp [isFr_fr]
  have h0 : (l.map fr).isEmpty = l.isEmpty := by cases l <;> rfl
  unfold isPoly Clean
  simp only [h1, h0, List.getLast?_map, Bool.true_and]
  cases hl : l.getLast? with
  | none =>
    have : l = [] := by simpa using hl
    simp [this]
  | some q =>
    have : l ≠ [] := by intro z; subst z; simp at hl
    simp [this, eqv_fr]
theorem last_ix {l : List Rat} (h : l ≠ []) : ∃ q, l.getLast? = some q ∧ atI (l.map fr) (-1) = some (fr q) := by
  refine ⟨l.getLast h, List.getLast?_eq_some_getLast h, ?_⟩
  have hl : 0 < l.length := List.length_pos_iff.mpr h
  unfold atI ixN
  rw [if_neg (by decide)]
  simp only [List.length_map]
  rw [if_pos (by omega)]
  have e : ((l.length : Int) + -1).toNat = l.length - 1 := by omega
  rw [Int.add_comm] at e
  simp [e, List.getLast_eq_getElem, hl]
  exact ⟨_, List.getElem?_eq_getElem (by omega), rfl⟩
theorem gNe_zero {q : Rat} {p : Prop} (h : p) : (EqOk (fr q) ∧ EqOk (.tup [.int 0, .int 1])) ∧ p :=
  ⟨⟨(nice_fr q).eqOk (by decide), (nice_fr 0).eqOk (by decide)⟩, h⟩
theorem _law_is_polynomial_spec {d : D} {s : S} {k xq} (hd : PlL d) (h : k (.val (.bl (isPoly d))) s) : F__law_is_polynomial [d] s k xq := by
  refine ⟨rfl, ?_⟩
  unfold BF__law_is_polynomial
  obtain ⟨h1, h2⟩ := hd
  cases d with
  | scr ns => exact h1.1.elim
  | st a => exact h1.1.elim
  | exc x => exact h1.1.elim
  | fn f a o u => exact h1.1.elim
  | lst ds =>
    obtain ⟨hl, h3⟩ := h2 ds rfl
    have t1 : isTy (.lst ds) "list" = true := by show tyB "list" "list" = true; decide
    walk_at "wp"
    simp only [t1, notScr, true_and, Bool.true_eq_false, if_false]
    refine ⟨hl, ?_⟩
    refine compW_filterD (g := id) (p := fun d => !isFr d) ds [] ?_ ?_
    · intro d hd K1 K2 h1 h2
      walk_at "wp"
      refine _law_is_fraction_spec (h3 d hd) ?_
      walk_at "wp"
      cases hf : isFr d with
      | true => exact h2 (by simp [hf])
      | false => exact h1 (by simp [hf])
    · walk_at "wp"
      refine ⟨by decide, ?_⟩
      have e : ((ds.filter fun d => !isFr d).map id).isEmpty = ds.all isFr := by
        rw [List.map_id, Bool.eq_iff_iff]
        simp
      walk_at "wp"
      rw [e]
      by_cases ha : ds.all isFr = true
      · rw [if_neg (by simp [ha])]
        obtain ⟨l, rfl⟩ := all_fr ha
        by_cases hn : l = []
        · subst hn
          walk_at "wp"
          exact ⟨by decide, h⟩
        · have e0 : (l.map fr).isEmpty = false := by simpa using hn
          obtain ⟨q, q1, q2⟩ := last_ix hn
          walk_at "wp"
          refine ⟨by decide, ?_⟩
          rw [if_neg (by simp [e0])]
          refine ⟨_, q2, ?_⟩
          refine ⟨by show 2 ≤ sizeLine; decide, gNe_zero ?_⟩
          simp only [isPoly_lst, ha, e0, List.getLast?_map, q1, Option.map_some, Bool.true_and, Bool.false_or] at h
          exact h
      · rw [if_pos (by simpa using ha)]
        have ha' : ds.all isFr = false := by simpa using ha
        rw [isPoly_lst, ha', Bool.false_and] at h
        exact h
  | _ => exact ⟨trivial, h⟩
theorem isTy_lst (ds : List D) : isTy (.lst ds) "tuple" = false ∧ isTy (.lst ds) "list" = true ∧ isTy (.lst ds) "bool" = false := ⟨by show tyB "list" "tuple" = false; decide, by show tyB "list" "list" = true; decide, by show tyB "list" "bool" = false; decide⟩
theorem isTy_tup (ds : List D) : isTy (.tup ds) "tuple" = true ∧ isTy (.tup ds) "list" = false ∧ isTy (.tup ds) "bool" = false := ⟨by show tyB "tuple" "tuple" = true; decide, by show tyB "tuple" "list" = false; decide, by show tyB "tuple" "bool" = false; decide⟩
theorem isTy_non : isTy .non "tuple" = false ∧ isTy .non "list" = false := ⟨by decide, by decide⟩
theorem isTy_bl (b : Bool) : isTy (.bl b) "tuple" = false ∧ isTy (.bl b) "list" = false := ⟨by show tyB "bool" "tuple" = false; decide, by show tyB "bool" "list" = false; decide⟩
theorem isTy_int (i : Int) : isTy (.int i) "tuple" = false ∧ isTy (.int i) "list" = false := ⟨by show tyB "int" "tuple" = false; decide, by show tyB "int" "list" = false; decide⟩
theorem isTy_str (x : Str) : isTy (.str x) "tuple" = false ∧ isTy (.str x) "list" = false := ⟨by show tyB "str" "tuple" = false; decide, by show tyB "str" "list" = false; decide⟩
theorem same_zip {ds : List D} {F : Fn} {s : S} {kk : List D → EnvD → S → Prop} (ih : ∀ d ∈ ds, ∀ (s : S) (k : Sl → S → Prop) (xq : Str → S → Prop), k (.val (.bl true)) s → F [d, d] s k xq) {a b : D}
    (h : kk (List.map D.bl (List.replicate ds.length true)) [.val a, .val b, .no, .no] s) :
    compW (wTupT 2 (wGCons (wName 2) (wGCons (wName 3) wGNil))) wYes (wCallB F xq0 (wBVar 2 (wBVar 3 wBNil))) [2, 3] kk (zipD ds ds) [] [.val a, .val b, .no, .no] s := by
  have e : zipD ds ds = ds.map fun d => .tup [d, d] := by
    clear h ih
    unfold zipD
    induction ds with
    | nil => rfl
    | cons d ds ihh => simpa using ihh
  rw [e]
  refine compW_map (g := fun _ => .bl true) ds [] ?_ ?_
  · intro d hd K hK
    walk_at "wp"
    refine ih d hd _ _ _ ?_
    walk_at "wp"
    exact hK
  · have e2 : ([] ++ ds.map fun _ => D.bl true) = List.map D.bl (List.replicate ds.length true) := by
      rw [List.map_replicate, List.nil_append]
      exact List.map_const' ..
    rw [e2]
    exact h
theorem all_true (n : Nat) : (List.replicate n true).all id = true := by simp
theorem _law_same_go : ∀ (n : Nat) {d : D} {s : S} {k : Sl → S → Prop} {xq : Str → S → Prop}, Nice n d → n ≤ 50 → k (.val (.bl true)) s → F__law_same_ (n + 1) [d, d] s k xq := by
  intro n
  induction n with
  | zero =>
    intro d s k xq h hn hk
    refine ⟨rfl, ?_⟩
    unfold BF__law_same
    have h1 := h.eqOk (by omega)
    have h2 := h.eqv
    cases d with
    | non => walk_at "wp"; simpa [notScr, isTy_non.1, isTy_non.2, eqOk_bl, eqv_bl, h1, h2] using hk
    | bl b => walk_at "wp"; simpa [notScr, (isTy_bl b).1, (isTy_bl b).2, eqOk_bl, eqv_bl, h1, h2] using hk
    | int b => walk_at "wp"; simpa [notScr, (isTy_int b).1, (isTy_int b).2, eqOk_bl, eqv_bl, h1, h2] using hk
    | str b => walk_at "wp"; simpa [notScr, (isTy_str b).1, (isTy_str b).2, eqOk_bl, eqv_bl, h1, h2] using hk
    | _ => exact h.elim
  | succ n ih =>
    intro d s k xq h hn hk
    refine ⟨rfl, ?_⟩
    unfold BF__law_same
    have h1 := h.eqOk (by omega)
    have h2 := h.eqv
    cases d with
    | non => walk_at "wp"; simpa [notScr, isTy_non.1, isTy_non.2, eqOk_bl, eqv_bl, h1, h2] using hk
    | bl b => walk_at "wp"; simpa [notScr, (isTy_bl b).1, (isTy_bl b).2, eqOk_bl, eqv_bl, h1, h2] using hk
    | int b => walk_at "wp"; simpa [notScr, (isTy_int b).1, (isTy_int b).2, eqOk_bl, eqv_bl, h1, h2] using hk
    | str b => walk_at "wp"; simpa [notScr, (isTy_str b).1, (isTy_str b).2, eqOk_bl, eqv_bl, h1, h2] using hk
    | lst ds =>
      walk_at "wp"
      simp only [notScr, (isTy_lst ds).1, (isTy_lst ds).2.1, eqOk_bl, eqv_bl, Bool.or_true, Bool.true_or, if_true, true_and, Bool.true_eq_false, if_false, not_true_eq_false, and_true]
      refine ⟨by simpa [zipD] using h.1, same_zip (fun d hd s k xq hk => ih (h.2 d hd) (by omega) hk) ⟨_, rfl, ?_⟩⟩
      rw [all_true]
      exact hk
    | tup ds =>
      walk_at "wp"
      simp only [notScr, (isTy_tup ds).1, (isTy_tup ds).2.1, eqOk_bl, eqv_bl, Bool.or_true, Bool.true_or, if_true, true_and, Bool.true_eq_false, if_false, not_true_eq_false, and_true]
      refine ⟨by simpa [zipD] using h.1, same_zip (fun d hd s k xq hk => ih (h.2 d hd) (by omega) hk) ⟨_, rfl, ?_⟩⟩
      rw [all_true]
      exact hk
    | _ => exact h.elim
theorem _law_same_spec {d : D} {s : S} {k xq} (h : Nice 11 d) (hk : k (.val (.bl true)) s) : F__law_same [d, d] s k xq := _law_same_go 11 h (by decide) hk
theorem _law_number_at_spec {f : List Rat} {x : Rat} {n m : Nat} {s : S} {k xq} (hf : ∀ q ∈ f, Sz n q) (hx : Sz m x) (hz : 1 + f.length * (n + m + 1) ≤ 60000000) (h : k (.val (fr (evP f x))) s) : F__law_number_at [.lst (f.map fr), fr x] s k xq := by
  refine ⟨rfl, ?_⟩
  unfold BF__law_number_at
  walk_at "wq"
  refine ⟨by show 2 ≤ sizeLine; decide, ?_⟩
  rw [← List.map_reverse]
  refine forW_inv (fun i env s' => ∃ v, env = [.val (.lst (f.map fr)), .val (fr x), .val (fr (evP (f.drop (f.length - i)) x)), v] ∧ s' = s) ?_ ⟨.no, by rw [Nat.sub_zero, List.drop_length]; rfl, rfl⟩ ?_
  · rintro i hi env s' ⟨v, rfl, rfl⟩ KN hk
    have hi' : i < f.length := by simpa using hi
    have e : f.reverse[i] = f[f.length - 1 - i] := by rw [List.getElem_reverse]
    rw [e]
    have hd : f.drop (f.length - (i + 1)) = f[f.length - 1 - i] :: f.drop (f.length - i) := by
      have : f.length - (i + 1) = f.length - 1 - i := by omega
      rw [this, List.drop_eq_getElem_cons (by omega)]
      congr 2
      omega
    have h1 := sz_ev (l := f.drop (f.length - i)) (fun q hq => hf q (List.mem_of_mem_drop hq)) hx
    have h2 : (f.drop (f.length - i)).length = i := by simp; omega
    rw [h2] at h1
    have h3 : (i + 1) * (n + m + 1) ≤ f.length * (n + m + 1) := Nat.mul_le_mul_right _ (by omega)
    rw [Nat.add_mul] at h3
    walk_at "wq"
    refine _law_times_spec h1 hx (by omega) ?_
    walk_at "wq"
    refine _law_plus_spec (sz_mul h1 hx) (hf _ (List.getElem_mem _)) (by omega) ?_
    walk_at "wq"
    refine hk _ _ ⟨.val (fr f[f.length - 1 - i]), ?_, rfl⟩
    rw [hd]
    rfl
  · rintro env s' ⟨v, rfl, rfl⟩
    walk_at "wq"
    simp only [List.length_reverse, Nat.sub_self, List.drop_zero]
    exact h
theorem _law_least_spec {S : List Rat} {t : Rat} (hS : SumsOk S) (ht : Sz 8 t) {s : DL.S} {k} {xq : Str → DL.S → Prop} (hF : FlkB S)
    (hA : stH (sF S) (stN S - 1) = 0 → evP (stL S (stN S - 1)) t ≠ 0 → k (.val (fr 0)) s)
    (hBc : ∀ n, 1 ≤ n → (n = stN S ∧ 0 < stH (sF S) (stN S - 1) ∨ n + 1 = stN S ∧ stH (sF S) n = 0 ∧ evP (stL S n) t = 0) → k (.val (fr (1 / lsK S t n))) s) : F__law_least [.lst (S.map fr), fr t] s k xq := by
  have sb := size_big
  have hB := SumsOk.stB hS
  obtain ⟨n1, n2, n3, n4, n5⟩ := stN_G hB
  have hl2 := hB.l2
  obtain ⟨m, hm⟩ : ∃ m, stN S = m + 1 := ⟨stN S - 1, by omega⟩
  have hm1 : stN S - 1 = m := by omega
  have hnz : NzH S m := nz_of fun k hk => n3 k (by omega)
  have hend : ∀ n, 1 ≤ n → (n = stN S ∧ 0 < stH (sF S) (stN S - 1) ∨ n + 1 = stN S ∧ stH (sF S) n = 0 ∧ evP (stL S n) t = 0) → ∀ k, k < n → 0 < stH (sF S) k := fun n _ hn k hk => by
    rcases hn with ⟨e, h⟩ | ⟨e, _, _⟩
    · by_cases e2 : k + 1 < stN S
      · exact n3 k e2
      · have : k = stN S - 1 := by omega
        rw [this]
        exact h
    · exact n3 k (by omega)
  have hlast := soD_last S m
  rw [← hm] at hlast
  refine ⟨rfl, ?_⟩
  unfold BF__law_least
  walk_at "wz"
  refine _law_steps_spec hB (by decide) fun _ => ?_
  walk_at "wz"
  refine ⟨_, hlast, ?_⟩
  walk_at "wz"
  have go : ∀ n, 1 ≤ n → (∀ k, k < n → 0 < stH (sF S) k) → n ≤ 6 → k (.val (fr (1 / lsK S t n))) s → ∀ (o : Bool), ((wSeq (wFor (wIt (wV 2)) (wTupT 2 (wGCons (wName 4) (wGCons (wName 5) wGNil)))
  (wSeq (wAsg (wCall F__law_number_at xq (wCons (wV 4) (wCons (wV 1) wNil))) (wName 6))
  (wAsg (wCall F__law_plus xq (wCons (wV 3) (wCons (wCall F__law_over xq (wCons (wCall F__law_times xq (wCons (wV 6) (wCons (wV 6) wNil))) (wCons (wV 5) wNil))) wNil))) (wName 3))))
  (wRet (wCall F__law_over xq (wCons (wTup (wCons (wC (.int 1)) (wCons (wC (.int 1)) wNil))) (wCons (wV 3) wNil)))))) [.val (.lst (S.map fr)), .val (fr t), ownIf o (soD S n), .val (fr 0), .no, .no, .no] s (kBody k) := by
    intro n hn1 hp hn hk o
    cases o <;> simp only [ownIf] <;> walk_at "wz"
    all_goals
      rw [show soD S n = (List.range n).map fun n => .tup [.lst ((stL S n).map fr), fr (stH (sF S) n)] from rfl]
      refine forW_inv (α := Nat) (l := List.range n) (f := fun n => .tup [.lst ((stL S n).map fr), fr (stH (sF S) n)]) (fun i env s' => ∃ v2 v4 v5 v6, env = [.val (.lst (S.map fr)), .val (fr t), v2, .val (fr (lsK S t i)), v4, v5, v6] ∧ s' = s) ?_ ⟨_, _, _, _, rfl, rfl⟩ ?_
      · rintro i hi env s' ⟨v2, v4, v5, v6, rfl, rfl⟩ KN hkn
        rw [List.length_range] at hi
        rw [List.getElem_range]
        have hh : NzH S i := nz_of fun k hk => hp k (by omega)
        have c := stL_cf hS (n := i) (by omega) hh
        have l1 := stL_len S i
        have v := stL_at_sz hS ht (i := i) (by omega) hh
        have h6 := stH_600 hS (m := i) (by omega) hh
        have hkz := lsK_sz hS ht (n := i) (by omega) fun k hk => hp k (by omega)
        walk_at "wz"
        refine _law_number_at_spec (cfS_mem c) ht (by rw [l1]; have := Nat.mul_le_mul_right (475 + 8 + 1) (show i + 1 ≤ 6 by omega); omega) ?_
        walk_at "wz"
        refine _law_times_spec v v (by decide) ?_
        walk_at "wz"
        refine _law_over_spec (sz_mul v v) h6 (by decide) (ne_of_pos (hp i hi)) ?_
        walk_at "wz"
        refine _law_plus_spec hkz (sz_quot (sz_mul v v) h6 (ne_of_pos (hp i hi))) (by decide) ?_
        walk_at "wz"
        exact hkn _ _ ⟨_, _, _, _, rfl, rfl⟩
      · rintro env s' ⟨v2, v4, v5, v6, rfl, rfl⟩
        rw [List.length_range]
        have hkz := lsK_sz hS ht hn hp
        walk_at "wz"
        refine ⟨by decide, ?_⟩
        refine _law_over_spec (p := 1) (n := 1) sz_one hkz (by decide) (ne_of_pos (lsK_pos hn1 hp)) ?_
        walk_at "wz"
        exact hk
  rw [hm1] at hA
  by_cases hz : stH (sF S) m = 0
  · rw [if_pos (by rw [hz]; rfl)]
    walk_at "wz"
    refine ⟨_, hlast, ?_⟩
    walk_at "wz"
    have c := stL_cf hS (n := m) (by omega) hnz
    have l1 := stL_len S m
    refine _law_number_at_spec (cfS_mem c) ht (by rw [l1]; have := Nat.mul_le_mul_right (475 + 8 + 1) (show m + 1 ≤ 6 by omega); omega) ?_
    walk_at "wz"
    by_cases z : evP (stL S m) t = 0
    · rw [if_neg (by rw [z]; decide)]
      walk_at "wz"
      have hmp : 1 ≤ m := by
        rcases Nat.eq_zero_or_pos m with w | w
        · exfalso
          subst w
          rw [stL_zero] at z
          simp only [evP] at z
          grind
        · exact w
      have hor : m = stN S ∧ 0 < stH (sF S) (stN S - 1) ∨ m + 1 = stN S ∧ stH (sF S) m = 0 ∧ evP (stL S m) t = 0 := .inr ⟨by omega, hz, z⟩
      rw [cut_lastL, hm, soD_succ, List.dropLast_concat]
      exact ⟨by omega, go m hmp (hend m hmp hor) (by omega) (hBc m hmp hor) true⟩
    · rw [if_pos (fun w => z (Rat.num_eq_zero.mp w))]
      walk_at "wz"
      exact ⟨by decide, hA hz z⟩
  · rw [if_neg (fun w => hz (Rat.num_eq_zero.mp w))]
    walk_at "wz"
    have hor : stN S = stN S ∧ 0 < stH (sF S) (stN S - 1) ∨ stN S + 1 = stN S ∧ stH (sF S) (stN S) = 0 ∧ evP (stL S (stN S)) t = 0 := .inl ⟨rfl, by
      rcases hF with h | ⟨h, _⟩
      · exact h
      · rw [hm1] at h; exact absurd h hz⟩
    exact ⟨by omega, go (stN S) n1 (hend (stN S) n1 hor) n2 (hBc (stN S) n1 hor) true⟩
theorem rat_lt_iff (p q : Rat) : p.num * q.den < q.num * p.den ↔ p < q := (Rat.lt_iff p q).symm
theorem _law_less_spec {p q : Rat} {s : S} {k xq n m} (hp : Sz n p) (hq : Sz m q) (hz : n + m ≤ 60000000) (h : k (.val (.bl (decide (p < q)))) s) : F__law_less [fr p, fr q] s k xq := by
  refine ⟨rfl, ?_⟩
  unfold BF__law_less
  walk_at "wp"
  have dp : ((p.den : Int)).natAbs < 2 ^ n := by simpa using hp.2
  have dq : ((q.den : Int)).natAbs < 2 ^ m := by simpa using hq.2
  refine ⟨mulOk hp.1 dq (by omega), mulOk hq.1 dp (by omega), ?_⟩
  have e : decide (p.num * (q.den : Int) < q.num * (p.den : Int)) = decide (p < q) := by
    rw [Bool.eq_iff_iff, decide_eq_true_iff, decide_eq_true_iff]
    exact rat_lt_iff p q
  rw [e]
  exact h
theorem _law_cell_at_spec {ns : List Int} {i : Nat} {s : S} {k xq} {p : Int → Prop} (h0 : p 0) (hp : ∀ z ∈ ns, p z) (h : ∀ z, p z → k (.val (.int z)) s) : F__law_cell_at [.scr ns, .int i] s k xq := by
  refine ⟨rfl, ?_⟩
  unfold BF__law_cell_at
  walk_at "wp"
  by_cases hi : (i : Int) < ns.length
  · rw [if_pos hi]
    have hi' : i < ns.length := by omega
    refine ⟨ns[i], ?_, h _ (hp _ (List.getElem_mem hi'))⟩
    rw [atI_nat' hi', List.getElem?_eq_getElem hi']
  · rw [if_neg hi]
    exact h _ h0
theorem _law_state_spec {ns : List Int} {i : Nat} {s : S} {k xq} (hb : ∀ z ∈ ns, PySem.Builtin.Int.intBits z ≤ 1048576) (h : ∀ x b, StOk x b → k (.own [.int x, .bl b]) s) : F__law_state [.scr ns, .int i] s k xq := by
  refine ⟨rfl, ?_⟩
  unfold BF__law_state
  walk_at "wp"
  refine _law_cell_at_spec (p := fun z => PySem.Builtin.Int.intBits z ≤ 1048576) (by decide) hb fun z hz => ?_
  walk_at "wp"
  have e : (10 : Int) ^ (18 : Int).toNat = 1000000000000000000 := by decide
  rw [e]
  refine ⟨⟨by decide, by decide, by decide⟩, ?_⟩
  by_cases hi : (1000000000000000000 : Int) ≤ z
  · rw [if_pos hi]
    refine ⟨⟨by decide, by decide, by decide⟩, by show 2 ≤ sizeLine; decide, h _ _ ⟨by omega, ?_, by simp⟩⟩
    exact ⟨1048576, Nat.le_refl _, Nat.lt_of_le_of_lt (by omega) (lt_of_bits hz)⟩
  · rw [if_neg hi]
    have h1 := Int.fmod_nonneg_of_pos z (show (0 : Int) < 2147483647 by decide)
    have h2 := Int.fmod_lt_of_pos z (show (0 : Int) < 2147483647 by decide)
    refine ⟨by decide, by show 2 ≤ sizeLine; decide, h _ _ ⟨h1, ⟨31, by decide, ?_⟩, fun _ => h2⟩⟩
    omega
theorem _law_take_spec {x : Int} {b : Bool} {a : Addr} {m : Int} {k xq} (hx : StOk x b) (hm : 0 < m) (hm2 : m < 2 ^ 40) (h : ∀ r x', 0 ≤ r → r < m → StOk x' b → k (.val (.int r)) (some ⟨x', b, a⟩)) : F__law_take [.st a, .int m] (some ⟨x, b, a⟩) k xq := by
  refine ⟨rfl, ?_⟩
  unfold BF__law_take
  walk_at "wp"
  obtain ⟨h1, ⟨n, hn, h2⟩, h3⟩ := hx
  cases b with
  | true =>
    rw [if_pos rfl]
    have e1 := Int.fmod_nonneg_of_pos x hm
    have e2 := Int.fmod_lt_of_pos x hm
    have e3 : x.fdiv m = x / m := Int.fdiv_eq_ediv_of_nonneg _ (by omega)
    have e4 : 0 ≤ x / m := Int.ediv_nonneg h1 (by omega)
    have e5 : (x / m).natAbs ≤ x.natAbs := Int.natAbs_ediv_le_natAbs _ _
    refine ⟨by omega, divOk (n := 40) (by omega) (by omega) (by decide), h _ _ e1 e2 ⟨by rw [e3]; exact e4, ⟨n, hn, by rw [e3]; omega⟩, by simp⟩⟩
  | false =>
    simp only [Bool.false_eq_true, if_false]
    have h3 := h3 rfl
    have hx1 : x.natAbs < 2 ^ 31 := by omega
    generalize hA : (x * 48271 + 29).fmod 2147483647 = A
    have a1 : 0 ≤ A := by rw [← hA]; exact Int.fmod_nonneg_of_pos _ (by decide)
    have a2 : A < 2147483647 := by rw [← hA]; exact Int.fmod_lt_of_pos _ (by decide)
    have a3 : A.natAbs < 2 ^ 31 := by omega
    generalize hB : (A * A + 39373 * A + 7).fmod 2147483629 = B
    have b1 : 0 ≤ B := by rw [← hB]; exact Int.fmod_nonneg_of_pos _ (by decide)
    have b2 : B < 2147483629 := by rw [← hB]; exact Int.fmod_lt_of_pos _ (by decide)
    have b3 : B.natAbs < 2 ^ 31 := by omega
    generalize hC : (B * B + 16807 * B).fmod 2147483587 = C
    refine ⟨mulOk hx1 (m := 16) (by decide) (by decide), by decide, mulOk a3 a3 (by decide), mulOk (n := 16) (by decide) a3 (by decide), by decide, mulOk b3 b3 (by decide), mulOk (n := 16) (by decide) b3 (by decide), by decide, divOk (n := 20) (by decide) (by decide) (by decide), by omega, ?_⟩
    exact h _ _ (Int.fmod_nonneg_of_pos _ hm) (Int.fmod_lt_of_pos _ hm) ⟨a1, ⟨31, by decide, a3⟩, fun _ => a2⟩
theorem _law_small_spec {x : Int} {b : Bool} {a : Addr} {k xq} (hx : StOk x b) (h : ∀ q x', Six 36 q → StOk x' b → k (.val (fr q)) (some ⟨x', b, a⟩)) : F__law_small [.st a] (some ⟨x, b, a⟩) k xq := by
  refine ⟨rfl, ?_⟩
  unfold BF__law_small
  walk_at "wp"
  refine _law_take_spec hx (by decide) (by decide) fun t x1 t0 t1 h1 => ?_
  walk_at "wp"
  refine _law_take_spec h1 (by decide) (by decide) fun u x2 u0 u1 h2 => ?_
  walk_at "wp"
  refine ⟨by show 3 ≤ sizeLine; decide, ?_⟩
  refine _law_take_spec h2 (by decide) (by decide) fun v x3 v0 v1 h3 => ?_
  walk_at "wp"
  have : v = 0 ∨ v = 1 ∨ v = 2 := by omega
  rcases this with rfl | rfl | rfl
  · refine ⟨_, atI0, ?_⟩
    walk_at "wp"
    exact _law_low_spec (n := 3) (by decide) (by decide) (by decide) (h _ _ (six_div (m := 6) (by decide) (by omega)) h3)
  · refine ⟨_, atI1, ?_⟩
    walk_at "wp"
    exact _law_low_spec (n := 3) (by decide) (by decide) (by decide) (h _ _ (six_div (m := 6) (by decide) (by omega)) h3)
  · refine ⟨_, atI2, ?_⟩
    walk_at "wp"
    exact _law_low_spec (n := 3) (by omega) (by omega) (by decide) (h _ _ (six_div (m := 6) (by omega) (by omega)) h3)
theorem _law_above_spec {x : Int} {b : Bool} {a : Addr} {k xq} (hx : StOk x b) (h : ∀ q x', Six 36 q → 0 < q → StOk x' b → k (.val (fr q)) (some ⟨x', b, a⟩)) : F__law_above [.st a] (some ⟨x, b, a⟩) k xq := by
  refine ⟨rfl, ?_⟩
  unfold BF__law_above
  walk_at "wp"
  refine _law_take_spec hx (by decide) (by decide) fun t x1 t0 t1 h1 => ?_
  walk_at "wp"
  refine _law_take_spec h1 (by decide) (by decide) fun u x2 u0 u1 h2 => ?_
  walk_at "wp"
  refine ⟨by show 3 ≤ sizeLine; decide, ?_⟩
  refine _law_take_spec h2 (by decide) (by decide) fun v x3 v0 v1 h3 => ?_
  walk_at "wp"
  have hpos : ∀ c : Int, 1 ≤ c → (0 : Rat) < ((1 + t : Int) : Rat) / (c : Rat) := fun c hc => rat_div_pos (by omega) (by omega)
  have : v = 0 ∨ v = 1 ∨ v = 2 := by omega
  rcases this with rfl | rfl | rfl
  · refine ⟨_, atI0, ?_⟩
    walk_at "wp"
    exact _law_low_spec (n := 3) (by decide) (by decide) (by decide) (h _ _ (six_div (m := 6) (by decide) (by omega)) (hpos _ (by decide)) h3)
  · refine ⟨_, atI1, ?_⟩
    walk_at "wp"
    exact _law_low_spec (n := 3) (by decide) (by decide) (by decide) (h _ _ (six_div (m := 6) (by decide) (by omega)) (hpos _ (by decide)) h3)
  · refine ⟨_, atI2, ?_⟩
    walk_at "wp"
    exact _law_low_spec (n := 3) (by omega) (by omega) (by decide) (h _ _ (six_div (m := 6) (by omega) (by omega)) (hpos _ (by omega)) h3)
def Crowd (m : Nat) (c : List (Rat × Rat)) : Prop := c.length ≤ m ∧ (∀ p ∈ c, Six (36 + 36 * m) p.1 ∧ Six 36 p.2 ∧ 0 < p.2) ∧ c.Pairwise (fun p q => p.1 < q.1)
theorem _law_crowd_spec {x : Int} {b : Bool} {a : Addr} {m : Nat} {k xq} (hx : StOk x b) (hm : m < 1000) (h : ∀ c x', Crowd m c → StOk x' b → k (.own (c.map crD)) (some ⟨x', b, a⟩)) : F__law_crowd [.st a, .int m] (some ⟨x, b, a⟩) k xq := by
  refine ⟨rfl, ?_⟩
  unfold BF__law_crowd
  walk_at "wp"
  refine ⟨by show 0 ≤ sizeLine; decide, ?_⟩
  refine _law_small_spec hx fun q0 x1 z0 h1 => ?_
  walk_at "wp"
  refine _law_take_spec h1 (by omega) (by omega) fun n x2 n0 n1 h2 => ?_
  walk_at "wp"
  refine ⟨⟨by omega, by omega⟩, ?_⟩
  refine forW_rng (fun i env s => ∃ c q x' v, env = [.val (.st a), .val (.int m), .own (c.map crD), .val (fr q), v] ∧ s = some ⟨x', b, a⟩ ∧ StOk x' b ∧ Six (36 + 36 * i) q ∧ c.length = i ∧ (∀ p ∈ c, p.1 < q ∧ Six (36 + 36 * m) p.1 ∧ Six 36 p.2 ∧ 0 < p.2) ∧ c.Pairwise (fun p q => p.1 < q.1))
    ?_ ⟨[], q0, x2, .no, rfl, rfl, h2, z0.mono (by omega), rfl, by simp, .nil⟩ ?_
  · rintro i hi env s ⟨c, q, x', v, rfl, rfl, hx', hq, hl, hc, hp⟩ KN hk
    walk_at "wp"
    refine _law_above_spec hx' fun w x3 hw w0 h3 => ?_
    walk_at "wp"
    refine ⟨by show 2 ≤ sizeLine; decide, ?_, ?_⟩
    · simp only [List.length_map]
      have := size_big
      omega
    refine _law_above_spec h3 fun u x4 hu u0 h4 => ?_
    walk_at "wp"
    refine _law_plus_spec (n := 20) (m := 20) (hq.sz (by omega) (by decide)) (hu.sz (by decide) (by decide)) (by decide) ?_
    walk_at "wp"
    refine hk _ _ ⟨c ++ [(q, w)], q + u, x4, .val (.int (i : Nat)), ?_, rfl, h4, (hq.add hu).mono (by omega), by simp [hl], ?_, ?_⟩
    · simp [crD, fr]
    · intro p hp
      rcases List.mem_append.mp hp with h | h
      · exact ⟨by have := (hc p h).1; grind, (hc p h).2⟩
      · simp at h
        subst h
        exact ⟨by grind, hq.mono (by omega), hw, w0⟩
    · rw [List.pairwise_append]
      exact ⟨hp, by simp, fun p hp y hy => by simp at hy; subst hy; exact (hc p hp).1⟩
  · rintro env s ⟨c, q, x', v, rfl, rfl, hx', hq, hl, hc, hp⟩
    walk_at "wp"
    exact h c x' ⟨by omega, fun p hp => (hc p hp).2, hp⟩ hx'
theorem _law_spot_crowd_spec {x : Int} {b : Bool} {a : Addr} {k xq} (hx : StOk x b) (h : ∀ c x', Crowd 5 c → c ≠ [] → StOk x' b → k (.own (c.map crD)) (some ⟨x', b, a⟩)) : F__law_spot_crowd [.st a, .int 5] (some ⟨x, b, a⟩) k xq := by
  have sb := size_big
  refine ⟨rfl, ?_⟩
  unfold BF__law_spot_crowd
  walk_at "wz"
  refine _law_crowd_spec (m := 5) hx (by decide) fun c x1 hc h1 => ?_
  walk_at "wz"
  cases c with
  | nil =>
    refine ⟨by decide, ?_⟩
    walk_at "wz"
    refine _law_small_spec h1 fun q x2 hq h2 => ?_
    walk_at "wz"
    refine _law_above_spec h2 fun w x3 hw w0 h3 => ?_
    walk_at "wz"
    refine ⟨by decide, by decide, ?_⟩
    walk_at "wz"
    exact h [(q, w)] x3 ⟨by simp, fun p hp => by
      simp at hp
      subst hp
      exact ⟨hq.mono (by decide), hw, w0⟩, by simp⟩ (by simp) h3
  | cons p c =>
    refine ⟨by decide, ?_⟩
    walk_at "wz"
    exact h (p :: c) x1 hc (by simp) h1
theorem _law_crowd_sums_spec {c : List (Rat × Rat)} {n w m : Nat} {s : S} {k xq} (hq : ∀ p ∈ c, Sz n p.1 ∧ Sz w p.2) (hz : (c.length + 1) * (w + 1 + m * n + 1) ≤ 60000000) (hm : m < 1000000) (hl : c.length < 1000000) (h : k (.own (((List.range m).map (sumAt c)).map fr)) s) : F__law_crowd_sums [.lst (c.map crD), .int m] s k xq := by
  refine ⟨rfl, ?_⟩
  unfold BF__law_crowd_sums
  walk_at "wp"
  have sb := size_big
  have hz1 : w + 1 + m * n + 1 ≤ 60000000 := Nat.le_trans (Nat.le_mul_of_pos_left _ (by omega)) hz
  refine ⟨by show 0 ≤ sizeLine; decide, by simp; omega, ?_⟩
  refine compW_fr (g := fun p => p.2 * p.1 ^ 0) ?_ ?_
  · intro p hp K hK
    unfold crD
    walk_at "wp"
    rw [Rat.pow_zero, Rat.mul_one] at hK
    exact hK
  walk_at "wp"
  refine ⟨⟨by omega, by omega⟩, ?_⟩
  refine forW_rng (fun i env s' => ∃ v4 v5 v6, env = [.val (.lst (c.map crD)), .val (.int m), .own (((List.range i).map (sumAt c)).map fr), .own ((c.map fun p => p.2 * p.1 ^ i).map fr), v4, v5, v6, .no, .no, .no] ∧ s' = s) ?_ ⟨_, _, _, rfl, rfl⟩ ?_
  · rintro i hi env s' ⟨v4, v5, v6, rfl, rfl⟩ KN hk
    walk_at "wp"
    have hj2 : i * n ≤ m * n := Nat.mul_le_mul_right _ (by omega)
    refine ⟨by show 2 ≤ sizeLine; decide, ?_⟩
    have ht : ∀ q ∈ (c.map fun p => p.2 * p.1 ^ i), Sz (w + 1 + m * n) q := by
      intro q hq'
      obtain ⟨p, hp, rfl⟩ := List.mem_map.mp hq'
      exact (sz_mul (hq p hp).2 (sz_pow (hq p hp).1 i)).mono (by omega)
    have hs : sumQ (c.map fun p => p.2 * p.1 ^ i) = sumAt c i := rfl
    generalize hL : (c.map fun p => p.2 * p.1 ^ i) = L at ht hs
    have hLl : L.length = c.length := by rw [← hL]; simp
    refine forW_inv (fun j env s'' => ∃ v, env = [.val (.lst (c.map crD)), .val (.int m), .own (((List.range i).map (sumAt c)).map fr), .val (.lst (L.map fr)), .val (.int (i : Nat)), .val (fr (sumQ (L.take j))), v, .no, .no, .no] ∧ s'' = s' ∧ Sz (1 + j * (w + 1 + m * n + 1)) (sumQ (L.take j))) ?_ ⟨v6, rfl, rfl, by simpa [sumQ] using sz_zero⟩ ?_
    · rintro j hj env s' ⟨v, rfl, rfl, hs⟩ KN2 hk2
      walk_at "wp"
      have h1 := ht _ (List.getElem_mem hj)
      have h2 : (j + 1) * (w + 1 + m * n + 1) ≤ c.length * (w + 1 + m * n + 1) := Nat.mul_le_mul_right _ (by omega)
      rw [Nat.add_mul] at h2 hz
      refine _law_plus_spec hs h1 (by omega) ?_
      walk_at "wp"
      refine hk2 _ _ ⟨.val (fr L[j]), ?_, rfl, ?_⟩
      · rw [sumQ_take hj]
        rfl
      · rw [sumQ_take hj]
        exact (sz_add hs h1).mono (by rw [Nat.add_mul]; omega)
    · rintro env s' ⟨v, rfl, rfl, -⟩
      rw [List.take_length, hs]
      walk_at "wp"
      refine ⟨by simp; omega, by simp; omega, by simp [intL]; omega, ?_⟩
      refine compW_rfr (g := fun j => (L.getD j 0) * (c.getD j (0, 0)).1) ?_ ?_
      · intro j hj K hK
        simp only [List.length_map, Int.toNat_natCast] at hj
        have hjL : j < L.length := by omega
        walk_at "wp"
        refine ⟨fr L[j], ?_, crD c[j], ?_, ?_⟩
        · rw [atI_nat' (by simpa using hjL), List.getElem?_map, List.getElem?_eq_getElem hjL]
          rfl
        · rw [atI_nat' (by simpa using hj), List.getElem?_map, List.getElem?_eq_getElem hj]
          rfl
        unfold crD
        walk_at "wp"
        have h1 := ht _ (List.getElem_mem hjL)
        have h2 := (hq _ (List.getElem_mem hj)).1
        have h3 : 0 < m := by omega
        have h4 : (i + 1) * n ≤ m * n := Nat.mul_le_mul_right _ (by omega)
        rw [Nat.add_mul] at h4
        have h5 : w + 1 + m * n + 1 + n ≤ 60000000 := by
          have : 2 * (w + 1 + m * n + 1) ≤ (c.length + 1) * (w + 1 + m * n + 1) := Nat.mul_le_mul_right _ (by omega)
          omega
        refine _law_times_spec h1 h2 (by omega) ?_
        walk_at "wp"
        rw [getD_el hjL, getD_el hj] at hK
        exact hK
      · walk_at "wp"
        refine hk _ _ ⟨.val (.int (i : Nat)), .val (fr (sumAt c i)), v, ?_, rfl⟩
        have e1 : ((List.range (c.map crD).length).map fun j => L.getD j 0 * (c.getD j (0, 0)).1) = c.map fun p => p.2 * p.1 ^ (i + 1) := by
          refine List.ext_getElem (by simp) fun j h1 h2 => ?_
          have hj : j < c.length := by simpa using h2
          have hjL : j < L.length := by omega
          simp only [List.getElem_map, List.getElem_range]
          rw [getD_el hjL, getD_el hj, Rat.pow_succ]
          subst hL
          simp only [List.getElem_map]
          grind
        rw [List.range_succ, List.map_append, List.map_append]
        simp only [Int.toNat_natCast, List.map_cons, List.map_nil]
        rw [e1]
        rfl
  · rintro env s' ⟨v4, v5, v6, rfl, rfl⟩
    walk_at "wp"
    exact h
theorem _law_case_spec {x : Int} {b : Bool} {a : Addr} {k xq} (hx : StOk x b) (h : ∀ c N t x', Crowd 5 c → c ≠ [] → 1 ≤ N → N ≤ 11 → Sz 8 t → StOk x' b → k (.val (.tup [.lst (c.map crD), .lst (((List.range N).map (sumAt c)).map fr), fr t])) (some ⟨x', b, a⟩)) : F__law_case [.st a] (some ⟨x, b, a⟩) k xq := by
  have sb := size_big
  refine ⟨rfl, ?_⟩
  unfold BF__law_case
  walk_at "wz"
  refine _law_spot_crowd_spec hx fun c x1 hc h0 h1 => ?_
  walk_at "wz"
  refine _law_small_spec h1 fun q x2 hq h2 => ?_
  walk_at "wz"
  refine _law_take_spec h2 (by decide) (by decide) fun t x3 t0 t1 h3 => ?_
  walk_at "wz"
  have hcs : ∀ p ∈ c, Six 216 p.1 ∧ Six 36 p.2 := fun p hp => ⟨(hc.2.1 p hp).1.mono (by omega), (hc.2.1 p hp).2.1⟩
  have hl := hc.1
  have hl0 : 0 < c.length := List.length_pos_iff.mpr h0
  have sums : ∀ (m : Nat), m ≤ 10 → (c.length + 1) * (6 + 1 + (m + 1) * 8 + 1) ≤ 60000000 := fun m hm => by
    have : (c.length + 1) * (6 + 1 + (m + 1) * 8 + 1) ≤ 6 * (6 + 1 + 11 * 8 + 1) := Nat.mul_le_mul (by omega) (by omega)
    omega
  have hqs : ∀ p ∈ c, Sz 8 p.1 ∧ Sz 6 p.2 := fun p hp => ⟨(hcs p hp).1.sz (by decide) (by decide), (hcs p hp).2.sz (by decide) (by decide)⟩
  by_cases ht : t = 0
  · rw [if_pos ht]
    walk_at "wz"
    rw [List.length_map]
    refine _law_take_spec h3 (by omega) (by omega) fun j x4 j0 j1 h4 => ?_
    obtain ⟨j, rfl⟩ := Int.eq_ofNat_of_zero_le j0
    walk_at "wz"
    have hj : j < c.length := by omega
    have ea : atI (c.map crD) (j : Int) = some (.tup [fr c[j].1, fr c[j].2]) := by
      rw [atI_nat' (by simpa using hj), List.getElem?_map, List.getElem?_eq_getElem hj]
      rfl
    refine ⟨_, ea, ?_⟩
    have hs := hqs _ (List.getElem_mem hj)
    generalize c[j] = p at *
    walk_at "wz"
    refine _law_take_spec h4 (by decide) (by decide) fun m x5 m0 m1 h5 => ?_
    obtain ⟨m, rfl⟩ := Int.eq_ofNat_of_zero_le m0
    walk_at "wz"
    rw [show (1 : Int) + (m : Int) = ((m + 1 : Nat) : Int) by omega]
    refine _law_crowd_sums_spec (n := 8) (w := 6) hqs (sums m (by omega)) (by omega) (by omega) ?_
    walk_at "wz"
    exact ⟨by omega, h c (m + 1) p.1 x5 hc h0 (by omega) (by omega) hs.1 h5⟩
  · rw [if_neg ht]
    walk_at "wz"
    refine _law_take_spec h3 (by decide) (by decide) fun m x5 m0 m1 h5 => ?_
    obtain ⟨m, rfl⟩ := Int.eq_ofNat_of_zero_le m0
    walk_at "wz"
    rw [show (1 : Int) + (m : Int) = ((m + 1 : Nat) : Int) by omega]
    refine _law_crowd_sums_spec (n := 8) (w := 6) hqs (sums m (by omega)) (by omega) (by omega) ?_
    walk_at "wz"
    exact ⟨by omega, h c (m + 1) q x5 hc h0 (by omega) (by omega) ((hq.sz (n := 6) (by decide) (by decide)).mono (by decide)) h5⟩
theorem map_set_fr (S : List Rat) (i : Nat) (q : Rat) : (S.set i q).map fr = (S.map fr).set i (.tup [.int q.num, .int q.den]) := by
  rw [List.map_set]
  rfl
theorem _law_sums_spec {x : Int} {b : Bool} {a : Addr} {k xq} (hx : StOk x b) (h : ∀ S x', SumsOk S → StOk x' b → k (.own (S.map fr)) (some ⟨x', b, a⟩)) : F__law_sums [.st a] (some ⟨x, b, a⟩) k xq := by
  have sb := size_big
  refine ⟨rfl, ?_⟩
  unfold BF__law_sums
  walk_at "wq"
  refine _law_take_spec hx (by decide) (by decide) fun m x1 m0 m1 h1 => ?_
  obtain ⟨m, rfl⟩ := Int.eq_ofNat_of_zero_le m0
  walk_at "wq"
  refine _law_take_spec h1 (by decide) (by decide) fun w x2 w0 w1 h2 => ?_
  walk_at "wq"
  have em : (1 : Int) + (m : Nat) = ((m + 1 : Nat) : Int) := by omega
  rw [em]
  by_cases hw0 : w = 0
  · rw [if_pos hw0]
    refine ⟨⟨by omega, by omega⟩, by simp [intL]; omega, ?_⟩
    unfold intL
    refine compW_invE (fun acc env s => ∃ l x, acc = l.map fr ∧ env = [.val (.st a), .val (.int ((m + 1 : Nat) : Int)), .val (.int w), .no, .no, .no] ∧ s = some ⟨x, b, a⟩ ∧ StOk x b ∧ ∀ q ∈ l, Six 36 q) _ _ _ _ ?_ ⟨[], x2, rfl, rfl, rfl, h2, by simp⟩ ?_
    · rintro j hj acc env s ⟨l, x, rfl, rfl, rfl, hx, hl⟩ K hK
      walk_at "wq"
      refine _law_small_spec hx fun q x2 hq h2 => ?_
      walk_at "wq"
      exact hK _ _ _ ⟨l ++ [q], x2, by simp [fr], rfl, rfl, h2, fun p hp => by
        rcases List.mem_append.mp hp with z | z
        · exact hl p z
        · simp at z
          exact z ▸ hq⟩
    · rintro acc env s ⟨l, x3, rfl, rfl, rfl, h3, hl⟩ hlen
      have hll : l.length = m + 1 := by simpa using hlen
      walk_at "wq"
      exact h l x3 ⟨by omega, by omega, fun q hq => (six_gr11 (hl q hq)).mono (by decide)⟩ h3
  rw [if_neg hw0]
  walk_at "wq"
  by_cases hw1 : w = 1
  · rw [if_pos hw1]
    refine ⟨by decide, by decide, by simp; omega, ?_⟩
    refine _law_small_spec h2 fun q x3 hq h3 => ?_
    walk_at "wq"
    have e1 : (((m + 1 : Nat) : Int) - 1).toNat = m := by omega
    rw [e1]
    refine ⟨by decide, by simp; omega, ?_⟩
    have e2 : (List.replicate m [D.tup [.int 0, .int 1]]).flatten ++ [D.tup [.int q.num, .int q.den]] = (List.replicate m (0 : Rat) ++ [q]).map fr := by
      rw [List.map_append, List.map_replicate]
      congr 1
      clear hw1 m0 m1 em e1
      induction m with
      | zero => rfl
      | succ m ih => rw [List.replicate_succ, List.flatten_cons, List.replicate_succ, ih]; rfl
    rw [e2]
    refine h _ x3 ⟨by simp, by simp; omega, fun p hp => ?_⟩ h3
    rcases List.mem_append.mp hp with z | z
    · rw [(List.mem_replicate.mp z).2]
      exact gr_zero _ _
    · simp at z
      subst z
      exact (six_gr11 hq).mono (by decide)
  rw [if_neg hw1]
  walk_at "wq"
  refine ⟨by decide, ?_⟩
  refine _law_take_spec h2 (by decide) (by decide) fun t x3 t0 t1 h3 => ?_
  walk_at "wq"
  have ht : ∃ u : Nat, u ≤ 5 ∧ atI [D.int 5, D.int 5, D.int 5, D.int 2, D.int 3] t = some (.int (u : Nat)) := by
    have : t = 0 ∨ t = 1 ∨ t = 2 ∨ t = 3 ∨ t = 4 := by omega
    rcases this with rfl | rfl | rfl | rfl | rfl
    · exact ⟨5, by decide, rfl⟩
    · exact ⟨5, by decide, rfl⟩
    · exact ⟨5, by decide, rfl⟩
    · exact ⟨2, by decide, rfl⟩
    · exact ⟨3, by decide, rfl⟩
  obtain ⟨u, hu, eu⟩ := ht
  refine ⟨_, eu, ?_⟩
  walk_at "wq"
  refine _law_crowd_spec h3 (by omega) fun c x4 hc h4 => ?_
  walk_at "wq"
  have hcl : c.length ≤ 5 := Nat.le_trans hc.1 hu
  have hcs : ∀ p ∈ c, Six 216 p.1 ∧ Six 36 p.2 := fun p hp => ⟨(hc.2.1 p hp).1.mono (by omega), (hc.2.1 p hp).2.1⟩
  have hz : (c.length + 1) * (6 + 1 + (m + 1) * 8 + 1) ≤ 60000000 := by
    have : (c.length + 1) * (6 + 1 + (m + 1) * 8 + 1) ≤ 6 * (6 + 1 + 11 * 8 + 1) := Nat.mul_le_mul (by omega) (by omega)
    omega
  refine _law_crowd_sums_spec (n := 8) (w := 6) (fun p hp => ⟨(hcs p hp).1.sz (by decide) (by decide), (hcs p hp).2.sz (by decide) (by decide)⟩) hz (by omega) (by omega) ?_
  walk_at "wq"
  have hS : ∀ q ∈ (List.range (m + 1)).map (sumAt c), Gr 11 (2 ^ 86) q := fun q hq => by
    obtain ⟨j, hj, rfl⟩ := List.mem_map.mp hq
    exact sumAt_gr hcl hcs (by have := List.mem_range.mp hj; omega)
  have hSl : ((List.range (m + 1)).map (sumAt c)).length = m + 1 := by simp
  generalize (List.range (m + 1)).map (sumAt c) = S at hS hSl
  have hso : SumsOk S := ⟨by omega, by omega, fun q hq => (hS q hq).mono (by decide)⟩
  split
  · refine _law_take_spec h4 (by omega) (by omega) fun i x5 i0 i1 h5 => ?_
    obtain ⟨i, rfl⟩ := Int.eq_ofNat_of_zero_le i0
    walk_at "wq"
    have hi : i < S.length := by omega
    refine ⟨_, at_frs hi, ?_⟩
    refine _law_small_spec h5 fun q x6 hq h6 => ?_
    walk_at "wq"
    refine ⟨by decide, by decide, by decide, ?_⟩
    refine _law_take_spec h6 (by decide) (by decide) fun v x7 v0 v1 h7 => ?_
    walk_at "wq"
    have hv : ∃ p : Rat, Six 36 p ∧ atI [D.tup [.int q.num, .int q.den], .tup [.int 1, .int 1], .tup [.int (-1), .int 1]] v = some (fr p) := by
      have : v = 0 ∨ v = 1 ∨ v = 2 := by omega
      rcases this with rfl | rfl | rfl
      · exact ⟨q, hq, rfl⟩
      · exact ⟨1, ⟨6, by decide, by decide +kernel⟩, rfl⟩
      · exact ⟨-1, ⟨-6, by decide, by decide +kernel⟩, rfl⟩
    obtain ⟨p, hp, ep⟩ := hv
    refine ⟨_, ep, ?_⟩
    walk_at "wq"
    refine _law_plus_spec (n := 91) (m := 6) (hso.sz i) (hp.sz (by decide) (by decide)) (by decide) ?_
    walk_at "wq"
    refine ⟨i, ?_, ?_⟩
    · unfold ixN
      rw [if_pos (by omega), if_pos (by rw [List.length_map]; omega)]
      exact congrArg some (by omega)
    rw [← map_set_fr]
    refine h _ x7 ⟨by rw [List.length_set]; omega, by rw [List.length_set]; omega, fun r hr => ?_⟩ h7
    rcases List.mem_or_eq_of_mem_set hr with z | z
    · exact (hS r z).mono (by decide)
    · subst z
      exact ((gr_getD hS i).add (six_gr11 hp)).mono (by decide)
  · walk_at "wq"
    exact h S x4 hso h4
def wtT (t : Rat) : List (Rat × Rat) → Rat
  | [] => 0
  | p :: c => if p.1 = t then p.2 else wtT t c
theorem wtT_sz {t : Rat} {n : Nat} (hn : 1 ≤ n) : ∀ {c : List (Rat × Rat)}, (∀ p ∈ c, Sz n p.2) → Sz n (wtT t c)
  | [], _ => sz_zero.mono hn
  | p :: c, h => by
    unfold wtT
    split
    · exact h p (List.mem_cons_self ..)
    · exact wtT_sz hn fun q hq => h q (List.mem_cons_of_mem _ hq)
theorem wtT_drop {t : Rat} {c : List (Rat × Rat)} : ∀ i, (∀ j, j < i → ∀ p, c[j]? = some p → p.1 ≠ t) → wtT t c = wtT t (c.drop i)
  | 0, _ => by rw [List.drop_zero]
  | i + 1, h => by
    rw [wtT_drop i fun j hj => h j (by omega)]
    cases e : c.drop i with
    | nil =>
      have : c.drop (i + 1) = [] := by
        rw [List.drop_eq_nil_iff] at e ⊢
        omega
      rw [this]
    | cons p r =>
      have hi : c[i]? = some p := by
        have := congrArg (fun l => l[0]?) e
        simpa using this
      have h1 := h i (by omega) p hi
      have : c.drop (i + 1) = r := by rw [← List.drop_drop, e]; rfl
      rw [this, wtT, if_neg h1]
theorem _law_weight_at_spec {c : List (Rat × Rat)} {t : Rat} {s : DL.S} {k xq} (hl : c.length < 1000) (h : k (.val (fr (wtT t c))) s) : F__law_weight_at [.lst (c.map crD), fr t] s k xq := by
  have sb := size_big
  refine ⟨rfl, ?_⟩
  unfold BF__law_weight_at
  walk_at "wz"
  refine forW_inv (α := Rat × Rat) (f := crD) (fun i env s' => ∃ v2 v3, env = [.val (.lst (c.map crD)), .val (fr t), v2, v3] ∧ s' = s ∧ ∀ j, j < i → ∀ p, c[j]? = some p → p.1 ≠ t) ?_ ⟨_, _, rfl, rfl, fun j hj => by omega⟩ ?_
  · rintro i hi env s' ⟨v2, v3, rfl, rfl, hne⟩ KN hk
    have e0 := wtT_drop i hne
    rw [List.drop_eq_getElem_cons hi] at e0
    have e1 : crD c[i] = .tup [fr c[i].1, fr c[i].2] := rfl
    have e2 : c[i]? = some c[i] := List.getElem?_eq_getElem hi
    rw [e1]
    generalize c[i] = p at *
    walk_at "wz"
    refine ⟨⟨(nice_fr _).eqOk (by decide), (nice_fr _).eqOk (by decide)⟩, ?_⟩
    have e3 : (D.tup [.int p.1.num, .int p.1.den]).eqv (.tup [.int t.num, .int t.den]) = decide (p.1 = t) := eqv_fr _ t
    rw [e3]
    by_cases z : p.1 = t
    · rw [if_pos (decide_eq_true z)]
      walk_at "wz"
      rw [e0, wtT, if_pos z] at h
      exact h
    · rw [if_neg (by rw [decide_eq_false z]; decide)]
      walk_at "wz"
      refine hk _ _ ⟨_, _, rfl, rfl, fun j hj q hq => ?_⟩
      by_cases e : j = i
      · subst e
        rw [e2] at hq
        cases hq
        exact z
      · exact hne j (by omega) q hq
  · rintro env s' ⟨v2, v3, rfl, rfl, hne⟩
    have e0 := wtT_drop c.length hne
    rw [List.drop_length] at e0
    rw [e0] at h
    walk_at "wz"
    exact ⟨by decide, h⟩
theorem _law_right_spec {S : List Rat} {t w : Rat} {s : DL.S} {k} (hS : SumsOk S) (ht : Sz 8 t) (hw : Sz 8 w) (hle : FlkB S → ∀ f : List Rat, 2 * f.length ≤ S.length + 1 → evP f t = 1 → w ≤ bil (sF S) (fun j => f.getD j 0) (fun j => f.getD j 0)) (h : k (.val (.bl true)) s) : F__law_right [.lst (S.map fr), fr t, fr w] s k xq0 := by
  have sb := size_big
  have hB := SumsOk.stB hS
  have hl := hB.l2
  have N := nice_frl (l := S) (by omega)
  have okN : EqOk (.str "none") := okSt "none" (by decide +kernel)
  have okK : EqOk (.str (kindS S)) := by
    unfold kindS
    split
    · exact okSt "open" (by decide +kernel)
    · split
      · exact okSt "tight" (by decide +kernel)
      · exact okN
  obtain ⟨n1, n2, n3, n4, n5⟩ := stN_G hB
  have hend : ∀ n, 1 ≤ n → (n = stN S ∧ 0 < stH (sF S) (stN S - 1) ∨ n + 1 = stN S ∧ stH (sF S) n = 0 ∧ evP (stL S n) t = 0) → n ≤ stN S ∧ ∀ k, k < n → 0 < stH (sF S) k := fun n _ hn => ⟨by omega, fun k hk => by
    rcases hn with ⟨e, h⟩ | ⟨e, _, _⟩
    · by_cases e2 : k + 1 < stN S
      · exact n3 k e2
      · have : k = stN S - 1 := by omega
        rw [this]
        exact h
    · exact n3 k (by omega)⟩
  refine ⟨rfl, ?_⟩
  unfold BF__law_right
  walk_at "wz"
  refine _law_kind_spec hB (by decide) ?_
  walk_at "wz"
  refine ⟨⟨okK, okN⟩, ?_⟩
  rw [eqvSt]
  by_cases hF : FlkB S
  · rw [if_neg (by rw [decide_eq_false ((flk_kind hB).mp hF)]; decide)]
    walk_at "wz"
    have two : ∀ n n' : Nat, (n = stN S ∧ 0 < stH (sF S) (stN S - 1) ∨ n + 1 = stN S ∧ stH (sF S) n = 0 ∧ evP (stL S n) t = 0) → (n' = stN S ∧ 0 < stH (sF S) (stN S - 1) ∨ n' + 1 = stN S ∧ stH (sF S) n' = 0 ∧ evP (stL S n') t = 0) → n = n' := fun n n' h1 h2 => by
      have e : ∀ n, n + 1 = stN S → stH (sF S) n = 0 → ¬ 0 < stH (sF S) (stN S - 1) := fun n e z w => by
        rw [show stN S - 1 = n by omega, z] at w
        exact absurd w (by decide)
      rcases h1 with ⟨a, b⟩ | ⟨a, b, _⟩ <;> rcases h2 with ⟨c, d⟩ | ⟨c, d, _⟩
      · omega
      · exact absurd b (e n' c d)
      · exact absurd d (e n a b)
      · omega
    refine least_square_spec hS ht (fun z => absurd hF z) (fun _ hz hv => ?_) (fun _ n hn1 hn => ?_)
    case' refine_1 =>
      have L := ls_okA hS ht hz hv
      have hleast : ∀ {k' : Sl → DL.S → Prop}, k' (.val (fr 0)) s → F__law_least [.lst (S.map fr), fr t] s k' xq0 := fun {k'} hk' => _law_least_spec hS ht hF (fun _ _ => hk') fun n h1 h2 => by
        exfalso
        rcases h2 with ⟨_, h⟩ | ⟨e, _, h⟩
        · rw [hz] at h; exact absurd h (by decide)
        · rw [show stN S - 1 = n by omega] at hv
          exact hv h
      generalize mulC (stL S (stN S - 1)) (1 / evP (stL S (stN S - 1)) t) = f at *
      generalize (0 : Rat) = q at L hleast ⊢
    case' refine_2 =>
      obtain ⟨hn6, hp⟩ := hend n hn1 hn
      have L := ls_okB hS ht hn1 hn6 hp
      have hleast : ∀ {k' : Sl → DL.S → Prop}, k' (.val (fr (1 / lsK S t n))) s → F__law_least [.lst (S.map fr), fr t] s k' xq0 := fun {k'} hk' => _law_least_spec hS ht hF (fun hz hv => by
        exfalso
        rcases hn with ⟨_, h⟩ | ⟨e, _, h⟩
        · rw [hz] at h; exact absurd h (by decide)
        · rw [show stN S - 1 = n by omega] at hv
          exact hv h) fun n' _ h2 => by rw [two n' n h2 hn]; exact hk'
      generalize mulC (lsL S t n) (1 / lsK S t n) = f at *
      generalize 1 / lsK S t n = q at L hleast ⊢
    all_goals
      obtain ⟨lc, ll, le, lb, lzf, lzq⟩ := L
      have hwq : w ≤ q := by rw [← lb]; exact hle hF f ll le
      have t1 : isTy (.tup [fr q, .lst (f.map fr)]) "tuple" = true := by show tyB "tuple" "tuple" = true; decide
      have t1' : isTy (.tup [.tup [.int q.num, .int q.den], .lst (f.map fr)]) "tuple" = true := t1
      walk_at "wz"
      refine ⟨trivial, ?_⟩
      rw [t1', if_neg (by decide)]
      walk_at "wz"
      rw [if_neg (by decide)]
      walk_at "wz"
      have hpl : PlL (.lst (f.map fr)) := by
        refine ⟨⟨trivial, fun ds h => by cases h⟩, fun ds h2 => ?_⟩
        injection h2 with h2
        subst h2
        refine ⟨by rw [List.length_map]; omega, fun e he => ?_⟩
        obtain ⟨q, _, rfl⟩ := List.mem_map.mp he
        exact pl_fr q
      refine _law_is_polynomial_spec hpl ?_
      rw [(isPoly_fr f).mpr lc]
      walk_at "wz"
      refine ⟨⟨N.eqOk (by decide), N.eqOk (by decide)⟩, ?_⟩
      rw [N.eqv]
      walk_at "wz"
      refine hleast ?_
      walk_at "wz"
      refine _law_same_spec ((nice_fr q).mono (by decide)) ?_
      walk_at "wz"
      refine _law_less_spec lzq hw (by decide) ?_
      rw [decide_eq_false (show ¬ q < w by grind)]
      walk_at "wz"
      simp only [List.length_map]
      refine ⟨mulOk (n := 2) (m := 10) (by decide) (by omega) (by decide), ?_⟩
      rw [if_neg (by omega)]
      walk_at "wz"
      have hfl : f.length ≤ 6 := by omega
      refine _law_number_at_spec (cfS_mem lzf) ht (by have := Nat.mul_le_mul_right (62400 + 8 + 1) hfl; omega) ?_
      rw [le]
      walk_at "wz"
      refine ⟨by omega, ⟨(nice_fr 1).eqOk (by decide), (nice_fr 1).eqOk (by decide)⟩, ?_⟩
      have e3 : (D.tup [.int (1 : Rat).num, .int (1 : Rat).den]).eqv (.tup [.int 1, .int 1]) = decide ((1 : Rat) = 1) := eqv_fr 1 1
      rw [e3, if_neg (by simp)]
      walk_at "wz"
      have hle2 := mulP_len f f
      have hmz := mulP_szG lzf lzf
      have hmz' : CfS 748807 (mulP f f) := cfS_mono hmz (by have := Nat.mul_le_mul_right (62400 + 62400 + 1) hfl; omega)
      have m1 : (f.length + f.length + 1) * (62400 + 62400 + 1) ≤ 13 * (62400 + 62400 + 1) := Nat.mul_le_mul_right _ (by omega)
      have m2 : ((mulP f f).length + 1) * (748807 + 475 + 1) ≤ 12 * (748807 + 475 + 1) := Nat.mul_le_mul_right _ (by omega)
      refine _law_square_spec lzf lzf (Nat.le_trans (Nat.add_le_add_left m1 2) (by decide)) (by omega) (by omega) (by omega) hmz' hB.sz (Nat.le_trans m2 (by decide)) (by omega) ?_
      rw [dot_bil (by omega) (by omega), lb]
      walk_at "wz"
      have Nq := nice_fr q
      refine ⟨⟨Nq.eqOk (by decide), Nq.eqOk (by decide)⟩, ?_⟩
      have e4 : (D.tup [.int q.num, .int q.den]).eqv (.tup [.int q.num, .int q.den]) = true := Nq.eqv
      rw [e4]
      exact h
  · rw [if_pos (decide_eq_true (Classical.byContradiction fun z => hF ((flk_kind hB).mpr z)))]
    walk_at "wz"
    refine least_square_spec hS ht (fun _ => ?_) (fun z => absurd z hF) (fun z => absurd z hF)
    refine ⟨2, rfl, by decide, ⟨eqOk_one 2, eqOk_one 2⟩, ?_⟩
    rw [eqv_one]
    walk_at "wz"
    exact h
theorem powAdd2 (x : Rat) (i : Nat) : ∀ j, x ^ (i + j) = x ^ i * x ^ j
  | 0 => by rw [Nat.add_zero, Rat.pow_zero]; grind
  | j + 1 => by rw [← Nat.add_assoc, Rat.pow_succ, powAdd2 x i j, Rat.pow_succ]; grind
theorem sumAt_sg (c : List (Rat × Rat)) (k : Nat) : sumAt c k = sg (fun i => (c.getD i (0, 0)).2 * (c.getD i (0, 0)).1 ^ k) c.length := by
  unfold sumAt
  have e : c.map (fun p => p.2 * p.1 ^ k) = (List.range c.length).map fun i => (c.getD i (0, 0)).2 * (c.getD i (0, 0)).1 ^ k := by
    refine List.ext_getElem (by simp) fun i h1 h2 => ?_
    have hi : i < c.length := by simpa using h1
    simp [hi]
  rw [e, sg_sumQ]
theorem bil_crowd (c : List (Rat × Rat)) {f : List Rat} (hf : f.length ≤ 12) : bil (sumAt c) (fun j => f.getD j 0) (fun j => f.getD j 0) = sg (fun i => (c.getD i (0, 0)).2 * (evP f (c.getD i (0, 0)).1 * evP f (c.getD i (0, 0)).1)) c.length := by
  have h1 : ∀ i, ipx (sumAt c) (fun j => f.getD j 0) i = sg (fun l => (c.getD l (0, 0)).2 * (c.getD l (0, 0)).1 ^ i * evP f (c.getD l (0, 0)).1) c.length := fun i => by
    unfold ipx
    have e : (fun j => f.getD j 0 * sumAt c (i + j)) = fun j => f.getD j 0 * sg (fun l => (c.getD l (0, 0)).2 * (c.getD l (0, 0)).1 ^ (i + j)) c.length := by
      funext j
      rw [sumAt_sg]
    rw [e, sg_swap (a := fun j => f.getD j 0) (f := fun l j => (c.getD l (0, 0)).2 * (c.getD l (0, 0)).1 ^ (i + j))]
    refine sg_congr _ fun l _ => ?_
    rw [evP_vl _ f 12 hf]
    unfold vl
    rw [Rat.mul_comm, ← sg_mul]
    refine sg_congr _ fun j _ => ?_
    rw [powAdd2]
    grind
  unfold bil
  have e : (fun i => f.getD i 0 * ipx (sumAt c) (fun j => f.getD j 0) i) = fun i => f.getD i 0 * sg (fun l => (c.getD l (0, 0)).2 * (c.getD l (0, 0)).1 ^ i * evP f (c.getD l (0, 0)).1) c.length := by
    funext i
    rw [h1]
  rw [e, sg_swap (a := fun i => f.getD i 0) (f := fun l i => (c.getD l (0, 0)).2 * (c.getD l (0, 0)).1 ^ i * evP f (c.getD l (0, 0)).1)]
  refine sg_congr _ fun l _ => ?_
  have e2 : evP f (c.getD l (0, 0)).1 = sg (fun j => f.getD j 0 * (c.getD l (0, 0)).1 ^ j) 12 := evP_vl _ f 12 hf
  have e3 : sg (fun j => f.getD j 0 * ((c.getD l (0, 0)).2 * (c.getD l (0, 0)).1 ^ j * evP f (c.getD l (0, 0)).1)) 12 = sg (fun j => f.getD j 0 * (c.getD l (0, 0)).1 ^ j) 12 * ((c.getD l (0, 0)).2 * evP f (c.getD l (0, 0)).1) := by
    rw [← sg_mul]
    exact sg_congr _ fun j _ => by grind
  rw [e3, ← e2]
  grind
theorem wtT_le {t : Rat} {f : List Rat} (he : evP f t = 1) : ∀ {c : List (Rat × Rat)}, (∀ p ∈ c, 0 < p.2) → wtT t c ≤ sg (fun i => (c.getD i (0, 0)).2 * (evP f (c.getD i (0, 0)).1 * evP f (c.getD i (0, 0)).1)) c.length
  | [], _ => Rat.le_refl
  | p :: c, h => by
    have ih := wtT_le he (c := c) fun q hq => h q (List.mem_cons_of_mem _ hq)
    have hp := h p (List.mem_cons_self ..)
    have sq : ∀ x : Rat, 0 ≤ x * x := fun x => by
      rcases Rat.le_total (a := 0) (b := x) with z | z
      · exact Rat.mul_nonneg z z
      · have := Rat.mul_nonneg (show 0 ≤ -x by grind) (show 0 ≤ -x by grind)
        grind
    rw [List.length_cons, sg_shift]
    have e0 : (p :: c).getD 0 (0, 0) = p := rfl
    have e1 : (fun i => ((p :: c).getD (i + 1) (0, 0)).2 * (evP f ((p :: c).getD (i + 1) (0, 0)).1 * evP f ((p :: c).getD (i + 1) (0, 0)).1)) = fun i => (c.getD i (0, 0)).2 * (evP f (c.getD i (0, 0)).1 * evP f (c.getD i (0, 0)).1) := rfl
    rw [e0, e1]
    have nn : 0 ≤ sg (fun i => (c.getD i (0, 0)).2 * (evP f (c.getD i (0, 0)).1 * evP f (c.getD i (0, 0)).1)) c.length := sg_nn _ fun i hi => by
      have : c.getD i (0, 0) ∈ c := by
        rw [getD_el hi]
        exact List.getElem_mem hi
      have h2 := h _ (List.mem_cons_of_mem _ this)
      exact Rat.mul_nonneg (by grind) (sq _)
    have np : 0 ≤ p.2 * (evP f p.1 * evP f p.1) := Rat.mul_nonneg (by grind) (sq _)
    unfold wtT
    split
    · rename_i z
      rw [z, he]
      grind
    · grind
theorem bil_first_sums {c : List (Rat × Rat)} {N : Nat} {f : List Rat} (hf : 2 * f.length ≤ N + 1) : bil (sF ((List.range N).map (sumAt c))) (fun j => f.getD j 0) (fun j => f.getD j 0) = bil (sumAt c) (fun j => f.getD j 0) (fun j => f.getD j 0) :=
  bil_first (N := N) (dg_list f) (dg_list f) (by omega) fun k hk => by
    show ((List.range N).map (sumAt c)).getD k 0 = _
    rw [getD_range, if_pos hk]
theorem law_true (ns : List Int) (hl : ns.length ≤ 63) (hb : ∀ z ∈ ns, PySem.Builtin.Int.intBits z ≤ 1048576) : Mi.F_law [.scr ns] none (fun r _ => r.d = .bl true) (fun _ _ => False) := by
  refine ⟨rfl, ?_⟩
  unfold BF_law
  walk_at "wz"
  generalize hn : (if (if (5 : Int) < ns.length then (5 : Int) else ns.length) > 1 then (if (5 : Int) < ns.length then (5 : Int) else ns.length) else 1) = n
  have h1 : 1 ≤ n ∧ n ≤ 5 := by split at hn <;> split at hn <;> omega
  refine ⟨⟨by omega, by omega⟩, ?_⟩
  have sb := size_big
  have zle : ∀ {S : List Rat} {t : Rat}, SumsOk S → FlkB S → ∀ f : List Rat, 2 * f.length ≤ S.length + 1 → evP f t = 1 → 0 ≤ bil (sF S) (fun j => f.getD j 0) (fun j => f.getD j 0) := fun hS hF f hf _ => (flk_psd (SumsOk.stB hS) hF hf).1
  refine forW_rng (fun i env s => ∃ v1 v2 v3 v4 v5, env = [.val (.scr ns), v1, v2, v3, v4, v5] ∧ s = none) ?_ ⟨_, _, _, _, _, rfl, rfl⟩ ?_
  · rintro i hi env s ⟨v1, v2, v3, v4, v5, rfl, rfl⟩ KN hk
    walk_at "wz"
    refine _law_state_spec hb fun x b hx => ?_
    walk_at "wz"
    intro a
    refine _law_case_spec hx fun c N t x1 hc h0 hN1 hN2 ht hx1 => ⟨x1, b, rfl, ?_⟩
    walk_at "wz"
    have hcs : ∀ p ∈ c, Six 216 p.1 ∧ Six 36 p.2 := fun p hp => ⟨(hc.2.1 p hp).1.mono (by omega), (hc.2.1 p hp).2.1⟩
    have hcl := hc.1
    have hSo : SumsOk ((List.range N).map (sumAt c)) := ⟨by simp; omega, by simp; omega, fun q hq => by
      obtain ⟨j, hj, rfl⟩ := List.mem_map.mp hq
      exact (sumAt_gr hcl hcs (by have := List.mem_range.mp hj; omega)).mono (by decide)⟩
    refine _law_weight_at_spec (by omega) ?_
    walk_at "wz"
    have hwz : Sz 8 (wtT t c) := wtT_sz (by decide) fun p hp => ((hcs p hp).2.sz (n := 6) (by decide) (by decide)).mono (by decide)
    refine _law_right_spec hSo ht hwz (fun _ f hf he => ?_) ?_
    · rw [List.length_map, List.length_range] at hf
      rw [bil_first_sums hf, bil_crowd c (by omega)]
      exact wtT_le he fun p hp => (hc.2.1 p hp).2.2
    walk_at "wz"
    intro a
    refine _law_sums_spec hx1 fun S2 x2 hS2 hx2 => ⟨x2, b, rfl, ?_⟩
    walk_at "wz"
    refine ⟨by omega, ?_⟩
    refine _law_right_spec (w := 0) hS2 ht (sz_zero.mono (by decide)) (fun hF => zle (t := t) hS2 hF) ?_
    walk_at "wz"
    refine ⟨by omega, by omega, ?_⟩
    walk_at "wz"
    intro a
    refine _law_take_spec hx2 (by decide) (by decide) fun m x3 m0 m1 hx3 => ⟨x3, b, rfl, ?_⟩
    obtain ⟨m, rfl⟩ := Int.eq_ofNat_of_zero_le m0
    walk_at "wz"
    rw [show ((1 : Int) + (m : Int)).toNat = m + 1 by omega, flat_zero]
    refine ⟨⟨by omega, by omega, by omega⟩, by omega, ?_⟩
    have hZ : SumsOk (List.replicate (m + 1) (0 : Rat)) := ⟨by simp, by simp; omega, fun q hq => by
      rw [(List.mem_replicate.mp hq).2]
      exact gr_zero _ _⟩
    refine _law_right_spec (w := 0) hZ ht (sz_zero.mono (by decide)) (fun hF => zle (t := t) hZ hF) ?_
    walk_at "wz"
    exact hk _ _ ⟨_, _, _, _, _, rfl, rfl⟩
  · rintro env s ⟨v1, v2, v3, v4, v5, rfl, rfl⟩
    walk_at "wz"
end Ma
set_option Elab.async false
set_option linter.all false
set_option maxRecDepth 100000
set_option maxHeartbeats 0
namespace En
open PySem PySem.Spec PyProof.Rows L2 DL
theorem facts {w : World} {mg : Str → Option Value} {fa : Addr} {h : Heap} (X : hk.says w h) (G : h.Ns mainGlobals mg) (hfa : mg ("law" : Str) = some (.ref fa)) :
    ∃ K : PySem.W.Frag, K.In h ∧ LamX.LawAtS PySem.Challenge.rw_momentwright_k63_least_squares_at_a_spot w K (L2.CX (PySem.Challenge.rw_momentwright_k63_least_squares_at_a_spot).prog w) 46 63 "_law_script" mg fa h := by
  obtain ⟨K, KX, c⟩ := X
  have TX : Txt Wk.bk K mg := Txt.mk' KX G c
  obtain ⟨fd, FD⟩ := TX.fun_ 66 (d := ⟨("law", none), "law", "law", defArgs Wk.s_law, defBody Wk.s_law, defScope Wk.s_law, [], []⟩) rfl
  have e := hfa.symm.trans (TX.glo 66 "law" rfl)
  cases e
  refine ⟨K, KX, fd, Wk.bk.tf.map (He.cT K), spD K (tabT Wk.bk K) (He.ga K) Mi.F_law, fun p hp => ?_, fun p hp => ?_, fun p hp => ?_, ?_, fun H a ns hl hb hT hS => entry (fun p hp => ?_) hS (Ma.law_true ns hl hb), fun base hK hG hTB => ?_⟩
  · obtain ⟨q, hq, rfl⟩ := List.mem_map.mp hp
    exact c.empty q hq
  · obtain ⟨q, hq, rfl⟩ := List.mem_map.mp hp
    exact c.out q hq
  · obtain ⟨q, hq, rfl⟩ := List.mem_map.mp hp
    exact PySem.W.codeHd_of_K KX (c.hd q hq)
  · intro s u
    exact FunD.bindsA (ps := ["_law_script"]) FD (fun _ _ _ _ _ _ us hl => match us, hl with | [_], _ => rfl) s [u] rfl
  · obtain ⟨q, hq, rfl⟩ := List.mem_map.mp hp
    exact hT _ (List.mem_map.mpr ⟨q, hq, rfl⟩)
  · have TX' : Txt Wk.bk K mg := TX
    obtain ⟨fa', fd', h1, h2, h3, h4, oc', od', osl', lk'⟩ := (Wk.ok_law (P := (PySem.Challenge.rw_momentwright_k63_least_squares_at_a_spot).prog) (w := w) (base := base) (T := tabT Wk.bk K) TX' ⟨rfl, fun p hp => hTB _ (List.mem_map.mpr ⟨p, hp, rfl⟩), seerB_ok TX.seer hK hG rfl⟩).ex
    have e1 : fa' = He.ga K "law" := by
      have := h1.symm.trans (TX.glo 66 "law" rfl)
      cases this
      rfl
    subst e1
    obtain ⟨oc, od, dV, kV, doc, pm, an, cdv, ct, osl, e2, lk, hcd, _, _⟩ := FD.ex
    have e3 : fd' = fd := by
      have lk2 : K.lookup (He.ga K "law") = some ⟨oc, od, .func fd, osl⟩ := lk
      rw [lk2] at lk'
      have e4 := Option.some.inj lk'
      injection e4 with _ _ e5 _
      injection e5 with e6
      exact e6.symm
    subst e3
    exact h4
end En
open PySem PySem.W PySem.Calls PyProof.Rows
theorem PySem.Challenge.cw_momentwright_k63_least_squares_at_a_spot_holds : PySem.Challenge.rw_momentwright_k63_least_squares_at_a_spot.Holds :=
by
  w_on
  refine En.k0 ?_
  refine HandSHeadRun.head_any (r := OpenLaw.row PySem.Challenge.rw_momentwright_k63_least_squares_at_a_spot) (q := view (OpenLaw.row PySem.Challenge.rw_momentwright_k63_least_squares_at_a_spot).prog [89]) (H := En.hk) (ob := En.ob) (M := 24500) (loose := (En.loose0 ++ En.loose1 ++ En.loose2 ++ En.loose3)) (d := HandSHeadRun.topDef (OpenLaw.row PySem.Challenge.rw_momentwright_k63_least_squares_at_a_spot).prog 89) (kwd := []) En.ob_eq
    En.k1 En.k2 En.run En.k3 En.k4 En.k5 En.k6 En.k7 En.k8 En.k9 ?hw ?hc
  case hw => exact En.k11
  case hc =>
    refine LamX.walk_ofTsE (l := PySem.Challenge.rw_momentwright_k63_least_squares_at_a_spot) (n := 63) (k := 46) (x := "_law_script") (CX := fun w => L2.CX (PySem.Challenge.rw_momentwright_k63_least_squares_at_a_spot).prog w) rfl (by decide) (by kernel_rfl) ⟨rfl, by decide, by decide⟩ ?F (fun w H s e s' z => by
      obtain ⟨_, _, _, _, _, _, _, _, _, _, _, _, z⟩ := z
      exact z)
    intro w mg fa h Y G hmg0
    have hmg : mg ("law" : PySem.Str) = some (.ref fa) := by
      have e : (HandSHeadRun.topDef (OpenLaw.row PySem.Challenge.rw_momentwright_k63_least_squares_at_a_spot).prog 89).name = ("law" : PySem.Str) := En.k10
      rw [← e]
      exact hmg0
    exact En.facts Y G hmg
