import PyProof.Rows.All
import Wide.All
import OpenK.AllK
import Wide.FinOn
import KE.KStateDown
import HandS.Base
import HandS.Call
import HandS.List
import HandS.Dict
import HandS.More
import HandS.Ends
import HandS.Words
import HandS.Defaults
import HandS.Head0
import HandS.Head1
import HandS.Head2
import HandS.HeadEnd
import HandS.HeadHook1
import HandS.HeadHook2
import HandS.HeadHook3
import PySem.Challenge.RW_keptcoin_k13_whole_reading
import HandS.ForMost
import HandS.Style
import HandS.TupAny
import HandS.IsInst
import HandS.Codes
import KE.GoesMore
import KE.GoesEnum
import HandS.StrMore
set_option Elab.async false
set_option linter.all false
set_option maxRecDepth 100000
set_option maxHeartbeats 0
/-! THE HEAD: facts of the top by names, read by one run (printed by gen_head.py). -/
namespace K13
open PySem PySem.Spec PyProof.Rows L2
/-! ### the text by places -/
def top (i : Nat) : Stmt := PySem.Challenge.pw_keptcoin_k13_whole_reading.main.body.getD i (.Pass ⟨0, 0, 0, 0⟩)
def s_parts : Stmt := top 20
def s_depth : Stmt := top 21
def s_terms_of : Stmt := top 22
def s_run_of : Stmt := top 29
def s_number_at : Stmt := top 30
def s_word_at : Stmt := top 31
def s_token_at : Stmt := top 32
def s_tokens : Stmt := top 33
def s_bound_in : Stmt := top 35
def s_check_term : Stmt := top 36
def s_check_uses : Stmt := top 37
def s_is_name : Stmt := top 41
def s_R_init : Stmt := inClass (top 42) 0
def s_R_token : Stmt := inClass (top 42) 1
def s_R_place : Stmt := inClass (top 42) 2
def s_R_step : Stmt := inClass (top 42) 3
def s_R_take : Stmt := inClass (top 42) 4
def s_R_name : Stmt := inClass (top 42) 5
def s_R_enter : Stmt := inClass (top 42) 6
def s_R_leave : Stmt := inClass (top 42) 7
def s_R_comma : Stmt := inClass (top 42) 8
def s_R_series : Stmt := inClass (top 42) 9
def s_R_script : Stmt := inClass (top 42) 10
def s_R_definition : Stmt := inClass (top 42) 11
def s_R_expression : Stmt := inClass (top 42) 12
def s_R_binding : Stmt := inClass (top 42) 13
def s_R_choice : Stmt := inClass (top 42) 14
def s_R_folding : Stmt := inClass (top 42) 15
def s_R_noting : Stmt := inClass (top 42) 16
def s_R_operation : Stmt := inClass (top 42) 17
def s_R_unary : Stmt := inClass (top 42) 18
def s_R_simple : Stmt := inClass (top 42) 19
def s_R_named : Stmt := inClass (top 42) 20
def s_R_bracket : Stmt := inClass (top 42) 21
def s_read_script : Stmt := top 43
def s_level : Stmt := top 49
def s_print_part : Stmt := top 50
def s_print_binary : Stmt := top 51
def s_print_leaf : Stmt := top 52
def s_print_construct : Stmt := top 53
def s_print_term : Stmt := top 54
def s_print_script : Stmt := top 55
def s_law_numbers : Stmt := top 57
def s_law_draw : Stmt := top 58
def s_law_big : Stmt := top 59
def s_law_reserved : Stmt := top 60
def s_law_word : Stmt := top 61
def s_law_name : Stmt := top 62
def s_law_glued : Stmt := top 63
def s_law_text : Stmt := top 64
def s_law_equal : Stmt := top 65
def s_law_pick : Stmt := top 66
def s_law_atom : Stmt := top 67
def s_law_call : Stmt := top 68
def s_law_binder : Stmt := top 69
def s_law_make : Stmt := top 70
def s_law_world : Stmt := top 71
def s_law_drawn_script : Stmt := top 72
def s_law_tower : Stmt := top 73
def s_law_level : Stmt := top 74
def s_law_series : Stmt := top 75
def s_law_simple : Stmt := top 76
def s_law_bare : Stmt := top 77
def s_law_tokens : Stmt := top 78
def s_law_script_tokens : Stmt := top 79
def s_law_plain : Stmt := top 80
def s_law_joined : Stmt := top 81
def s_law_opened : Stmt := top 82
def s_law : Stmt := top 83
/-! ### a hook: HookT's facts and one more Bool -/
abbrev AlY : Type := He.AlT × Bool
def obsY (fa : List He.Fa) (fn : List He.DefD) (ts : List He.Tab) (ex : PySem.W.Frag → Bool) (K : PySem.W.Frag) : AlY := (He.obsT fa fn ts K, ex K)
def valY (fn : List He.DefD) (ts : List He.Tab) (w : World) : AlY := (He.valT fn ts w, true)
def obsYG (n : Nat) (fa : List He.Fa) (fn : List He.DefD) (ts : List He.Tab) (ex : PySem.W.Frag → Bool) (g : Addr → Option Obj) : AlY := obsY fa fn ts ex (He.frG g (He.asD g n))
structure SaysY (fa : List He.Fa) (fn : List He.DefD) (ts : List He.Tab) (ex : PySem.W.Frag → Bool) (w : World) (K : PySem.W.Frag) : Prop where
  t : He.SaysT fa fn ts w K
  more : ex K = true
theorem saysY_of {fa : List He.Fa} {fn : List He.DefD} {ts : List He.Tab} {ex : PySem.W.Frag → Bool} {w : World} {K : PySem.W.Frag} (e : obsY fa fn ts ex K = valY fn ts w) : SaysY fa fn ts ex w K :=
  ⟨congrArg (fun z : AlY => z.1) e, congrArg (fun z : AlY => z.2) e⟩
def hookY (n : Nat) (fa : List He.Fa) (fn : List He.DefD) (ts : List He.Tab) (ex : PySem.W.Frag → Bool) : PySem.W.Hook where
  α := AlY
  obs := fun s => obsYG n fa fn ts ex s.heap.get?
  val := fun w => valY fn ts w
  says := fun w h => ∃ K : PySem.W.Frag, K.In h ∧ SaysY fa fn ts ex w K
  of := fun _ _ e => ⟨_, He.frG_in, saysY_of e⟩
  keeps := fun _ _ _ ⟨K, hK, c⟩ k => ⟨K, PySem.W.Frag.In.keeps hK k, c⟩
theorem obsYG_eq {n : Nat} {fa : List He.Fa} {fn : List He.DefD} {ts : List He.Tab} {ex : PySem.W.Frag → Bool} {g : Addr → Option Obj} {s : Shared} (h : ∀ a, g a = s.heap.get? a) : obsYG n fa fn ts ex g = (hookY n fa fn ts ex).obs s := by
  have e : g = s.heap.get? := funext h
  rw [e] <;> rfl
/-! ### tables: a tuple at an address, a dict's keys and values -/
def tupAB (K : PySem.W.Frag) (a : Addr) (vs : List V) : Bool := match K.lookup a with
  | some ⟨.type c, _, .seq its _, _⟩ => decide (c = "tuple") && (decide (its.size ≤ sizeLine) && He.relAll vs its.toList)
  | _ => false
theorem tupAB_ok {K : PySem.W.Frag} {a : Addr} {vs : List V} (h : tupAB K a vs = true) (H : Hp) : SqT K H a vs := by
  unfold tupAB at h
  cases q : K.lookup a with
  | none =>
    rw [q] at h
    cases h
  | some o =>
    obtain ⟨oc, od, dt, osl⟩ := o
    rw [q] at h
    cases oc with
    | type c =>
      cases dt with
      | seq its n =>
        obtain ⟨h1, h2⟩ := He.ba (show (decide (c = "tuple") && (decide (its.size ≤ sizeLine) && He.relAll vs its.toList)) = true from h)
        obtain ⟨h3, h4⟩ := He.ba h2
        exact .inr ⟨_, its, n, q, congrArg Value.type (of_decide_eq_true h1), rfl, of_decide_eq_true h3, He.relAll_ok h4⟩
      | _ => cases h
    | _ => cases dt <;> cases h
/-- the i-th item of the tuple at a, if it is an object -/
def itemAt (K : PySem.W.Frag) (a : Addr) (i : Nat) : Addr := match K.lookup a with
  | some ⟨_, _, .seq its _, _⟩ => (match its.toList[i]? with
    | some (.ref b) => b
    | _ => 0)
  | _ => 0
/-- the entries of a dict: its keys with their ints -/
def kvOf (e : DictEntry) : Option (Str × Int) := match e.key, e.val with
  | .str x _, .int i _ => some (x, i)
  | _, _ => none
def dicB (K : PySem.W.Frag) (a : Addr) (kvs : List (Str × Int)) : Bool := match K.lookup a with
  | some ⟨_, _, .dict es _, _⟩ => decide (es.toList.map kvOf = kvs.map some)
  | _ => false
/-! ### the facts that are asked -/
def d_parts : He.DefD := ⟨("parts", none), "parts", "parts", defArgs s_parts, defBody s_parts, defScope s_parts, [], []⟩
def d_depth : He.DefD := ⟨("depth", none), "depth", "depth", defArgs s_depth, defBody s_depth, defScope s_depth, [], []⟩
def d_terms_of : He.DefD := ⟨("terms_of", none), "terms_of", "terms_of", defArgs s_terms_of, defBody s_terms_of, defScope s_terms_of, [], []⟩
def d_run_of : He.DefD := ⟨("run_of", none), "run_of", "run_of", defArgs s_run_of, defBody s_run_of, defScope s_run_of, [], []⟩
def d_number_at : He.DefD := ⟨("number_at", none), "number_at", "number_at", defArgs s_number_at, defBody s_number_at, defScope s_number_at, [], []⟩
def d_word_at : He.DefD := ⟨("word_at", none), "word_at", "word_at", defArgs s_word_at, defBody s_word_at, defScope s_word_at, [], []⟩
def d_token_at : He.DefD := ⟨("token_at", none), "token_at", "token_at", defArgs s_token_at, defBody s_token_at, defScope s_token_at, [], []⟩
def d_tokens : He.DefD := ⟨("tokens", none), "tokens", "tokens", defArgs s_tokens, defBody s_tokens, defScope s_tokens, [], []⟩
def d_bound_in : He.DefD := ⟨("bound_in", none), "bound_in", "bound_in", defArgs s_bound_in, defBody s_bound_in, defScope s_bound_in, [], []⟩
def d_check_term : He.DefD := ⟨("check_term", none), "check_term", "check_term", defArgs s_check_term, defBody s_check_term, defScope s_check_term, [], []⟩
def d_check_uses : He.DefD := ⟨("check_uses", none), "check_uses", "check_uses", defArgs s_check_uses, defBody s_check_uses, defScope s_check_uses, [], []⟩
def d_is_name : He.DefD := ⟨("is_name", none), "is_name", "is_name", defArgs s_is_name, defBody s_is_name, defScope s_is_name, [], []⟩
def d_R_init : He.DefD := ⟨("Reader", some "__init__"), "__init__", "Reader.__init__", defArgs s_R_init, defBody s_R_init, defScope s_R_init, [], []⟩
def d_R_token : He.DefD := ⟨("Reader", some "token"), "token", "Reader.token", defArgs s_R_token, defBody s_R_token, defScope s_R_token, [], []⟩
def d_R_place : He.DefD := ⟨("Reader", some "place"), "place", "Reader.place", defArgs s_R_place, defBody s_R_place, defScope s_R_place, [], []⟩
def d_R_step : He.DefD := ⟨("Reader", some "step"), "step", "Reader.step", defArgs s_R_step, defBody s_R_step, defScope s_R_step, [], []⟩
def d_R_take : He.DefD := ⟨("Reader", some "take"), "take", "Reader.take", defArgs s_R_take, defBody s_R_take, defScope s_R_take, [], []⟩
def d_R_name : He.DefD := ⟨("Reader", some "name"), "name", "Reader.name", defArgs s_R_name, defBody s_R_name, defScope s_R_name, [], []⟩
def d_R_enter : He.DefD := ⟨("Reader", some "enter"), "enter", "Reader.enter", defArgs s_R_enter, defBody s_R_enter, defScope s_R_enter, [], []⟩
def d_R_leave : He.DefD := ⟨("Reader", some "leave"), "leave", "Reader.leave", defArgs s_R_leave, defBody s_R_leave, defScope s_R_leave, [], []⟩
def d_R_comma : He.DefD := ⟨("Reader", some "comma"), "comma", "Reader.comma", defArgs s_R_comma, defBody s_R_comma, defScope s_R_comma, [], []⟩
def d_R_series : He.DefD := ⟨("Reader", some "series"), "series", "Reader.series", defArgs s_R_series, defBody s_R_series, defScope s_R_series, [], []⟩
def d_R_script : He.DefD := ⟨("Reader", some "script"), "script", "Reader.script", defArgs s_R_script, defBody s_R_script, defScope s_R_script, [], []⟩
def d_R_definition : He.DefD := ⟨("Reader", some "definition"), "definition", "Reader.definition", defArgs s_R_definition, defBody s_R_definition, defScope s_R_definition, [], []⟩
def d_R_expression : He.DefD := ⟨("Reader", some "expression"), "expression", "Reader.expression", defArgs s_R_expression, defBody s_R_expression, defScope s_R_expression, [], []⟩
def d_R_binding : He.DefD := ⟨("Reader", some "binding"), "binding", "Reader.binding", defArgs s_R_binding, defBody s_R_binding, defScope s_R_binding, [], []⟩
def d_R_choice : He.DefD := ⟨("Reader", some "choice"), "choice", "Reader.choice", defArgs s_R_choice, defBody s_R_choice, defScope s_R_choice, [], []⟩
def d_R_folding : He.DefD := ⟨("Reader", some "folding"), "folding", "Reader.folding", defArgs s_R_folding, defBody s_R_folding, defScope s_R_folding, [], []⟩
def d_R_noting : He.DefD := ⟨("Reader", some "noting"), "noting", "Reader.noting", defArgs s_R_noting, defBody s_R_noting, defScope s_R_noting, [], []⟩
def d_R_operation : He.DefD := ⟨("Reader", some "operation"), "operation", "Reader.operation", defArgs s_R_operation, defBody s_R_operation, defScope s_R_operation, [], []⟩
def d_R_unary : He.DefD := ⟨("Reader", some "unary"), "unary", "Reader.unary", defArgs s_R_unary, defBody s_R_unary, defScope s_R_unary, [], []⟩
def d_R_simple : He.DefD := ⟨("Reader", some "simple"), "simple", "Reader.simple", defArgs s_R_simple, defBody s_R_simple, defScope s_R_simple, [], []⟩
def d_R_named : He.DefD := ⟨("Reader", some "named"), "named", "Reader.named", defArgs s_R_named, defBody s_R_named, defScope s_R_named, [], []⟩
def d_R_bracket : He.DefD := ⟨("Reader", some "bracket"), "bracket", "Reader.bracket", defArgs s_R_bracket, defBody s_R_bracket, defScope s_R_bracket, [], []⟩
def d_read_script : He.DefD := ⟨("read_script", none), "read_script", "read_script", defArgs s_read_script, defBody s_read_script, defScope s_read_script, [], []⟩
def d_level : He.DefD := ⟨("level", none), "level", "level", defArgs s_level, defBody s_level, defScope s_level, [], []⟩
def d_print_part : He.DefD := ⟨("print_part", none), "print_part", "print_part", defArgs s_print_part, defBody s_print_part, defScope s_print_part, [], []⟩
def d_print_binary : He.DefD := ⟨("print_binary", none), "print_binary", "print_binary", defArgs s_print_binary, defBody s_print_binary, defScope s_print_binary, [], []⟩
def d_print_leaf : He.DefD := ⟨("print_leaf", none), "print_leaf", "print_leaf", defArgs s_print_leaf, defBody s_print_leaf, defScope s_print_leaf, [], []⟩
def d_print_construct : He.DefD := ⟨("print_construct", none), "print_construct", "print_construct", defArgs s_print_construct, defBody s_print_construct, defScope s_print_construct, [], []⟩
def d_print_term : He.DefD := ⟨("print_term", none), "print_term", "print_term", defArgs s_print_term, defBody s_print_term, defScope s_print_term, [], []⟩
def d_print_script : He.DefD := ⟨("print_script", none), "print_script", "print_script", defArgs s_print_script, defBody s_print_script, defScope s_print_script, [], []⟩
def d_law_numbers : He.DefD := ⟨("_law_numbers", none), "_law_numbers", "_law_numbers", defArgs s_law_numbers, defBody s_law_numbers, defScope s_law_numbers, [], []⟩
def d_law_draw : He.DefD := ⟨("_law_draw", none), "_law_draw", "_law_draw", defArgs s_law_draw, defBody s_law_draw, defScope s_law_draw, [], []⟩
def d_law_big : He.DefD := ⟨("_law_big", none), "_law_big", "_law_big", defArgs s_law_big, defBody s_law_big, defScope s_law_big, [], []⟩
def d_law_reserved : He.DefD := ⟨("_law_reserved", none), "_law_reserved", "_law_reserved", defArgs s_law_reserved, defBody s_law_reserved, defScope s_law_reserved, [], []⟩
def d_law_word : He.DefD := ⟨("_law_word", none), "_law_word", "_law_word", defArgs s_law_word, defBody s_law_word, defScope s_law_word, [], []⟩
def d_law_name : He.DefD := ⟨("_law_name", none), "_law_name", "_law_name", defArgs s_law_name, defBody s_law_name, defScope s_law_name, [], []⟩
def d_law_glued : He.DefD := ⟨("_law_glued", none), "_law_glued", "_law_glued", defArgs s_law_glued, defBody s_law_glued, defScope s_law_glued, [], []⟩
def d_law_text : He.DefD := ⟨("_law_text", none), "_law_text", "_law_text", defArgs s_law_text, defBody s_law_text, defScope s_law_text, [], []⟩
def d_law_equal : He.DefD := ⟨("_law_equal", none), "_law_equal", "_law_equal", defArgs s_law_equal, defBody s_law_equal, defScope s_law_equal, [], []⟩
def d_law_pick : He.DefD := ⟨("_law_pick", none), "_law_pick", "_law_pick", defArgs s_law_pick, defBody s_law_pick, defScope s_law_pick, [], []⟩
def d_law_atom : He.DefD := ⟨("_law_atom", none), "_law_atom", "_law_atom", defArgs s_law_atom, defBody s_law_atom, defScope s_law_atom, [], []⟩
def d_law_call : He.DefD := ⟨("_law_call", none), "_law_call", "_law_call", defArgs s_law_call, defBody s_law_call, defScope s_law_call, [], []⟩
def d_law_binder : He.DefD := ⟨("_law_binder", none), "_law_binder", "_law_binder", defArgs s_law_binder, defBody s_law_binder, defScope s_law_binder, [], []⟩
def d_law_make : He.DefD := ⟨("_law_make", none), "_law_make", "_law_make", defArgs s_law_make, defBody s_law_make, defScope s_law_make, [], []⟩
def d_law_world : He.DefD := ⟨("_law_world", none), "_law_world", "_law_world", defArgs s_law_world, defBody s_law_world, defScope s_law_world, [], []⟩
def d_law_drawn_script : He.DefD := ⟨("_law_drawn_script", none), "_law_drawn_script", "_law_drawn_script", defArgs s_law_drawn_script, defBody s_law_drawn_script, defScope s_law_drawn_script, [], []⟩
def d_law_tower : He.DefD := ⟨("_law_tower", none), "_law_tower", "_law_tower", defArgs s_law_tower, defBody s_law_tower, defScope s_law_tower, [], []⟩
def d_law_level : He.DefD := ⟨("_law_level", none), "_law_level", "_law_level", defArgs s_law_level, defBody s_law_level, defScope s_law_level, [], []⟩
def d_law_series : He.DefD := ⟨("_law_series", none), "_law_series", "_law_series", defArgs s_law_series, defBody s_law_series, defScope s_law_series, [], []⟩
def d_law_simple : He.DefD := ⟨("_law_simple", none), "_law_simple", "_law_simple", defArgs s_law_simple, defBody s_law_simple, defScope s_law_simple, [], []⟩
def d_law_bare : He.DefD := ⟨("_law_bare", none), "_law_bare", "_law_bare", defArgs s_law_bare, defBody s_law_bare, defScope s_law_bare, [], []⟩
def d_law_tokens : He.DefD := ⟨("_law_tokens", none), "_law_tokens", "_law_tokens", defArgs s_law_tokens, defBody s_law_tokens, defScope s_law_tokens, [], []⟩
def d_law_script_tokens : He.DefD := ⟨("_law_script_tokens", none), "_law_script_tokens", "_law_script_tokens", defArgs s_law_script_tokens, defBody s_law_script_tokens, defScope s_law_script_tokens, [], []⟩
def d_law_plain : He.DefD := ⟨("_law_plain", none), "_law_plain", "_law_plain", defArgs s_law_plain, defBody s_law_plain, defScope s_law_plain, [], []⟩
def d_law_joined : He.DefD := ⟨("_law_joined", none), "_law_joined", "_law_joined", defArgs s_law_joined, defBody s_law_joined, defScope s_law_joined, [], []⟩
def d_law_opened : He.DefD := ⟨("_law_opened", none), "_law_opened", "_law_opened", defArgs s_law_opened, defBody s_law_opened, defScope s_law_opened, [], []⟩
def d_law : He.DefD := ⟨("law", none), "law", "law", defArgs s_law, defBody s_law, defScope s_law, [], []⟩
def fn : List He.DefD := ([d_parts, d_depth, d_terms_of, d_run_of, d_number_at, d_word_at, d_token_at, d_tokens, d_bound_in, d_check_term, d_check_uses, d_is_name, d_R_init, d_R_token, d_R_place, d_R_step, d_R_take, d_R_name, d_R_enter, d_R_leave, d_R_comma, d_R_series, d_R_script, d_R_definition, d_R_expression, d_R_binding, d_R_choice, d_R_folding, d_R_noting, d_R_operation] : List He.DefD) ++ (([d_R_unary, d_R_simple, d_R_named, d_R_bracket, d_read_script, d_level, d_print_part, d_print_binary, d_print_leaf, d_print_construct, d_print_term, d_print_script, d_law_numbers, d_law_draw, d_law_big, d_law_reserved, d_law_word, d_law_name, d_law_glued, d_law_text, d_law_equal, d_law_pick, d_law_atom, d_law_call, d_law_binder, d_law_make, d_law_world, d_law_drawn_script, d_law_tower, d_law_level] : List He.DefD) ++ (([d_law_series, d_law_simple, d_law_bare, d_law_tokens, d_law_script_tokens, d_law_plain, d_law_joined, d_law_opened, d_law] : List He.DefD)))
def fa : List He.Fa := ([.glo "parts", .glo "depth", .glo "terms_of", .glo "run_of", .glo "number_at", .glo "word_at", .glo "token_at", .glo "tokens", .glo "bound_in", .glo "check_term", .glo "check_uses", .glo "is_name", .glo "read_script", .glo "level", .glo "print_part", .glo "print_binary", .glo "print_leaf", .glo "print_construct", .glo "print_term", .glo "print_script", .glo "_law_numbers", .glo "_law_draw", .glo "_law_big", .glo "_law_reserved", .glo "_law_word", .glo "_law_name", .glo "_law_glued", .glo "_law_text", .glo "_law_equal", .glo "_law_pick"] : List He.Fa) ++ (([.glo "_law_atom", .glo "_law_call", .glo "_law_binder", .glo "_law_make", .glo "_law_world", .glo "_law_drawn_script", .glo "_law_tower", .glo "_law_level", .glo "_law_series", .glo "_law_simple", .glo "_law_bare", .glo "_law_tokens", .glo "_law_script_tokens", .glo "_law_plain", .glo "_law_joined", .glo "_law_opened", .glo "law", .glo "Reader", .glo "FACTS", .glo "FUNCTIONS", .glo "RESERVED", .glo "FIRST_PART", .glo "DOUBLE_SIGNS", .glo "LEVELS_reader", .glo "LEVELS_printing", .free "abs", .free "bool", .free "dict", .free "enumerate", .free "int"] : List He.Fa) ++ (([.free "isinstance", .free "len", .free "list", .free "max", .free "min", .free "range", .free "str", .free "tuple", .int "MOST" 1000000000000000, .int "MOST_TOKENS" 200, .int "MOST_OPEN" 16, .int "MOST_DEPTH" 16, .int "MOST_DEFINITIONS" 6, .int "MOST_PARAMETERS" 4, .int "MOST_ITEMS" 8, .int "MOST_LETTERS" 12, .int "COMPARISON_reader" 2, .int "COMPARISON_printing" 3, .int "UNARY" 6, .int "SIMPLE" 7, .str "DIGITS" "0123456789", .str "LETTERS" "abcdefghijklmnopqrstuvwxyz", .str "SIGNS" "<=+-*()[],;", .cls "Reader", .noat "Reader" "rows", .noat "Reader" "length", .noat "Reader" "at", .noat "Reader" "opened", .meth "Reader" "token", .meth "Reader" "place"] : List He.Fa) ++ (([.meth "Reader" "step", .meth "Reader" "take", .meth "Reader" "name", .meth "Reader" "enter", .meth "Reader" "leave", .meth "Reader" "comma", .meth "Reader" "series", .meth "Reader" "script", .meth "Reader" "definition", .meth "Reader" "expression", .meth "Reader" "binding", .meth "Reader" "choice", .meth "Reader" "folding", .meth "Reader" "noting", .meth "Reader" "operation", .meth "Reader" "unary", .meth "Reader" "simple", .meth "Reader" "named", .meth "Reader" "bracket", .mkr "Reader"] : List He.Fa))))
def kv_FIRST_PART : List (Str × Int) := [("minus", 1), ("not", 1), ("pair", 1), ("if", 1), ("note", 1), ("binary", 2), ("let", 2), ("fold", 3)]
def kv_FUNCTIONS : List (Str × Int) := [("first", 1), ("second", 1), ("count", 1), ("head", 1), ("tail", 1), ("item", 2), ("coin", 1), ("held", 2), ("data", 1), ("keyed", 2), ("homed", 1), ("minted", 1), ("signed", 1), ("spends", 2)]
def kv_LEVELS_printing : List (Str × Int) := [("let", 0), ("if", 0), ("fold", 0), ("note", 0), ("or", 1), ("and", 2), ("==", 3), ("<", 3), ("<=", 3), ("+", 4), ("-", 4), ("*", 5), ("div", 5), ("mod", 5), ("minus", 6), ("not", 6)]
def ts : List He.Tab := [(fun K => He.ga K "FIRST_PART", kv_FIRST_PART.map (·.1)), (fun K => He.ga K "FUNCTIONS", kv_FUNCTIONS.map (·.1)), (fun K => He.ga K "LEVELS_printing", kv_LEVELS_printing.map (·.1))]
def tu_FACTS : List Str := (["begins", "ends", "signers", "spent", "looked", "made", "here", "datum", "redeemer", "guarding"] : List Str)
def tu_RESERVED : List Str := (["begins", "ends", "signers", "spent", "looked", "made", "here", "datum", "redeemer", "guarding", "first", "second", "count", "head", "tail", "item", "coin", "held", "data", "keyed"] : List Str) ++ ((["homed", "minted", "signed", "spends", "def", "let", "in", "if", "then", "else", "fold", "from", "do", "note", "or", "and", "not", "div", "mod", "true"] : List Str) ++ ((["false", "fail"] : List Str)))
def tu_DOUBLE_SIGNS : List Str := (["==", "<="] : List Str)
def tu_LEVELS_reader : List (List Str) := [["or"], ["and"], ["==", "<", "<="], ["+", "-"], ["*", "div", "mod"]]
def exl (K : PySem.W.Frag) : List Bool := [dicB K (He.ga K "FIRST_PART") kv_FIRST_PART, dicB K (He.ga K "FUNCTIONS") kv_FUNCTIONS, dicB K (He.ga K "LEVELS_printing") kv_LEVELS_printing, tupAB K (He.ga K "FACTS") (tu_FACTS.map V.str), tupAB K (He.ga K "RESERVED") (tu_RESERVED.map V.str), tupAB K (He.ga K "DOUBLE_SIGNS") (tu_DOUBLE_SIGNS.map V.str), tupAB K (He.ga K "LEVELS_reader") [V.ref (itemAt K (He.ga K "LEVELS_reader") 0), V.ref (itemAt K (He.ga K "LEVELS_reader") 1), V.ref (itemAt K (He.ga K "LEVELS_reader") 2), V.ref (itemAt K (He.ga K "LEVELS_reader") 3), V.ref (itemAt K (He.ga K "LEVELS_reader") 4)], tupAB K (itemAt K (He.ga K "LEVELS_reader") 0) ((["or"] : List Str).map V.str), tupAB K (itemAt K (He.ga K "LEVELS_reader") 1) ((["and"] : List Str).map V.str), tupAB K (itemAt K (He.ga K "LEVELS_reader") 2) ((["==", "<", "<="] : List Str).map V.str), tupAB K (itemAt K (He.ga K "LEVELS_reader") 3) ((["+", "-"] : List Str).map V.str), tupAB K (itemAt K (He.ga K "LEVELS_reader") 4) ((["*", "div", "mod"] : List Str).map V.str)]
def ex (K : PySem.W.Frag) : Bool := (exl K).all id
abbrev R : PySem.W.OpenRow := PySem.W.OpenLaw.row PySem.Challenge.rw_keptcoin_k13_whole_reading
abbrev hk : PySem.W.Hook := hookY 5 fa fn ts ex
def ob (s : PySem.W.SharedT) : AlY := obsYG 5 fa fn ts ex (HandSHeadRun.getT s)
theorem ob_eq (s : PySem.W.SharedT) : ob s = hk.obs s.abs := obsYG_eq (HandSHeadRun.getT_eq s)
def loose : List PySem.Str := (["__name__", "KeptError", "ScriptError", "BadToken", "BadSyntax", "OverLimit", "BadUse", "DeepTerm", "MOST", "MOST_TOKENS", "MOST_OPEN", "MOST_DEPTH", "MOST_DEFINITIONS", "MOST_PARAMETERS", "MOST_ITEMS", "FACTS", "FUNCTIONS", "RESERVED", "FIRST_PART", "parts", "depth", "terms_of", "DIGITS", "LETTERS", "DOUBLE_SIGNS", "SIGNS", "MOST_LETTERS", "run_of", "number_at", "word_at"] : List PySem.Str) ++ ((["token_at", "tokens", "bound_in", "check_term", "check_uses", "LEVELS_reader", "COMPARISON_reader", "is_name", "Reader", "read_script", "LEVELS_printing", "COMPARISON_printing", "UNARY", "SIMPLE", "level", "print_part", "print_binary", "print_leaf", "print_construct", "print_term", "print_script", "_law_numbers", "_law_draw", "_law_big", "_law_reserved", "_law_word", "_law_name", "_law_glued", "_law_text", "_law_equal"] : List PySem.Str) ++ ((["_law_pick", "_law_atom", "_law_call", "_law_binder", "_law_make", "_law_world", "_law_drawn_script", "_law_tower", "_law_level", "_law_series", "_law_simple", "_law_bare", "_law_tokens", "_law_script_tokens", "_law_plain", "_law_joined", "_law_opened"] : List PySem.Str)))
end K13

/-! the run of the top, for each answer of the one row of the world that it asks -/
namespace K13
open PySem PySem.Spec PyProof.Rows L2
theorem run0 (w : World) : HandSHeadRun.RunEq R (PySem.W.view R.prog [83]) hk ob 40000 loose (w.withFollow "special-get-raises" false) := by
  intro os
  kernel_rfl
theorem run1 (w : World) : HandSHeadRun.RunEq R (PySem.W.view R.prog [83]) hk ob 40000 loose (w.withFollow "special-get-raises" true) := by
  intro os
  kernel_rfl
theorem run (w : World) : HandSHeadRun.RunEq R (PySem.W.view R.prog [83]) hk ob 40000 loose w :=
  PySem.W.byRow2 "special-get-raises" (P := fun w => HandSHeadRun.RunEq R (PySem.W.view R.prog [83]) hk ob 40000 loose w) run0 run1 w
end K13

/-! each fact of the head by its name (printed by gen_facts.py) -/
namespace K13
open PySem PySem.Spec PyProof.Rows L2
structure Tx (w : World) (K : PySem.W.Frag) (mg : Str → Option Value) : Prop where
  says : SaysY fa fn ts ex w K
  h : ∃ hp : Heap, K.In hp ∧ hp.Ns mainGlobals mg
section
variable {w : World} {K : PySem.W.Frag} {mg : Str → Option Value}
theorem Tx.fact (T : Tx w K mg) (i : Nat) {f : He.Fa} (h : fa[i]? = some f) : f.ok K = true := T.says.t.d.fact i h
theorem ex_of : ∀ {l : List Bool} (i : Nat), l.all id = true → i < l.length → l[i]? = some true := fun {l} i h hi => by
  have e : l[i]? = some l[i] := List.getElem?_eq_getElem hi
  rw [e]
  exact congrArg some (List.all_eq_true.mp h _ (List.getElem_mem hi))
theorem Tx.g_parts (T : Tx w K mg) : mg "parts" = some (.ref (He.ga K "parts")) := let ⟨_, X, G⟩ := T.h; He.glo_ok X G (T.fact 0 (f := .glo "parts") rfl)
theorem Tx.g_depth (T : Tx w K mg) : mg "depth" = some (.ref (He.ga K "depth")) := let ⟨_, X, G⟩ := T.h; He.glo_ok X G (T.fact 1 (f := .glo "depth") rfl)
theorem Tx.g_terms_of (T : Tx w K mg) : mg "terms_of" = some (.ref (He.ga K "terms_of")) := let ⟨_, X, G⟩ := T.h; He.glo_ok X G (T.fact 2 (f := .glo "terms_of") rfl)
theorem Tx.g_run_of (T : Tx w K mg) : mg "run_of" = some (.ref (He.ga K "run_of")) := let ⟨_, X, G⟩ := T.h; He.glo_ok X G (T.fact 3 (f := .glo "run_of") rfl)
theorem Tx.g_number_at (T : Tx w K mg) : mg "number_at" = some (.ref (He.ga K "number_at")) := let ⟨_, X, G⟩ := T.h; He.glo_ok X G (T.fact 4 (f := .glo "number_at") rfl)
theorem Tx.g_word_at (T : Tx w K mg) : mg "word_at" = some (.ref (He.ga K "word_at")) := let ⟨_, X, G⟩ := T.h; He.glo_ok X G (T.fact 5 (f := .glo "word_at") rfl)
theorem Tx.g_token_at (T : Tx w K mg) : mg "token_at" = some (.ref (He.ga K "token_at")) := let ⟨_, X, G⟩ := T.h; He.glo_ok X G (T.fact 6 (f := .glo "token_at") rfl)
theorem Tx.g_tokens (T : Tx w K mg) : mg "tokens" = some (.ref (He.ga K "tokens")) := let ⟨_, X, G⟩ := T.h; He.glo_ok X G (T.fact 7 (f := .glo "tokens") rfl)
theorem Tx.g_bound_in (T : Tx w K mg) : mg "bound_in" = some (.ref (He.ga K "bound_in")) := let ⟨_, X, G⟩ := T.h; He.glo_ok X G (T.fact 8 (f := .glo "bound_in") rfl)
theorem Tx.g_check_term (T : Tx w K mg) : mg "check_term" = some (.ref (He.ga K "check_term")) := let ⟨_, X, G⟩ := T.h; He.glo_ok X G (T.fact 9 (f := .glo "check_term") rfl)
theorem Tx.g_check_uses (T : Tx w K mg) : mg "check_uses" = some (.ref (He.ga K "check_uses")) := let ⟨_, X, G⟩ := T.h; He.glo_ok X G (T.fact 10 (f := .glo "check_uses") rfl)
theorem Tx.g_is_name (T : Tx w K mg) : mg "is_name" = some (.ref (He.ga K "is_name")) := let ⟨_, X, G⟩ := T.h; He.glo_ok X G (T.fact 11 (f := .glo "is_name") rfl)
theorem Tx.g_read_script (T : Tx w K mg) : mg "read_script" = some (.ref (He.ga K "read_script")) := let ⟨_, X, G⟩ := T.h; He.glo_ok X G (T.fact 12 (f := .glo "read_script") rfl)
theorem Tx.g_level (T : Tx w K mg) : mg "level" = some (.ref (He.ga K "level")) := let ⟨_, X, G⟩ := T.h; He.glo_ok X G (T.fact 13 (f := .glo "level") rfl)
theorem Tx.g_print_part (T : Tx w K mg) : mg "print_part" = some (.ref (He.ga K "print_part")) := let ⟨_, X, G⟩ := T.h; He.glo_ok X G (T.fact 14 (f := .glo "print_part") rfl)
theorem Tx.g_print_binary (T : Tx w K mg) : mg "print_binary" = some (.ref (He.ga K "print_binary")) := let ⟨_, X, G⟩ := T.h; He.glo_ok X G (T.fact 15 (f := .glo "print_binary") rfl)
theorem Tx.g_print_leaf (T : Tx w K mg) : mg "print_leaf" = some (.ref (He.ga K "print_leaf")) := let ⟨_, X, G⟩ := T.h; He.glo_ok X G (T.fact 16 (f := .glo "print_leaf") rfl)
theorem Tx.g_print_construct (T : Tx w K mg) : mg "print_construct" = some (.ref (He.ga K "print_construct")) := let ⟨_, X, G⟩ := T.h; He.glo_ok X G (T.fact 17 (f := .glo "print_construct") rfl)
theorem Tx.g_print_term (T : Tx w K mg) : mg "print_term" = some (.ref (He.ga K "print_term")) := let ⟨_, X, G⟩ := T.h; He.glo_ok X G (T.fact 18 (f := .glo "print_term") rfl)
theorem Tx.g_print_script (T : Tx w K mg) : mg "print_script" = some (.ref (He.ga K "print_script")) := let ⟨_, X, G⟩ := T.h; He.glo_ok X G (T.fact 19 (f := .glo "print_script") rfl)
theorem Tx.g__law_numbers (T : Tx w K mg) : mg "_law_numbers" = some (.ref (He.ga K "_law_numbers")) := let ⟨_, X, G⟩ := T.h; He.glo_ok X G (T.fact 20 (f := .glo "_law_numbers") rfl)
theorem Tx.g__law_draw (T : Tx w K mg) : mg "_law_draw" = some (.ref (He.ga K "_law_draw")) := let ⟨_, X, G⟩ := T.h; He.glo_ok X G (T.fact 21 (f := .glo "_law_draw") rfl)
theorem Tx.g__law_big (T : Tx w K mg) : mg "_law_big" = some (.ref (He.ga K "_law_big")) := let ⟨_, X, G⟩ := T.h; He.glo_ok X G (T.fact 22 (f := .glo "_law_big") rfl)
theorem Tx.g__law_reserved (T : Tx w K mg) : mg "_law_reserved" = some (.ref (He.ga K "_law_reserved")) := let ⟨_, X, G⟩ := T.h; He.glo_ok X G (T.fact 23 (f := .glo "_law_reserved") rfl)
theorem Tx.g__law_word (T : Tx w K mg) : mg "_law_word" = some (.ref (He.ga K "_law_word")) := let ⟨_, X, G⟩ := T.h; He.glo_ok X G (T.fact 24 (f := .glo "_law_word") rfl)
theorem Tx.g__law_name (T : Tx w K mg) : mg "_law_name" = some (.ref (He.ga K "_law_name")) := let ⟨_, X, G⟩ := T.h; He.glo_ok X G (T.fact 25 (f := .glo "_law_name") rfl)
theorem Tx.g__law_glued (T : Tx w K mg) : mg "_law_glued" = some (.ref (He.ga K "_law_glued")) := let ⟨_, X, G⟩ := T.h; He.glo_ok X G (T.fact 26 (f := .glo "_law_glued") rfl)
theorem Tx.g__law_text (T : Tx w K mg) : mg "_law_text" = some (.ref (He.ga K "_law_text")) := let ⟨_, X, G⟩ := T.h; He.glo_ok X G (T.fact 27 (f := .glo "_law_text") rfl)
theorem Tx.g__law_equal (T : Tx w K mg) : mg "_law_equal" = some (.ref (He.ga K "_law_equal")) := let ⟨_, X, G⟩ := T.h; He.glo_ok X G (T.fact 28 (f := .glo "_law_equal") rfl)
theorem Tx.g__law_pick (T : Tx w K mg) : mg "_law_pick" = some (.ref (He.ga K "_law_pick")) := let ⟨_, X, G⟩ := T.h; He.glo_ok X G (T.fact 29 (f := .glo "_law_pick") rfl)
theorem Tx.g__law_atom (T : Tx w K mg) : mg "_law_atom" = some (.ref (He.ga K "_law_atom")) := let ⟨_, X, G⟩ := T.h; He.glo_ok X G (T.fact 30 (f := .glo "_law_atom") rfl)
theorem Tx.g__law_call (T : Tx w K mg) : mg "_law_call" = some (.ref (He.ga K "_law_call")) := let ⟨_, X, G⟩ := T.h; He.glo_ok X G (T.fact 31 (f := .glo "_law_call") rfl)
theorem Tx.g__law_binder (T : Tx w K mg) : mg "_law_binder" = some (.ref (He.ga K "_law_binder")) := let ⟨_, X, G⟩ := T.h; He.glo_ok X G (T.fact 32 (f := .glo "_law_binder") rfl)
theorem Tx.g__law_make (T : Tx w K mg) : mg "_law_make" = some (.ref (He.ga K "_law_make")) := let ⟨_, X, G⟩ := T.h; He.glo_ok X G (T.fact 33 (f := .glo "_law_make") rfl)
theorem Tx.g__law_world (T : Tx w K mg) : mg "_law_world" = some (.ref (He.ga K "_law_world")) := let ⟨_, X, G⟩ := T.h; He.glo_ok X G (T.fact 34 (f := .glo "_law_world") rfl)
theorem Tx.g__law_drawn_script (T : Tx w K mg) : mg "_law_drawn_script" = some (.ref (He.ga K "_law_drawn_script")) := let ⟨_, X, G⟩ := T.h; He.glo_ok X G (T.fact 35 (f := .glo "_law_drawn_script") rfl)
theorem Tx.g__law_tower (T : Tx w K mg) : mg "_law_tower" = some (.ref (He.ga K "_law_tower")) := let ⟨_, X, G⟩ := T.h; He.glo_ok X G (T.fact 36 (f := .glo "_law_tower") rfl)
theorem Tx.g__law_level (T : Tx w K mg) : mg "_law_level" = some (.ref (He.ga K "_law_level")) := let ⟨_, X, G⟩ := T.h; He.glo_ok X G (T.fact 37 (f := .glo "_law_level") rfl)
theorem Tx.g__law_series (T : Tx w K mg) : mg "_law_series" = some (.ref (He.ga K "_law_series")) := let ⟨_, X, G⟩ := T.h; He.glo_ok X G (T.fact 38 (f := .glo "_law_series") rfl)
theorem Tx.g__law_simple (T : Tx w K mg) : mg "_law_simple" = some (.ref (He.ga K "_law_simple")) := let ⟨_, X, G⟩ := T.h; He.glo_ok X G (T.fact 39 (f := .glo "_law_simple") rfl)
theorem Tx.g__law_bare (T : Tx w K mg) : mg "_law_bare" = some (.ref (He.ga K "_law_bare")) := let ⟨_, X, G⟩ := T.h; He.glo_ok X G (T.fact 40 (f := .glo "_law_bare") rfl)
theorem Tx.g__law_tokens (T : Tx w K mg) : mg "_law_tokens" = some (.ref (He.ga K "_law_tokens")) := let ⟨_, X, G⟩ := T.h; He.glo_ok X G (T.fact 41 (f := .glo "_law_tokens") rfl)
theorem Tx.g__law_script_tokens (T : Tx w K mg) : mg "_law_script_tokens" = some (.ref (He.ga K "_law_script_tokens")) := let ⟨_, X, G⟩ := T.h; He.glo_ok X G (T.fact 42 (f := .glo "_law_script_tokens") rfl)
theorem Tx.g__law_plain (T : Tx w K mg) : mg "_law_plain" = some (.ref (He.ga K "_law_plain")) := let ⟨_, X, G⟩ := T.h; He.glo_ok X G (T.fact 43 (f := .glo "_law_plain") rfl)
theorem Tx.g__law_joined (T : Tx w K mg) : mg "_law_joined" = some (.ref (He.ga K "_law_joined")) := let ⟨_, X, G⟩ := T.h; He.glo_ok X G (T.fact 44 (f := .glo "_law_joined") rfl)
theorem Tx.g__law_opened (T : Tx w K mg) : mg "_law_opened" = some (.ref (He.ga K "_law_opened")) := let ⟨_, X, G⟩ := T.h; He.glo_ok X G (T.fact 45 (f := .glo "_law_opened") rfl)
theorem Tx.g_law (T : Tx w K mg) : mg "law" = some (.ref (He.ga K "law")) := let ⟨_, X, G⟩ := T.h; He.glo_ok X G (T.fact 46 (f := .glo "law") rfl)
theorem Tx.g_Reader (T : Tx w K mg) : mg "Reader" = some (.ref (He.ga K "Reader")) := let ⟨_, X, G⟩ := T.h; He.glo_ok X G (T.fact 47 (f := .glo "Reader") rfl)
theorem Tx.g_FACTS (T : Tx w K mg) : mg "FACTS" = some (.ref (He.ga K "FACTS")) := let ⟨_, X, G⟩ := T.h; He.glo_ok X G (T.fact 48 (f := .glo "FACTS") rfl)
theorem Tx.g_FUNCTIONS (T : Tx w K mg) : mg "FUNCTIONS" = some (.ref (He.ga K "FUNCTIONS")) := let ⟨_, X, G⟩ := T.h; He.glo_ok X G (T.fact 49 (f := .glo "FUNCTIONS") rfl)
theorem Tx.g_RESERVED (T : Tx w K mg) : mg "RESERVED" = some (.ref (He.ga K "RESERVED")) := let ⟨_, X, G⟩ := T.h; He.glo_ok X G (T.fact 50 (f := .glo "RESERVED") rfl)
theorem Tx.g_FIRST_PART (T : Tx w K mg) : mg "FIRST_PART" = some (.ref (He.ga K "FIRST_PART")) := let ⟨_, X, G⟩ := T.h; He.glo_ok X G (T.fact 51 (f := .glo "FIRST_PART") rfl)
theorem Tx.g_DOUBLE_SIGNS (T : Tx w K mg) : mg "DOUBLE_SIGNS" = some (.ref (He.ga K "DOUBLE_SIGNS")) := let ⟨_, X, G⟩ := T.h; He.glo_ok X G (T.fact 52 (f := .glo "DOUBLE_SIGNS") rfl)
theorem Tx.g_LEVELS_reader (T : Tx w K mg) : mg "LEVELS_reader" = some (.ref (He.ga K "LEVELS_reader")) := let ⟨_, X, G⟩ := T.h; He.glo_ok X G (T.fact 53 (f := .glo "LEVELS_reader") rfl)
theorem Tx.g_LEVELS_printing (T : Tx w K mg) : mg "LEVELS_printing" = some (.ref (He.ga K "LEVELS_printing")) := let ⟨_, X, G⟩ := T.h; He.glo_ok X G (T.fact 54 (f := .glo "LEVELS_printing") rfl)
theorem Tx.n_abs (T : Tx w K mg) : mg "abs" = none := let ⟨_, X, G⟩ := T.h; He.free_ok X G (T.fact 55 (f := .free "abs") rfl)
theorem Tx.n_bool (T : Tx w K mg) : mg "bool" = none := let ⟨_, X, G⟩ := T.h; He.free_ok X G (T.fact 56 (f := .free "bool") rfl)
theorem Tx.n_dict (T : Tx w K mg) : mg "dict" = none := let ⟨_, X, G⟩ := T.h; He.free_ok X G (T.fact 57 (f := .free "dict") rfl)
theorem Tx.n_enumerate (T : Tx w K mg) : mg "enumerate" = none := let ⟨_, X, G⟩ := T.h; He.free_ok X G (T.fact 58 (f := .free "enumerate") rfl)
theorem Tx.n_int (T : Tx w K mg) : mg "int" = none := let ⟨_, X, G⟩ := T.h; He.free_ok X G (T.fact 59 (f := .free "int") rfl)
theorem Tx.n_isinstance (T : Tx w K mg) : mg "isinstance" = none := let ⟨_, X, G⟩ := T.h; He.free_ok X G (T.fact 60 (f := .free "isinstance") rfl)
theorem Tx.n_len (T : Tx w K mg) : mg "len" = none := let ⟨_, X, G⟩ := T.h; He.free_ok X G (T.fact 61 (f := .free "len") rfl)
theorem Tx.n_list (T : Tx w K mg) : mg "list" = none := let ⟨_, X, G⟩ := T.h; He.free_ok X G (T.fact 62 (f := .free "list") rfl)
theorem Tx.n_max (T : Tx w K mg) : mg "max" = none := let ⟨_, X, G⟩ := T.h; He.free_ok X G (T.fact 63 (f := .free "max") rfl)
theorem Tx.n_min (T : Tx w K mg) : mg "min" = none := let ⟨_, X, G⟩ := T.h; He.free_ok X G (T.fact 64 (f := .free "min") rfl)
theorem Tx.n_range (T : Tx w K mg) : mg "range" = none := let ⟨_, X, G⟩ := T.h; He.free_ok X G (T.fact 65 (f := .free "range") rfl)
theorem Tx.n_str (T : Tx w K mg) : mg "str" = none := let ⟨_, X, G⟩ := T.h; He.free_ok X G (T.fact 66 (f := .free "str") rfl)
theorem Tx.n_tuple (T : Tx w K mg) : mg "tuple" = none := let ⟨_, X, G⟩ := T.h; He.free_ok X G (T.fact 67 (f := .free "tuple") rfl)
theorem Tx.i_MOST (T : Tx w K mg) : ∃ t, mg "MOST" = some (.int 1000000000000000 t) := let ⟨_, X, G⟩ := T.h; He.int_ok X G (T.fact 68 (f := .int "MOST" 1000000000000000) rfl)
theorem Tx.i_MOST_TOKENS (T : Tx w K mg) : ∃ t, mg "MOST_TOKENS" = some (.int 200 t) := let ⟨_, X, G⟩ := T.h; He.int_ok X G (T.fact 69 (f := .int "MOST_TOKENS" 200) rfl)
theorem Tx.i_MOST_OPEN (T : Tx w K mg) : ∃ t, mg "MOST_OPEN" = some (.int 16 t) := let ⟨_, X, G⟩ := T.h; He.int_ok X G (T.fact 70 (f := .int "MOST_OPEN" 16) rfl)
theorem Tx.i_MOST_DEPTH (T : Tx w K mg) : ∃ t, mg "MOST_DEPTH" = some (.int 16 t) := let ⟨_, X, G⟩ := T.h; He.int_ok X G (T.fact 71 (f := .int "MOST_DEPTH" 16) rfl)
theorem Tx.i_MOST_DEFINITIONS (T : Tx w K mg) : ∃ t, mg "MOST_DEFINITIONS" = some (.int 6 t) := let ⟨_, X, G⟩ := T.h; He.int_ok X G (T.fact 72 (f := .int "MOST_DEFINITIONS" 6) rfl)
theorem Tx.i_MOST_PARAMETERS (T : Tx w K mg) : ∃ t, mg "MOST_PARAMETERS" = some (.int 4 t) := let ⟨_, X, G⟩ := T.h; He.int_ok X G (T.fact 73 (f := .int "MOST_PARAMETERS" 4) rfl)
theorem Tx.i_MOST_ITEMS (T : Tx w K mg) : ∃ t, mg "MOST_ITEMS" = some (.int 8 t) := let ⟨_, X, G⟩ := T.h; He.int_ok X G (T.fact 74 (f := .int "MOST_ITEMS" 8) rfl)
theorem Tx.i_MOST_LETTERS (T : Tx w K mg) : ∃ t, mg "MOST_LETTERS" = some (.int 12 t) := let ⟨_, X, G⟩ := T.h; He.int_ok X G (T.fact 75 (f := .int "MOST_LETTERS" 12) rfl)
theorem Tx.i_COMPARISON_reader (T : Tx w K mg) : ∃ t, mg "COMPARISON_reader" = some (.int 2 t) := let ⟨_, X, G⟩ := T.h; He.int_ok X G (T.fact 76 (f := .int "COMPARISON_reader" 2) rfl)
theorem Tx.i_COMPARISON_printing (T : Tx w K mg) : ∃ t, mg "COMPARISON_printing" = some (.int 3 t) := let ⟨_, X, G⟩ := T.h; He.int_ok X G (T.fact 77 (f := .int "COMPARISON_printing" 3) rfl)
theorem Tx.i_UNARY (T : Tx w K mg) : ∃ t, mg "UNARY" = some (.int 6 t) := let ⟨_, X, G⟩ := T.h; He.int_ok X G (T.fact 78 (f := .int "UNARY" 6) rfl)
theorem Tx.i_SIMPLE (T : Tx w K mg) : ∃ t, mg "SIMPLE" = some (.int 7 t) := let ⟨_, X, G⟩ := T.h; He.int_ok X G (T.fact 79 (f := .int "SIMPLE" 7) rfl)
theorem Tx.s_DIGITS (T : Tx w K mg) : ∃ t, mg "DIGITS" = some (.str "0123456789" t) := let ⟨_, X, G⟩ := T.h; He.str_ok X G (T.fact 80 (f := .str "DIGITS" "0123456789") rfl)
theorem Tx.s_LETTERS (T : Tx w K mg) : ∃ t, mg "LETTERS" = some (.str "abcdefghijklmnopqrstuvwxyz" t) := let ⟨_, X, G⟩ := T.h; He.str_ok X G (T.fact 81 (f := .str "LETTERS" "abcdefghijklmnopqrstuvwxyz") rfl)
theorem Tx.s_SIGNS (T : Tx w K mg) : ∃ t, mg "SIGNS" = some (.str "<=+-*()[],;" t) := let ⟨_, X, G⟩ := T.h; He.str_ok X G (T.fact 82 (f := .str "SIGNS" "<=+-*()[],;") rfl)
theorem Tx.cl (T : Tx w K mg) : Cls K (He.ga K "Reader") := He.cls_ok (T.fact 83 (f := .cls "Reader") rfl)
theorem Tx.na_rows (T : Tx w K mg) : NoAttr K (He.ga K "Reader") "rows" := He.noat_ok (T.fact 84 (f := .noat "Reader" "rows") rfl)
theorem Tx.na_length (T : Tx w K mg) : NoAttr K (He.ga K "Reader") "length" := He.noat_ok (T.fact 85 (f := .noat "Reader" "length") rfl)
theorem Tx.na_at (T : Tx w K mg) : NoAttr K (He.ga K "Reader") "at" := He.noat_ok (T.fact 86 (f := .noat "Reader" "at") rfl)
theorem Tx.na_opened (T : Tx w K mg) : NoAttr K (He.ga K "Reader") "opened" := He.noat_ok (T.fact 87 (f := .noat "Reader" "opened") rfl)
theorem Tx.me_token (T : Tx w K mg) : Meth K (He.ga K "Reader") "token" (He.ma K (He.ga K "Reader") "token") := He.meth_ok (T.fact 88 (f := .meth "Reader" "token") rfl)
theorem Tx.me_place (T : Tx w K mg) : Meth K (He.ga K "Reader") "place" (He.ma K (He.ga K "Reader") "place") := He.meth_ok (T.fact 89 (f := .meth "Reader" "place") rfl)
theorem Tx.me_step (T : Tx w K mg) : Meth K (He.ga K "Reader") "step" (He.ma K (He.ga K "Reader") "step") := He.meth_ok (T.fact 90 (f := .meth "Reader" "step") rfl)
theorem Tx.me_take (T : Tx w K mg) : Meth K (He.ga K "Reader") "take" (He.ma K (He.ga K "Reader") "take") := He.meth_ok (T.fact 91 (f := .meth "Reader" "take") rfl)
theorem Tx.me_name (T : Tx w K mg) : Meth K (He.ga K "Reader") "name" (He.ma K (He.ga K "Reader") "name") := He.meth_ok (T.fact 92 (f := .meth "Reader" "name") rfl)
theorem Tx.me_enter (T : Tx w K mg) : Meth K (He.ga K "Reader") "enter" (He.ma K (He.ga K "Reader") "enter") := He.meth_ok (T.fact 93 (f := .meth "Reader" "enter") rfl)
theorem Tx.me_leave (T : Tx w K mg) : Meth K (He.ga K "Reader") "leave" (He.ma K (He.ga K "Reader") "leave") := He.meth_ok (T.fact 94 (f := .meth "Reader" "leave") rfl)
theorem Tx.me_comma (T : Tx w K mg) : Meth K (He.ga K "Reader") "comma" (He.ma K (He.ga K "Reader") "comma") := He.meth_ok (T.fact 95 (f := .meth "Reader" "comma") rfl)
theorem Tx.me_series (T : Tx w K mg) : Meth K (He.ga K "Reader") "series" (He.ma K (He.ga K "Reader") "series") := He.meth_ok (T.fact 96 (f := .meth "Reader" "series") rfl)
theorem Tx.me_script (T : Tx w K mg) : Meth K (He.ga K "Reader") "script" (He.ma K (He.ga K "Reader") "script") := He.meth_ok (T.fact 97 (f := .meth "Reader" "script") rfl)
theorem Tx.me_definition (T : Tx w K mg) : Meth K (He.ga K "Reader") "definition" (He.ma K (He.ga K "Reader") "definition") := He.meth_ok (T.fact 98 (f := .meth "Reader" "definition") rfl)
theorem Tx.me_expression (T : Tx w K mg) : Meth K (He.ga K "Reader") "expression" (He.ma K (He.ga K "Reader") "expression") := He.meth_ok (T.fact 99 (f := .meth "Reader" "expression") rfl)
theorem Tx.me_binding (T : Tx w K mg) : Meth K (He.ga K "Reader") "binding" (He.ma K (He.ga K "Reader") "binding") := He.meth_ok (T.fact 100 (f := .meth "Reader" "binding") rfl)
theorem Tx.me_choice (T : Tx w K mg) : Meth K (He.ga K "Reader") "choice" (He.ma K (He.ga K "Reader") "choice") := He.meth_ok (T.fact 101 (f := .meth "Reader" "choice") rfl)
theorem Tx.me_folding (T : Tx w K mg) : Meth K (He.ga K "Reader") "folding" (He.ma K (He.ga K "Reader") "folding") := He.meth_ok (T.fact 102 (f := .meth "Reader" "folding") rfl)
theorem Tx.me_noting (T : Tx w K mg) : Meth K (He.ga K "Reader") "noting" (He.ma K (He.ga K "Reader") "noting") := He.meth_ok (T.fact 103 (f := .meth "Reader" "noting") rfl)
theorem Tx.me_operation (T : Tx w K mg) : Meth K (He.ga K "Reader") "operation" (He.ma K (He.ga K "Reader") "operation") := He.meth_ok (T.fact 104 (f := .meth "Reader" "operation") rfl)
theorem Tx.me_unary (T : Tx w K mg) : Meth K (He.ga K "Reader") "unary" (He.ma K (He.ga K "Reader") "unary") := He.meth_ok (T.fact 105 (f := .meth "Reader" "unary") rfl)
theorem Tx.me_simple (T : Tx w K mg) : Meth K (He.ga K "Reader") "simple" (He.ma K (He.ga K "Reader") "simple") := He.meth_ok (T.fact 106 (f := .meth "Reader" "simple") rfl)
theorem Tx.me_named (T : Tx w K mg) : Meth K (He.ga K "Reader") "named" (He.ma K (He.ga K "Reader") "named") := He.meth_ok (T.fact 107 (f := .meth "Reader" "named") rfl)
theorem Tx.me_bracket (T : Tx w K mg) : Meth K (He.ga K "Reader") "bracket" (He.ma K (He.ga K "Reader") "bracket") := He.meth_ok (T.fact 108 (f := .meth "Reader" "bracket") rfl)
theorem Tx.mk_ (T : Tx w K mg) : Mk K (He.ga K "Reader") (He.ma K (He.ga K "Reader") "__init__") := He.mkr_ok (T.fact 109 (f := .mkr "Reader") rfl)
theorem Tx.f_parts (T : Tx w K mg) : ∃ fd, FunD K "parts" "parts" (defArgs s_parts) (defBody s_parts) (defScope s_parts) [] [] (He.ga K "parts") fd := T.says.t.d.def_ 0 (d := d_parts) rfl
theorem Tx.f_depth (T : Tx w K mg) : ∃ fd, FunD K "depth" "depth" (defArgs s_depth) (defBody s_depth) (defScope s_depth) [] [] (He.ga K "depth") fd := T.says.t.d.def_ 1 (d := d_depth) rfl
theorem Tx.f_terms_of (T : Tx w K mg) : ∃ fd, FunD K "terms_of" "terms_of" (defArgs s_terms_of) (defBody s_terms_of) (defScope s_terms_of) [] [] (He.ga K "terms_of") fd := T.says.t.d.def_ 2 (d := d_terms_of) rfl
theorem Tx.f_run_of (T : Tx w K mg) : ∃ fd, FunD K "run_of" "run_of" (defArgs s_run_of) (defBody s_run_of) (defScope s_run_of) [] [] (He.ga K "run_of") fd := T.says.t.d.def_ 3 (d := d_run_of) rfl
theorem Tx.f_number_at (T : Tx w K mg) : ∃ fd, FunD K "number_at" "number_at" (defArgs s_number_at) (defBody s_number_at) (defScope s_number_at) [] [] (He.ga K "number_at") fd := T.says.t.d.def_ 4 (d := d_number_at) rfl
theorem Tx.f_word_at (T : Tx w K mg) : ∃ fd, FunD K "word_at" "word_at" (defArgs s_word_at) (defBody s_word_at) (defScope s_word_at) [] [] (He.ga K "word_at") fd := T.says.t.d.def_ 5 (d := d_word_at) rfl
theorem Tx.f_token_at (T : Tx w K mg) : ∃ fd, FunD K "token_at" "token_at" (defArgs s_token_at) (defBody s_token_at) (defScope s_token_at) [] [] (He.ga K "token_at") fd := T.says.t.d.def_ 6 (d := d_token_at) rfl
theorem Tx.f_tokens (T : Tx w K mg) : ∃ fd, FunD K "tokens" "tokens" (defArgs s_tokens) (defBody s_tokens) (defScope s_tokens) [] [] (He.ga K "tokens") fd := T.says.t.d.def_ 7 (d := d_tokens) rfl
theorem Tx.f_bound_in (T : Tx w K mg) : ∃ fd, FunD K "bound_in" "bound_in" (defArgs s_bound_in) (defBody s_bound_in) (defScope s_bound_in) [] [] (He.ga K "bound_in") fd := T.says.t.d.def_ 8 (d := d_bound_in) rfl
theorem Tx.f_check_term (T : Tx w K mg) : ∃ fd, FunD K "check_term" "check_term" (defArgs s_check_term) (defBody s_check_term) (defScope s_check_term) [] [] (He.ga K "check_term") fd := T.says.t.d.def_ 9 (d := d_check_term) rfl
theorem Tx.f_check_uses (T : Tx w K mg) : ∃ fd, FunD K "check_uses" "check_uses" (defArgs s_check_uses) (defBody s_check_uses) (defScope s_check_uses) [] [] (He.ga K "check_uses") fd := T.says.t.d.def_ 10 (d := d_check_uses) rfl
theorem Tx.f_is_name (T : Tx w K mg) : ∃ fd, FunD K "is_name" "is_name" (defArgs s_is_name) (defBody s_is_name) (defScope s_is_name) [] [] (He.ga K "is_name") fd := T.says.t.d.def_ 11 (d := d_is_name) rfl
theorem Tx.f_R_init (T : Tx w K mg) : ∃ fd, FunD K "__init__" "Reader.__init__" (defArgs s_R_init) (defBody s_R_init) (defScope s_R_init) [] [] (He.ma K (He.ga K "Reader") "__init__") fd := T.says.t.d.def_ 12 (d := d_R_init) rfl
theorem Tx.f_R_token (T : Tx w K mg) : ∃ fd, FunD K "token" "Reader.token" (defArgs s_R_token) (defBody s_R_token) (defScope s_R_token) [] [] (He.ma K (He.ga K "Reader") "token") fd := T.says.t.d.def_ 13 (d := d_R_token) rfl
theorem Tx.f_R_place (T : Tx w K mg) : ∃ fd, FunD K "place" "Reader.place" (defArgs s_R_place) (defBody s_R_place) (defScope s_R_place) [] [] (He.ma K (He.ga K "Reader") "place") fd := T.says.t.d.def_ 14 (d := d_R_place) rfl
theorem Tx.f_R_step (T : Tx w K mg) : ∃ fd, FunD K "step" "Reader.step" (defArgs s_R_step) (defBody s_R_step) (defScope s_R_step) [] [] (He.ma K (He.ga K "Reader") "step") fd := T.says.t.d.def_ 15 (d := d_R_step) rfl
theorem Tx.f_R_take (T : Tx w K mg) : ∃ fd, FunD K "take" "Reader.take" (defArgs s_R_take) (defBody s_R_take) (defScope s_R_take) [] [] (He.ma K (He.ga K "Reader") "take") fd := T.says.t.d.def_ 16 (d := d_R_take) rfl
theorem Tx.f_R_name (T : Tx w K mg) : ∃ fd, FunD K "name" "Reader.name" (defArgs s_R_name) (defBody s_R_name) (defScope s_R_name) [] [] (He.ma K (He.ga K "Reader") "name") fd := T.says.t.d.def_ 17 (d := d_R_name) rfl
theorem Tx.f_R_enter (T : Tx w K mg) : ∃ fd, FunD K "enter" "Reader.enter" (defArgs s_R_enter) (defBody s_R_enter) (defScope s_R_enter) [] [] (He.ma K (He.ga K "Reader") "enter") fd := T.says.t.d.def_ 18 (d := d_R_enter) rfl
theorem Tx.f_R_leave (T : Tx w K mg) : ∃ fd, FunD K "leave" "Reader.leave" (defArgs s_R_leave) (defBody s_R_leave) (defScope s_R_leave) [] [] (He.ma K (He.ga K "Reader") "leave") fd := T.says.t.d.def_ 19 (d := d_R_leave) rfl
theorem Tx.f_R_comma (T : Tx w K mg) : ∃ fd, FunD K "comma" "Reader.comma" (defArgs s_R_comma) (defBody s_R_comma) (defScope s_R_comma) [] [] (He.ma K (He.ga K "Reader") "comma") fd := T.says.t.d.def_ 20 (d := d_R_comma) rfl
theorem Tx.f_R_series (T : Tx w K mg) : ∃ fd, FunD K "series" "Reader.series" (defArgs s_R_series) (defBody s_R_series) (defScope s_R_series) [] [] (He.ma K (He.ga K "Reader") "series") fd := T.says.t.d.def_ 21 (d := d_R_series) rfl
theorem Tx.f_R_script (T : Tx w K mg) : ∃ fd, FunD K "script" "Reader.script" (defArgs s_R_script) (defBody s_R_script) (defScope s_R_script) [] [] (He.ma K (He.ga K "Reader") "script") fd := T.says.t.d.def_ 22 (d := d_R_script) rfl
theorem Tx.f_R_definition (T : Tx w K mg) : ∃ fd, FunD K "definition" "Reader.definition" (defArgs s_R_definition) (defBody s_R_definition) (defScope s_R_definition) [] [] (He.ma K (He.ga K "Reader") "definition") fd := T.says.t.d.def_ 23 (d := d_R_definition) rfl
theorem Tx.f_R_expression (T : Tx w K mg) : ∃ fd, FunD K "expression" "Reader.expression" (defArgs s_R_expression) (defBody s_R_expression) (defScope s_R_expression) [] [] (He.ma K (He.ga K "Reader") "expression") fd := T.says.t.d.def_ 24 (d := d_R_expression) rfl
theorem Tx.f_R_binding (T : Tx w K mg) : ∃ fd, FunD K "binding" "Reader.binding" (defArgs s_R_binding) (defBody s_R_binding) (defScope s_R_binding) [] [] (He.ma K (He.ga K "Reader") "binding") fd := T.says.t.d.def_ 25 (d := d_R_binding) rfl
theorem Tx.f_R_choice (T : Tx w K mg) : ∃ fd, FunD K "choice" "Reader.choice" (defArgs s_R_choice) (defBody s_R_choice) (defScope s_R_choice) [] [] (He.ma K (He.ga K "Reader") "choice") fd := T.says.t.d.def_ 26 (d := d_R_choice) rfl
theorem Tx.f_R_folding (T : Tx w K mg) : ∃ fd, FunD K "folding" "Reader.folding" (defArgs s_R_folding) (defBody s_R_folding) (defScope s_R_folding) [] [] (He.ma K (He.ga K "Reader") "folding") fd := T.says.t.d.def_ 27 (d := d_R_folding) rfl
theorem Tx.f_R_noting (T : Tx w K mg) : ∃ fd, FunD K "noting" "Reader.noting" (defArgs s_R_noting) (defBody s_R_noting) (defScope s_R_noting) [] [] (He.ma K (He.ga K "Reader") "noting") fd := T.says.t.d.def_ 28 (d := d_R_noting) rfl
theorem Tx.f_R_operation (T : Tx w K mg) : ∃ fd, FunD K "operation" "Reader.operation" (defArgs s_R_operation) (defBody s_R_operation) (defScope s_R_operation) [] [] (He.ma K (He.ga K "Reader") "operation") fd := T.says.t.d.def_ 29 (d := d_R_operation) rfl
theorem Tx.f_R_unary (T : Tx w K mg) : ∃ fd, FunD K "unary" "Reader.unary" (defArgs s_R_unary) (defBody s_R_unary) (defScope s_R_unary) [] [] (He.ma K (He.ga K "Reader") "unary") fd := T.says.t.d.def_ 30 (d := d_R_unary) rfl
theorem Tx.f_R_simple (T : Tx w K mg) : ∃ fd, FunD K "simple" "Reader.simple" (defArgs s_R_simple) (defBody s_R_simple) (defScope s_R_simple) [] [] (He.ma K (He.ga K "Reader") "simple") fd := T.says.t.d.def_ 31 (d := d_R_simple) rfl
theorem Tx.f_R_named (T : Tx w K mg) : ∃ fd, FunD K "named" "Reader.named" (defArgs s_R_named) (defBody s_R_named) (defScope s_R_named) [] [] (He.ma K (He.ga K "Reader") "named") fd := T.says.t.d.def_ 32 (d := d_R_named) rfl
theorem Tx.f_R_bracket (T : Tx w K mg) : ∃ fd, FunD K "bracket" "Reader.bracket" (defArgs s_R_bracket) (defBody s_R_bracket) (defScope s_R_bracket) [] [] (He.ma K (He.ga K "Reader") "bracket") fd := T.says.t.d.def_ 33 (d := d_R_bracket) rfl
theorem Tx.f_read_script (T : Tx w K mg) : ∃ fd, FunD K "read_script" "read_script" (defArgs s_read_script) (defBody s_read_script) (defScope s_read_script) [] [] (He.ga K "read_script") fd := T.says.t.d.def_ 34 (d := d_read_script) rfl
theorem Tx.f_level (T : Tx w K mg) : ∃ fd, FunD K "level" "level" (defArgs s_level) (defBody s_level) (defScope s_level) [] [] (He.ga K "level") fd := T.says.t.d.def_ 35 (d := d_level) rfl
theorem Tx.f_print_part (T : Tx w K mg) : ∃ fd, FunD K "print_part" "print_part" (defArgs s_print_part) (defBody s_print_part) (defScope s_print_part) [] [] (He.ga K "print_part") fd := T.says.t.d.def_ 36 (d := d_print_part) rfl
theorem Tx.f_print_binary (T : Tx w K mg) : ∃ fd, FunD K "print_binary" "print_binary" (defArgs s_print_binary) (defBody s_print_binary) (defScope s_print_binary) [] [] (He.ga K "print_binary") fd := T.says.t.d.def_ 37 (d := d_print_binary) rfl
theorem Tx.f_print_leaf (T : Tx w K mg) : ∃ fd, FunD K "print_leaf" "print_leaf" (defArgs s_print_leaf) (defBody s_print_leaf) (defScope s_print_leaf) [] [] (He.ga K "print_leaf") fd := T.says.t.d.def_ 38 (d := d_print_leaf) rfl
theorem Tx.f_print_construct (T : Tx w K mg) : ∃ fd, FunD K "print_construct" "print_construct" (defArgs s_print_construct) (defBody s_print_construct) (defScope s_print_construct) [] [] (He.ga K "print_construct") fd := T.says.t.d.def_ 39 (d := d_print_construct) rfl
theorem Tx.f_print_term (T : Tx w K mg) : ∃ fd, FunD K "print_term" "print_term" (defArgs s_print_term) (defBody s_print_term) (defScope s_print_term) [] [] (He.ga K "print_term") fd := T.says.t.d.def_ 40 (d := d_print_term) rfl
theorem Tx.f_print_script (T : Tx w K mg) : ∃ fd, FunD K "print_script" "print_script" (defArgs s_print_script) (defBody s_print_script) (defScope s_print_script) [] [] (He.ga K "print_script") fd := T.says.t.d.def_ 41 (d := d_print_script) rfl
theorem Tx.f_law_numbers (T : Tx w K mg) : ∃ fd, FunD K "_law_numbers" "_law_numbers" (defArgs s_law_numbers) (defBody s_law_numbers) (defScope s_law_numbers) [] [] (He.ga K "_law_numbers") fd := T.says.t.d.def_ 42 (d := d_law_numbers) rfl
theorem Tx.f_law_draw (T : Tx w K mg) : ∃ fd, FunD K "_law_draw" "_law_draw" (defArgs s_law_draw) (defBody s_law_draw) (defScope s_law_draw) [] [] (He.ga K "_law_draw") fd := T.says.t.d.def_ 43 (d := d_law_draw) rfl
theorem Tx.f_law_big (T : Tx w K mg) : ∃ fd, FunD K "_law_big" "_law_big" (defArgs s_law_big) (defBody s_law_big) (defScope s_law_big) [] [] (He.ga K "_law_big") fd := T.says.t.d.def_ 44 (d := d_law_big) rfl
theorem Tx.f_law_reserved (T : Tx w K mg) : ∃ fd, FunD K "_law_reserved" "_law_reserved" (defArgs s_law_reserved) (defBody s_law_reserved) (defScope s_law_reserved) [] [] (He.ga K "_law_reserved") fd := T.says.t.d.def_ 45 (d := d_law_reserved) rfl
theorem Tx.f_law_word (T : Tx w K mg) : ∃ fd, FunD K "_law_word" "_law_word" (defArgs s_law_word) (defBody s_law_word) (defScope s_law_word) [] [] (He.ga K "_law_word") fd := T.says.t.d.def_ 46 (d := d_law_word) rfl
theorem Tx.f_law_name (T : Tx w K mg) : ∃ fd, FunD K "_law_name" "_law_name" (defArgs s_law_name) (defBody s_law_name) (defScope s_law_name) [] [] (He.ga K "_law_name") fd := T.says.t.d.def_ 47 (d := d_law_name) rfl
theorem Tx.f_law_glued (T : Tx w K mg) : ∃ fd, FunD K "_law_glued" "_law_glued" (defArgs s_law_glued) (defBody s_law_glued) (defScope s_law_glued) [] [] (He.ga K "_law_glued") fd := T.says.t.d.def_ 48 (d := d_law_glued) rfl
theorem Tx.f_law_text (T : Tx w K mg) : ∃ fd, FunD K "_law_text" "_law_text" (defArgs s_law_text) (defBody s_law_text) (defScope s_law_text) [] [] (He.ga K "_law_text") fd := T.says.t.d.def_ 49 (d := d_law_text) rfl
theorem Tx.f_law_equal (T : Tx w K mg) : ∃ fd, FunD K "_law_equal" "_law_equal" (defArgs s_law_equal) (defBody s_law_equal) (defScope s_law_equal) [] [] (He.ga K "_law_equal") fd := T.says.t.d.def_ 50 (d := d_law_equal) rfl
theorem Tx.f_law_pick (T : Tx w K mg) : ∃ fd, FunD K "_law_pick" "_law_pick" (defArgs s_law_pick) (defBody s_law_pick) (defScope s_law_pick) [] [] (He.ga K "_law_pick") fd := T.says.t.d.def_ 51 (d := d_law_pick) rfl
theorem Tx.f_law_atom (T : Tx w K mg) : ∃ fd, FunD K "_law_atom" "_law_atom" (defArgs s_law_atom) (defBody s_law_atom) (defScope s_law_atom) [] [] (He.ga K "_law_atom") fd := T.says.t.d.def_ 52 (d := d_law_atom) rfl
theorem Tx.f_law_call (T : Tx w K mg) : ∃ fd, FunD K "_law_call" "_law_call" (defArgs s_law_call) (defBody s_law_call) (defScope s_law_call) [] [] (He.ga K "_law_call") fd := T.says.t.d.def_ 53 (d := d_law_call) rfl
theorem Tx.f_law_binder (T : Tx w K mg) : ∃ fd, FunD K "_law_binder" "_law_binder" (defArgs s_law_binder) (defBody s_law_binder) (defScope s_law_binder) [] [] (He.ga K "_law_binder") fd := T.says.t.d.def_ 54 (d := d_law_binder) rfl
theorem Tx.f_law_make (T : Tx w K mg) : ∃ fd, FunD K "_law_make" "_law_make" (defArgs s_law_make) (defBody s_law_make) (defScope s_law_make) [] [] (He.ga K "_law_make") fd := T.says.t.d.def_ 55 (d := d_law_make) rfl
theorem Tx.f_law_world (T : Tx w K mg) : ∃ fd, FunD K "_law_world" "_law_world" (defArgs s_law_world) (defBody s_law_world) (defScope s_law_world) [] [] (He.ga K "_law_world") fd := T.says.t.d.def_ 56 (d := d_law_world) rfl
theorem Tx.f_law_drawn_script (T : Tx w K mg) : ∃ fd, FunD K "_law_drawn_script" "_law_drawn_script" (defArgs s_law_drawn_script) (defBody s_law_drawn_script) (defScope s_law_drawn_script) [] [] (He.ga K "_law_drawn_script") fd := T.says.t.d.def_ 57 (d := d_law_drawn_script) rfl
theorem Tx.f_law_tower (T : Tx w K mg) : ∃ fd, FunD K "_law_tower" "_law_tower" (defArgs s_law_tower) (defBody s_law_tower) (defScope s_law_tower) [] [] (He.ga K "_law_tower") fd := T.says.t.d.def_ 58 (d := d_law_tower) rfl
theorem Tx.f_law_level (T : Tx w K mg) : ∃ fd, FunD K "_law_level" "_law_level" (defArgs s_law_level) (defBody s_law_level) (defScope s_law_level) [] [] (He.ga K "_law_level") fd := T.says.t.d.def_ 59 (d := d_law_level) rfl
theorem Tx.f_law_series (T : Tx w K mg) : ∃ fd, FunD K "_law_series" "_law_series" (defArgs s_law_series) (defBody s_law_series) (defScope s_law_series) [] [] (He.ga K "_law_series") fd := T.says.t.d.def_ 60 (d := d_law_series) rfl
theorem Tx.f_law_simple (T : Tx w K mg) : ∃ fd, FunD K "_law_simple" "_law_simple" (defArgs s_law_simple) (defBody s_law_simple) (defScope s_law_simple) [] [] (He.ga K "_law_simple") fd := T.says.t.d.def_ 61 (d := d_law_simple) rfl
theorem Tx.f_law_bare (T : Tx w K mg) : ∃ fd, FunD K "_law_bare" "_law_bare" (defArgs s_law_bare) (defBody s_law_bare) (defScope s_law_bare) [] [] (He.ga K "_law_bare") fd := T.says.t.d.def_ 62 (d := d_law_bare) rfl
theorem Tx.f_law_tokens (T : Tx w K mg) : ∃ fd, FunD K "_law_tokens" "_law_tokens" (defArgs s_law_tokens) (defBody s_law_tokens) (defScope s_law_tokens) [] [] (He.ga K "_law_tokens") fd := T.says.t.d.def_ 63 (d := d_law_tokens) rfl
theorem Tx.f_law_script_tokens (T : Tx w K mg) : ∃ fd, FunD K "_law_script_tokens" "_law_script_tokens" (defArgs s_law_script_tokens) (defBody s_law_script_tokens) (defScope s_law_script_tokens) [] [] (He.ga K "_law_script_tokens") fd := T.says.t.d.def_ 64 (d := d_law_script_tokens) rfl
theorem Tx.f_law_plain (T : Tx w K mg) : ∃ fd, FunD K "_law_plain" "_law_plain" (defArgs s_law_plain) (defBody s_law_plain) (defScope s_law_plain) [] [] (He.ga K "_law_plain") fd := T.says.t.d.def_ 65 (d := d_law_plain) rfl
theorem Tx.f_law_joined (T : Tx w K mg) : ∃ fd, FunD K "_law_joined" "_law_joined" (defArgs s_law_joined) (defBody s_law_joined) (defScope s_law_joined) [] [] (He.ga K "_law_joined") fd := T.says.t.d.def_ 66 (d := d_law_joined) rfl
theorem Tx.f_law_opened (T : Tx w K mg) : ∃ fd, FunD K "_law_opened" "_law_opened" (defArgs s_law_opened) (defBody s_law_opened) (defScope s_law_opened) [] [] (He.ga K "_law_opened") fd := T.says.t.d.def_ 67 (d := d_law_opened) rfl
theorem Tx.f_law (T : Tx w K mg) : ∃ fd, FunD K "law" "law" (defArgs s_law) (defBody s_law) (defScope s_law) [] [] (He.ga K "law") fd := T.says.t.d.def_ 68 (d := d_law) rfl
theorem ex_len : (exl K).length = 12 := rfl
theorem Tx.kd_FIRST_PART (T : Tx w K mg) : ∃ es n, KDict K w (He.ga K "FIRST_PART") es n := T.says.t.tab 0 rfl
theorem Tx.kv_FIRST_PART (T : Tx w K mg) : dicB K (He.ga K "FIRST_PART") kv_FIRST_PART = true := Option.some.inj (ex_of 0 T.says.more (by rw [ex_len]; decide))
theorem Tx.kd_FUNCTIONS (T : Tx w K mg) : ∃ es n, KDict K w (He.ga K "FUNCTIONS") es n := T.says.t.tab 1 rfl
theorem Tx.kv_FUNCTIONS (T : Tx w K mg) : dicB K (He.ga K "FUNCTIONS") kv_FUNCTIONS = true := Option.some.inj (ex_of 1 T.says.more (by rw [ex_len]; decide))
theorem Tx.kd_LEVELS_printing (T : Tx w K mg) : ∃ es n, KDict K w (He.ga K "LEVELS_printing") es n := T.says.t.tab 2 rfl
theorem Tx.kv_LEVELS_printing (T : Tx w K mg) : dicB K (He.ga K "LEVELS_printing") kv_LEVELS_printing = true := Option.some.inj (ex_of 2 T.says.more (by rw [ex_len]; decide))
theorem Tx.tu_FACTS (T : Tx w K mg) (H : Hp) : SqT K H (He.ga K "FACTS") (tu_FACTS.map V.str) := tupAB_ok (Option.some.inj (ex_of 3 T.says.more (by rw [ex_len]; decide))) H
theorem Tx.tu_RESERVED (T : Tx w K mg) (H : Hp) : SqT K H (He.ga K "RESERVED") (tu_RESERVED.map V.str) := tupAB_ok (Option.some.inj (ex_of 4 T.says.more (by rw [ex_len]; decide))) H
theorem Tx.tu_DOUBLE_SIGNS (T : Tx w K mg) (H : Hp) : SqT K H (He.ga K "DOUBLE_SIGNS") (tu_DOUBLE_SIGNS.map V.str) := tupAB_ok (Option.some.inj (ex_of 5 T.says.more (by rw [ex_len]; decide))) H
theorem Tx.tu_LEVELS_reader (T : Tx w K mg) (H : Hp) : SqT K H (He.ga K "LEVELS_reader") [V.ref (itemAt K (He.ga K "LEVELS_reader") 0), V.ref (itemAt K (He.ga K "LEVELS_reader") 1), V.ref (itemAt K (He.ga K "LEVELS_reader") 2), V.ref (itemAt K (He.ga K "LEVELS_reader") 3), V.ref (itemAt K (He.ga K "LEVELS_reader") 4)] := tupAB_ok (Option.some.inj (ex_of 6 T.says.more (by rw [ex_len]; decide))) H
theorem Tx.tu_LEVELS_reader_0 (T : Tx w K mg) (H : Hp) : SqT K H (itemAt K (He.ga K "LEVELS_reader") 0) ((["or"] : List Str).map V.str) := tupAB_ok (Option.some.inj (ex_of 7 T.says.more (by rw [ex_len]; decide))) H
theorem Tx.tu_LEVELS_reader_1 (T : Tx w K mg) (H : Hp) : SqT K H (itemAt K (He.ga K "LEVELS_reader") 1) ((["and"] : List Str).map V.str) := tupAB_ok (Option.some.inj (ex_of 8 T.says.more (by rw [ex_len]; decide))) H
theorem Tx.tu_LEVELS_reader_2 (T : Tx w K mg) (H : Hp) : SqT K H (itemAt K (He.ga K "LEVELS_reader") 2) ((["==", "<", "<="] : List Str).map V.str) := tupAB_ok (Option.some.inj (ex_of 9 T.says.more (by rw [ex_len]; decide))) H
theorem Tx.tu_LEVELS_reader_3 (T : Tx w K mg) (H : Hp) : SqT K H (itemAt K (He.ga K "LEVELS_reader") 3) ((["+", "-"] : List Str).map V.str) := tupAB_ok (Option.some.inj (ex_of 10 T.says.more (by rw [ex_len]; decide))) H
theorem Tx.tu_LEVELS_reader_4 (T : Tx w K mg) (H : Hp) : SqT K H (itemAt K (He.ga K "LEVELS_reader") 4) ((["*", "div", "mod"] : List Str).map V.str) := tupAB_ok (Option.some.inj (ex_of 11 T.says.more (by rw [ex_len]; decide))) H
end
end K13

/-! B1: calls by contract, what is kept, data -/
namespace K13
open PySem PySem.Spec PyProof.Rows L2
/-! ### calls by contract -/
section
variable (P : Program) (w : World) (K : PySem.W.Frag) (mg : Str → Option Value) (base : Heap)
/-- the module's name x is a def with the promise sp -/
structure Cal (x : Str) (k : Nat) (ps : List Str) (sp : Sp) : Prop where
  ex : ∃ f fd, FnOk P w K mg base CX0 k f fd ps sp ∧ mg x = some (.ref f) ∧ PySem.W.keepIn K (.ref f) = true ∧ Binds K fd ps []
/-- Reader's method m has the promise sp -/
structure Met (m : Str) (k : Nat) (ps : List Str) (sp : Sp) : Prop where
  cl : Cls K (He.ga K "Reader")
  ex : ∃ f fd, FnOk P w K mg base CX0 k f fd ps sp ∧ Meth K (He.ga K "Reader") m f ∧ Binds K fd ps []
end
section
variable {P : Program} {w : World} {K : PySem.W.Frag} {mg : Str → Option Value} {base : Heap} {x : Str} {j k : Nat} {ps : List Str} {sp sp' : Sp}
theorem Cal.mono (C : Cal P w K mg base x j ps sp) (h : j ≤ k) : Cal P w K mg base x k ps sp := by
  obtain ⟨f, fd, h1, h2⟩ := C.ex
  exact ⟨f, fd, h1.mono h, h2⟩
theorem Met.mono (C : Met P w K mg base x j ps sp) (h : j ≤ k) : Met P w K mg base x k ps sp := by
  obtain ⟨f, fd, h1, h2⟩ := C.ex
  exact ⟨C.cl, f, fd, h1.mono h, h2⟩
theorem Cal.imp (C : Cal P w K mg base x k ps sp) (h : ∀ vs H Q E, sp' vs H Q E → sp vs H Q E) : Cal P w K mg base x k ps sp' := by
  obtain ⟨f, fd, h1, h2⟩ := C.ex
  exact ⟨f, fd, h1.imp h, h2⟩
theorem Met.imp (C : Met P w K mg base x k ps sp) (h : ∀ vs H Q E, sp' vs H Q E → sp vs H Q E) : Met P w K mg base x k ps sp' := by
  obtain ⟨f, fd, h1, h2⟩ := C.ex
  exact ⟨C.cl, f, fd, h1.imp h, h2⟩
/-- a def by its body -/
theorem Cal.of {qual : Str} {st : Stmt} {N : List Str} (F : ∃ fd, FunD K x qual (defArgs st) (defBody st) (defScope st) [] [] (He.ga K x) fd) (g : mg x = some (.ref (He.ga K x))) (S : FnScope N ps (defScope st))
    (hb : ∀ (kV doc pm : Value) (an : Option Addr) (cdv ct : Value) (us : List Value), us.length = ps.length → bindArgs (PySem.W.fnOf x qual (defArgs st) (defBody st) (defScope st) .none kV doc pm an cdv ct) ⟨us, []⟩ = pure (ps.zip us))
    (len : ∀ vs H Q E, sp vs H Q E → vs.length = ps.length)
    (body : ∀ (f : Addr) (cdv : Value) (A : Around) (outer : List Env) (s : Shared) (H : Hp) (vs : List V) (Q : VK) (E : XK), Room k (A.deeper (envOfC qual (defScope st) s.heap.objs.size f cdv)) → sp vs H Q E →
      ∃ t, PSs (cxOf CX0 P w K mg base N qual (defScope st) f cdv A outer s H E).nox (defBody st) t ∧ t { nx := fun _ H' => Q .non H', rt := Q } (start N vs) H) : Cal P w K mg base x (k + 1) ps sp := by
  obtain ⟨fd, F⟩ := F
  refine ⟨_, fd, F.ok S len (fun cdv A outer s H vs Q E hr h => ?_), g, F.kp, F.bindsN hb⟩
  obtain ⟨t, h1, h2⟩ := body _ cdv A outer s H vs Q E hr h
  exact ⟨t, h1.nox, h2⟩
theorem Met.of {qual : Str} {st : Stmt} {N : List Str} (cl : Cls K (He.ga K "Reader")) (F : ∃ fd, FunD K x qual (defArgs st) (defBody st) (defScope st) [] [] (He.ma K (He.ga K "Reader") x) fd) (g : Meth K (He.ga K "Reader") x (He.ma K (He.ga K "Reader") x)) (S : FnScope N ps (defScope st))
    (hb : ∀ (kV doc pm : Value) (an : Option Addr) (cdv ct : Value) (us : List Value), us.length = ps.length → bindArgs (PySem.W.fnOf x qual (defArgs st) (defBody st) (defScope st) .none kV doc pm an cdv ct) ⟨us, []⟩ = pure (ps.zip us))
    (len : ∀ vs H Q E, sp vs H Q E → vs.length = ps.length)
    (body : ∀ (f : Addr) (cdv : Value) (A : Around) (outer : List Env) (s : Shared) (H : Hp) (vs : List V) (Q : VK) (E : XK), Room k (A.deeper (envOfC qual (defScope st) s.heap.objs.size f cdv)) → sp vs H Q E →
      ∃ t, PSs (cxOf CX0 P w K mg base N qual (defScope st) f cdv A outer s H E).nox (defBody st) t ∧ t { nx := fun _ H' => Q .non H', rt := Q } (start N vs) H) : Met P w K mg base x (k + 1) ps sp := by
  obtain ⟨fd, F⟩ := F
  refine ⟨cl, _, fd, F.ok S len (fun cdv A outer s H vs Q E hr h => ?_), g, F.bindsN hb⟩
  obtain ⟨t, h1, h2⟩ := body _ cdv A outer s H vs Q E hr h
  exact ⟨t, h1.nox, h2⟩
/-- nothing can be asked -/
theorem Cal.none_ {qual : Str} {st : Stmt} (F : ∃ fd, FunD K x qual (defArgs st) (defBody st) (defScope st) [] [] (He.ga K x) fd) (g : mg x = some (.ref (He.ga K x)))
    (hb : ∀ (kV doc pm : Value) (an : Option Addr) (cdv ct : Value) (us : List Value), us.length = ps.length → bindArgs (PySem.W.fnOf x qual (defArgs st) (defBody st) (defScope st) .none kV doc pm an cdv ct) ⟨us, []⟩ = pure (ps.zip us))
    (no : ∀ vs H Q E, ¬ sp vs H Q E) : Cal P w K mg base x k ps sp := by
  obtain ⟨fd, F⟩ := F
  exact ⟨_, fd, ⟨fun vs H Q E h => absurd h (no vs H Q E), fun A outer s H args us vs Q E _ _ _ _ h => absurd h (no vs H Q E)⟩, g, F.kp, F.bindsN hb⟩
theorem Met.none_ {qual : Str} {st : Stmt} (cl : Cls K (He.ga K "Reader")) (F : ∃ fd, FunD K x qual (defArgs st) (defBody st) (defScope st) [] [] (He.ma K (He.ga K "Reader") x) fd) (g : Meth K (He.ga K "Reader") x (He.ma K (He.ga K "Reader") x))
    (hb : ∀ (kV doc pm : Value) (an : Option Addr) (cdv ct : Value) (us : List Value), us.length = ps.length → bindArgs (PySem.W.fnOf x qual (defArgs st) (defBody st) (defScope st) .none kV doc pm an cdv ct) ⟨us, []⟩ = pure (ps.zip us))
    (no : ∀ vs H Q E, ¬ sp vs H Q E) : Met P w K mg base x k ps sp := by
  obtain ⟨fd, F⟩ := F
  exact ⟨cl, _, fd, ⟨fun vs H Q E h => absurd h (no vs H Q E), fun A outer s H args us vs Q E _ _ _ _ h => absurd h (no vs H Q E)⟩, g, F.bindsN hb⟩
end
/-- a weaker reading -/
theorem pe_imp {X : Cx} {e : Expr} {t t' : TE} (h : PE X e t) (i : ∀ σ H Q, t' σ H Q → t σ H Q) : PE X e t' := ⟨fun pins s σ H Q I q => h.run pins s σ H Q I (i σ H Q q)⟩
theorem pt_imp {X : Cx} {e : Expr} {t t' : TT} (h : PT X e t) (i : ∀ σ H Q, t' σ H Q → t σ H Q) : PT X e t' := ⟨fun pins s σ H Q I q => h.run pins s σ H Q I (i σ H Q q)⟩
theorem ps_imp {X : Cx} {e : Stmt} {t t' : TS} (h : PS X e t) (i : ∀ D σ H, t' D σ H → t D σ H) : PS X e t' := ⟨fun pins s σ H D I q => h.run pins s σ H D I (i D σ H q)⟩
/-- f(..) by its promise -/
def tCal (sp : Sp) (t : TA) : TE := fun σ H Q => t σ H fun vs H1 => sp vs H1 Q E0
/-- an instance of Reader whose dict holds its four fields -/
def fsR (R : Addr) (n i o : Int) : List (Str × V) := [("rows", .ref R), ("length", .int n), ("at", .int i), ("opened", .int o)]
def IsRd (K : PySem.W.Frag) (v : V) (H : Hp) : Prop := ∃ a dx R n i o, v = .ref a ∧ H a = some (.ins (He.ga K "Reader") dx (fsR R n i o))
/-- self.m(..) by its promise -/
def tMe (K : PySem.W.Frag) (sp : Sp) (ta : TE) (t : TA) : TE := fun σ H Q => ta σ H fun x H1 => IsRd K x H1 ∧ t σ H1 fun vs H2 => sp (x :: vs) H2 Q E0
section
variable {X : Cx} {x m : Str} {k : Nat} {ps : List Str} {sp : Sp} {e o : Expr} {es : List Expr} {ta : TE} {t : TA} {p pos apos : Pos}
theorem pe_cal (C : Cal X.prog X.w X.K X.mg X.base x k ps sp) (hr : Room k X.A) (hg : Gl X x) (ha : PA X (e :: es) t) (hdb : (x == ("__debug__" : Str)) = false := by decide)
    (he : starEach (e :: es) X.env = (false, eval e X.env) :: starEach es X.env := by rfl) (hpl : (backTo pos (starEach es X.env)).any (·.1) = false := by rfl) : PE X (.Call (.Name x p) (e :: es) [] pos) (tCal sp t) := by
  obtain ⟨f, fd, h1, h2, h3, h4⟩ := C.ex
  refine pe_imp (pe_call (E := E0) h1 hr hg h2 h3 h4 .nil pass0 ha hdb he hpl) fun σ H Q h => ?_
  show t σ H fun vs H1 => sp (vs ++ []) H1 Q E0
  simp only [List.append_nil]
  exact h
theorem pe_cal0 (C : Cal X.prog X.w X.K X.mg X.base x k ps sp) (hr : Room k X.A) (hg : Gl X x) (hdb : (x == ("__debug__" : Str)) = false := by decide) : PE X (.Call (.Name x p) [] [] pos) (tCal sp tNil) := by
  obtain ⟨f, fd, h1, h2, h3, h4⟩ := C.ex
  exact pe_imp (pe_call0 (E := E0) h1 hr hg h2 h3 h4 .nil pass0 hdb) fun σ H Q h => h
theorem pe_met (C : Met X.prog X.w X.K X.mg X.base m k ps sp) (hr : Room k X.A) (hm : ∀ R n i o, (fsR R n i o).lookup m = none) (he : PE X o ta) (ha : PA X (e :: es) t)
    (hst : starEach (e :: es) X.env = (false, eval e X.env) :: starEach es X.env := by rfl) (hpl : (backTo pos (starEach es X.env)).any (·.1) = false := by rfl) {pl : Sem Bool}
    (ht : eval (.Call (.Attribute o m apos) (e :: es) [] pos) X.env = (do
      let ov ← eval o X.env
      standAt apos.atName
      let (f, first) ← holding [ov] (getMethod ov m pl)
      callWith pos f first (backTo pos (starEach (e :: es) X.env)) (backToKw pos (keywordEach [] X.env))) := by rfl) : PE X (.Call (.Attribute o m apos) (e :: es) [] pos) (tMe X.K sp ta t) := by
  obtain ⟨f, fd, h1, h2, h4⟩ := C.ex
  refine ⟨fun pins s σ H Q I h => ?_⟩
  refine PySem.W.methodCall_KW (pl := pl) (thn (he.run pins s σ H _ I h) fun u s1 ⟨y, H1, I1, rx, ⟨a, dx, R, n, i, o, ey, ea⟩, q⟩ => ?_) ht
  subst ey
  obtain rfl : u = Value.ref a := rx
  refine getmeth_ok I1 ea C.cl h2 (hm R n i o) ?_
  refine PySem.W.callWith_K (first := [.ref a]) (h₀ := X.base) I.ok.mod.kin h2.kp (thn (ha.run pos pins s1 σ H1 _ I1 q) fun us s2 ⟨vs, H2, I2, r, q2⟩ => ⟨I2.kIn, ?_⟩) hst hpl
  exact run_fn (us := .ref a :: us) (vs := .ref a :: vs) (dvs := []) (E := E0) h1 hr h4 .nil pass0 I2 (.cons rfl r) (by rw [List.append_nil]; exact q2)
theorem pe_met0 (C : Met X.prog X.w X.K X.mg X.base m k ps sp) (hr : Room k X.A) (hm : ∀ R n i o, (fsR R n i o).lookup m = none) (he : PE X o ta) {pl : Sem Bool}
    (ht : eval (.Call (.Attribute o m apos) [] [] pos) X.env = (do
      let ov ← eval o X.env
      standAt apos.atName
      let (f, first) ← holding [ov] (getMethod ov m pl)
      callWith pos f first (backTo pos (starEach [] X.env)) (backToKw pos (keywordEach [] X.env))) := by rfl) : PE X (.Call (.Attribute o m apos) [] [] pos) (tMe X.K sp ta tNil) := by
  obtain ⟨f, fd, h1, h2, h4⟩ := C.ex
  refine ⟨fun pins s σ H Q I h => ?_⟩
  refine PySem.W.methodCall_KW (pl := pl) (thn (he.run pins s σ H _ I h) fun u s1 ⟨y, H1, I1, rx, ⟨a, dx, R, n, i, o, ey, ea⟩, q⟩ => ?_) ht
  subst ey
  obtain rfl : u = Value.ref a := rx
  refine getmeth_ok I1 ea C.cl h2 (hm R n i o) ?_
  exact PySem.W.callWith_K0 (first := [.ref a]) I1.kIn h2.kp (run_fn (us := [.ref a]) (vs := [.ref a]) (dvs := []) (E := E0) h1 hr h4 .nil pass0 I1 (.cons rfl .nil) q)
end
/-! ### what is kept -/
/-- all that is tracked but what stands at ms is as it was -/
def Ext (ms : List Addr) (H H' : Hp) : Prop := ∀ b o, H b = some o → b ∉ ms → H' b = some o
theorem Ext.refl (ms : List Addr) (H : Hp) : Ext ms H H := fun _ _ h _ => h
theorem Ext.trans {ms : List Addr} {H H1 H2 : Hp} (a : Ext ms H H1) (b : Ext ms H1 H2) : Ext ms H H2 := fun c o h n => b c o (a c o h n) n
theorem Ext.mono {ms ns : List Addr} {H H1 : Hp} (a : Ext ms H H1) (h : ∀ m ∈ ms, m ∈ ns) : Ext ns H H1 := fun c o hc n => a c o hc fun z => n (h c z)
theorem Ext.new {ms : List Addr} {H : Hp} {p : Addr} {o : HO} (h : H p = none) : Ext ms H (upd H p o) := fun b u q _ => by rw [upd_ne (ne_of_none q h)]; exact q
theorem Ext.news {ms : List Addr} {H H1 : Hp} {p : Addr} {o : HO} (e : Ext ms H H1) (h : H1 p = none) : Ext ms H (upd H1 p o) := e.trans (.new h)
theorem Ext.set {ms : List Addr} {H H1 : Hp} {p : Addr} {o : HO} (e : Ext ms H H1) (h : p ∈ ms) : Ext ms H (upd H1 p o) := fun b u q n => by
  rw [upd_ne (show b ≠ p from fun z => n (by rw [z]; exact h))]
  exact e b u q n
theorem Ext.nil {ms : List Addr} {H H1 : Hp} (e : Ext [] H H1) : Ext ms H H1 := e.mono fun m h => nomatch h
theorem Ext.free {H H' : Hp} (e : Ext [] H H') {l : Addr} (h : H' l = none) : H l = none := by
  cases q : H l with
  | none => rfl
  | some o => rw [e l o q (by simp)] at h; cases h
/-- an object that H does not know may change -/
theorem Ext.own {ms : List Addr} {H H1 : Hp} {p : Addr} {o : HO} (e : Ext ms H H1) (h : H p = none) : Ext ms H (upd H1 p o) := fun b u q n => by
  rw [upd_ne (ne_of_none q h)]
  exact e b u q n
/-- no tuple stands at ms -/
def NoT (H : Hp) (ms : List Addr) : Prop := ∀ m ∈ ms, ∀ xs, ¬ Rd H m (.tup xs)
theorem Ext.tup {K : PySem.W.Frag} {ms : List Addr} {H H' : Hp} (e : Ext ms H H') (n : NoT H ms) {a : Addr} {xs : List V} (h : SqT K H a xs) : SqT K H' a xs := by
  rcases h with h | h
  · have na : a ∉ ms := fun z => n a z xs h
    rcases h with h | ⟨o, h⟩
    · exact .inl (.inl (e _ _ h na))
    · exact .inl (.inr ⟨o, e _ _ h na⟩)
  · exact .inr h
theorem NoT.nil {H : Hp} : NoT H [] := fun m h => nomatch h
theorem NoT.cons {H : Hp} {m : Addr} {ms : List Addr} {o : HO} (h : H m = some o) (d : ∀ xs, o ≠ .tup xs) (d2 : ∀ ob xs, o ≠ .frz ob (.tup xs)) (r : NoT H ms) : NoT H (m :: ms) := fun b hb xs z => by
  rcases List.mem_cons.mp hb with e | hb
  · subst e
    rcases z with z | ⟨ob, z⟩
    · rw [h] at z; exact d xs (Option.some.inj z)
    · rw [h] at z; exact d2 ob xs (Option.some.inj z)
  · exact r b hb xs z
theorem NoT.lst {H : Hp} {m : Addr} {ms : List Addr} {ys : List V} (h : H m = some (.lst ys)) (r : NoT H ms) : NoT H (m :: ms) := .cons h (fun _ => HO.noConfusion) (fun _ _ => HO.noConfusion) r
theorem NoT.ins {H : Hp} {m : Addr} {ms : List Addr} {C dx : Addr} {fs : List (Str × V)} (h : H m = some (.ins C dx fs)) (r : NoT H ms) : NoT H (m :: ms) := .cons h (fun _ => HO.noConfusion) (fun _ _ => HO.noConfusion) r
theorem Ext.sqL {K : PySem.W.Frag} {H H' : Hp} (e : Ext [] H H') {a : Addr} {xs : List V} (h : SqL K H a xs) : SqL K H' a xs := by
  rcases h with (h | ⟨o, h⟩) | h
  · exact .inl (.inl (e _ _ h (by simp)))
  · exact .inl (.inr ⟨o, e _ _ h (by simp)⟩)
  · exact .inr h
/-! ### data of ints, truths, texts and tuples -/
inductive D where
  | int (i : Int) | bl (b : Bool) | str (s : Str) | tup (ds : List D)
mutual
/-- the value v is the datum d -/
def Rp (K : PySem.W.Frag) (H : Hp) : D → V → Prop
  | .int i, v => v = .int i
  | .bl b, v => v = .bl b
  | .str s, v => v = .str s
  | .tup ds, v => ∃ a xs, v = .ref a ∧ SqT K H a xs ∧ RpL K H ds xs
def RpL (K : PySem.W.Frag) (H : Hp) : List D → List V → Prop
  | [], xs => xs = []
  | d :: ds, xs => ∃ x r, xs = x :: r ∧ Rp K H d x ∧ RpL K H ds r
end
mutual
theorem Rp.keep {K : PySem.W.Frag} {H H' : Hp} (k : ∀ a xs, SqT K H a xs → SqT K H' a xs) : ∀ {d : D} {v : V}, Rp K H d v → Rp K H' d v
  | .int _, _, h => h
  | .bl _, _, h => h
  | .str _, _, h => h
  | .tup ds, _, ⟨a, xs, e, h, r⟩ => ⟨a, xs, e, k a xs h, RpL.keep k r⟩
theorem RpL.keep {K : PySem.W.Frag} {H H' : Hp} (k : ∀ a xs, SqT K H a xs → SqT K H' a xs) : ∀ {ds : List D} {vs : List V}, RpL K H ds vs → RpL K H' ds vs
  | [], _, h => h
  | d :: ds, _, ⟨x, r, e, h, t⟩ => ⟨x, r, e, Rp.keep k h, RpL.keep k t⟩
end
theorem Rp.ext {K : PySem.W.Frag} {ms : List Addr} {H H' : Hp} {d : D} {v : V} (e : Ext ms H H') (n : NoT H ms) (h : Rp K H d v) : Rp K H' d v := h.keep fun _ _ q => e.tup n q
theorem RpL.ext {K : PySem.W.Frag} {ms : List Addr} {H H' : Hp} {d : List D} {v : List V} (e : Ext ms H H') (n : NoT H ms) (h : RpL K H d v) : RpL K H' d v := h.keep fun _ _ q => e.tup n q
theorem Rp.ex0 {K : PySem.W.Frag} {H H' : Hp} {d : D} {v : V} (h : Rp K H d v) (e : Ext [] H H') : Rp K H' d v := h.ext e .nil
theorem RpL.ex0 {K : PySem.W.Frag} {H H' : Hp} {d : List D} {v : List V} (h : RpL K H d v) (e : Ext [] H H') : RpL K H' d v := h.ext e .nil
theorem RpL.length {K : PySem.W.Frag} {H : Hp} : ∀ {ds : List D} {vs : List V}, RpL K H ds vs → ds.length = vs.length
  | [], _, h => by cases (show _ = [] from h); rfl
  | d :: ds, _, ⟨x, r, e, _, t⟩ => by subst e; simp [RpL.length t]
theorem RpL.append {K : PySem.W.Frag} {H : Hp} : ∀ {ds es : List D} {vs ws : List V}, RpL K H ds vs → RpL K H es ws → RpL K H (ds ++ es) (vs ++ ws)
  | [], _, _, _, h, q => by cases (show _ = [] from h); exact q
  | d :: ds, _, _, _, ⟨x, r, e, h, t⟩, q => by subst e; exact ⟨x, r ++ _, rfl, h, t.append q⟩
theorem RpL.get {K : PySem.W.Frag} {H : Hp} : ∀ {ds : List D} {vs : List V} {i : Nat} {d : D}, RpL K H ds vs → ds[i]? = some d → ∃ v, vs[i]? = some v ∧ Rp K H d v
  | [], _, _, _, _, q => by simp at q
  | d :: ds, _, 0, _, ⟨x, r, e, h, t⟩, q => by subst e; simp at q; subst q; exact ⟨x, rfl, h⟩
  | d :: ds, _, i + 1, d', ⟨x, r, e, h, t⟩, q => by
    subst e
    obtain ⟨v, h1, h2⟩ := RpL.get (i := i) (d := d') t (by simpa using q)
    exact ⟨v, by simpa using h1, h2⟩
theorem RpL.snoc {K : PySem.W.Frag} {H : Hp} {ds : List D} {vs : List V} {d : D} {v : V} (h : RpL K H ds vs) (q : Rp K H d v) : RpL K H (ds ++ [d]) (vs ++ [v]) := h.append ⟨v, [], rfl, q, rfl⟩
end K13

/-! M1: terms, their data, their tokens, their printing: plain Lean -/
namespace K13
open PySem L2
/-! ### texts as lists of codes -/
abbrev o (s : String) : Str := Str.ofString s
def S (l : List Nat) : Str := ⟨l.toArray⟩
def cd (x : Str) : List Nat := x.cps.toList
theorem S_cd (x : Str) : S (cd x) = x := by cases x; simp [S, cd]
theorem cd_S (l : List Nat) : cd (S l) = l := by simp [S, cd]
theorem S_app (a b : List Nat) : S a ++ S b = S (a ++ b) := by show (⟨a.toArray ++ b.toArray⟩ : Str) = ⟨(a ++ b).toArray⟩; simp
theorem cd_app (a b : Str) : cd (a ++ b) = cd a ++ cd b := by show (a.cps ++ b.cps).toList = _; simp [cd]
theorem cd_len (x : Str) : x.length = (cd x).length := by simp [cd, Str.length]
theorem S_len (l : List Nat) : (S l).length = l.length := by simp [S, Str.length]
theorem cd_inj {x y : Str} (h : cd x = cd y) : x = y := by rw [← S_cd x, ← S_cd y, h]
theorem S_inj {a b : List Nat} (h : S a = S b) : a = b := by rw [← cd_S a, ← cd_S b, h]
/-! ### terms: p pairs of brackets around a head with its parts -/
inductive Hd where
  | num (n : Int) | tru (b : Bool) | var (v : Str) | fact (v : Str) | fail
  | minus | not_ | bin (s : Str) | pair | list | call (f : Str) | let_ (v : Str) | ite_ | fold (x s : Str) | note
inductive Tm where
  | mk (p : Nat) (h : Hd) (cs : List Tm)
def Tm.p : Tm → Nat | .mk p _ _ => p
def Tm.h : Tm → Hd | .mk _ h _ => h
def Tm.cs : Tm → List Tm | .mk _ _ cs => cs
mutual
theorem Tm.ind {P : Tm → Prop} (step : ∀ p h cs, (∀ c ∈ cs, P c) → P (.mk p h cs)) : ∀ t, P t
  | .mk p h cs => step p h cs (Tm.inds step cs)
theorem Tm.inds {P : Tm → Prop} (step : ∀ p h cs, (∀ c ∈ cs, P c) → P (.mk p h cs)) : ∀ (cs : List Tm), ∀ c ∈ cs, P c
  | [], _, m => nomatch m
  | t :: r, c, m => by
    rcases List.mem_cons.mp m with e | m
    · rw [e]; exact Tm.ind step t
    · exact Tm.inds step r c m
end
def Hd.tag : Hd → Str
  | .num _ => "number" | .tru _ => "truth" | .var _ => "variable" | .fact _ => "fact" | .fail => "fail"
  | .minus => "minus" | .not_ => "not" | .bin _ => "binary" | .pair => "pair" | .list => "list" | .call _ => "call"
  | .let_ _ => "let" | .ite_ => "if" | .fold _ _ => "fold" | .note => "note"
/-- what stands behind the tag, ahead of the parts -/
def Hd.more : Hd → List D
  | .num n => [.int n] | .tru b => [.bl b] | .var v => [.str v] | .fact v => [.str v] | .fail => []
  | .minus => [] | .not_ => [] | .bin s => [.str s] | .pair => [] | .list => [] | .call f => [.str f]
  | .let_ v => [.str v] | .ite_ => [] | .fold x s => [.str x, .str s] | .note => []
def Hd.nested : Hd → Bool
  | .list => true | .call _ => true | _ => false
mutual
def enc : Tm → D
  | .mk _ h cs => .tup (.str h.tag :: (h.more ++ if h.nested then [.tup (encs cs)] else encs cs))
def encs : List Tm → List D
  | [] => []
  | t :: r => enc t :: encs r
end
theorem encs_map : ∀ cs : List Tm, encs cs = cs.map enc
  | [] => rfl
  | t :: r => by rw [encs, encs_map r, List.map_cons]
theorem enc_mk (p : Nat) (h : Hd) (cs : List Tm) : enc (.mk p h cs) = .tup (.str h.tag :: (h.more ++ if h.nested then [.tup (cs.map enc)] else cs.map enc)) := by rw [enc, encs_map]
theorem enc_p (p q : Nat) (h : Hd) (cs : List Tm) : enc (.mk p h cs) = enc (.mk q h cs) := by rw [enc_mk, enc_mk]
/-! ### a script -/
structure Df where
  name : Str
  pars : List Str
  term : Tm
structure Sc where
  defs : List Df
  body : Tm
def Df.enc (d : Df) : D := .tup [.str d.name, .tup (d.pars.map .str), K13.enc d.term]
def Sc.enc (s : Sc) : D := .tup [.tup (s.defs.map Df.enc), K13.enc s.body]
/-! ### sizes -/
def maxl : List Nat → Nat
  | [] => 0
  | x :: r => max x (maxl r)
theorem le_maxl : ∀ {l : List Nat} {x : Nat}, x ∈ l → x ≤ maxl l
  | y :: r, x, h => by
    rcases List.mem_cons.mp h with e | h
    · subst e; exact Nat.le_max_left _ _
    · exact Nat.le_trans (le_maxl h) (Nat.le_max_right _ _)
theorem maxl_le {l : List Nat} {n : Nat} (h : ∀ x ∈ l, x ≤ n) : maxl l ≤ n := by
  induction l with
  | nil => exact Nat.zero_le _
  | cons y r ih => exact Nat.max_le.mpr ⟨h y (by simp), ih fun x hx => h x (by simp [hx])⟩
theorem maxl_app (a b : List Nat) : maxl (a ++ b) = max (maxl a) (maxl b) := by
  induction a with
  | nil => simp [maxl]
  | cons x r ih => simp only [List.cons_append, maxl, ih]; omega
def Hd.opn : Hd → Nat
  | .minus => 1 | .not_ => 1 | .pair => 1 | .list => 1 | .call _ => 1 | .let_ _ => 1 | .ite_ => 1 | .fold _ _ => 1 | .note => 1
  | _ => 0
mutual
/-- how many terms and brackets -/
def sz : Tm → Nat
  | .mk p _ cs => 1 + p + szs cs
def szs : List Tm → Nat
  | [] => 0
  | t :: r => sz t + szs r
end
mutual
/-- how many constructs are open at once -/
def nest : Tm → Nat
  | .mk p h cs => p + h.opn + nests cs
def nests : List Tm → Nat
  | [] => 0
  | t :: r => max (nest t) (nests r)
end
mutual
def dep : Tm → Nat
  | .mk _ _ cs => 1 + deps cs
def deps : List Tm → Nat
  | [] => 0
  | t :: r => max (dep t) (deps r)
end
theorem szs_map : ∀ cs : List Tm, szs cs = (cs.map sz).sum
  | [] => rfl
  | t :: r => by rw [szs, szs_map r, List.map_cons, List.sum_cons]
theorem nests_map : ∀ cs : List Tm, nests cs = maxl (cs.map nest)
  | [] => rfl
  | t :: r => by rw [nests, nests_map r, List.map_cons, maxl]
theorem deps_map : ∀ cs : List Tm, deps cs = maxl (cs.map dep)
  | [] => rfl
  | t :: r => by rw [deps, deps_map r, List.map_cons, maxl]
theorem sz_mk (p : Nat) (h : Hd) (cs : List Tm) : sz (.mk p h cs) = 1 + p + (cs.map sz).sum := by rw [sz, szs_map]
theorem nest_mk (p : Nat) (h : Hd) (cs : List Tm) : nest (.mk p h cs) = p + h.opn + maxl (cs.map nest) := by rw [nest, nests_map]
theorem dep_mk (p : Nat) (h : Hd) (cs : List Tm) : dep (.mk p h cs) = 1 + maxl (cs.map dep) := by rw [dep, deps_map]
theorem sz_pos (t : Tm) : 0 < sz t := by cases t; rw [sz_mk]; omega
theorem mem_sum : ∀ {l : List Nat} {x : Nat}, x ∈ l → x ≤ l.sum
  | y :: r, x, h => by
    rw [List.sum_cons]
    rcases List.mem_cons.mp h with e | h
    · omega
    · have := mem_sum h; omega
theorem sz_mem {cs : List Tm} {c : Tm} (h : c ∈ cs) : sz c ≤ (cs.map sz).sum := mem_sum (List.mem_map_of_mem h)
theorem nest_mem {cs : List Tm} {c : Tm} (h : c ∈ cs) : nest c ≤ maxl (cs.map nest) := le_maxl (List.mem_map_of_mem h)
theorem dep_mem {cs : List Tm} {c : Tm} (h : c ∈ cs) : dep c ≤ maxl (cs.map dep) := le_maxl (List.mem_map_of_mem h)
/-! ### levels -/
def lvS (s : Str) : Nat :=
  if s = "or" then 1 else if s = "and" then 2 else if s = "==" ∨ s = "<" ∨ s = "<=" then 3 else if s = "+" ∨ s = "-" then 4 else 5
def Hd.lv : Hd → Nat
  | .bin s => lvS s
  | .let_ _ => 0 | .ite_ => 0 | .fold _ _ => 0 | .note => 0
  | .minus => 6 | .not_ => 6
  | _ => 7
/-- the least level of the i-th part -/
def Hd.least (h : Hd) (i : Nat) : Nat := match h with
  | .bin s => if i = 0 then (if lvS s = 3 then 4 else lvS s) else lvS s + 1
  | .minus => 6 | .not_ => 6
  | _ => 0
/-- the level of a term with its brackets -/
def Tm.el (t : Tm) : Nat := if t.p = 0 then t.h.lv else 7
/-! ### tokens, as the law writes them -/
def sepc : List (List Str) → List Str
  | [] => []
  | [r] => r
  | r :: s :: q => r ++ (o "," :: sepc (s :: q))
def Hd.bare (h : Hd) (rs : List (List Str)) : List Str := match h with
  | .num n => [o (toString n)]
  | .tru b => [if b then o "true" else o "false"]
  | .var v => [v] | .fact v => [v] | .fail => [o "fail"]
  | .minus => o "u-" :: rs.getD 0 []
  | .not_ => o "not" :: rs.getD 0 []
  | .bin s => rs.getD 0 [] ++ s :: rs.getD 1 []
  | .pair => o "(" :: (sepc rs ++ [o ")"])
  | .list => o "[" :: (sepc rs ++ [o "]"])
  | .call f => f :: o "c(" :: (sepc rs ++ [o ")"])
  | .let_ v => o "let" :: v :: o "=" :: (rs.getD 0 [] ++ o "in" :: rs.getD 1 [])
  | .ite_ => o "if" :: (rs.getD 0 [] ++ o "then" :: (rs.getD 1 [] ++ o "else" :: rs.getD 2 []))
  | .fold x s => o "fold" :: x :: s :: o "in" :: (rs.getD 0 [] ++ o "from" :: (rs.getD 1 [] ++ o "do" :: rs.getD 2 []))
  | .note => o "note" :: (rs.getD 0 [] ++ o "then" :: rs.getD 1 [])
def wrap : Nat → List Str → List Str
  | 0, r => r
  | p + 1, r => o "(" :: (wrap p r ++ [o ")"])
mutual
def tk : Tm → List Str
  | .mk p h cs => wrap p (h.bare (tks cs))
def tks : List Tm → List (List Str)
  | [] => []
  | t :: r => tk t :: tks r
end
theorem tks_map : ∀ cs : List Tm, tks cs = cs.map tk
  | [] => rfl
  | t :: r => by rw [tks, tks_map r, List.map_cons]
theorem tk_mk (p : Nat) (h : Hd) (cs : List Tm) : tk (.mk p h cs) = wrap p (h.bare (cs.map tk)) := by rw [tk, tks_map]
/-- a token as it stands in a text -/
def pl (t : Str) : Str := if t = o "u-" then o "-" else if t = o "c(" then o "(" else t
/-- brackets where the levels ask for them, at least -/
def Okc (h : Hd) (cs : List Tm) : Prop := ∀ i c, cs[i]? = some c → h.least i ≤ c.el
mutual
def Okd : Tm → Prop
  | .mk _ h cs => Okc h cs ∧ Okds cs
def Okds : List Tm → Prop
  | [] => True
  | t :: r => Okd t ∧ Okds r
end
theorem okds_iff : ∀ {cs : List Tm}, Okds cs ↔ ∀ c ∈ cs, Okd c
  | [] => by simp [Okds]
  | t :: r => by rw [Okds, okds_iff]; simp
/-! ### what a head asks: its number of parts, names, numbers -/
def isL (c : Nat) : Bool := decide (97 ≤ c ∧ c ≤ 122)
def isD (c : Nat) : Bool := decide (48 ≤ c ∧ c ≤ 57)
structure Word (v : Str) : Prop where
  pos : cd v ≠ []
  len : (cd v).length ≤ 12
  all : ∀ c ∈ cd v, isL c = true
structure Name (v : Str) : Prop extends Word v where
  free : v ∉ tu_RESERVED
def signs : List Str := ["or", "and", "==", "<", "<=", "+", "-", "*", "div", "mod"]
def fnames : List Str := kv_FUNCTIONS.map (·.1)
def Hd.Wf (h : Hd) (n : Nat) : Prop := match h with
  | .num k => n = 0 ∧ 0 ≤ k ∧ k ≤ 1000000000000000
  | .tru _ => n = 0
  | .var v => n = 0 ∧ Name v
  | .fact v => n = 0 ∧ v ∈ tu_FACTS
  | .fail => n = 0
  | .minus => n = 1 | .not_ => n = 1
  | .bin s => n = 2 ∧ s ∈ signs
  | .pair => n = 2
  | .list => n ≤ 8
  | .call f => n ≤ 4 ∧ (Name f ∨ f ∈ fnames)
  | .let_ v => n = 2 ∧ Name v
  | .ite_ => n = 3
  | .fold x s => n = 3 ∧ Name x ∧ Name s
  | .note => n = 2
mutual
def Wf : Tm → Prop
  | .mk _ h cs => h.Wf cs.length ∧ Wfs cs
def Wfs : List Tm → Prop
  | [] => True
  | t :: r => Wf t ∧ Wfs r
end
theorem wfs_iff : ∀ {cs : List Tm}, Wfs cs ↔ ∀ c ∈ cs, Wf c
  | [] => by simp [Wfs]
  | t :: r => by rw [Wfs, wfs_iff]; simp
/-! ### uses -/
def Hd.bnd (h : Hd) (i : Nat) : List Str := match h with
  | .let_ v => if i = 1 then [v] else []
  | .fold x s => if i = 2 then [x, s] else []
  | _ => []
def Hd.uses (h : Hd) (n : Nat) (vars : List Str) (known : List (Str × Int)) : Prop := match h with
  | .var v => v ∈ vars
  | .call f => known.lookup f = some (n : Int)
  | .fold x s => x ≠ s
  | _ => True
mutual
def Us (vars : List Str) (known : List (Str × Int)) : Tm → Prop
  | .mk _ h cs => h.uses cs.length vars known ∧ Uss vars known h 0 cs
def Uss (vars : List Str) (known : List (Str × Int)) (h : Hd) : Nat → List Tm → Prop
  | _, [] => True
  | i, t :: r => Us (vars ++ h.bnd i) known t ∧ Uss vars known h (i + 1) r
end
theorem uss_iff {vars : List Str} {known : List (Str × Int)} {h : Hd} : ∀ {cs : List Tm} {i : Nat}, Uss vars known h i cs ↔ ∀ j c, cs[j]? = some c → Us (vars ++ h.bnd (i + j)) known c
  | [], i => by simp [Uss]
  | t :: r, i => by
    rw [Uss, uss_iff (cs := r) (i := i + 1)]
    constructor
    · rintro ⟨h1, h2⟩ j c e
      cases j with
      | zero => simp at e; subst e; exact h1
      | succ j => have := h2 j c (by simpa using e); rwa [show i + 1 + j = i + (j + 1) by omega] at this
    · intro q
      exact ⟨q 0 t (by simp), fun j c e => by have := q (j + 1) c (by simpa using e); rwa [show i + (j + 1) = i + 1 + j by omega] at this⟩
/-! ### printing, as the program does it -/
def par (l n : Nat) (x : List Nat) : List Nat := if l < n then 40 :: (x ++ [41]) else x
def joinc : List (List Nat) → List Nat
  | [] => []
  | [r] => r
  | r :: s :: q => r ++ (44 :: 32 :: joinc (s :: q))
def Hd.pr (h : Hd) (xs : List (List Nat)) : List Nat := match h with
  | .num n => cd (o (toString n))
  | .tru b => if b then cd "true" else cd "false"
  | .var v => cd v | .fact v => cd v | .fail => cd "fail"
  | .minus => 45 :: xs.getD 0 []
  | .not_ => cd "not " ++ xs.getD 0 []
  | .bin s => xs.getD 0 [] ++ 32 :: (cd s ++ 32 :: xs.getD 1 [])
  | .pair => 40 :: (joinc xs ++ [41])
  | .list => 91 :: (joinc xs ++ [93])
  | .call f => cd f ++ 40 :: (joinc xs ++ [41])
  | .let_ v => cd "let " ++ (cd v ++ (cd " = " ++ (xs.getD 0 [] ++ (cd " in " ++ xs.getD 1 []))))
  | .ite_ => cd "if " ++ (xs.getD 0 [] ++ (cd " then " ++ (xs.getD 1 [] ++ (cd " else " ++ xs.getD 2 []))))
  | .note => cd "note " ++ (xs.getD 0 [] ++ (cd " then " ++ xs.getD 1 []))
  | .fold x s => cd "fold " ++ (cd x ++ (32 :: (cd s ++ (cd " in " ++ (xs.getD 0 [] ++ (cd " from " ++ (xs.getD 1 [] ++ (cd " do " ++ xs.getD 2 [])))))))) 
mutual
def pr : Tm → List Nat
  | .mk _ h cs => h.pr (prs h 0 cs)
def prs (h : Hd) : Nat → List Tm → List (List Nat)
  | _, [] => []
  | i, t :: r => par t.h.lv (h.least i) (pr t) :: prs h (i + 1) r
end
end K13

/-! B2: rules that the layer lacks -/
namespace K13
open PySem PySem.Spec PyProof.Rows L2
section
variable {X : Cx} {x : Str} {pos : Pos}
theorem pe_gi {i : Int} (hg : Gl X x) (h : ∃ t, X.mg x = some (.int i t)) (hdb : (x == ("__debug__" : Str)) = false := by decide) (hcd : (x == ("__classdict__" : Str)) = false := by decide) : PE X (.Name x pos) (tC (.int i)) := by
  obtain ⟨t, e⟩ := h
  exact pe_glob hg e ⟨t, rfl⟩ hdb
theorem pe_gs {z : Str} (hg : Gl X x) (h : ∃ t, X.mg x = some (.str z t)) (hdb : (x == ("__debug__" : Str)) = false := by decide) : PE X (.Name x pos) (tC (.str z)) := by
  obtain ⟨t, e⟩ := h
  exact pe_glob hg e ⟨t, rfl⟩ hdb
theorem pe_gr {a : Addr} (hg : Gl X x) (h : X.mg x = some (.ref a)) (hdb : (x == ("__debug__" : Str)) = false := by decide) : PE X (.Name x pos) (tC (.ref a)) := pe_glob hg h rfl hdb
end
/-! ### a dict of the top: text keys, int values -/
/-- at a stands the top's dict kvs -/
structure KD (K : PySem.W.Frag) (w : World) (a : Addr) (kvs : List (Str × Int)) : Prop where
  ex : ∃ es n, KDict K w a es n ∧ es.toList.map kvOf = kvs.map some
  nd : (kvs.map (·.1)).Nodup
  sz : kvs.length ≤ 1000
theorem KD.of {K : PySem.W.Frag} {w : World} {a : Addr} {kvs : List (Str × Int)} (h1 : ∃ es n, KDict K w a es n) (h2 : dicB K a kvs = true) (h3 : (kvs.map (·.1)).Nodup) (h4 : kvs.length ≤ 1000) : KD K w a kvs := by
  obtain ⟨es, n, k⟩ := h1
  refine ⟨⟨es, n, k, ?_⟩, h3, h4⟩
  unfold dicB at h2
  rw [k.at_] at h2
  exact of_decide_eq_true h2
theorem kvOf_some {e : DictEntry} {x : Str} {i : Int} (h : kvOf e = some (x, i)) : ∃ t u, e.key = .str x t ∧ e.val = .int i u := by
  unfold kvOf at h
  split at h
  · rename_i y t j u hk hv
    have h2 := Option.some.inj h
    cases h2
    exact ⟨t, u, hk, hv⟩
  · cases h
theorem find_kv : ∀ {l : List DictEntry} {kvs : List (Str × Int)} (z : Str), l.map kvOf = kvs.map some →
    (∀ i, kvs.lookup z = some i → ∃ e t, l.find? (·.key.isStr z) = some e ∧ e.val = .int i t) ∧ (kvs.lookup z = none → l.find? (·.key.isStr z) = none ∧ l.any (·.refKey) = false)
  | [], [], z, _ => ⟨fun i h => by simp at h, fun _ => ⟨rfl, rfl⟩⟩
  | [], _ :: _, _, h => by simp at h
  | _ :: _, [], _, h => by simp at h
  | e :: l, (x, j) :: kvs, z, h => by
    have h0 : kvOf e :: l.map kvOf = some (x, j) :: kvs.map some := h
    injection h0 with h1 h2
    obtain ⟨t, u, hk, hv⟩ := kvOf_some h1
    obtain ⟨ih1, ih2⟩ := find_kv z h2
    have es : e.key.isStr z = (z == x) := by
      rw [hk, PySem.W.isStr_of]
      show Value.isStrOf z (.str x t) = _
      cases q : (z == x) with
      | true =>
        have e2 : z = x := eq_of_beq q
        subst e2
        simp [Value.isStrOf]
      | false =>
        have e2 : ¬ z = x := fun c => by rw [c] at q; simp at q
        simp [Value.isStrOf, e2]
        intro c; exact e2 c.symm
    have er : e.refKey = false := by
      show (match e.key with | .ref _ => true | _ => false) = false
      rw [hk]
    cases q : (z == x) with
    | true =>
      rw [List.lookup_cons, q]
      refine ⟨fun i hi => ?_, fun hi => nomatch hi⟩
      cases hi
      exact ⟨e, u, by rw [List.find?_cons, es, q], hv⟩
    | false =>
      rw [List.lookup_cons, q, List.find?_cons, es, q]
      refine ⟨ih1, fun hi => ?_⟩
      obtain ⟨a, b⟩ := ih2 hi
      exact ⟨a, by rw [List.any_cons, er, b] <;> rfl⟩
section
variable {K : PySem.W.Frag} {w : World} {a : Addr} {kvs : List (Str × Int)} {z : Str} {i : Int}
theorem KD.yes (k : KD K w a kvs) (h : kvs.lookup z = some i) : ∃ t, PySem.W.nsIn K a z = some (some (.int i t)) := by
  obtain ⟨es, n, kd, e⟩ := k.ex
  obtain ⟨en, t, h1, h2⟩ := (find_kv z e).1 i h
  refine ⟨t, ?_⟩
  unfold PySem.W.nsIn
  rw [kd.at_]
  simp only [h1, h2]
theorem KD.no (k : KD K w a kvs) (h : kvs.lookup z = none) : PySem.W.nsIn K a z = some none := by
  obtain ⟨es, n, kd, e⟩ := k.ex
  obtain ⟨h1, h2⟩ := (find_kv z e).2 h
  unfold PySem.W.nsIn
  rw [kd.at_]
  simp only [h1, h2]
  rfl
theorem KD.get (k : KD K w a kvs) (h : kvs.lookup z = some i) : KDct K w a z (.int i) := by
  obtain ⟨t, e⟩ := k.yes h
  obtain ⟨es, n, kd, _⟩ := k.ex
  exact ⟨es, n, _, kd.at_, kd.lit, e, ⟨t, rfl⟩⟩
end
section
variable {X : Cx}
/-- x in d -/
theorem op_in_kdA : OpR X (compareOp .In) (fun x y H Q => ∃ (z : Str) (d : Addr) (kvs : List (Str × Int)), x = .str z ∧ y = .ref d ∧ KD X.K X.w d kvs ∧ Q (.bl (kvs.lookup z).isSome) H) := by
  intro pins s σ H x y v u Q I rx ry h
  obtain ⟨z, d, kvs, rfl, rfl, k, q⟩ := h
  obtain ⟨es, n, kd, e⟩ := k.ex
  cases l : kvs.lookup z with
  | none =>
    rw [l] at q
    exact op_in_kd kd pins s σ H _ _ v u Q I rx ry ⟨z, none, rfl, rfl, k.no l, q⟩
  | some i =>
    rw [l] at q
    obtain ⟨t, e2⟩ := k.yes l
    exact op_in_kd kd pins s σ H _ _ v u Q I rx ry ⟨z, _, rfl, rfl, e2, q⟩
theorem op_notIn_kdA : OpR X (compareOp .NotIn) (fun x y H Q => ∃ (z : Str) (d : Addr) (kvs : List (Str × Int)), x = .str z ∧ y = .ref d ∧ KD X.K X.w d kvs ∧ Q (.bl (!(kvs.lookup z).isSome)) H) := by
  intro pins s σ H x y v u Q I rx ry h
  obtain ⟨z, d, kvs, rfl, rfl, k, q⟩ := h
  obtain ⟨es, n, kd, e⟩ := k.ex
  cases l : kvs.lookup z with
  | none =>
    rw [l] at q
    exact op_notIn_kd kd pins s σ H _ _ v u Q I rx ry ⟨z, none, rfl, rfl, k.no l, q⟩
  | some i =>
    rw [l] at q
    obtain ⟨t, e2⟩ := k.yes l
    exact op_notIn_kd kd pins s σ H _ _ v u Q I rx ry ⟨z, _, rfl, rfl, e2, q⟩
/-- text * n -/
theorem op_mul_str : OpR X (binaryOp .Mult) (fun x y H Q => ∃ (z : Str) (n : Int), x = .str z ∧ y = .int n ∧ MulOk z n ∧ Q (.str (Txt.mul z n)) H) := by
  intro pins s σ H x y v u Q I rx ry h
  obtain ⟨z, n, rfl, rfl, ok, q⟩ := h
  obtain ⟨t, rfl⟩ := rx
  obtain ⟨t', rfl⟩ := ry
  exact SB.mul ok fun t' k => ⟨.str (Txt.mul z n), H, I.tok k, ⟨t', rfl⟩, q⟩
/-- d.get(x, e), d a dict of the top -/
def tKGet (K : PySem.W.Frag) (w : World) (td ty tx : TE) : TE := fun σ H Q => td σ H fun x H1 => ∃ a kvs, x = .ref a ∧ KD K w a kvs ∧ ty σ H1 fun y H2 => tx σ H2 fun d H3 => ∃ z, y = .str z ∧ Q (match kvs.lookup z with | some i => .int i | none => d) H3
theorem pe_kget {o e f : Expr} {apos cpos : Pos} {td ty tx : TE} (ho : PE X o td) (he : PE X e ty) (hf : PE X f tx) (m : M2 X o "get" apos e f cpos := by exact ⟨by rfl, by rfl, by rfl, by rfl⟩) : PE X (.Call (.Attribute o "get" apos) [e, f] [] cpos) (tKGet X.K X.w td ty tx) := by
  refine ⟨fun pins s σ H Q I h => ?_⟩
  refine wpAny_Call_method m.base m.few m.line PySem.F.plainAttrs_dict PySem.F.slot_dict_get PySem.F.type_dict_get (thn (ho.run pins s σ H _ I h) fun u s1 ⟨x, H1, I1, rx, a, kvs, ex, k, q1⟩ => ?_)
  subst ex
  obtain rfl : u = Value.ref a := rx
  obtain ⟨es, n, kd, e⟩ := k.ex
  have hm : ∀ {s : Shared} {H : Hp}, Inv X pins σ H s → s.heap.MapOf (strKind X.prog X.w) a (fun k => findBy Value.isStrOf es k) := fun I => PySem.W.mapOf_K (prog := X.prog) I.kIn kd.at_ kd.lit
  refine ⟨(hm I1).typeIs, fun b q => ?_, ?_⟩
  · cases q
    exact ⟨_, I1.kIn _ _ kd.at_, rfl⟩
  rw [m.trees]
  refine Calls.callWith_builtin rfl (Calls.evalArgs_plain (Calls.spliced_cons (thn (he.run pins s1 σ H1 _ I1 q1) fun iv s2 ⟨y, H2, I2, ry, q2⟩ =>
    Calls.spliced_cons (thn (hf.run pins s2 σ H2 _ I2 q2) fun fv s3 ⟨d, H3, I3, rd, z, ey, q3⟩ => Calls.spliced_nil ?_))))
  subst ey
  obtain ⟨t, rfl⟩ := (show ∃ t, iv = Value.str z t from ry)
  refine call_meetsIn PySem.F.slot_dict_get (hm I3).typeIs PySem.F.entry_dict_get (PySem.F.args_dict_get_3 _ _ _) (meets_dict_get_default (strKind X.prog X.w) a (strKind_is X.prog X.w z t) kd.low fv) ⟨_, hm I3, ?_⟩
  cases l : kvs.lookup z with
  | none =>
    rw [l] at q3
    rw [PySem.W.find_K kd.at_ (k.no l)]
    exact ⟨d, H3, I3.tok _, rd, q3⟩
  | some i =>
    rw [l] at q3
    obtain ⟨t2, e2⟩ := k.yes l
    rw [PySem.W.find_K kd.at_ e2]
    exact ⟨.int i, H3, I3.tok _, ⟨t2, rfl⟩, q3⟩
/-- dict(d), d a dict of the top: a new dict -/
def kvK (kvs : List (Str × Int)) : List (Key × V) := kvs.map fun p => (Sum.inr p.1, V.int p.2)
theorem kd_pairs {w : World} {prog : Program} : ∀ {l : List DictEntry} {kvs : List (Str × Int)}, PySem.W.KeysLit w.params l → l.map kvOf = kvs.map some → ∃ vs : List (Key × Value), KV (kvK kvs) vs ∧ Pairs (mixKind prog w) l vs ∧ vs.map (·.1) = kvs.map fun p => Sum.inr p.1
  | [], [], _, _ => ⟨[], .nil, by first | exact .nil | trivial, rfl⟩
  | [], _ :: _, _, h => by simp at h
  | _ :: _, [], _, h => by simp at h
  | e :: l, (x, j) :: kvs, hl, h => by
    have h0 : kvOf e :: l.map kvOf = some (x, j) :: kvs.map some := h
    injection h0 with h1 h2
    obtain ⟨t, u, hk, hv⟩ := kvOf_some h1
    obtain ⟨vs, a1, a2, a3⟩ := kd_pairs (w := w) (prog := prog) hl.2 h2
    obtain ⟨x', t', hk', hh⟩ := hl.1
    rw [hk] at hk'
    cases hk'
    refine ⟨(Sum.inr x, e.val) :: vs, .cons ⟨rfl, ⟨u, hv⟩⟩ a1, .cons ?_ rfl a2, ?_⟩
    · show keyIs (Sum.inr x) e.key = true
      rw [hk]
      exact keyIs_str x t
    · rw [List.map_cons, List.map_cons, a3]
theorem call_dictKD : CallR X (.type "dict") (fun xs H Q => ∃ (a : Addr) (kvs : List (Str × Int)), xs = [.ref a] ∧ KD X.K X.w a kvs ∧ ∀ p, H p = none → Q (.ref p) (upd H p (.dK (kvK kvs)))) := by
  intro pins s σ H xs us Q I r q
  obtain ⟨a, kvs, ex, k, q⟩ := q
  subst ex
  obtain ⟨u, eu, rx⟩ := vals1 r
  subst eu
  cases rx
  obtain ⟨es, n, kd, e⟩ := k.ex
  obtain ⟨vs, rel, pr, ks⟩ := kd_pairs (prog := X.prog) kd.lit e
  have nd : (vs.map (·.1)).Nodup := by
    rw [ks]
    have e2 : (kvs.map fun p => (Sum.inr p.1 : Key)) = (kvs.map (·.1)).map Sum.inr := by rw [List.map_map]; rfl
    rw [e2]
    exact List.Pairwise.map _ (fun a b h c => h (Sum.inr.inj c)) k.nd
  have dd : s.heap.DictOf (mixKind X.prog X.w) a vs := ⟨_, es, n, I.kIn _ _ kd.at_, ⟨rfl, rfl, rfl⟩, rfl, fun en hen => by
    obtain ⟨x, t, e1, e2⟩ := kd.lit.all en (Array.mem_toList_iff.mpr hen)
    exact ⟨Sum.inr x, by rw [e1]; exact keyIs_str x t, e2⟩, pr, nd⟩
  have hz : vs.length ≤ sizeLine := by
    rw [← rel.length]
    unfold kvK
    rw [List.length_map]
    exact Nat.le_trans k.sz (by decide)
  refine kt_call_dict kd.low dd hz fun h' d' hs => ?_
  have hm : (s.heap.objs.size == sysModules) = false := beq_eq_false_iff_ne.mpr (Nat.ne_of_gt I.big)
  exact ⟨.ref s.heap.objs.size, upd H s.heap.objs.size (.dK (kvK kvs)), I.laid (t' := s.toks) (fun b u e => (hs.2 b (Nat.ne_of_lt (Heap.lt_size e))).trans (Heap.get?_push_of_some _ e)) (Nat.le_refl _)
    (show ObjOk X.prog X.w _ _ _ (.dK (kvK kvs)) from ⟨by rw [rel.length]; exact hz, hm, vs, rel, d'⟩), rfl, q _ (I.hok.fresh (Nat.le_refl _))⟩
end
/-! ### enumerate(tuple) -/
open AutoSeq1 (wpAny_loadPart') in
theorem meets_enumerate_newT (l : Addr) (items : Array Value) (n : Nat) (dct : Option Addr) (sl : Array (Option Value)) :
    Meets (Builtin.«enumerate.__new__» ⟨[.type "enumerate", .ref l], []⟩) (fun _ R s => s.heap.get? l = some { cls := .type "tuple", dict := dct, data := .seq items n, slots := sl } ∧
      R (.ok (.ret (.ref (s.heap.push { cls := .type "tuple_iterator", data := .fields #[.ref l, .int 0 0] }).objs.size)))
        { s with heap := (s.heap.push { cls := .type "tuple_iterator", data := .fields #[.ref l, .int 0 0] }).push { cls := .type "enumerate", data := .fields #[.none, .bool false, .ref s.heap.objs.size, rawInt 0, .none, .none] } }) :=
  .of_wp fun prog w A R s h => by
    obtain ⟨hp, g, d, tk, os⟩ := s; obtain ⟨hl, h⟩ := h
    have hsub := sub_enumerate
    have hL : Heap.IsTuple (Shared.heap ⟨hp, g, d, tk, os⟩) l items := ⟨_, hl, rfl, n, rfl⟩
    wp_walk using wpAny_loadPart' hl
    refine wpAny_stack_any fun st => wpAny_pure ?_
    split
    · rename_i c _ _ _ _ _
      cases (c == Value.type "enumerate")
      · wp_walk using wpAny_loadPart' hl, wpAny_pyIter_tuple hL
        exact ⟨_, rfl, h⟩
      · wp_walk using wpAny_loadPart' hl, wpAny_pyIter_tuple hL
        exact ⟨_, rfl, h⟩
    · wp_walk using wpAny_loadPart' hl, wpAny_pyIter_tuple hL
      exact ⟨_, rfl, h⟩
section
variable {prog : Program} {w : World} {A : Around} {E : Value → Shared → Prop} {s : Shared}
theorem call_enumerate_tuple {l : Addr} {items : Array Value} {Q : Value → Shared → Prop} (hL : s.heap.IsTuple l items)
    (h : ∀ h', IsEnum h' (s.heap.objs.size + 1) s.heap.objs.size 0 .none → h'.IsTupleIter s.heap.objs.size l 0 → h'.objs.size = s.heap.objs.size + 2 →
      (∀ b o, s.heap.get? b = some o → h'.get? b = some o) → Q (.ref (s.heap.objs.size + 1)) { s with heap := h' }) :
    wpAny (model prog w) A (call (.type "enumerate") [.ref l]) Q E s := by
  obtain ⟨⟨c, dct, dt, sl⟩, hl, hc, n, hd⟩ := hL
  replace hc : c = .type "tuple" := hc
  replace hd : dt = .seq items n := hd
  subst hc hd
  refine callType_new F.called_enumerate (by decide) (F.typeCall_enumerate_1 _) (F.newCall_enumerate_1 _) (fun obj => F.args_object_init_2 obj _) F.entry_enumerate_new
    (meets_enumerate_newT l items n dct sl) ⟨hl, ?_⟩
  have hz : (s.heap.push { cls := .type "tuple_iterator", data := .fields #[.ref l, .int 0 0] }).objs.size = s.heap.objs.size + 1 := Heap.size_push ..
  show _ ∧ _
  rw [hz]
  have he : IsEnum ((s.heap.push { cls := .type "tuple_iterator", data := .fields #[.ref l, .int 0 0] }).push
      { cls := .type "enumerate", data := .fields #[.none, .bool false, .ref s.heap.objs.size, rawInt 0, .none, .none] }) (s.heap.objs.size + 1) s.heap.objs.size 0 .none := by
    have := Heap.get?_push_size (s.heap.push { cls := .type "tuple_iterator", data := .fields #[.ref l, .int 0 0] })
      (o := { cls := .type "enumerate", data := .fields #[.none, .bool false, .ref s.heap.objs.size, rawInt 0, .none, .none] }) rfl
    rw [hz] at this; exact this
  refine ⟨⟨_, he, rfl⟩, h _ he ⟨_, Heap.get?_push_of_some _ (Heap.get?_push_size _ rfl), rfl, rfl⟩ (by rw [Heap.size_push, hz]) fun b o x => Heap.get?_push_of_some _ (Heap.get?_push_of_some _ x)⟩
end
theorem enumT_end {prog : Program} {w : World} {A : Around} {E : Value → Shared → Prop} {s : Shared} {e it l : Addr} {i : Nat} {items : Array Value} {old : Value} {Q : Option Value → Shared → Prop} (hh : A.handled = none)
    (he : IsEnum s.heap e it i old) (hit : s.heap.IsTupleIter it l i) (hl : s.heap.IsTuple l items) (hx : items[i]? = none)
    (hQ : ∀ h', Heap.ExtBut it s.heap h' → Q none { s with heap := h' }) : wpAny (model prog w) A (pyNext (.ref e)) Q E s := by
  have hT : s.TypeIs (.ref e) "enumerate" := ⟨_, he, rfl⟩
  unfold pyNext
  refine wpAny_bind (wpAny_attempt (wpAny_callSpecial?_slot (name := Str.ofString "__next__") hT F.slot_enumerate_next
    (wpAny_call_entry F.slot_enumerate_next hT F.entry_enumerate_next ?_ (F.args_enumerate_next_1 _))))
  show wpAny _ _ (field (.ref e) 2 >>= _) _ _ _
  refine wpAny_bind (wpAny_field he rfl (x := .ref it) rfl ?_)
  refine wpAny_bind (wpAny_nextOf_tuple_end hh hit hl hx fun h' x he' hx' => ?_)
  obtain ⟨o, ho, hc⟩ := hx'
  refine wpAny_bind (wpAny_isInstance (T := "StopIteration") (b := true) ⟨o, ho, hc⟩ isSubtype_stop ?_)
  exact wpAny_pure (hQ _ he')
/-- the tuple at a, each item in a new pair with its index -/
def IteT (K : PySem.W.Frag) (a : Addr) : It :=
  ⟨fun i H => ∃ (xs : List V) (x : V), SqT K H a xs ∧ xs[i]? = some x, fun i H v H' => ∃ T x, v = .ref T ∧ H T = none ∧ H' = upd H T (.tup [.int (i : Nat), x]) ∧ ∀ xs, SqT K H a xs → xs[i]? = some x, fun i H => ∃ xs : List V, SqT K H a xs ∧ xs.length ≤ i⟩
theorem turn_enumT {P : Program} {w : World} {K : PySem.W.Frag} {elts : List Expr} {kk : Nat} {tpos : Pos} (a e it : Addr) (hea : e ≠ a) (hia : it ≠ a) :
    Turn P w K (.Tuple elts kk tpos) (IteT K a) [e, it] e (fun i h => (∃ old, IsEnum h e it ((i : Nat) : Int) old) ∧ h.IsTupleIter it a i ∧ e ≠ it) where
  mem := by simp
  obj := fun i h st b hb => by
    obtain ⟨⟨old, he⟩, ⟨o, ho, hc, hd⟩, _⟩ := st
    have e' : b = e ∨ b = it := by simpa using hb
    rcases e' with z | z
    · rw [z]; exact ⟨_, he, fun v q => nomatch q⟩
    · rw [z]; exact ⟨o, ho, fun v q => by rw [hd] at q; cases q⟩
  keep := fun i h h' st k => let ⟨⟨old, he⟩, hi, hne⟩ := st; ⟨⟨old, k e (by simp) _ he⟩, hi.at fun o q => k it (by simp) o q, hne⟩
  item := by
    intro X hP hw hK hc i pins s σ H E I hf st hg
    subst hP hw hK
    obtain ⟨⟨old, he⟩, hit, hne⟩ := st
    obtain ⟨xs, x, hq, hx⟩ := hg
    obtain ⟨its, rv, p, hz⟩ := I.tuple hq
    obtain ⟨u, hu, ru⟩ := rv.get hx
    have hel : e < s.heap.objs.size := Heap.lt_size he
    have hil : it < s.heap.objs.size := by obtain ⟨_, q, _⟩ := hit; exact Heap.lt_size q
    have D : Draws X.prog X.w X.A.in1 it [it, a] its.toArray.size (fun i v => its.toArray[i]? = some v) (fun i h => h.IsTupleIter it a i ∧ h.IsTuple a its.toArray) := Draws.tuple (A := X.A.in1) (I.ok.hd hc) it a (Ne.symm hia) its.toArray
    have hi : i < its.toArray.size := by
      have h1 := rv.length
      have h2 : i < xs.length := (List.getElem?_eq_some_iff.mp hx).1
      simp; omega
    refine wpAny_pyNext_enum_itemD D he ⟨hit, p⟩ hi hne (by simp [hne, hea]) fun y h' tk hy ho hst' hT hsz hk => ?_
    have ey : y = u := by
      have h1 : its.toArray[i]? = some y := hy
      have h2 : its[i]? = some y := by simpa using h1
      rw [hu] at h2; exact (Option.some.inj h2).symm
    subst ey
    refine ⟨_, rfl, wpAny_letOwnedTupleGo_enum (s := { s with heap := h', toks := tk + 1 }) ho fun h'' he' sb => ?_⟩
    have hT2 : h''.get? s.heap.objs.size = some { cls := .type "tuple", data := .seq #[.int i tk, y] } := (sb.2 _ (Nat.ne_of_gt hel)).trans hT
    have new : ObjOk X.prog X.w (upd H s.heap.objs.size (.tup [.int (i : Nat), x])) h'' s.heap.objs.size (.tup [.int (i : Nat), x]) :=
      ⟨by show 2 ≤ sizeLine; decide, [.int i tk, y], .cons ⟨_, rfl⟩ (.cons ru .nil), ⟨_, hT2, rfl, _, rfl⟩⟩
    have I1 : Inv X pins σ (upd H s.heap.objs.size (.tup [.int (i : Nat), x])) { s with heap := h'', toks := tk + 1 } :=
      I.turnedNew (ch := [e, it]) (fun b ob hb q => (sb.2 b (fun z => hb (by simp [z]))).trans (hk b ob (fun z => hb (by simp [z])) (fun z => hb (by simp [z])) q)) hf (Nat.le_refl _) new
    refine ⟨.ref s.heap.objs.size, _, I1, rfl, ⟨_, x, rfl, I.hok.fresh (Nat.le_refl _), rfl, fun ys hy => by rw [I.tuple_inj hy hq]; exact hx⟩, ⟨⟨y, ?_⟩, hst'.1.at fun o q => (sb.2 it (Ne.symm hne)).trans q, hne⟩, fun b hb => ?_⟩
    · have e1 : ((i + 1 : Nat) : Int) = (i : Int) + 1 := by omega
      rw [e1]; exact he'
    · have hb' : b < s.heap.objs.size := by
        have e' : b = e ∨ b = it := by simpa using hb
        rcases e' with z | z
        · rw [z]; exact hel
        · rw [z]; exact hil
      rw [upd_ne (Nat.ne_of_lt hb')]
      exact (hf b hb).1
  done := by
    intro X hP hw hK hc i pins s σ H E I hf st hg
    subst hP hw hK
    obtain ⟨⟨old, he⟩, hit, hne⟩ := st
    obtain ⟨xs, hq, hx⟩ := hg
    obtain ⟨its, rv, p, hz⟩ := I.tuple hq
    obtain ⟨f0, f1, f2, f3, f4, f5⟩ := hf it (by simp)
    have hl := rv.length
    refine enumT_end (I.ok.hd hc) he hit p (by simp; omega) fun h' eb => ⟨rfl, I.turned (t' := s.toks) (fun b o hb q => eb b o hb q) f0 f1 f3 f4 f5⟩
  self := fun A i s Q E st h => let ⟨⟨_, he⟩, _⟩ := st; wpAny_pyIter_enum he h
def iEnumT (K : PySem.W.Frag) (ta : TA) : TI := fun σ H R => ta σ H fun vs H1 => ∃ a xs, vs = [.ref a] ∧ SqT K H1 a xs ∧ R (IteT K a) H1
theorem pi_enumT {X : Cx} {e : Expr} {ta : TA} {p pos tpos : Pos} {elts : List Expr} {kk : Nat} (hg : Gl X "enumerate") (hm : X.mg "enumerate" = none) (ha : PA X [e] ta) (hs : starEach [e] X.env = [(false, eval e X.env)] := by rfl) :
    PI X (.Tuple elts kk tpos) (.Call (.Name "enumerate" p) [e] [] pos) (iEnumT X.K ta) := by
  refine ⟨fun pins s σ H R I h => ?_⟩
  refine Call_ (ld_blt I hg hm boot_enumerate (PyProof.Rows.callWith_type1 (thn (ha.run pos pins s σ H _ I h) fun us s1 ⟨vs, H1, I1, r1, q1⟩ => ?_) hs rfl))
  obtain ⟨a, xs, ex, hq, q⟩ := q1
  subst ex
  cases r1 with
  | cons r rr =>
    cases rr
    cases r
    obtain ⟨its, rv, p', hz⟩ := I1.tuple hq
    have hal : a < s1.heap.objs.size := p'.lt
    refine call_enumerate_tuple p' fun h' he hit hsz hk => wpAny_pyIter_enum he ?_
    have I2 : Inv X pins σ H1 { s1 with heap := h' } := I1.kept (t' := s1.toks) hk
    refine ⟨s1.heap.objs.size + 1, [s1.heap.objs.size + 1, s1.heap.objs.size], _, _, H1, rfl, I2, turn_enumT a (s1.heap.objs.size + 1) s1.heap.objs.size (Nat.ne_of_gt (Nat.lt_succ_of_lt hal)) (Nat.ne_of_gt hal), ⟨⟨.none, he⟩, hit, Nat.succ_ne_self _⟩, fun b hb => ?_, q⟩
    have e' : b = s1.heap.objs.size + 1 ∨ b = s1.heap.objs.size := by simpa using hb
    have hle : s1.heap.objs.size ≤ b := by
      rcases e' with z | z
      · rw [z]; exact Nat.le_add_right _ _
      · rw [z]; exact Nat.le_refl _
    exact I1.fpOk hle (I1.hok.fresh hle)
/-- for i, x in enumerate(t) -/
theorem for_enumT {K : PySem.W.Frag} {a : Addr} {xs : List V} {g : TG} {tb : TS} {D : Ends} {σ : L2.St} {H : Hp} (Pv : Nat → L2.St → Hp → Prop) (h0 : Pv 0 σ H) (hl : ∀ i σ H, i ≤ xs.length → Pv i σ H → SqT K H a xs)
    (hs : ∀ i x σ H T, xs[i]? = some x → Pv i σ H → H T = none → g (.ref T) σ (upd H T (.tup [.int (i : Nat), x])) fun σ2 H2 => tb { D with nx := Pv (i + 1), ct := Pv (i + 1), bk := D.nx } σ2 H2) (hd : ∀ σ H, Pv xs.length σ H → D.nx σ H) :
    ∃ W : Nat → Nat → L2.St → Hp → Prop, (∃ m, W 0 m σ H) ∧ ∀ i m σ H, W i m σ H →
      ((IteT K a).stop i H ∧ D.nx σ H) ∨ ((IteT K a).go i H ∧ ∃ N : L2.St → Hp → Prop, (∀ σ' H', N σ' H' → ∃ m', m' < m ∧ W (i + 1) m' σ' H') ∧ ∀ x H', (IteT K a).yld i H x H' → g x σ H' fun σ2 H2 => tb { D with nx := N, ct := N, bk := D.nx } σ2 H2) := by
  refine ⟨fun i m σ H => m = xs.length - i ∧ i ≤ xs.length ∧ Pv i σ H, ⟨xs.length, by simp, Nat.zero_le _, h0⟩, ?_⟩
  rintro i m σ H ⟨rfl, hi, p⟩
  have q := hl i σ H hi p
  by_cases hlt : i < xs.length
  · refine .inr ⟨⟨xs, xs[i], q, by simp [hlt]⟩, Pv (i + 1), fun σ' H' p' => ⟨xs.length - (i + 1), by omega, rfl, hlt, p'⟩, fun x H' y => ?_⟩
    obtain ⟨T, x', e, n, e2, y⟩ := y
    subst e e2
    exact hs i x' σ H T (y xs q) p n
  · have e : i = xs.length := by omega
    subst e
    exact .inl ⟨⟨xs, q, Nat.le_refl _⟩, hd σ H p⟩
end K13

/-! W1: parts, depth, terms_of -/
namespace K13
open PySem PySem.Spec PyProof.Rows L2
theorem a0 {α : Type} {x : α} {r : List α} : atI (x :: r) 0 = some x := atI_nat (j := 0) rfl
theorem a1 {α : Type} {x y : α} {r : List α} : atI (x :: y :: r) 1 = some y := atI_nat (j := 1) rfl
theorem a2 {α : Type} {x y z : α} {r : List α} : atI (x :: y :: z :: r) 2 = some z := atI_nat (j := 2) rfl
theorem a3 {α : Type} {x y z w : α} {r : List α} : atI (x :: y :: z :: w :: r) 3 = some w := atI_nat (j := 3) rfl
theorem dec_eq {a b : Str} (h : decide (V.str a = V.str b) = true) : a = b := V.str.inj (of_decide_eq_true h)
theorem dec_ne {a b : Str} (h : ¬ decide (V.str a = V.str b) = true) : a ≠ b := fun c => h (decide_eq_true (congrArg V.str c))
theorem small {n : Nat} (h : n ≤ 16000000) : n ≤ sizeLine := Nat.le_trans h (by decide)
theorem small' {n : Nat} (h : n ≤ 16000000) : n < sizeLine := Nat.lt_of_le_of_lt h (by decide)
theorem len1 {α : Type} {l : List α} (h : l.length = 1) : ∃ x, l = [x] := match l, h with | [x], _ => ⟨x, rfl⟩
theorem len2 {α : Type} {l : List α} (h : l.length = 2) : ∃ x y, l = [x, y] := match l, h with | [x, y], _ => ⟨x, y, rfl⟩
theorem len3 {α : Type} {l : List α} (h : l.length = 3) : ∃ x y z, l = [x, y, z] := match l, h with | [x, y, z], _ => ⟨x, y, z, rfl⟩
theorem cut_from {xs : List V} {k : Nat} (h : k ≤ xs.length) : cutV xs (some (k : Int)) none = xs.drop k := by
  unfold cutV
  rw [HT.sIx_nat, HT.sIx_none, Nat.min_eq_left h]
  exact List.take_of_length_le (by simp)
/-! ### a node as it stands in the heap -/
def Hd.mv : Hd → List V
  | .num n => [.int n] | .tru b => [.bl b] | .var v => [.str v] | .fact v => [.str v] | .fail => []
  | .minus => [] | .not_ => [] | .bin s => [.str s] | .pair => [] | .list => [] | .call f => [.str f]
  | .let_ v => [.str v] | .ite_ => [] | .fold x s => [.str x, .str s] | .note => []
theorem rpL_mv {K : PySem.W.Frag} {H : Hp} (h : Hd) : RpL K H h.more h.mv := by cases h <;> simp [Hd.more, Hd.mv, RpL, Rp]
theorem mv_of {K : PySem.W.Frag} {H : Hp} {h : Hd} {xs : List V} (r : RpL K H h.more xs) : xs = h.mv := by
  cases h <;> simp [Hd.more, Hd.mv, RpL, Rp] at r ⊢ <;> first | exact r | (obtain ⟨x, rfl, r, rfl, rfl⟩ := r; rfl) | (obtain ⟨x, rfl, rfl⟩ := r; rfl) | simp_all
theorem RpL.split {K : PySem.W.Frag} {H : Hp} : ∀ {a b : List D} {xs : List V}, RpL K H (a ++ b) xs → ∃ ys zs, xs = ys ++ zs ∧ RpL K H a ys ∧ RpL K H b zs
  | [], _, xs, h => ⟨[], xs, rfl, rfl, h⟩
  | d :: a, b, xs, h => by
    obtain ⟨x, r, rfl, h1, h2⟩ := (show ∃ x r, xs = x :: r ∧ Rp K H d x ∧ RpL K H (a ++ b) r from h)
    obtain ⟨ys, zs, rfl, h3, h4⟩ := RpL.split h2
    exact ⟨x :: ys, zs, rfl, ⟨x, ys, rfl, h1, h3⟩, h4⟩
/-- at a stands a node of the head h over the values vs -/
def Nd (K : PySem.W.Frag) (H : Hp) (a : Addr) (h : Hd) (vs : List V) : Prop :=
  if h.nested then ∃ b, SqT K H a (.str h.tag :: (h.mv ++ [.ref b])) ∧ SqT K H b vs else SqT K H a (.str h.tag :: (h.mv ++ vs))
theorem Nd.head {K : PySem.W.Frag} {H : Hp} {a : Addr} {h : Hd} {vs : List V} (n : Nd K H a h vs) : ∃ r, SqT K H a (.str h.tag :: r) := by
  unfold Nd at n
  split at n
  · obtain ⟨b, q, _⟩ := n; exact ⟨_, q⟩
  · exact ⟨_, n⟩
theorem Nd.keep {K : PySem.W.Frag} {H H' : Hp} (k : ∀ a xs, SqT K H a xs → SqT K H' a xs) {a : Addr} {h : Hd} {vs : List V} (n : Nd K H a h vs) : Nd K H' a h vs := by
  unfold Nd at n ⊢
  split at n
  · rename_i c; rw [if_pos c]; obtain ⟨b, q, r⟩ := n; exact ⟨b, k _ _ q, k _ _ r⟩
  · rename_i c; rw [if_neg c]; exact k _ _ n
theorem Nd.ext {K : PySem.W.Frag} {ms : List Addr} {H H' : Hp} {a : Addr} {h : Hd} {vs : List V} (e : Ext ms H H') (n : NoT H ms) (q : Nd K H a h vs) : Nd K H' a h vs := q.keep fun _ _ z => e.tup n z
theorem Nd.ex0 {K : PySem.W.Frag} {H H' : Hp} {a : Addr} {h : Hd} {vs : List V} (q : Nd K H a h vs) (e : Ext [] H H') : Nd K H' a h vs := q.ext e .nil
theorem node {K : PySem.W.Frag} {H : Hp} {t : Tm} {v : V} (r : Rp K H (enc t) v) : ∃ a vs, v = .ref a ∧ Nd K H a t.h vs ∧ RpL K H (t.cs.map enc) vs ∧ vs.length = t.cs.length := by
  obtain ⟨p, h, cs⟩ := t
  rw [enc_mk] at r
  obtain ⟨a, xs, rfl, hq, hl⟩ := r
  obtain ⟨x, r, rfl, hx, hl⟩ := hl
  cases (show x = V.str h.tag from hx)
  obtain ⟨ys, zs, rfl, h1, h2⟩ := hl.split
  cases mv_of h1
  show ∃ a' vs, V.ref a = .ref a' ∧ Nd K H a' h vs ∧ RpL K H (cs.map enc) vs ∧ vs.length = cs.length
  unfold Nd
  cases hn : h.nested with
  | true =>
    rw [hn] at h2
    obtain ⟨b', r2, rfl, ⟨b, ws, rfl, hb, hw⟩, rfl⟩ := (show ∃ b' r2, zs = b' :: r2 ∧ (∃ b ws, b' = V.ref b ∧ SqT K H b ws ∧ RpL K H (cs.map enc) ws) ∧ r2 = [] from h2)
    exact ⟨a, ws, rfl, ⟨b, hq, hb⟩, hw, by rw [← hw.length, List.length_map]⟩
  | false =>
    rw [hn] at h2
    have h3 : RpL K H (cs.map enc) zs := h2
    exact ⟨a, zs, rfl, hq, h3, by rw [← h3.length, List.length_map]⟩
theorem node_of {K : PySem.W.Frag} {H : Hp} {p : Nat} {h : Hd} {cs : List Tm} {v : V} (r : Rp K H (enc (.mk p h cs)) v) : ∃ a vs, v = .ref a ∧ Nd K H a h vs ∧ RpL K H (cs.map enc) vs ∧ vs.length = cs.length := node r
theorem node_mk {K : PySem.W.Frag} {H : Hp} {p : Nat} {h : Hd} {cs : List Tm} {a : Addr} {vs : List V} (n : Nd K H a h vs) (r : RpL K H (cs.map enc) vs) : Rp K H (enc (.mk p h cs)) (.ref a) := by
  rw [enc_mk]
  unfold Nd at n
  cases hn : h.nested with
  | true =>
    rw [hn] at n
    obtain ⟨b, hq, hb⟩ := n
    exact ⟨a, _, rfl, hq, _, _, rfl, rfl, (rpL_mv h).append ⟨_, _, rfl, ⟨b, vs, rfl, hb, r⟩, rfl⟩⟩
  | false =>
    rw [hn] at n
    exact ⟨a, _, rfl, n, _, _, rfl, rfl, (rpL_mv h).append r⟩
/-! ### tests of a head by its tag -/
def Hd.first : Hd → Option Int
  | .minus => some 1 | .not_ => some 1 | .pair => some 1 | .ite_ => some 1 | .note => some 1 | .bin _ => some 2 | .let_ _ => some 2 | .fold _ _ => some 3 | _ => none
theorem first_tag (h : Hd) : kv_FIRST_PART.lookup h.tag = h.first := by cases h <;> (simp only [Hd.tag, Hd.first]; decide +kernel)
theorem tag_call {h : Hd} (e : h.tag = o "call") : ∃ f, h = .call f := by cases h <;> first | exact ⟨_, rfl⟩ | exact absurd e (by simp only [Hd.tag]; decide +kernel)
theorem tag_list {h : Hd} (e : h.tag = o "list") : h = .list := by cases h <;> first | rfl | exact absurd e (by simp only [Hd.tag]; decide +kernel)
section
variable {P : Program} {w : World} {K : PySem.W.Frag} {mg : Str → Option Value} {base : Heap}
theorem kd_FIRST (T : Tx w K mg) : KD K w (He.ga K "FIRST_PART") kv_FIRST_PART := .of T.kd_FIRST_PART T.kv_FIRST_PART (by decide +kernel) (by decide)
theorem kd_FUNS (T : Tx w K mg) : KD K w (He.ga K "FUNCTIONS") kv_FUNCTIONS := .of T.kd_FUNCTIONS T.kv_FUNCTIONS (by decide +kernel) (by decide)
theorem kd_LEVELS (T : Tx w K mg) : KD K w (He.ga K "LEVELS_printing") kv_LEVELS_printing := .of T.kd_LEVELS_printing T.kv_LEVELS_printing (by decide +kernel) (by decide)
/-- parts(term): a tuple of the parts -/
def sp_parts (K : PySem.W.Frag) : Sp := fun vs H Q _ => ∃ a h cs, vs = [.ref a] ∧ Nd K H a h cs ∧ (h.nested = false → h.first = none → cs = []) ∧ ∀ b H', Ext [] H H' → SqT K H' b cs → Q (.ref b) H'
theorem sc_parts : FnScope ["term"] ["term"] (defScope s_parts) := ⟨rfl, rfl, rfl, by decide +kernel, rfl, by decide +kernel, by decide +kernel⟩
theorem ok_parts (T : Tx w K mg) : Cal P w K mg base "parts" 1 ["term"] (sp_parts K) := by
  refine Cal.of T.f_parts T.g_parts sc_parts (fun _ _ _ _ _ _ us hl => match us, hl with | [_], _ => rfl) (fun vs H Q E h => ?_) (fun f cdv A outer s H vs Q E hr h => ?_)
  · obtain ⟨a, h, cs, rfl, _⟩ := h; rfl
  obtain ⟨a, h, cs, rfl, n, lf, q⟩ := h
  refine ⟨_, pss_cons (ps_if (pt_cmpR op_eq (pe_ix ix_tup (pv 0) (pe_int) (fun _ _ => rfl)) (pe_str) (nomark _))
    (pss_one (ps_ret (pe_ix ix_tup (pv 0) (pe_int) (fun _ _ => rfl))))
    (pss_nil))
    (pss_cons (ps_if (pt_cmpR op_eq (pe_ix ix_tup (pv 0) (pe_int) (fun _ _ => rfl)) (pe_str) (nomark _))
    (pss_one (ps_ret (pe_ix ix_tup (pv 0) (pe_int) (fun _ _ => rfl))))
    (pss_nil))
    (pss_cons (ps_if (pt_cmpR op_in_kdA (pe_ix ix_tup (pv 0) (pe_int) (fun _ _ => rfl)) (pe_gr rfl T.g_FIRST_PART) rfl)
    (pss_one (ps_ret (pe_slice sl_tupA (pv 0) (po_some (pe_ix ix_kdict (pe_gr rfl T.g_FIRST_PART) (pe_ix ix_tup (pv 0) (pe_int) (fun _ _ => rfl)) (fun _ _ => rfl))) po_none)))
    (pss_nil))
    (pss_one (ps_ret (pe_tup pa_nil))))), ?_⟩
  obtain ⟨r, hT⟩ := n.head
  refine ⟨_, rfl, _, _, _, _, rfl, rfl, hT, a0, rfl, _, rfl, ite2 (fun c => ?_) fun c => ?_⟩
  · obtain ⟨f, rfl⟩ := tag_call (dec_eq c)
    obtain ⟨b, hb, hc⟩ := n
    exact ⟨_, rfl, _, _, _, _, rfl, rfl, hb, a2, q b H (Ext.refl _ _) hc⟩
  have c1 := dec_ne c
  refine ⟨_, rfl, _, _, _, _, rfl, rfl, hT, a0, rfl, _, rfl, ite2 (fun c => ?_) fun c => ?_⟩
  · cases tag_list (dec_eq c)
    obtain ⟨b, hb, hc⟩ := n
    exact ⟨_, rfl, _, _, _, _, rfl, rfl, hb, a1, q b H (Ext.refl _ _) hc⟩
  have c2 := dec_ne c
  have nn : h.nested = false := by cases h <;> first | rfl | exact absurd rfl c1 | exact absurd rfl c2
  have hN : SqT K H a (.str h.tag :: (h.mv ++ cs)) := by
    unfold Nd at n
    rw [nn] at n
    exact n
  refine ⟨_, rfl, _, _, _, _, rfl, rfl, hT, a0, _, _, _, rfl, rfl, kd_FIRST T, _, rfl, ite2 (fun c => ?_) fun c => ?_⟩
  · rw [first_tag] at c
    obtain ⟨i, hi⟩ := Option.isSome_iff_exists.mp c
    have hl : h.mv.length + 1 = i.toNat ∧ 0 ≤ i := by cases h <;> simp [Hd.first] at hi <;> subst hi <;> simp [Hd.mv]
    refine ⟨_, rfl, _, rfl, _, _, _, _, rfl, rfl, hT, a0, _, _, _, rfl, rfl, (kd_FIRST T).get ((first_tag h).trans hi), _, rfl, a, _, rfl, hN, fun z => ?_, fun _ p hp => ?_⟩
    · have e : i = ((h.mv.length + 1 : Nat) : Int) := by omega
      rw [e, HT.sIx_nat] at z
      simp only [List.length_cons, List.length_append] at z
      omega
    · have e : i = ((h.mv.length + 1 : Nat) : Int) := by omega
      refine q p _ (Ext.new hp) (SqT.of ?_)
      rw [upd_same, e, cut_from (by simp)]
      simp
  · rw [first_tag] at c
    have l := lf nn (by cases e : h.first with | none => rfl | some i => rw [e] at c; exact absurd rfl c)
    subst l
    exact ⟨Nat.zero_le _, fun p hp => q p _ (Ext.new hp) (SqT.of upd_same)⟩
end
end K13

/-! W2: depth, terms_of; level, print_* -/
namespace K13
open PySem PySem.Spec PyProof.Rows L2
theorem RpL.at_ {K : PySem.W.Frag} {H : Hp} {α : Type} {f : α → D} : ∀ {cs : List α} {vs : List V} {i : Nat} {x : V}, RpL K H (cs.map f) vs → vs[i]? = some x → ∃ c, cs[i]? = some c ∧ Rp K H (f c) x
  | [], _, i, x, h, e => by cases (show _ = [] from h); simp at e
  | c :: cs, _, 0, x, ⟨y, r, e, h, t⟩, q => by subst e; simp at q; subst q; exact ⟨c, rfl, h⟩
  | c :: cs, _, i + 1, x, ⟨y, r, e, h, t⟩, q => by
    subst e
    obtain ⟨d, h1, h2⟩ := RpL.at_ (i := i) (x := x) t (by simpa using q)
    exact ⟨d, by simpa using h1, h2⟩
theorem take_snoc {α : Type} {l : List α} {i : Nat} {x : α} (h : l[i]? = some x) : l.take (i + 1) = l.take i ++ [x] := by rw [List.take_succ, h]; rfl
theorem mem_at {α : Type} {l : List α} {i : Nat} {x : α} (h : l[i]? = some x) : x ∈ l := List.mem_of_getElem? h
theorem Wf.leaf {p : Nat} {h : Hd} {cs : List Tm} (q : Wf (.mk p h cs)) : h.nested = false → h.first = none → cs = [] := by
  intro a b
  have q1 := q.1
  cases h <;> simp [Hd.nested, Hd.first] at a b <;> simp [Hd.Wf] at q1 <;> first | exact q1 | exact q1.1
theorem Wf.sub {p : Nat} {h : Hd} {cs : List Tm} (q : Wf (.mk p h cs)) {c : Tm} (m : c ∈ cs) : Wf c := wfs_iff.mp q.2 c m
theorem Wf.hd {p : Nat} {h : Hd} {cs : List Tm} (q : Wf (.mk p h cs)) : h.Wf cs.length := q.1
theorem Wf.few {p : Nat} {h : Hd} {cs : List Tm} (q : Wf (.mk p h cs)) : cs.length ≤ 8 := by
  have q1 : h.Wf cs.length := q.1
  cases h <;> simp only [Hd.Wf] at q1 <;> first | omega | (obtain ⟨q1, _⟩ := q1; omega)
theorem leafV {t : Tm} {vs : List V} (w : Wf t) (l : vs.length = t.cs.length) : t.h.nested = false → t.h.first = none → vs = [] := fun a b => by
  obtain ⟨p, h, cs⟩ := t
  have e := w.leaf a b
  cases vs with
  | nil => rfl
  | cons _ _ => rw [show (Tm.mk p h cs).cs = cs from rfl, e] at l; simp at l
theorem yes_ {σ : L2.St} {H : Hp} {f : Bool → Hp → Prop} (h : f true H) : tYes σ H f := h
section
variable {P : Program} {w : World} {K : PySem.W.Frag} {mg : Str → Option Value} {base : Heap}
/-! ### depth -/
def sp_depth (K : PySem.W.Frag) (n : Nat) : Sp := fun vs H Q _ => ∃ t v, vs = [v] ∧ Rp K H (enc t) v ∧ Wf t ∧ dep t ≤ n ∧ ∀ H', Ext [] H H' → Q (.int (dep t)) H'
theorem dep_pos (t : Tm) : 0 < dep t := by cases t; rw [dep_mk]; omega
theorem maxl_max {l : List Nat} {m : Int} (h1 : m ∈ (0 :: l).map (fun x : Nat => (x : Int))) (h2 : ∀ y ∈ (0 :: l).map (fun x : Nat => (x : Int)), y ≤ m) : m = (maxl l : Nat) := by
  obtain ⟨x, hx, rfl⟩ := List.mem_map.mp h1
  have a : x ≤ maxl l := by
    rcases List.mem_cons.mp hx with e | hx
    · omega
    · exact le_maxl hx
  have b : maxl l ≤ x := maxl_le fun y hy => by
    have := h2 (y : Int) (List.mem_map.mpr ⟨y, List.mem_cons.mpr (Or.inr hy), rfl⟩)
    omega
  omega
theorem sc_depth : FnScope ["term", "part"] ["term"] (defScope s_depth) := ⟨rfl, rfl, rfl, by decide +kernel, rfl, by decide +kernel, by decide +kernel⟩
theorem ok_depth (T : Tx w K mg) : ∀ n, Cal P w K mg base "depth" (n + 1) ["term"] (sp_depth K n)
  | 0 => by
    refine Cal.none_ T.f_depth T.g_depth (fun _ _ _ _ _ _ us hl => match us, hl with | [_], _ => rfl) ?_
    rintro vs H Q E ⟨t, v, _, _, _, h, _⟩
    have := dep_pos t
    omega
  | n + 1 => by
    have C_depth := ok_depth T n
    have C_parts := ok_parts T (P := P) (base := base)
    refine Cal.of T.f_depth T.g_depth sc_depth (fun _ _ _ _ _ _ us hl => match us, hl with | [_], _ => rfl) (fun vs H Q E h => ?_) (fun f cdv A outer s H vs Q E hr h => ?_)
    · obtain ⟨t, v, rfl, _⟩ := h; rfl
    obtain ⟨⟨p0, h, cs⟩, v, rfl, r, wf, dn, q⟩ := h
    refine ⟨_, pss_one (ps_ret (pe_op op_add (pe_int) (pe_callB (cr_max rfl) (by rfl) T.n_max (by decide +kernel) (pa_cons (pe_op op_cat (pe_lst (pa_cons (pe_int) pa_nil)) (pe_lc (own := [("part", 1)]) (g := gName 1) rfl sc_depth.nd (pi_tup (pe_cal C_parts (hr.mono (by omega)) rfl (pa_cons (pv 0) pa_nil))) (blkOk_by (N := ["term", "part"]) (own := [("part", 1)]) (sc := defScope s_depth) (by decide +kernel)) (fun _ _ _ _ _ => pg_name (i := 1) sc_depth.nd rfl (Or.inl rfl)) (fun _ _ _ _ _ => pts_nil) (fun _ _ _ _ _ => (pe_cal C_depth (hr.mono (by omega)) rfl (pa_cons (pv 1) pa_nil))))) pa_nil)))), ?_⟩
    obtain ⟨a, xs, rfl, nd, rl, ln⟩ := node r
    rw [dep_mk] at dn
    refine ⟨by show 1 ≤ sizeLine; decide, fun l hl => ?_⟩
    have e1 : Ext [] H (upd H l (.lst [.int 0])) := Ext.new hl
    refine ⟨_, rfl, a, h, xs, rfl, nd.ex0 e1, leafV wf ln, fun b H2 e2 hb => ?_⟩
    refine ⟨b, rfl, ⟨_, hb⟩, fun Dl hD => ?_⟩
    have rl2 : RpL K H2 (cs.map enc) xs := rl.ex0 (e1.trans e2)
    refine lc_tup (xs := xs) (fun i H' => Ext [] H2 H' ∧ H' Dl = some (.lst ((cs.take i).map fun c => V.int (dep c)))) ⟨(Ext.refl _ _).own hD, upd_same⟩ (fun i H' _ pv => Ext.tup pv.1 .nil hb) (fun i x H' hx pv => ?_) (fun H' pv => ?_)
    · obtain ⟨c, hc, rc⟩ := rl2.at_ hx
      refine ⟨rfl, yes_ (iteT ?_)⟩
      refine ⟨_, rfl, c, x, rfl, rc.ex0 pv.1, wf.sub (mem_at hc), Nat.le_trans (dep_mem (mem_at hc)) (by omega), fun H3 e3 => ?_⟩
      refine ⟨_, e3 _ _ pv.2 (by simp), ?_, (pv.1.trans e3).own hD, ?_⟩
      · have := wf.few
        rw [List.length_map, List.length_take]
        exact small' (by omega)
      · rw [upd_same, take_snoc hc, List.map_append]; rfl
    · obtain ⟨pe, pl⟩ := pv
      have el : xs.length = cs.length := ln
      rw [el, List.take_length] at pl
      refine ⟨l, Dl, _, _, rfl, rfl, pe _ _ (e2 _ _ upd_same (by simp)) (by simp), pl, ?_, fun p hp => ?_⟩
      · have := wf.few
        rw [List.length_map]
        exact small (by simp; omega)
      refine ⟨p, (0 :: cs.map dep).map (fun x : Nat => (x : Int)), rfl, SqL.of (by rw [upd_same]; simp [Function.comp_def]), by simp, fun m hm hle => ?_⟩
      rw [maxl_max hm hle]
      refine ⟨_, _, rfl, rfl, ?_⟩
      have e : (1 : Int) + ((maxl (cs.map dep) : Nat) : Int) = ((dep (.mk p0 h cs) : Nat) : Int) := by rw [dep_mk]; omega
      show Q (.int ((1 : Int) + ((maxl (cs.map dep) : Nat) : Int))) _
      rw [e]
      exact q _ ((e1.trans e2).trans (pe.news hp))
end
end K13

/-! W3: terms_of; level, print_* -/
namespace K13
open PySem PySem.Spec PyProof.Rows L2
/-! ### scripts in the heap -/
theorem str_all {K : PySem.W.Frag} {H : Hp} : ∀ {ps : List Str} {vs : List V}, RpL K H (ps.map D.str) vs → vs = ps.map V.str
  | [], _, h => h
  | p :: ps, _, ⟨x, r, e, h, t⟩ => by subst e; rw [show x = V.str p from h, str_all t]; rfl
theorem all_str {K : PySem.W.Frag} {H : Hp} : ∀ {ps : List Str}, RpL K H (ps.map D.str) (ps.map V.str)
  | [] => rfl
  | p :: ps => ⟨_, _, rfl, rfl, all_str⟩
theorem Df.elim {K : PySem.W.Frag} {H : Hp} {d : Df} {v : V} (r : Rp K H d.enc v) : ∃ a ps t, v = .ref a ∧ SqT K H a [.str d.name, .ref ps, t] ∧ SqT K H ps (d.pars.map V.str) ∧ Rp K H (K13.enc d.term) t := by
  obtain ⟨a, xs, rfl, hq, x1, r1, rfl, h1, x2, r2, rfl, ⟨b, ys, rfl, hb, hy⟩, x3, r3, rfl, h3, rfl⟩ := r
  cases (show x1 = V.str d.name from h1)
  cases str_all hy
  exact ⟨a, b, x3, rfl, hq, hb, h3⟩
theorem Df.mk_ {K : PySem.W.Frag} {H : Hp} {d : Df} {a ps : Addr} {t : V} (h1 : SqT K H a [.str d.name, .ref ps, t]) (h2 : SqT K H ps (d.pars.map V.str)) (h3 : Rp K H (K13.enc d.term) t) : Rp K H d.enc (.ref a) :=
  ⟨a, _, rfl, h1, _, _, rfl, rfl, _, _, rfl, ⟨ps, _, rfl, h2, all_str⟩, _, _, rfl, h3, rfl⟩
theorem Sc.elim {K : PySem.W.Frag} {H : Hp} {s : Sc} {v : V} (r : Rp K H s.enc v) : ∃ a d ds b, v = .ref a ∧ SqT K H a [.ref d, b] ∧ SqT K H d ds ∧ RpL K H (s.defs.map Df.enc) ds ∧ Rp K H (K13.enc s.body) b := by
  obtain ⟨a, xs, rfl, hq, x1, r1, rfl, ⟨b, ys, rfl, hb, hy⟩, x2, r2, rfl, h2, rfl⟩ := r
  exact ⟨a, b, ys, x2, rfl, hq, hb, hy, h2⟩
theorem Sc.mk_ {K : PySem.W.Frag} {H : Hp} {s : Sc} {a d : Addr} {ds : List V} {b : V} (h1 : SqT K H a [.ref d, b]) (h2 : SqT K H d ds) (h3 : RpL K H (s.defs.map Df.enc) ds) (h4 : Rp K H (K13.enc s.body) b) : Rp K H s.enc (.ref a) :=
  ⟨a, _, rfl, h1, _, _, rfl, ⟨d, ds, rfl, h2, h3⟩, _, _, rfl, h4, rfl⟩
def Sc.terms (s : Sc) : List Tm := s.defs.map Df.term ++ [s.body]
/-! ### join -/
theorem joinL_c : ∀ xs : List (List Nat), TL.joinL [44, 32] xs = joinc xs
  | [] => rfl
  | [_] => rfl
  | p :: q :: r => by
    show p ++ ([44, 32] ++ TL.joinL [44, 32] (q :: r)) = p ++ (44 :: 32 :: joinc (q :: r))
    rw [joinL_c (q :: r)]; rfl
theorem join_S (xs : List (List Nat)) : Txt.join (o ", ") (xs.map S) = S (joinc xs) := by
  apply cd_inj
  rw [cd_S, ← joinL_c, TL.join_eq]
  show TL.tl _ = _
  rw [TL.tl_join]
  have e1 : TL.tl (o ", ") = [44, 32] := by decide +kernel
  have e2 : (xs.map S).map TL.tl = xs := by rw [List.map_map]; exact (List.map_congr_left fun x _ => cd_S x).trans (List.map_id _)
  rw [e1, e2]
theorem joinc_len : ∀ xs : List (List Nat), (xs.map (·.length)).sum + 2 * (xs.length - 1) = (joinc xs).length
  | [] => rfl
  | [_] => by simp [joinc]
  | p :: q :: r => by
    have := joinc_len (q :: r)
    simp only [joinc, List.length_append, List.length_cons, List.map_cons, List.sum_cons] at this ⊢
    omega
theorem join_ok {xs : List (List Nat)} (h : (joinc xs).length ≤ 1000000) : ((xs.map S).map (·.length)).sum + (xs.map S).length * (o ", ").length ≤ 16777216 := by
  have e1 : (xs.map S).map (·.length) = xs.map (·.length) := by rw [List.map_map]; exact List.map_congr_left fun x _ => S_len x
  have e2 : (o ", ").length = 2 := by decide +kernel
  have := joinc_len xs
  rw [e1, e2, List.length_map]
  cases xs with
  | nil => simp
  | cons a r => simp only [List.length_cons] at this ⊢; omega
/-! ### levels -/
theorem lv_sign {s : Str} (h : s ∈ signs) : kv_LEVELS_printing.lookup s = some ((lvS s : Nat) : Int) := by
  simp only [signs, List.mem_cons, List.mem_nil_iff, or_false] at h
  rcases h with h | h | h | h | h | h | h | h | h | h <;> (subst h; decide +kernel)
theorem lv_tag {h : Hd} (e : h.tag ≠ o "binary") : (match kv_LEVELS_printing.lookup h.tag with | some i => V.int i | none => V.int 7) = V.int (h.lv : Nat) := by
  cases h <;> first | exact absurd rfl e | (simp only [Hd.tag, Hd.lv]; decide +kernel)
theorem tag_bin {h : Hd} (e : h.tag = o "binary") : ∃ s, h = .bin s := by cases h <;> first | exact ⟨_, rfl⟩ | exact absurd e (by simp only [Hd.tag]; decide +kernel)
theorem lenOk {i j : Str} (h : (cd i).length + (cd j).length ≤ 16000000) : i.length + j.length ≤ sizeLine := by rw [cd_len, cd_len]; exact small h
section
variable {P : Program} {w : World} {K : PySem.W.Frag} {mg : Str → Option Value} {base : Heap}
def sp_terms_of (K : PySem.W.Frag) : Sp := fun vs H Q _ => ∃ (s : Sc) (v : V), vs = [v] ∧ Rp K H s.enc v ∧ s.defs.length ≤ 6 ∧ ∀ l H' xs, Ext [] H H' → H' l = some (.lst xs) → RpL K H' (s.terms.map enc) xs → Q (.ref l) H'
theorem sc_terms_of : FnScope ["script", "definition"] ["script"] (defScope s_terms_of) := ⟨rfl, rfl, rfl, by decide +kernel, rfl, by decide +kernel, by decide +kernel⟩
theorem ok_terms_of (T : Tx w K mg) : Cal P w K mg base "terms_of" 1 ["script"] (sp_terms_of K) := by
  refine Cal.of T.f_terms_of T.g_terms_of sc_terms_of (fun _ _ _ _ _ _ us hl => match us, hl with | [_], _ => rfl) (fun vs H Q E h => ?_) (fun f cdv A outer s H vs Q E hr h => ?_)
  · obtain ⟨s, v, rfl, _⟩ := h; rfl
  obtain ⟨s, v, rfl, r, l6, q⟩ := h
  refine ⟨_, pss_one (ps_ret (pe_op op_cat (pe_lc (own := [("definition", 1)]) (g := gName 1) rfl sc_terms_of.nd (pi_tup (pe_ix ix_tup (pv 0) (pe_int) (fun _ _ => rfl))) (blkOk_by (N := ["script", "definition"]) (own := [("definition", 1)]) (sc := defScope s_terms_of) (by decide +kernel)) (fun _ _ _ _ _ => pg_name (i := 1) sc_terms_of.nd rfl (Or.inl rfl)) (fun _ _ _ _ _ => pts_nil) (fun _ _ _ _ _ => (pe_ix (r := rIxT K) ix_tup (pv 1) (pe_int) (fun _ _ => rfl)))) (pe_lst (pa_cons (pe_ix ix_tup (pv 0) (pe_int) (fun _ _ => rfl)) pa_nil)))), ?_⟩
  obtain ⟨a, d, ds, b, rfl, h1, h2, h3, h4⟩ := Sc.elim r
  refine ⟨_, rfl, _, _, _, _, rfl, rfl, h1, a0, d, rfl, ⟨_, h2⟩, fun Dl hD => ?_⟩
  have ld : s.defs.length = ds.length := by have := h3.length; rwa [List.length_map] at this
  refine lc_tup (xs := ds) (fun i H' => Ext [] H H' ∧ ∃ xs, H' Dl = some (.lst xs) ∧ RpL K H ((s.defs.take i).map fun d => enc d.term) xs) ⟨(Ext.refl _ _).own hD, [], upd_same, rfl⟩ (fun i H' _ pv => Ext.tup pv.1 .nil h2) (fun i x H' hx pv => ?_) (fun H' pv => ?_)
  · obtain ⟨c, hc, rc⟩ := h3.at_ hx
    obtain ⟨pe, xs, pl, pr⟩ := pv
    obtain ⟨ad, ps, t, rfl, k1, k2, k3⟩ := Df.elim rc
    refine ⟨rfl, yes_ (iteT ?_)⟩
    refine ⟨_, rfl, _, _, _, _, rfl, rfl, pe.tup .nil k1, a2, xs, pl, ?_, pe.own hD, _, upd_same, ?_⟩
    · have := pr.length
      rw [List.length_map, List.length_take] at this
      exact small' (by omega)
    · rw [take_snoc hc, List.map_append]
      exact pr.snoc k3
  · obtain ⟨pe, xs, pl, pr⟩ := pv
    refine ⟨_, rfl, _, _, _, _, rfl, rfl, pe.tup .nil h1, a1, by show 1 ≤ sizeLine; decide, fun l hl => ?_⟩
    rw [← ld, List.take_length] at pr
    have e2 : Ext [] H (upd H' l (.lst [b])) := pe.news hl
    refine ⟨Dl, l, _, _, rfl, rfl, by rw [upd_ne (ne_of_none pl hl)]; exact pl, upd_same, ?_, fun p hp => ?_⟩
    · have := pr.length
      rw [List.length_map] at this
      exact small (by simp; omega)
    · have e3 := e2.news (o := .lst (xs ++ [b])) hp
      refine q p _ _ e3 upd_same ?_
      have e : s.terms.map enc = (s.defs.map fun d => enc d.term) ++ [enc s.body] := by simp [Sc.terms, Function.comp_def]
      rw [e]
      exact (pr.ex0 e3).snoc (h4.ex0 e3)
/-! ### level -/
def sp_level (K : PySem.W.Frag) : Sp := fun vs H Q _ => ∃ t v, vs = [v] ∧ Rp K H (enc t) v ∧ Wf t ∧ Q (.int (t.h.lv : Nat)) H
theorem sc_level : FnScope ["term"] ["term"] (defScope s_level) := ⟨rfl, rfl, rfl, by decide +kernel, rfl, by decide +kernel, by decide +kernel⟩
theorem ok_level (T : Tx w K mg) : Cal P w K mg base "level" 1 ["term"] (sp_level K) := by
  refine Cal.of T.f_level T.g_level sc_level (fun _ _ _ _ _ _ us hl => match us, hl with | [_], _ => rfl) (fun vs H Q E h => ?_) (fun f cdv A outer s H vs Q E hr h => ?_)
  · obtain ⟨s, v, rfl, _⟩ := h; rfl
  obtain ⟨⟨p0, h, cs⟩, v, rfl, r, wf, q⟩ := h
  refine ⟨_, pss_cons (ps_if (pt_cmpR op_eq (pe_ix ix_tup (pv 0) (pe_int) (fun _ _ => rfl)) (pe_str) (nomark _))
    (pss_one (ps_ret (pe_ix ix_kdict (pe_gr rfl T.g_LEVELS_printing) (pe_ix ix_tup (pv 0) (pe_int) (fun _ _ => rfl)) (fun _ _ => rfl))))
    (pss_nil))
    (pss_one (ps_ret (pe_kget (pe_gr rfl T.g_LEVELS_printing) (pe_ix ix_tup (pv 0) (pe_int) (fun _ _ => rfl)) (pe_gi rfl T.i_SIMPLE)))), ?_⟩
  obtain ⟨a, xs, rfl, nd, rl, ln⟩ := node_of r
  obtain ⟨r, hT⟩ := nd.head
  refine ⟨_, rfl, _, _, _, _, rfl, rfl, hT, a0, rfl, _, rfl, ite2 (fun c => ?_) fun c => ?_⟩
  · obtain ⟨s, e⟩ := tag_bin (dec_eq c)
    have e : h = .bin s := e
    subst e
    have nd : SqT K H a (.str (o "binary") :: .str s :: xs) := nd
    exact ⟨_, rfl, _, _, _, _, rfl, rfl, nd, a1, _, _, _, rfl, rfl, (kd_LEVELS T).get (lv_sign wf.hd.2), q⟩
  · refine ⟨_, _, rfl, kd_LEVELS T, _, rfl, _, _, _, _, rfl, rfl, hT, a0, _, rfl, ?_⟩
    have e := lv_tag (dec_ne c)
    show Q (match kv_LEVELS_printing.lookup h.tag with | some i => V.int i | none => V.int 7) H
    rw [e]
    exact q
end
end K13

/-! W4: print_leaf, print_construct, print_part, print_binary, print_term -/
namespace K13
open PySem PySem.Spec PyProof.Rows L2
theorem cd_lp : cd (o "(") = [40] := by decide +kernel
theorem cd_rp : cd (o ")") = [41] := by decide +kernel
theorem cd_lb : cd (o "[") = [91] := by decide +kernel
theorem cd_rb : cd (o "]") = [93] := by decide +kernel
theorem cd_sp : cd (o " ") = [32] := by decide +kernel
theorem cd_mi : cd (o "-") = [45] := by decide +kernel
theorem qs {Q : VK} {H : Hp} {x : Str} {l : List Nat} (q : Q (.str (S l)) H) (e : cd x = l) : Q (.str x) H := by
  rw [← e, S_cd] at q
  exact q
theorem tag_num {h : Hd} (e : h.tag = o "number") : ∃ n, h = .num n := by cases h <;> first | exact ⟨_, rfl⟩ | exact absurd e (by simp only [Hd.tag]; decide +kernel)
theorem tag_tru {h : Hd} (e : h.tag = o "truth") : ∃ n, h = .tru n := by cases h <;> first | exact ⟨_, rfl⟩ | exact absurd e (by simp only [Hd.tag]; decide +kernel)
theorem tag_var {h : Hd} (e : h.tag = o "variable") : ∃ n, h = .var n := by cases h <;> first | exact ⟨_, rfl⟩ | exact absurd e (by simp only [Hd.tag]; decide +kernel)
theorem tag_fact {h : Hd} (e : h.tag = o "fact") : ∃ n, h = .fact n := by cases h <;> first | exact ⟨_, rfl⟩ | exact absurd e (by simp only [Hd.tag]; decide +kernel)
theorem tag_fail {h : Hd} (e : h.tag = o "fail") : h = .fail := by cases h <;> first | rfl | exact absurd e (by simp only [Hd.tag]; decide +kernel)
theorem tag_minus {h : Hd} (e : h.tag = o "minus") : h = .minus := by cases h <;> first | rfl | exact absurd e (by simp only [Hd.tag]; decide +kernel)
theorem tag_not {h : Hd} (e : h.tag = o "not") : h = .not_ := by cases h <;> first | rfl | exact absurd e (by simp only [Hd.tag]; decide +kernel)
theorem tag_pair {h : Hd} (e : h.tag = o "pair") : h = .pair := by cases h <;> first | rfl | exact absurd e (by simp only [Hd.tag]; decide +kernel)
theorem tag_let {h : Hd} (e : h.tag = o "let") : ∃ v, h = .let_ v := by cases h <;> first | exact ⟨_, rfl⟩ | exact absurd e (by simp only [Hd.tag]; decide +kernel)
theorem tag_if {h : Hd} (e : h.tag = o "if") : h = .ite_ := by cases h <;> first | rfl | exact absurd e (by simp only [Hd.tag]; decide +kernel)
theorem tag_note {h : Hd} (e : h.tag = o "note") : h = .note := by cases h <;> first | rfl | exact absurd e (by simp only [Hd.tag]; decide +kernel)
theorem tag_fold {h : Hd} (e : h.tag = o "fold") : ∃ x s, h = .fold x s := by cases h <;> first | exact ⟨_, _, rfl⟩ | exact absurd e (by simp only [Hd.tag]; decide +kernel)
def Hd.leaf : Hd → Bool
  | .num _ => true | .tru _ => true | .var _ => true | .fact _ => true | .fail => true | _ => false
def Hd.cons : Hd → Bool
  | .pair => true | .list => true | .call _ => true | .let_ _ => true | .ite_ => true | .fold _ _ => true | .note => true | _ => false
theorem log_small {n : Int} (h0 : 0 ≤ n) (h : n ≤ 1000000000000000) : n.natAbs.log2 < 1920 := by
  have e : n.natAbs ≤ 1000000000000000 := by omega
  by_cases hz : n.natAbs = 0
  · rw [hz]; decide
  · rw [Nat.log2_lt hz]
    exact Nat.lt_of_le_of_lt e (by decide)
section
variable {P : Program} {w : World} {K : PySem.W.Frag} {mg : Str → Option Value} {base : Heap}
def sp_print_leaf (K : PySem.W.Frag) : Sp := fun vs H Q _ => ∃ a h, vs = [.ref a] ∧ Nd K H a h [] ∧ h.leaf = true ∧ h.Wf 0 ∧ Q (.str (S (h.pr []))) H
theorem sc_print_leaf : FnScope ["term"] ["term"] (defScope s_print_leaf) := ⟨rfl, rfl, rfl, by decide +kernel, rfl, by decide +kernel, by decide +kernel⟩
theorem ok_print_leaf (T : Tx w K mg) : Cal P w K mg base "print_leaf" 1 ["term"] (sp_print_leaf K) := by
  refine Cal.of T.f_print_leaf T.g_print_leaf sc_print_leaf (fun _ _ _ _ _ _ us hl => match us, hl with | [_], _ => rfl) (fun vs H Q E h => ?_) (fun f cdv A outer s H vs Q E hr h => ?_)
  · obtain ⟨s, v, rfl, _⟩ := h; rfl
  obtain ⟨a, h, rfl, nd, lf, wf, q⟩ := h
  refine ⟨_, pss_cons (ps_if (pt_cmpR op_eq (pe_ix ix_tup (pv 0) (pe_int) (fun _ _ => rfl)) (pe_str) (nomark _))
    (pss_one (ps_ret (pe_callTy call_str_int (by rfl) T.n_str (by decide +kernel) (pa_cons (pe_ix ix_tup (pv 0) (pe_int) (fun _ _ => rfl)) pa_nil))))
    (pss_nil))
    (pss_cons (ps_if (pt_cmpR op_eq (pe_ix ix_tup (pv 0) (pe_int) (fun _ _ => rfl)) (pe_str) (nomark _))
    (pss_one (ps_ret (pe_ifExp (pt_val (pe_ix ix_tup (pv 0) (pe_int) (fun _ _ => rfl))) (pe_str) (pe_str))))
    (pss_nil))
    (pss_cons (ps_if (pt_cmpR op_eq (pe_ix ix_tup (pv 0) (pe_int) (fun _ _ => rfl)) (pe_str) (nomark _))
    (pss_one (ps_ret (pe_str)))
    (pss_nil))
    (pss_one (ps_ret (pe_ix ix_tup (pv 0) (pe_int) (fun _ _ => rfl)))))), ?_⟩
  obtain ⟨r, hT⟩ := nd.head
  refine ⟨_, rfl, _, _, _, _, rfl, rfl, hT, a0, rfl, _, rfl, ite2 (fun c => ?_) fun c => ?_⟩
  · obtain ⟨n, rfl⟩ := tag_num (dec_eq c)
    have nd : SqT K H a [.str (o "number"), .int n] := nd
    obtain ⟨_, w1, w2⟩ := wf
    exact ⟨_, rfl, _, _, _, _, rfl, rfl, nd, a1, n, rfl, log_small w1 w2, qs q rfl⟩
  have c1 := dec_ne c
  refine ⟨_, rfl, _, _, _, _, rfl, rfl, hT, a0, rfl, _, rfl, ite2 (fun c => ?_) fun c => ?_⟩
  · obtain ⟨b, rfl⟩ := tag_tru (dec_eq c)
    have nd : SqT K H a [.str (o "truth"), .bl b] := nd
    refine ⟨_, rfl, _, _, _, _, rfl, rfl, nd, a1, _, rfl, ?_⟩
    cases b with
    | true => exact iteT (qs q rfl)
    | false => exact iteF (qs q rfl)
  have c2 := dec_ne c
  refine ⟨_, rfl, _, _, _, _, rfl, rfl, hT, a0, rfl, _, rfl, ite2 (fun c => ?_) fun c => ?_⟩
  · cases tag_fail (dec_eq c)
    exact qs q rfl
  have c3 := dec_ne c
  have hv : ∃ v x, Nd K H a h [] = SqT K H a [.str x, .str v] ∧ h.pr [] = cd v := by
    cases h <;> first | exact absurd rfl c1 | exact absurd rfl c2 | exact absurd rfl c3 | exact ⟨_, _, rfl, rfl⟩ | cases lf
  obtain ⟨v, x, e1, e2⟩ := hv
  rw [e1] at nd
  exact ⟨_, rfl, _, _, _, _, rfl, rfl, nd, a1, qs q e2.symm⟩
def sp_print_construct (K : PySem.W.Frag) : Sp := fun vs H Q _ => ∃ a h cs l xs, vs = [.ref a, .ref l] ∧ Nd K H a h cs ∧ H l = some (.lst ((xs.map S).map V.str)) ∧ h.cons = true ∧ h.Wf xs.length ∧ (h.pr xs).length ≤ 1000 ∧ Q (.str (S (h.pr xs))) H
theorem sc_print_construct : FnScope ["term", "texts"] ["term", "texts"] (defScope s_print_construct) := ⟨rfl, rfl, rfl, by decide +kernel, rfl, by decide +kernel, by decide +kernel⟩
theorem ok_print_construct (T : Tx w K mg) : Cal P w K mg base "print_construct" 1 ["term", "texts"] (sp_print_construct K) := by
  refine Cal.of T.f_print_construct T.g_print_construct sc_print_construct (fun _ _ _ _ _ _ us hl => match us, hl with | [_, _], _ => rfl) (fun vs H Q E h => ?_) (fun f cdv A outer s H vs Q E hr h => ?_)
  · obtain ⟨s, v, _, _, _, rfl, _⟩ := h; rfl
  obtain ⟨a, h, cs, l, xs, rfl, nd, hl, co, wf, len, q⟩ := h
  refine ⟨_, pss_cons (ps_if (pt_cmpR op_eq (pe_ix ix_tup (pv 0) (pe_int) (fun _ _ => rfl)) (pe_str) (nomark _))
    (pss_one (ps_ret (pe_op op_add_str (pe_op op_add_str (pe_op op_add_str (pe_ix ix_tup (pv 0) (pe_int) (fun _ _ => rfl)) (pe_str)) (pe_join (pe_str) (pv 1))) (pe_str))))
    (pss_nil))
    (pss_cons (ps_if (pt_cmpR op_eq (pe_ix ix_tup (pv 0) (pe_int) (fun _ _ => rfl)) (pe_str) (nomark _))
    (pss_one (ps_ret (pe_op op_add_str (pe_op op_add_str (pe_str) (pe_join (pe_str) (pv 1))) (pe_str))))
    (pss_nil))
    (pss_cons (ps_if (pt_cmpR op_eq (pe_ix ix_tup (pv 0) (pe_int) (fun _ _ => rfl)) (pe_str) (nomark _))
    (pss_one (ps_ret (pe_op op_add_str (pe_op op_add_str (pe_str) (pe_join (pe_str) (pv 1))) (pe_str))))
    (pss_nil))
    (pss_cons (ps_if (pt_cmpR op_eq (pe_ix ix_tup (pv 0) (pe_int) (fun _ _ => rfl)) (pe_str) (nomark _))
    (pss_one (ps_ret (pe_op op_add_str (pe_op op_add_str (pe_op op_add_str (pe_op op_add_str (pe_op op_add_str (pe_str) (pe_ix ix_tup (pv 0) (pe_int) (fun _ _ => rfl))) (pe_str)) (pe_ix ix_list (pv 1) (pe_int) (fun _ _ => rfl))) (pe_str)) (pe_ix ix_list (pv 1) (pe_int) (fun _ _ => rfl)))))
    (pss_nil))
    (pss_cons (ps_if (pt_cmpR op_eq (pe_ix ix_tup (pv 0) (pe_int) (fun _ _ => rfl)) (pe_str) (nomark _))
    (pss_one (ps_ret (pe_op op_add_str (pe_op op_add_str (pe_op op_add_str (pe_op op_add_str (pe_op op_add_str (pe_str) (pe_ix ix_list (pv 1) (pe_int) (fun _ _ => rfl))) (pe_str)) (pe_ix ix_list (pv 1) (pe_int) (fun _ _ => rfl))) (pe_str)) (pe_ix ix_list (pv 1) (pe_int) (fun _ _ => rfl)))))
    (pss_nil))
    (pss_cons (ps_if (pt_cmpR op_eq (pe_ix ix_tup (pv 0) (pe_int) (fun _ _ => rfl)) (pe_str) (nomark _))
    (pss_one (ps_ret (pe_op op_add_str (pe_op op_add_str (pe_op op_add_str (pe_str) (pe_ix ix_list (pv 1) (pe_int) (fun _ _ => rfl))) (pe_str)) (pe_ix ix_list (pv 1) (pe_int) (fun _ _ => rfl)))))
    (pss_nil))
    (pss_one (ps_ret (pe_op op_add_str (pe_op op_add_str (pe_op op_add_str (pe_op op_add_str (pe_op op_add_str (pe_op op_add_str (pe_op op_add_str (pe_op op_add_str (pe_op op_add_str (pe_str) (pe_ix ix_tup (pv 0) (pe_int) (fun _ _ => rfl))) (pe_str)) (pe_ix ix_tup (pv 0) (pe_int) (fun _ _ => rfl))) (pe_str)) (pe_ix ix_list (pv 1) (pe_int) (fun _ _ => rfl))) (pe_str)) (pe_ix ix_list (pv 1) (pe_int) (fun _ _ => rfl))) (pe_str)) (pe_ix ix_list (pv 1) (pe_int) (fun _ _ => rfl)))))))))), ?_⟩
  obtain ⟨r, hT⟩ := nd.head
  have hL : SqL K H l ((xs.map S).map V.str) := SqL.of hl
  refine ⟨_, rfl, _, _, _, _, rfl, rfl, hT, a0, rfl, _, rfl, ite2 (fun c => ?_) fun c => ?_⟩
  · obtain ⟨f, rfl⟩ := tag_call (dec_eq c)
    obtain ⟨b, nd, _⟩ := nd
    have nd : SqT K H a [.str (o "call"), .str f, .ref b] := nd
    simp only [Hd.pr, List.length_append, List.length_cons, List.length_nil] at len
    refine ⟨_, rfl, _, _, _, _, rfl, rfl, nd, a1, _, _, rfl, rfl, lenOk ?_, ⟨_, rfl⟩, _, rfl, _, _, _, rfl, rfl, .inl hL, join_ok (by omega), _, _, rfl, rfl, lenOk ?_, _, _, rfl, rfl, lenOk ?_, qs q ?_⟩ <;>
      first | (simp only [join_S, cd_app, cd_S, List.length_append, cd_lp, cd_rp, cd_lb, cd_rb, cd_sp, cd_mi, Hd.pr, List.append_assoc, List.cons_append, List.nil_append, List.length_cons, List.length_nil, List.getD_cons_zero, List.getD_cons_succ]; done) | (simp only [join_S, cd_app, cd_S, List.length_append, cd_lp, cd_rp, cd_lb, cd_rb, cd_sp, cd_mi, Hd.pr, List.append_assoc, List.cons_append, List.nil_append, List.length_cons, List.length_nil, List.getD_cons_zero, List.getD_cons_succ]; omega) | omega
  have c1 := dec_ne c
  refine ⟨_, rfl, _, _, _, _, rfl, rfl, hT, a0, rfl, _, rfl, ite2 (fun c => ?_) fun c => ?_⟩
  · cases tag_list (dec_eq c)
    simp only [Hd.pr, List.length_append, List.length_cons, List.length_nil, List.getD_cons_zero, List.getD_cons_succ] at len
    refine ⟨⟨_, rfl⟩, _, rfl, _, _, _, rfl, rfl, .inl hL, join_ok (by omega), _, _, rfl, rfl, lenOk ?_, _, _, rfl, rfl, lenOk ?_, qs q ?_⟩ <;> first | (simp only [join_S, cd_app, cd_S, List.length_append, cd_lp, cd_rp, cd_lb, cd_rb, cd_sp, cd_mi, Hd.pr, List.append_assoc, List.cons_append, List.nil_append, List.length_cons, List.length_nil, List.getD_cons_zero, List.getD_cons_succ]; done) | (simp only [join_S, cd_app, cd_S, List.length_append, cd_lp, cd_rp, cd_lb, cd_rb, cd_sp, cd_mi, Hd.pr, List.append_assoc, List.cons_append, List.nil_append, List.length_cons, List.length_nil, List.getD_cons_zero, List.getD_cons_succ]; omega) | omega
  have c2 := dec_ne c
  refine ⟨_, rfl, _, _, _, _, rfl, rfl, hT, a0, rfl, _, rfl, ite2 (fun c => ?_) fun c => ?_⟩
  · cases tag_pair (dec_eq c)
    simp only [Hd.pr, List.length_append, List.length_cons, List.length_nil, List.getD_cons_zero, List.getD_cons_succ] at len
    refine ⟨⟨_, rfl⟩, _, rfl, _, _, _, rfl, rfl, .inl hL, join_ok (by omega), _, _, rfl, rfl, lenOk ?_, _, _, rfl, rfl, lenOk ?_, qs q ?_⟩ <;> first | (simp only [join_S, cd_app, cd_S, List.length_append, cd_lp, cd_rp, cd_lb, cd_rb, cd_sp, cd_mi, Hd.pr, List.append_assoc, List.cons_append, List.nil_append, List.length_cons, List.length_nil, List.getD_cons_zero, List.getD_cons_succ]; done) | (simp only [join_S, cd_app, cd_S, List.length_append, cd_lp, cd_rp, cd_lb, cd_rb, cd_sp, cd_mi, Hd.pr, List.append_assoc, List.cons_append, List.nil_append, List.length_cons, List.length_nil, List.getD_cons_zero, List.getD_cons_succ]; omega) | omega
  have c3 := dec_ne c
  refine ⟨_, rfl, _, _, _, _, rfl, rfl, hT, a0, rfl, _, rfl, ite2 (fun c => ?_) fun c => ?_⟩
  · obtain ⟨v, rfl⟩ := tag_let (dec_eq c)
    have nd : SqT K H a (.str (o "let") :: .str v :: cs) := nd
    obtain ⟨x, y, rfl⟩ := len2 (show xs.length = 2 from wf.1)
    simp only [Hd.pr, List.length_append, List.length_cons, List.length_nil, List.getD_cons_zero, List.getD_cons_succ] at len
    refine ⟨_, rfl, _, _, _, _, rfl, rfl, nd, a1, _, _, rfl, rfl, lenOk ?_, _, _, rfl, rfl, lenOk ?_, _, rfl, _, _, _, _, rfl, rfl, hL, a0, _, _, rfl, rfl, lenOk ?_, _, _, rfl, rfl, lenOk ?_, _, rfl, _, _, _, _, rfl, rfl, hL, a1, _, _, rfl, rfl, lenOk ?_, qs q ?_⟩ <;> first | (simp only [join_S, cd_app, cd_S, List.length_append, cd_lp, cd_rp, cd_lb, cd_rb, cd_sp, cd_mi, Hd.pr, List.append_assoc, List.cons_append, List.nil_append, List.length_cons, List.length_nil, List.getD_cons_zero, List.getD_cons_succ]; done) | (simp only [join_S, cd_app, cd_S, List.length_append, cd_lp, cd_rp, cd_lb, cd_rb, cd_sp, cd_mi, Hd.pr, List.append_assoc, List.cons_append, List.nil_append, List.length_cons, List.length_nil, List.getD_cons_zero, List.getD_cons_succ]; omega) | omega
  have c4 := dec_ne c
  refine ⟨_, rfl, _, _, _, _, rfl, rfl, hT, a0, rfl, _, rfl, ite2 (fun c => ?_) fun c => ?_⟩
  · cases tag_if (dec_eq c)
    obtain ⟨x, y, z, rfl⟩ := len3 (show xs.length = 3 from wf)
    simp only [Hd.pr, List.length_append, List.length_cons, List.length_nil, List.getD_cons_zero, List.getD_cons_succ] at len
    refine ⟨_, rfl, _, _, _, _, rfl, rfl, hL, a0, _, _, rfl, rfl, lenOk ?_, _, _, rfl, rfl, lenOk ?_, _, rfl, _, _, _, _, rfl, rfl, hL, a1, _, _, rfl, rfl, lenOk ?_, _, _, rfl, rfl, lenOk ?_, _, rfl, _, _, _, _, rfl, rfl, hL, a2, _, _, rfl, rfl, lenOk ?_, qs q ?_⟩ <;> first | (simp only [join_S, cd_app, cd_S, List.length_append, cd_lp, cd_rp, cd_lb, cd_rb, cd_sp, cd_mi, Hd.pr, List.append_assoc, List.cons_append, List.nil_append, List.length_cons, List.length_nil, List.getD_cons_zero, List.getD_cons_succ]; done) | (simp only [join_S, cd_app, cd_S, List.length_append, cd_lp, cd_rp, cd_lb, cd_rb, cd_sp, cd_mi, Hd.pr, List.append_assoc, List.cons_append, List.nil_append, List.length_cons, List.length_nil, List.getD_cons_zero, List.getD_cons_succ]; omega) | omega
  have c5 := dec_ne c
  refine ⟨_, rfl, _, _, _, _, rfl, rfl, hT, a0, rfl, _, rfl, ite2 (fun c => ?_) fun c => ?_⟩
  · cases tag_note (dec_eq c)
    obtain ⟨x, y, rfl⟩ := len2 (show xs.length = 2 from wf)
    simp only [Hd.pr, List.length_append, List.length_cons, List.length_nil, List.getD_cons_zero, List.getD_cons_succ] at len
    refine ⟨_, rfl, _, _, _, _, rfl, rfl, hL, a0, _, _, rfl, rfl, lenOk ?_, _, _, rfl, rfl, lenOk ?_, _, rfl, _, _, _, _, rfl, rfl, hL, a1, _, _, rfl, rfl, lenOk ?_, qs q ?_⟩ <;> first | (simp only [join_S, cd_app, cd_S, List.length_append, cd_lp, cd_rp, cd_lb, cd_rb, cd_sp, cd_mi, Hd.pr, List.append_assoc, List.cons_append, List.nil_append, List.length_cons, List.length_nil, List.getD_cons_zero, List.getD_cons_succ]; done) | (simp only [join_S, cd_app, cd_S, List.length_append, cd_lp, cd_rp, cd_lb, cd_rb, cd_sp, cd_mi, Hd.pr, List.append_assoc, List.cons_append, List.nil_append, List.length_cons, List.length_nil, List.getD_cons_zero, List.getD_cons_succ]; omega) | omega
  have c6 := dec_ne c
  obtain ⟨u, v, rfl⟩ : ∃ u v, h = .fold u v := by
    cases h <;> first | exact absurd rfl c1 | exact absurd rfl c2 | exact absurd rfl c3 | exact absurd rfl c4 | exact absurd rfl c5 | exact absurd rfl c6 | exact ⟨_, _, rfl⟩ | cases co
  have nd : SqT K H a (.str (o "fold") :: .str u :: .str v :: cs) := nd
  obtain ⟨x, y, z, rfl⟩ := len3 (show xs.length = 3 from wf.1)
  simp only [Hd.pr, List.length_append, List.length_cons, List.length_nil, List.getD_cons_zero, List.getD_cons_succ] at len
  refine ⟨_, rfl, _, _, _, _, rfl, rfl, nd, a1, _, _, rfl, rfl, lenOk ?_, _, _, rfl, rfl, lenOk ?_, _, rfl, _, _, _, _, rfl, rfl, nd, a2, _, _, rfl, rfl, lenOk ?_, _, _, rfl, rfl, lenOk ?_, _, rfl, _, _, _, _, rfl, rfl, hL, a0, _, _, rfl, rfl, lenOk ?_, _, _, rfl, rfl, lenOk ?_, _, rfl, _, _, _, _, rfl, rfl, hL, a1, _, _, rfl, rfl, lenOk ?_, _, _, rfl, rfl, lenOk ?_, _, rfl, _, _, _, _, rfl, rfl, hL, a2, _, _, rfl, rfl, lenOk ?_, qs q ?_⟩ <;> first | (simp only [join_S, cd_app, cd_S, List.length_append, cd_lp, cd_rp, cd_lb, cd_rb, cd_sp, cd_mi, Hd.pr, List.append_assoc, List.cons_append, List.nil_append, List.length_cons, List.length_nil, List.getD_cons_zero, List.getD_cons_succ]; done) | (simp only [join_S, cd_app, cd_S, List.length_append, cd_lp, cd_rp, cd_lb, cd_rb, cd_sp, cd_mi, Hd.pr, List.append_assoc, List.cons_append, List.nil_append, List.length_cons, List.length_nil, List.getD_cons_zero, List.getD_cons_succ]; omega) | omega
end
end K13

/-! W5: print_part, print_binary, print_term, print_script -/
namespace K13
open PySem PySem.Spec PyProof.Rows L2
theorem pr_mk (p : Nat) (h : Hd) (cs : List Tm) : pr (.mk p h cs) = h.pr (prs h 0 cs) := by rw [pr]
theorem prs_plain {h : Hd} (l : ∀ i, h.least i = 0) : ∀ (i : Nat) (cs : List Tm), prs h i cs = cs.map pr
  | _, [] => by rw [prs]; rfl
  | i, t :: r => by rw [prs, prs_plain l (i + 1) r, l i, par, if_neg (Nat.not_lt_zero _), List.map_cons]
theorem cons_least {h : Hd} (c : h.cons = true) (i : Nat) : h.least i = 0 := by cases h <;> first | rfl | cases c
/-- each part's text stands in the whole -/
theorem sub_len {h : Hd} {xs : List (List Nat)} {x : List Nat} (c : h.cons = true) (w : h.Wf xs.length) (m : x ∈ xs) : x.length ≤ (h.pr xs).length := by
  have j : ∀ {xs : List (List Nat)}, x ∈ xs → x.length ≤ (joinc xs).length := fun {xs} m => by
    have := joinc_len xs
    have := mem_sum (List.mem_map_of_mem (f := (·.length)) m)
    omega
  cases h <;> first | cases c | skip
  all_goals simp only [Hd.Wf] at w
  all_goals simp only [Hd.pr, List.length_append, List.length_cons]
  · have := j m; omega
  · have := j m; omega
  · have := j m; omega
  · obtain ⟨a, b, rfl⟩ := len2 w.1
    simp only [List.mem_cons, List.mem_nil_iff, or_false] at m
    simp only [List.getD_cons_zero, List.getD_cons_succ]
    rcases m with rfl | rfl <;> omega
  · obtain ⟨a, b, d, rfl⟩ := len3 w
    simp only [List.mem_cons, List.mem_nil_iff, or_false] at m
    simp only [List.getD_cons_zero, List.getD_cons_succ]
    rcases m with rfl | rfl | rfl <;> omega
  · obtain ⟨a, b, d, rfl⟩ := len3 w.1
    simp only [List.mem_cons, List.mem_nil_iff, or_false] at m
    simp only [List.getD_cons_zero, List.getD_cons_succ]
    rcases m with rfl | rfl | rfl <;> omega
  · obtain ⟨a, b, rfl⟩ := len2 w
    simp only [List.mem_cons, List.mem_nil_iff, or_false] at m
    simp only [List.getD_cons_zero, List.getD_cons_succ]
    rcases m with rfl | rfl <;> omega
section
variable {P : Program} {w : World} {K : PySem.W.Frag} {mg : Str → Option Value} {base : Heap} {n : Nat}
def sp_print_term (K : PySem.W.Frag) (n : Nat) : Sp := fun vs H Q _ => ∃ (t : Tm) (v : V), vs = [v] ∧ Rp K H (enc t) v ∧ Wf t ∧ dep t ≤ n ∧ (pr t).length ≤ 1000 ∧ ∀ H', Ext [] H H' → Q (.str (S (pr t))) H'
def sp_print_part (K : PySem.W.Frag) (n : Nat) : Sp := fun vs H Q _ => ∃ (t : Tm) (v : V) (l : Nat), vs = [v, .int l] ∧ Rp K H (enc t) v ∧ Wf t ∧ dep t ≤ n ∧ (par t.h.lv l (pr t)).length ≤ 1000 ∧ ∀ H', Ext [] H H' → Q (.str (S (par t.h.lv l (pr t)))) H'
def sp_print_binary (K : PySem.W.Frag) (n : Nat) : Sp := fun vs H Q _ => ∃ (s : Str) (a b : Tm) (va vb : V), vs = [.str s, va, vb] ∧ Rp K H (enc a) va ∧ Rp K H (enc b) vb ∧ Wf a ∧ Wf b ∧ dep a ≤ n ∧ dep b ≤ n ∧ s ∈ signs ∧
  (pr (.mk 0 (.bin s) [a, b])).length ≤ 1000 ∧ ∀ H', Ext [] H H' → Q (.str (S (pr (.mk 0 (.bin s) [a, b])))) H'
theorem sc_print_part : FnScope ["term", "least"] ["term", "least"] (defScope s_print_part) := ⟨rfl, rfl, rfl, by decide +kernel, rfl, by decide +kernel, by decide +kernel⟩
theorem ok_print_part (T : Tx w K mg) (C_print_term : Cal P w K mg base "print_term" (3 * n + 1) ["term"] (sp_print_term K n)) : Cal P w K mg base "print_part" (3 * n + 2) ["term", "least"] (sp_print_part K n) := by
  have C_level := ok_level T (P := P) (base := base)
  refine Cal.of T.f_print_part T.g_print_part sc_print_part (fun _ _ _ _ _ _ us hl => match us, hl with | [_, _], _ => rfl) (fun vs H Q E h => ?_) (fun f cdv A outer s H vs Q E hr h => ?_)
  · obtain ⟨t, v, l, rfl, _⟩ := h; rfl
  obtain ⟨t, v, l, rfl, r, wf, dn, len, q⟩ := h
  refine ⟨_, pss_cons (ps_if (pt_cmpR op_lt (pe_cal C_level (hr.mono (by omega)) rfl (pa_cons (pv 0) pa_nil)) (pv 1) (nomark _))
    (pss_one (ps_ret (pe_op op_add_str (pe_op op_add_str (pe_str) (pe_cal C_print_term (hr.mono (by omega)) rfl (pa_cons (pv 0) pa_nil))) (pe_str))))
    (pss_nil))
    (pss_one (ps_ret (pe_cal C_print_term (hr.mono (by omega)) rfl (pa_cons (pv 0) pa_nil)))), ?_⟩
  refine ⟨_, rfl, t, v, rfl, r, wf, _, rfl, _, _, rfl, rfl, _, rfl, ite2 (fun c => ?_) fun c => ?_⟩
  · have c : t.h.lv < l := by have := of_decide_eq_true c; omega
    unfold par at len q
    rw [if_pos c] at len q
    simp only [List.length_cons, List.length_append] at len
    refine ⟨_, rfl, t, v, rfl, r, wf, dn, by omega, fun H1 e1 => ⟨_, _, rfl, rfl, lenOk ?_, _, _, rfl, rfl, lenOk ?_, qs (q H1 e1) ?_⟩⟩ <;> simp only [cd_app, cd_S, List.length_append, cd_lp, cd_rp, List.length_cons, List.length_nil, List.cons_append, List.nil_append] <;> omega
  · have c : ¬ t.h.lv < l := fun z => c (decide_eq_true (by omega))
    unfold par at len q
    rw [if_neg c] at len q
    exact ⟨_, rfl, t, v, rfl, r, wf, dn, len, fun H1 e1 => q H1 e1⟩
theorem sc_print_binary : FnScope ["sign", "left", "right", "least"] ["sign", "left", "right"] (defScope s_print_binary) := ⟨rfl, rfl, rfl, by decide +kernel, rfl, by decide +kernel, by decide +kernel⟩
theorem ok_print_binary (T : Tx w K mg) (C_print_part : Cal P w K mg base "print_part" (3 * n + 2) ["term", "least"] (sp_print_part K n)) : Cal P w K mg base "print_binary" (3 * n + 3) ["sign", "left", "right"] (sp_print_binary K n) := by
  refine Cal.of T.f_print_binary T.g_print_binary sc_print_binary (fun _ _ _ _ _ _ us hl => match us, hl with | [_, _, _], _ => rfl) (fun vs H Q E h => ?_) (fun f cdv A outer s H vs Q E hr h => ?_)
  · obtain ⟨s, a, b, va, vb, rfl, _⟩ := h; rfl
  obtain ⟨s, a, b, va, vb, rfl, ra, rb, wa, wb, da, db, hs, len, q⟩ := h
  refine ⟨_, pss_cons (ps_set (i := 3) sc_print_binary.nd rfl (Or.inl rfl) (pe_ix ix_kdict (pe_gr rfl T.g_LEVELS_printing) (pv 0) (fun _ _ => rfl)))
    (pss_cons (ps_if (pt_cmpR op_eq (pv 3) (pe_gi rfl T.i_COMPARISON_printing) (nomark _))
    (pss_one (ps_ret (pe_op op_add_str (pe_op op_add_str (pe_op op_add_str (pe_op op_add_str (pe_cal C_print_part (hr.mono (by omega)) rfl (pa_cons (pv 1) (pa_cons (pe_op op_add (pv 3) (pe_int)) pa_nil))) (pe_str)) (pv 0)) (pe_str)) (pe_cal C_print_part (hr.mono (by omega)) rfl (pa_cons (pv 2) (pa_cons (pe_op op_add (pv 3) (pe_int)) pa_nil))))))
    (pss_nil))
    (pss_one (ps_ret (pe_op op_add_str (pe_op op_add_str (pe_op op_add_str (pe_op op_add_str (pe_cal C_print_part (hr.mono (by omega)) rfl (pa_cons (pv 1) (pa_cons (pv 3) pa_nil))) (pe_str)) (pv 0)) (pe_str)) (pe_cal C_print_part (hr.mono (by omega)) rfl (pa_cons (pv 2) (pa_cons (pe_op op_add (pv 3) (pe_int)) pa_nil))))))), ?_⟩
  have e : pr (.mk 0 (.bin s) [a, b]) = par a.h.lv (if lvS s = 3 then 4 else lvS s) (pr a) ++ 32 :: (cd s ++ 32 :: par b.h.lv (lvS s + 1) (pr b)) := by rw [pr_mk]; rfl
  rw [e] at len q
  refine ⟨_, rfl, _, _, _, rfl, rfl, (kd_LEVELS T).get (lv_sign hs), ?_⟩
  refine ⟨_, rfl, rfl, _, rfl, ite2 (fun c => ?_) fun c => ?_⟩
  · have c : lvS s = 3 := by have := V.int.inj (of_decide_eq_true c); omega
    rw [if_pos c, show (4 : Nat) = lvS s + 1 by omega] at len q
    simp only [List.length_cons, List.length_append] at len
    refine ⟨_, rfl, _, rfl, _, _, rfl, rfl, a, va, lvS s + 1, rfl, ra, wa, da, by omega, fun H1 e1 => ?_⟩
    refine ⟨_, _, rfl, rfl, lenOk ?_, _, rfl, _, _, rfl, rfl, lenOk ?_, _, _, rfl, rfl, lenOk ?_, _, rfl, _, rfl, _, _, rfl, rfl, b, vb, lvS s + 1, rfl, rb.ex0 e1, wb, db, by omega, fun H2 e2 => ⟨_, _, rfl, rfl, lenOk ?_, qs (q H2 (e1.trans e2)) ?_⟩⟩ <;>
      first | (simp only [cd_app, cd_S, List.length_append, cd_sp, List.length_cons, List.length_nil, List.cons_append, List.nil_append, List.append_assoc]; done) | (simp only [cd_app, cd_S, List.length_append, cd_sp, List.length_cons, List.length_nil, List.cons_append, List.nil_append]; omega)
  · have c : ¬ lvS s = 3 := fun z => c (decide_eq_true (by rw [z]; rfl))
    rw [if_neg c] at len q
    simp only [List.length_cons, List.length_append] at len
    refine ⟨_, rfl, _, rfl, a, va, lvS s, rfl, ra, wa, da, by omega, fun H1 e1 => ?_⟩
    refine ⟨_, _, rfl, rfl, lenOk ?_, _, rfl, _, _, rfl, rfl, lenOk ?_, _, _, rfl, rfl, lenOk ?_, _, rfl, _, rfl, _, _, rfl, rfl, b, vb, lvS s + 1, rfl, rb.ex0 e1, wb, db, by omega, fun H2 e2 => ⟨_, _, rfl, rfl, lenOk ?_, qs (q H2 (e1.trans e2)) ?_⟩⟩ <;>
      first | (simp only [cd_app, cd_S, List.length_append, cd_sp, List.length_cons, List.length_nil, List.cons_append, List.nil_append, List.append_assoc]; done) | (simp only [cd_app, cd_S, List.length_append, cd_sp, List.length_cons, List.length_nil, List.cons_append, List.nil_append]; omega)
theorem sc_print_term : FnScope ["term", "part"] ["term"] (defScope s_print_term) := ⟨rfl, rfl, rfl, by decide +kernel, rfl, by decide +kernel, by decide +kernel⟩
theorem leaf_in (h : Hd) : inV (.str h.tag) [.str (o "number"), .str (o "truth"), .str (o "variable"), .str (o "fact"), .str (o "fail")] = h.leaf := by
  cases h <;> (simp only [Hd.tag, Hd.leaf]; decide +kernel)
theorem ok_print_term (T : Tx w K mg) : ∀ n, Cal P w K mg base "print_term" (3 * n + 1) ["term"] (sp_print_term K n)
  | 0 => by
    refine Cal.none_ T.f_print_term T.g_print_term (fun _ _ _ _ _ _ us hl => match us, hl with | [_], _ => rfl) ?_
    rintro vs H Q E ⟨t, v, _, _, _, h, _⟩
    have := dep_pos t
    omega
  | n + 1 => by
    have C_print_term := ok_print_term T n
    have C_print_part := ok_print_part T C_print_term
    have C_print_binary := ok_print_binary T C_print_part
    have C_print_leaf := ok_print_leaf T (P := P) (base := base)
    have C_print_construct := ok_print_construct T (P := P) (base := base)
    have C_parts := ok_parts T (P := P) (base := base)
    refine Cal.of T.f_print_term T.g_print_term sc_print_term (fun _ _ _ _ _ _ us hl => match us, hl with | [_], _ => rfl) (fun vs H Q E h => ?_) (fun f cdv A outer s H vs Q E hr h => ?_)
    · obtain ⟨t, v, rfl, _⟩ := h; rfl
    obtain ⟨⟨p0, h, cs⟩, v, rfl, r, wf, dn, len, q⟩ := h
    refine ⟨_, pss_cons (ps_if (pt_cmpR op_eq (pe_ix ix_tup (pv 0) (pe_int) (fun _ _ => rfl)) (pe_str) (nomark _))
    (pss_one (ps_ret (pe_cal C_print_binary (hr.mono (by omega)) rfl (pa_cons (pe_ix ix_tup (pv 0) (pe_int) (fun _ _ => rfl)) (pa_cons (pe_ix ix_tup (pv 0) (pe_int) (fun _ _ => rfl)) (pa_cons (pe_ix ix_tup (pv 0) (pe_int) (fun _ _ => rfl)) pa_nil))))))
    (pss_nil))
    (pss_cons (ps_if (pt_cmpR op_eq (pe_ix ix_tup (pv 0) (pe_int) (fun _ _ => rfl)) (pe_str) (nomark _))
    (pss_one (ps_ret (pe_op op_add_str (pe_str) (pe_cal C_print_part (hr.mono (by omega)) rfl (pa_cons (pe_ix ix_tup (pv 0) (pe_int) (fun _ _ => rfl)) (pa_cons (pe_gi rfl T.i_UNARY) pa_nil))))))
    (pss_nil))
    (pss_cons (ps_if (pt_cmpR op_eq (pe_ix ix_tup (pv 0) (pe_int) (fun _ _ => rfl)) (pe_str) (nomark _))
    (pss_one (ps_ret (pe_op op_add_str (pe_str) (pe_cal C_print_part (hr.mono (by omega)) rfl (pa_cons (pe_ix ix_tup (pv 0) (pe_int) (fun _ _ => rfl)) (pa_cons (pe_gi rfl T.i_UNARY) pa_nil))))))
    (pss_nil))
    (pss_cons (ps_if (pt_cmpR op_in_seq (pe_ix ix_tup (pv 0) (pe_int) (fun _ _ => rfl)) (pe_tup (pa_cons (pe_str) (pa_cons (pe_str) (pa_cons (pe_str) (pa_cons (pe_str) (pa_cons (pe_str) pa_nil)))))) rfl)
    (pss_one (ps_ret (pe_cal C_print_leaf (hr.mono (by omega)) rfl (pa_cons (pv 0) pa_nil))))
    (pss_nil))
    (pss_one (ps_ret (pe_cal C_print_construct (hr.mono (by omega)) rfl (pa_cons (pv 0) (pa_cons (pe_lc (own := [("part", 1)]) (g := gName 1) rfl sc_print_term.nd (pi_tup (pe_cal C_parts (hr.mono (by omega)) rfl (pa_cons (pv 0) pa_nil))) (blkOk_by (N := ["term", "part"]) (own := [("part", 1)]) (sc := defScope s_print_term) (by decide +kernel)) (fun _ _ _ _ _ => pg_name (i := 1) sc_print_term.nd rfl (Or.inl rfl)) (fun _ _ _ _ _ => pts_nil) (fun _ _ _ _ _ => (pe_cal C_print_term (hr.mono (by omega)) rfl (pa_cons (pv 1) pa_nil)))) pa_nil)))))))), ?_⟩
    obtain ⟨a, xs, rfl, nd, rl, ln⟩ := node_of r
    obtain ⟨r0, hT⟩ := nd.head
    rw [dep_mk] at dn
    refine ⟨_, rfl, _, _, _, _, rfl, rfl, hT, a0, rfl, _, rfl, ite2 (fun c => ?_) fun c => ?_⟩
    · obtain ⟨s, rfl⟩ := tag_bin (dec_eq c)
      obtain ⟨x, y, rfl⟩ := len2 wf.hd.1
      obtain ⟨u, v, rfl⟩ := len2 ln
      obtain ⟨u', r1, e1, h1, v', r2, e2, h2, e3⟩ := rl
      cases e1; cases e2
      have nd : SqT K H a [.str (o "binary"), .str s, u, v] := nd
      have hx : dep x ≤ n := by have := dep_mem (cs := [x, y]) (c := x) (by simp); omega
      have hy : dep y ≤ n := by have := dep_mem (cs := [x, y]) (c := y) (by simp); omega
      exact ⟨_, rfl, _, _, _, _, rfl, rfl, nd, a1, _, rfl, _, _, _, _, rfl, rfl, nd, a2, _, rfl, _, _, _, _, rfl, rfl, nd, a3, s, x, y, u, v, rfl, h1, h2, wf.sub (by simp), wf.sub (by simp), hx, hy, wf.hd.2, len, q⟩
    have c1 := dec_ne c
    refine ⟨_, rfl, _, _, _, _, rfl, rfl, hT, a0, rfl, _, rfl, ite2 (fun c => ?_) fun c => ?_⟩
    · cases tag_minus (dec_eq c)
      obtain ⟨x, rfl⟩ := len1 wf.hd
      obtain ⟨u, rfl⟩ := len1 ln
      obtain ⟨u', r1, e1, h1, e3⟩ := rl
      cases e1
      have nd : SqT K H a [.str (o "minus"), u] := nd
      have hx : dep x ≤ n := by have := dep_mem (cs := [x]) (c := x) (by simp); omega
      have e : pr (.mk p0 .minus [x]) = 45 :: par x.h.lv 6 (pr x) := by rw [pr_mk]; rfl
      rw [e] at len q
      simp only [List.length_cons] at len
      refine ⟨_, rfl, _, _, _, _, rfl, rfl, nd, a1, x, u, 6, rfl, h1, wf.sub (by simp), hx, by omega, fun H1 e1 => ⟨_, _, rfl, rfl, lenOk ?_, qs (q H1 e1) ?_⟩⟩ <;> simp only [cd_app, cd_S, cd_mi, List.length_cons, List.length_nil, List.cons_append, List.nil_append] <;> omega
    have c2 := dec_ne c
    refine ⟨_, rfl, _, _, _, _, rfl, rfl, hT, a0, rfl, _, rfl, ite2 (fun c => ?_) fun c => ?_⟩
    · cases tag_not (dec_eq c)
      obtain ⟨x, rfl⟩ := len1 wf.hd
      obtain ⟨u, rfl⟩ := len1 ln
      obtain ⟨u', r1, e1, h1, e3⟩ := rl
      cases e1
      have nd : SqT K H a [.str (o "not"), u] := nd
      have hx : dep x ≤ n := by have := dep_mem (cs := [x]) (c := x) (by simp); omega
      have e : pr (.mk p0 .not_ [x]) = cd (Str.ofString "not ") ++ par x.h.lv 6 (pr x) := by rw [pr_mk]; rfl
      rw [e] at len q
      simp only [List.length_append] at len
      refine ⟨_, rfl, _, _, _, _, rfl, rfl, nd, a1, x, u, 6, rfl, h1, wf.sub (by simp), hx, by omega, fun H1 e1 => ⟨_, _, rfl, rfl, lenOk ?_, qs (q H1 e1) ?_⟩⟩ <;> simp only [cd_app, cd_S] <;> omega
    have c3 := dec_ne c
    refine ⟨_, rfl, _, _, _, _, rfl, rfl, hT, a0, by show 5 ≤ sizeLine; decide, fun p hp => ?_⟩
    have e1 : Ext [] H (upd H p (.tup [.str (o "number"), .str (o "truth"), .str (o "variable"), .str (o "fact"), .str (o "fail")])) := .new hp
    refine ⟨p, _, rfl, .inr (SqT.of upd_same), rfl, rfl, _, rfl, ?_⟩
    rw [if_neg Bool.false_ne_true, leaf_in]
    refine ite2 (fun c => ?_) fun c => ?_
    · have e0 : cs = [] := wf.leaf (by cases h <;> first | rfl | cases c) (by cases h <;> first | rfl | cases c)
      subst e0
      cases xs with
      | cons _ _ => simp at ln
      | nil => 
        refine ⟨_, rfl, a, h, rfl, nd.ex0 e1, c, wf.hd, ?_⟩
        have e : pr (.mk p0 h []) = h.pr [] := by rw [pr_mk, prs]
        rw [e] at q
        exact q _ e1
    · have co : h.cons = true := by cases h <;> first | rfl | exact absurd rfl c | exact absurd rfl c1 | exact absurd rfl c2 | exact absurd rfl c3
      have e : pr (.mk p0 h cs) = h.pr (cs.map pr) := by rw [pr_mk, prs_plain (cons_least co)]
      rw [e] at len q
      refine ⟨_, rfl, _, rfl, a, h, xs, rfl, nd.ex0 e1, leafV wf ln, fun b H2 e2 hb => ?_⟩
      have e2' := e1.trans e2
      refine ⟨b, rfl, ⟨_, hb⟩, fun Dl hD => ?_⟩
      refine lc_tup (xs := xs) (fun i H' => Ext [] H2 H' ∧ H' Dl = some (.lst (((cs.take i).map pr).map fun x => V.str (S x)))) ⟨(Ext.refl _ _).own hD, upd_same⟩ (fun i H' _ pv => Ext.tup pv.1 .nil hb) (fun i x H' hx pv => ?_) (fun H' pv => ?_)
      · obtain ⟨c, hc, rc⟩ := rl.at_ hx
        refine ⟨rfl, yes_ (iteT ?_)⟩
        have hl : (pr c).length ≤ 1000 := Nat.le_trans (sub_len co (by rw [List.length_map]; exact wf.hd) (List.mem_map_of_mem (mem_at hc))) len
        refine ⟨_, rfl, c, x, rfl, rc.ex0 (e2'.trans pv.1), wf.sub (mem_at hc), by have := dep_mem (mem_at hc); omega, hl, fun H3 e3 => ?_⟩
        refine ⟨_, e3 _ _ pv.2 (by simp), ?_, (pv.1.trans e3).own hD, ?_⟩
        · have := wf.few
          rw [List.length_map, List.length_map, List.length_take]
          exact small' (by omega)
        · rw [upd_same, take_snoc hc, List.map_append, List.map_append]; rfl
      · obtain ⟨pe, pl⟩ := pv
        have el : xs.length = cs.length := ln
        rw [el, List.take_length] at pl
        refine ⟨a, h, xs, Dl, cs.map pr, rfl, nd.ex0 (e2'.trans pe), ?_, co, by rw [List.length_map]; exact wf.hd, len, q _ (e2'.trans pe)⟩
        rw [pl]; simp only [List.map_map, Function.comp_def]
end
end K13

/-! W6: print_script -/
namespace K13
open PySem PySem.Spec PyProof.Rows L2
structure WfD (d : Df) : Prop where
  name : Name d.name
  few : d.pars.length ≤ 4
  pars : ∀ p ∈ d.pars, Name p
  term : Wf d.term
structure WfS (s : Sc) : Prop where
  few : s.defs.length ≤ 6
  defs : ∀ d ∈ s.defs, WfD d
  body : Wf s.body
def prD (d : Df) : List Nat := cd (o "def ") ++ (cd d.name ++ (cd (o "(") ++ (joinc (d.pars.map cd) ++ (cd (o ") = ") ++ (pr d.term ++ cd (o "; "))))))
def prDs : List Df → List Nat
  | [] => []
  | d :: r => prD d ++ prDs r
def prS (s : Sc) : List Nat := prDs s.defs ++ pr s.body
theorem prDs_app : ∀ a b : List Df, prDs (a ++ b) = prDs a ++ prDs b
  | [], b => rfl
  | d :: r, b => by simp only [List.cons_append, prDs, prDs_app r b, List.append_assoc]
theorem prDs_snoc {l : List Df} {i : Nat} {d : Df} (h : l[i]? = some d) : prDs (l.take (i + 1)) = prDs (l.take i) ++ prD d := by
  rw [take_snoc h, prDs_app]
  simp [prDs]
theorem prDs_le {l : List Df} (i : Nat) : (prDs (l.take i)).length ≤ (prDs l).length := by
  have e := prDs_app (l.take i) (l.drop i)
  rw [List.take_append_drop] at e
  rw [e, List.length_append]; omega
theorem cds (ps : List Str) : ps.map V.str = ((ps.map cd).map S).map V.str := by
  simp only [List.map_map, Function.comp_def, S_cd]
section
variable {P : Program} {w : World} {K : PySem.W.Frag} {mg : Str → Option Value} {base : Heap}
def Sc.dep (s : Sc) : Nat := maxl (s.terms.map K13.dep)
theorem Sc.dep_def {s : Sc} {d : Df} (h : d ∈ s.defs) : K13.dep d.term ≤ s.dep := le_maxl (List.mem_map_of_mem (by unfold Sc.terms; exact List.mem_append_left _ (List.mem_map_of_mem h)))
theorem Sc.dep_body (s : Sc) : K13.dep s.body ≤ s.dep := le_maxl (List.mem_map_of_mem (by unfold Sc.terms; simp))
def sp_print_script (K : PySem.W.Frag) : Sp := fun vs H Q _ => ∃ (s : Sc) (v : V), vs = [v] ∧ Rp K H s.enc v ∧ WfS s ∧ s.dep ≤ 16 ∧ (prS s).length ≤ 1000 ∧ ∀ H', Ext [] H H' → Q (.str (S (prS s))) H'
theorem sc_print_script : FnScope ["script", "text", "name", "parameters", "term"] ["script"] (defScope s_print_script) := ⟨rfl, rfl, rfl, by decide +kernel, rfl, by decide +kernel, by decide +kernel⟩
theorem ok_print_script (T : Tx w K mg) : Cal P w K mg base "print_script" 50 ["script"] (sp_print_script K) := by
  have C_print_term : Cal P w K mg base "print_term" 49 ["term"] (sp_print_term K 16) := ok_print_term T 16
  refine Cal.of T.f_print_script T.g_print_script sc_print_script (fun _ _ _ _ _ _ us hl => match us, hl with | [_], _ => rfl) (fun vs H Q E h => ?_) (fun f cdv A outer s H vs Q E hr h => ?_)
  · obtain ⟨t, v, rfl, _⟩ := h; rfl
  obtain ⟨s, v, rfl, r, wf, d16, len, q⟩ := h
  refine ⟨_, pss_cons (ps_set (i := 1) sc_print_script.nd rfl (Or.inl rfl) (pe_str))
    (pss_cons (ps_for PassesOwn.never rfl (pi_tup (pe_ix ix_tup (pv 0) (pe_int) (fun _ _ => rfl))) (pg_tup (by rfl) (pgs_cons (pg_name (i := 2) sc_print_script.nd rfl (Or.inl rfl)) (pgs_cons (pg_name (i := 3) sc_print_script.nd rfl (Or.inl rfl)) (pgs_cons (pg_name (i := 4) sc_print_script.nd rfl (Or.inl rfl)) pgs_nil))))
    (pss_one (ps_set (i := 1) sc_print_script.nd rfl (Or.inl rfl) (pe_op op_add_str (pe_op op_add_str (pe_op op_add_str (pe_op op_add_str (pe_op op_add_str (pe_op op_add_str (pe_op op_add_str (pv 1) (pe_str)) (pv 2)) (pe_str)) (pe_join (pe_str) (pv 3))) (pe_str)) (pe_cal C_print_term (hr.mono (by omega)) rfl (pa_cons (pv 4) pa_nil))) (pe_str)))))
    (pss_one (ps_ret (pe_op op_add_str (pv 1) (pe_cal C_print_term (hr.mono (by omega)) rfl (pa_cons (pe_ix ix_tup (pv 0) (pe_int) (fun _ _ => rfl)) pa_nil)))))), ?_⟩
  obtain ⟨a, d, ds, b, rfl, h1, h2, h3, h4⟩ := Sc.elim r
  have ld : s.defs.length = ds.length := by have := h3.length; rwa [List.length_map] at this
  have len' : (prDs s.defs).length + (pr s.body).length ≤ 1000 := by unfold prS at len; rw [List.length_append] at len; exact len
  refine ⟨_, rfl, _, _, _, _, rfl, rfl, h1, a0, d, rfl, ⟨_, h2⟩, ?_⟩
  refine for_tup (xs := ds) (fun i σ H' => Ext [] H H' ∧ ∃ x y z, σ = [some (.ref a), some (.str (S (prDs (s.defs.take i)))), x, y, z]) ⟨Ext.refl _ _, none, none, none, rfl⟩ (fun i σ H' _ pv => Ext.tup pv.1 .nil h2) (fun i x σ H' hx pv => ?_) (fun σ H' pv => ?_)
  · obtain ⟨c, hc, rc⟩ := h3.at_ hx
    obtain ⟨pe, y1, y2, y3, rfl⟩ := pv
    obtain ⟨ad, ps, t, rfl, k1, k2, k3⟩ := Df.elim rc
    have wd := wf.defs c (mem_at hc)
    have snoc := prDs_snoc hc
    have le := prDs_le (l := s.defs) (i + 1)
    rw [snoc, List.length_append] at le
    unfold prD at le
    simp only [List.length_append, o] at le
    rw [cds] at k2
    refine ⟨ad, _, rfl, pe.tup .nil k1, rfl, _, _, rfl, _, _, rfl, _, _, rfl, rfl, ?_⟩
    refine ⟨_, rfl, _, _, rfl, rfl, lenOk ?_, _, rfl, _, _, rfl, rfl, lenOk ?_, _, _, rfl, rfl, lenOk ?_, ⟨_, rfl⟩, _, rfl, _, _, _, rfl, rfl, .inr (pe.tup .nil k2), join_ok (by omega), _, _, rfl, rfl, lenOk ?_, _, _, rfl, rfl, lenOk ?_, _, rfl, c.term, t, rfl, k3.ex0 pe, wd.term, Nat.le_trans (Sc.dep_def (mem_at hc)) d16, by omega, fun H1 e1 => ⟨_, _, rfl, rfl, lenOk ?_, _, _, rfl, rfl, lenOk ?_, pe.trans e1, ?_⟩⟩
    any_goals (simp only [join_S, cd_app, cd_S, List.length_append]; omega)
    refine ⟨some (.str c.name), some (.ref ps), some t, ?_⟩
    have e : ∀ x y : Str, cd x = cd y → [some (V.ref a), some (.str x), some (.str c.name), some (.ref ps), some t] = [some (V.ref a), some (.str y), some (.str c.name), some (.ref ps), some t] := fun x y h => by rw [cd_inj h]
    refine e _ _ ?_
    rw [snoc]
    simp only [join_S, cd_app, cd_S, prD, List.append_assoc, o]
  · obtain ⟨pe, y1, y2, y3, rfl⟩ := pv
    rw [← ld, List.take_length]
    refine ⟨_, rfl, _, rfl, _, _, _, _, rfl, rfl, pe.tup .nil h1, a1, s.body, b, rfl, h4.ex0 pe, wf.body, Nat.le_trans s.dep_body d16, by omega, fun H1 e1 => ⟨_, _, rfl, rfl, lenOk ?_, qs (q H1 (pe.trans e1)) ?_⟩⟩ <;> simp only [cd_app, cd_S, prS] <;> omega
end
end K13

/-! W7: bound_in, check_term, check_uses -/
namespace K13
open PySem PySem.Spec PyProof.Rows L2
theorem inV_str (x : Str) (xs : List Str) : inV (.str x) (xs.map V.str) = decide (x ∈ xs) := by
  unfold inV
  rw [List.any_map]
  induction xs with
  | nil => rfl
  | cons y r ih =>
    rw [List.any_cons, ih]
    show ((y == x) || decide (x ∈ r)) = decide (x ∈ y :: r)
    by_cases e : y = x
    · subst e; simp
    · have e2 : (y == x) = false := beq_eq_false_iff_ne.mpr e
      rw [e2, Bool.false_or]
      simp [List.mem_cons, show ¬ x = y from fun c => e c.symm]
theorem flat_str (xs : List Str) : (xs.map V.str).all flatV = true := by
  rw [List.all_map]
  exact List.all_eq_true.mpr fun x _ => rfl
theorem catA_ {K : PySem.W.Frag} {a b : Addr} {xs ys : List V} {H : Hp} {Q : VK} (ha : SqT K H a xs) (hb : SqT K H b ys) (z : xs.length + ys.length ≤ 1000000) (q : ∀ r H', Ext [] H H' → SqT K H' r (xs ++ ys) → Q (.ref r) H') : rCatA K (.ref a) (.ref b) H Q :=
  ⟨a, b, xs, ys, rfl, rfl, ha, hb, small (by omega), fun e => q b H (.refl _ _) (by rw [e]; exact hb), fun _ e => q a H (.refl _ _) (by rw [e, List.append_nil]; exact ha), fun _ _ p hp => q p _ (.new hp) (SqT.of upd_same)⟩
theorem slA_ {K : PySem.W.Frag} {a : Addr} {xs : List V} {lo hi : Option Int} {H : Hp} {Q : VK} (ha : SqT K H a xs) (q : ∀ r H', Ext [] H H' → SqT K H' r (cutV xs lo hi) → Q (.ref r) H') : rSlA K (.ref a) lo hi H Q :=
  ⟨a, xs, rfl, ha, fun ⟨e1, e2⟩ => q a H (.refl _ _) (by unfold cutV; rw [e1, e2, List.drop_zero, Nat.sub_zero, List.take_length]; exact ha), fun _ p hp => q p _ (.new hp) (SqT.of upd_same)⟩
theorem valV_kvK : ∀ (kvs : List (Str × Int)) (z : Str), valV (kvK kvs) (Sum.inr z) = (kvs.lookup z).map V.int
  | [], z => rfl
  | (x, i) :: r, z => by
    have ih := valV_kvK r z
    unfold valV kvK at ih ⊢
    rw [List.map_cons, List.find?_cons, List.lookup_cons]
    by_cases e : x = z
    · subst e; simp
    · have e1 : decide ((Sum.inr x : Key) = Sum.inr z) = false := decide_eq_false fun q => e (Sum.inr.inj q)
      have e2 : (z == x) = false := beq_eq_false_iff_ne.mpr fun q => e q.symm
      rw [e1, e2]
      exact ih
theorem look_app : ∀ {a b : List (Str × Int)} {z : Str}, a.lookup z = none → (a ++ b).lookup z = b.lookup z
  | [], _, _, _ => rfl
  | (x, i) :: r, b, z, h => by
    rw [List.lookup_cons] at h
    rw [List.cons_append, List.lookup_cons]
    cases e : (z == x) with
    | true => rw [e] at h; cases h
    | false => rw [e] at h; exact look_app h
/-! ### a script's uses -/
def Df.kv (d : Df) : Str × Int := (d.name, (d.pars.length : Int))
def UsD : List (Str × Int) → List Df → Prop
  | _, [] => True
  | k, d :: r => k.lookup d.name = none ∧ d.pars.Nodup ∧ Us d.pars k d.term ∧ UsD (k ++ [d.kv]) r
theorem UsD.at_ : ∀ {k : List (Str × Int)} {ds : List Df} {i : Nat} {d : Df}, UsD k ds → ds[i]? = some d → (k ++ (ds.take i).map Df.kv).lookup d.name = none ∧ d.pars.Nodup ∧ Us d.pars (k ++ (ds.take i).map Df.kv) d.term
  | _, [], i, d, _, h => by simp at h
  | k, e :: r, 0, d, ⟨h1, h2, h3, _⟩, h => by
    simp at h; subst h
    rw [List.take_zero, List.map_nil, List.append_nil]
    exact ⟨h1, h2, h3⟩
  | k, e :: r, i + 1, d, ⟨_, _, _, h4⟩, h => by
    have := UsD.at_ (i := i) (d := d) h4 (by simpa using h)
    rw [List.append_assoc] at this
    exact this
structure UsS (s : Sc) : Prop where
  defs : UsD kv_FUNCTIONS s.defs
  body : Us [] (kv_FUNCTIONS ++ s.defs.map Df.kv) s.body
section
variable {P : Program} {w : World} {K : PySem.W.Frag} {mg : Str → Option Value} {base : Heap}
def sp_bound_in (K : PySem.W.Frag) : Sp := fun vs H Q _ => ∃ (a : Addr) (h : Hd) (cs : List V) (i : Nat), vs = [.ref a, .int i] ∧ Nd K H a h cs ∧ ∀ b H', Ext [] H H' → SqT K H' b ((h.bnd i).map V.str) → Q (.ref b) H'
theorem sc_bound_in : FnScope ["term", "index"] ["term", "index"] (defScope s_bound_in) := ⟨rfl, rfl, rfl, by decide +kernel, rfl, by decide +kernel, by decide +kernel⟩
theorem ok_bound_in (T : Tx w K mg) : Cal P w K mg base "bound_in" 1 ["term", "index"] (sp_bound_in K) := by
  refine Cal.of T.f_bound_in T.g_bound_in sc_bound_in (fun _ _ _ _ _ _ us hl => match us, hl with | [_, _], _ => rfl) (fun vs H Q E h => ?_) (fun f cdv A outer s H vs Q E hr h => ?_)
  · obtain ⟨a, h, cs, i, rfl, _⟩ := h; rfl
  obtain ⟨a, h, cs, i, rfl, nd, q⟩ := h
  refine ⟨_, pss_cons (ps_if (PW.pt (pw_and (pt_cmpR op_eq (pe_ix ix_tup (pv 0) (pe_int) (fun _ _ => rfl)) (pe_str) (nomark _)) (pw_and1 (pt_cmpR op_eq (pv 1) (pe_int) (nomark _)))))
    (pss_one (ps_ret (pe_tup (pa_cons (pe_ix ix_tup (pv 0) (pe_int) (fun _ _ => rfl)) pa_nil))))
    (pss_nil))
    (pss_cons (ps_if (PW.pt (pw_and (pt_cmpR op_eq (pe_ix ix_tup (pv 0) (pe_int) (fun _ _ => rfl)) (pe_str) (nomark _)) (pw_and1 (pt_cmpR op_eq (pv 1) (pe_int) (nomark _)))))
    (pss_one (ps_ret (pe_tup (pa_cons (pe_ix ix_tup (pv 0) (pe_int) (fun _ _ => rfl)) (pa_cons (pe_ix ix_tup (pv 0) (pe_int) (fun _ _ => rfl)) pa_nil)))))
    (pss_nil))
    (pss_one (ps_ret (pe_tup pa_nil)))), ?_⟩
  obtain ⟨r, hT⟩ := nd.head
  have second : (h.tag = o "let" → i ≠ 1) → (tSeq (tIfS (tAnd (tTest (tOp rEq (tOp (rIxT K) (tVar 0) (tC (.int 0))) (tC (.str (o "fold"))))) (tTest (tOp rEq (tVar 1) (tC (.int 2))))) (tRet (tTup (tCons (tOp (rIxT K) (tVar 0) (tC (.int 1))) (tCons (tOp (rIxT K) (tVar 0) (tC (.int 2))) tNil)))) tNext) (tRet (tTup tNil))) { nx := fun _ H' => Q .non H', rt := Q } (L2.start ["term", "index"] [.ref a, .int i]) H := fun nl => by
    have last : (h.tag = o "fold" → i ≠ 2) → (tRet (tTup tNil)) { nx := fun _ H' => Q .non H', rt := Q } (L2.start ["term", "index"] [.ref a, .int i]) H := fun nf => by
      refine ⟨Nat.zero_le _, fun p hp => q p _ (.new hp) (SqT.of ?_)⟩
      have e : h.bnd i = [] := by
        cases h <;> first | rfl | skip
        · unfold Hd.bnd; simp only; rw [if_neg (nl rfl)]
        · unfold Hd.bnd; simp only; rw [if_neg (nf rfl)]
      rw [upd_same, e]; rfl
    refine ⟨_, rfl, _, _, _, _, rfl, rfl, hT, a0, rfl, _, rfl, ite2 (fun c => ?_) fun c => ?_⟩
    · obtain ⟨x, y, rfl⟩ := tag_fold (dec_eq c)
      have nd : SqT K H a (.str (o "fold") :: .str x :: .str y :: cs) := nd
      refine ⟨_, rfl, rfl, _, rfl, ite2 (fun c2 => ?_) fun c2 => ?_⟩
      · have ei : i = 2 := by have := V.int.inj (of_decide_eq_true c2); omega
        subst ei
        exact ⟨_, rfl, _, _, _, _, rfl, rfl, nd, a1, _, rfl, _, _, _, _, rfl, rfl, nd, a2, by show 2 ≤ sizeLine; decide, fun p hp => q p _ (.new hp) (SqT.of upd_same)⟩
      · exact last fun _ e => c2 (decide_eq_true (by rw [e]; rfl))
    · exact last fun e => absurd e (dec_ne c)
  refine ⟨_, rfl, _, _, _, _, rfl, rfl, hT, a0, rfl, _, rfl, ite2 (fun c => ?_) fun c => ?_⟩
  · obtain ⟨x, rfl⟩ := tag_let (dec_eq c)
    have nd : SqT K H a (.str (o "let") :: .str x :: cs) := nd
    refine ⟨_, rfl, rfl, _, rfl, ite2 (fun c2 => ?_) fun c2 => ?_⟩
    · have ei : i = 1 := by have := V.int.inj (of_decide_eq_true c2); omega
      subst ei
      exact ⟨_, rfl, _, _, _, _, rfl, rfl, nd, a1, by show 1 ≤ sizeLine; decide, fun p hp => q p _ (.new hp) (SqT.of upd_same)⟩
    · exact second fun _ e => c2 (decide_eq_true (by rw [e]; rfl))
  · exact second fun e => absurd e (dec_ne c)
def sp_check_term (K : PySem.W.Frag) (n : Nat) : Sp := fun vs H Q _ => ∃ (t : Tm) (v : V) (va kd : Addr) (vars : List Str) (known : List (Str × Int)), vs = [v, .ref va, .ref kd] ∧ Rp K H (enc t) v ∧ SqT K H va (vars.map V.str) ∧ H kd = some (.dK (kvK known)) ∧
  Us vars known t ∧ Wf t ∧ dep t ≤ n ∧ vars.length + 2 * n ≤ 1000 ∧ ∀ H', Ext [] H H' → Q .non H'
theorem sc_check_term : FnScope ["term", "variables", "known", "index", "part"] ["term", "variables", "known"] (defScope s_check_term) := ⟨rfl, rfl, rfl, by decide +kernel, rfl, by decide +kernel, by decide +kernel⟩
theorem bnd_len (h : Hd) (i : Nat) : (h.bnd i).length ≤ 2 := by cases h <;> simp [Hd.bnd] <;> split <;> simp
theorem ok_check_term (T : Tx w K mg) : ∀ n, Cal P w K mg base "check_term" (n + 1) ["term", "variables", "known"] (sp_check_term K n)
  | 0 => by
    refine Cal.none_ T.f_check_term T.g_check_term (fun _ _ _ _ _ _ us hl => match us, hl with | [_, _, _], _ => rfl) ?_
    rintro vs H Q E ⟨t, v, _, _, _, _, _, _, _, _, _, _, h, _⟩
    have := dep_pos t
    omega
  | n + 1 => by
    have C_check_term := ok_check_term T n
    have C_bound_in := ok_bound_in T (P := P) (base := base)
    have C_parts := ok_parts T (P := P) (base := base)
    refine Cal.of T.f_check_term T.g_check_term sc_check_term (fun _ _ _ _ _ _ us hl => match us, hl with | [_, _, _], _ => rfl) (fun vs H Q E h => ?_) (fun f cdv A outer s H vs Q E hr h => ?_)
    · obtain ⟨t, v, _, _, _, _, rfl, _⟩ := h; rfl
    obtain ⟨⟨p0, h, cs⟩, v, va, kd, vars, known, rfl, r, hv, hk, us, wf, dn, lv, q⟩ := h
    refine ⟨_, pss_cons (ps_if (PW.pt (pw_and (pt_cmpR op_eq (pe_ix ix_tup (pv 0) (pe_int) (fun _ _ => rfl)) (pe_str) (nomark _)) (pw_and1 (pt_cmpR op_notIn_seq (pe_ix ix_tup (pv 0) (pe_int) (fun _ _ => rfl)) (pv 1) rfl))))
    (pss_one (ps_never))
    (pss_nil))
    (pss_cons (ps_if (PW.pt (pw_and (pt_cmpR op_eq (pe_ix ix_tup (pv 0) (pe_int) (fun _ _ => rfl)) (pe_str) (nomark _)) (pw_and1 (pt_cmpR op_ne (pe_dget2 (hu_of hr) (pv 2) (pe_ix ix_tup (pv 0) (pe_int) (fun _ _ => rfl)) (pe_un un_neg (pe_int)) ⟨by rfl, by rfl, by rfl, by rfl⟩) (pe_callB call_len (by rfl) T.n_len (by decide +kernel) (pa_cons (pe_ix ix_tup (pv 0) (pe_int) (fun _ _ => rfl)) pa_nil)) (nomark _)))))
    (pss_one (ps_never))
    (pss_nil))
    (pss_cons (ps_if (PW.pt (pw_and (pt_cmpR op_eq (pe_ix ix_tup (pv 0) (pe_int) (fun _ _ => rfl)) (pe_str) (nomark _)) (pw_and1 (pt_cmpR op_eq (pe_ix ix_tup (pv 0) (pe_int) (fun _ _ => rfl)) (pe_ix ix_tup (pv 0) (pe_int) (fun _ _ => rfl)) (nomark _)))))
    (pss_one (ps_never))
    (pss_nil))
    (pss_one (ps_for PassesOwn.never rfl (pi_enumT rfl T.n_enumerate (pa_cons (pe_cal C_parts (hr.mono (by omega)) rfl (pa_cons (pv 0) pa_nil)) pa_nil)) (pg_tup (by rfl) (pgs_cons (pg_name (i := 3) sc_check_term.nd rfl (Or.inl rfl)) (pgs_cons (pg_name (i := 4) sc_check_term.nd rfl (Or.inl rfl)) pgs_nil)))
    (pss_one (ps_expr (pe_cal C_check_term (hr.mono (by omega)) rfl (pa_cons (pv 4) (pa_cons (pe_op op_catA (pv 1) (pe_cal C_bound_in (hr.mono (by omega)) rfl (pa_cons (pv 0) (pa_cons (pv 3) pa_nil)))) (pa_cons (pv 2) pa_nil)))))))))), ?_⟩
    obtain ⟨a, xs, rfl, nd, rl, ln⟩ := node_of r
    obtain ⟨r0, hT⟩ := nd.head
    rw [dep_mk] at dn
    obtain ⟨u1, u2⟩ := us
    rw [uss_iff] at u2
    have loop : ∀ tb : TS, tb = tDrop (tCal (sp_check_term K n) (tCons (tVar 4) (tCons (tOp (rCatA K) (tVar 1) (tCal (sp_bound_in K) (tCons (tVar 0) (tCons (tVar 3) tNil)))) (tCons (tVar 2) tNil)))) →
        tFor (iEnumT K (tCons (tCal (sp_parts K) (tCons (tVar 0) tNil)) tNil)) (gTup K 2 (gCons (gName 3) (gCons (gName 4) gNil))) tb { nx := fun _ H' => Q .non H', rt := Q } (L2.start ["term", "variables", "known", "index", "part"] [.ref a, .ref va, .ref kd]) H := by
      rintro _ rfl
      refine ⟨_, rfl, a, h, xs, rfl, nd, leafV wf ln, fun b H2 e2 hb => ⟨b, xs, rfl, hb, ?_⟩⟩
      refine for_enumT (xs := xs) (fun i σ H' => Ext [] H H' ∧ ∃ x y, σ = [some (.ref a), some (.ref va), some (.ref kd), x, y] ∧ SqT K H' b xs) ⟨e2, none, none, rfl, hb⟩ (fun i σ H' _ pv => by obtain ⟨_, _, _, _, z⟩ := pv; exact z) (fun i x σ H' T hx pv hT => ?_) (fun σ H' pv => q H' pv.1)
      obtain ⟨c, hc, rc⟩ := rl.at_ hx
      obtain ⟨pe, y1, y2, rfl, hb'⟩ := pv
      have pe' : Ext [] H (upd H' T (.tup [.int (i : Nat), x])) := pe.news hT
      refine ⟨T, _, rfl, SqT.of upd_same, rfl, _, _, rfl, _, _, rfl, rfl, ?_⟩
      refine ⟨_, rfl, _, rfl, _, rfl, _, rfl, a, h, xs, i, rfl, nd.ex0 pe', fun b' H3 e3 hb3 => ?_⟩
      have pe3 := pe'.trans e3
      refine catA_ (pe3.tup .nil hv) hb3 (by rw [List.length_map, List.length_map]; have := bnd_len h i; omega) fun r' H4 e4 h4 => ?_
      have pe4 := pe3.trans e4
      have uc := u2 i c hc
      rw [Nat.zero_add] at uc
      refine ⟨_, rfl, c, x, r', kd, vars ++ h.bnd i, known, rfl, rc.ex0 pe4, by rw [List.map_append]; exact h4, pe4 _ _ hk (by simp), uc, wf.sub (mem_at hc), by have := dep_mem (mem_at hc); omega, by rw [List.length_append]; have := bnd_len h i; omega, fun H5 e5 => ?_⟩
      refine ⟨pe4.trans e5, _, _, rfl, ((((Ext.new hT).trans e3).trans e4).trans e5).tup .nil hb'⟩
    have third : ∀ tb : TS, tb = tDrop (tCal (sp_check_term K n) (tCons (tVar 4) (tCons (tOp (rCatA K) (tVar 1) (tCal (sp_bound_in K) (tCons (tVar 0) (tCons (tVar 3) tNil)))) (tCons (tVar 2) tNil)))) →
        (tSeq (tIfS (tAnd (tTest (tOp rEq (tOp (rIxT K) (tVar 0) (tC (.int 0))) (tC (.str (o "fold"))))) (tTest (tOp rEq (tOp (rIxT K) (tVar 0) (tC (.int 1))) (tOp (rIxT K) (tVar 0) (tC (.int 2)))))) tNever tNext)
          (tFor (iEnumT K (tCons (tCal (sp_parts K) (tCons (tVar 0) tNil)) tNil)) (gTup K 2 (gCons (gName 3) (gCons (gName 4) gNil))) tb)) { nx := fun _ H' => Q .non H', rt := Q } (L2.start ["term", "variables", "known", "index", "part"] [.ref a, .ref va, .ref kd]) H := by
      rintro _ rfl
      refine ⟨_, rfl, _, _, _, _, rfl, rfl, hT, a0, rfl, _, rfl, ite2 (fun c => ?_) fun c => loop _ rfl⟩
      obtain ⟨x, y, rfl⟩ := tag_fold (dec_eq c)
      have nd : SqT K H a (.str (o "fold") :: .str x :: .str y :: xs) := nd
      have ne : x ≠ y := u1
      refine ⟨_, rfl, _, _, _, _, rfl, rfl, nd, a1, _, rfl, _, _, _, _, rfl, rfl, nd, a2, rfl, _, rfl, ?_⟩
      rw [decide_eq_false (fun z => ne (V.str.inj z))]
      exact iteF (loop _ rfl)
    have secnd : ∀ tb : TS, tb = tDrop (tCal (sp_check_term K n) (tCons (tVar 4) (tCons (tOp (rCatA K) (tVar 1) (tCal (sp_bound_in K) (tCons (tVar 0) (tCons (tVar 3) tNil)))) (tCons (tVar 2) tNil)))) →
        (tSeq (tIfS (tAnd (tTest (tOp rEq (tOp (rIxT K) (tVar 0) (tC (.int 0))) (tC (.str (o "call"))))) (tTest (tOp rNe (tDGet2 (tVar 2) (tOp (rIxT K) (tVar 0) (tC (.int 1))) (tUn (rU fun i => .int (-i)) (tC (.int 1)))) (tCB (fun xs H Q => ∃ x n, xs = [x] ∧ LenV K x H n ∧ Q (.int n) H) (tCons (tOp (rIxT K) (tVar 0) (tC (.int 2))) tNil))))) tNever tNext)
        (tSeq (tIfS (tAnd (tTest (tOp rEq (tOp (rIxT K) (tVar 0) (tC (.int 0))) (tC (.str (o "fold"))))) (tTest (tOp rEq (tOp (rIxT K) (tVar 0) (tC (.int 1))) (tOp (rIxT K) (tVar 0) (tC (.int 2)))))) tNever tNext)
          (tFor (iEnumT K (tCons (tCal (sp_parts K) (tCons (tVar 0) tNil)) tNil)) (gTup K 2 (gCons (gName 3) (gCons (gName 4) gNil))) tb))) { nx := fun _ H' => Q .non H', rt := Q } (L2.start ["term", "variables", "known", "index", "part"] [.ref a, .ref va, .ref kd]) H := by
      rintro _ rfl
      refine ⟨_, rfl, _, _, _, _, rfl, rfl, hT, a0, rfl, _, rfl, ite2 (fun c => ?_) fun c => third _ rfl⟩
      obtain ⟨f, rfl⟩ := tag_call (dec_eq c)
      obtain ⟨b, nd, nb⟩ := nd
      have nd : SqT K H a [.str (o "call"), .str f, .ref b] := nd
      have uf : known.lookup f = some (cs.length : Int) := u1
      refine ⟨_, rfl, kd, rfl, .inl ⟨_, .inl hk⟩, _, rfl, _, _, _, _, rfl, rfl, nd, a1, 1, rfl, _, DGet.k (k := Sum.inr f) hk, ?_⟩
      rw [valV_kvK, uf]
      refine ⟨_, rfl, _, _, _, _, rfl, rfl, nd, a2, _, xs.length, rfl, .inr ⟨xs, nb, rfl⟩, rfl, _, rfl, ?_⟩
      have e : (!decide (V.int (cs.length : Int) = V.int (xs.length : Int))) = false := by rw [ln]; simp
      show if (!decide (V.int (cs.length : Int) = V.int (xs.length : Int))) = true then _ else _
      rw [e]
      exact iteF (third _ rfl)
    refine ⟨_, rfl, _, _, _, _, rfl, rfl, hT, a0, rfl, _, rfl, ite2 (fun c => ?_) fun c => secnd _ rfl⟩
    obtain ⟨x, rfl⟩ := tag_var (dec_eq c)
    have nd : SqT K H a (.str (o "variable") :: .str x :: xs) := nd
    have ux : x ∈ vars := u1
    refine ⟨_, rfl, _, _, _, _, rfl, rfl, nd, a1, _, rfl, va, _, rfl, .inr hv, rfl, flat_str _, _, rfl, ?_⟩
    rw [if_pos rfl, inV_str, decide_eq_true ux]
    exact iteF (secnd _ rfl)
end
end K13

/-! W8: check_uses -/
namespace K13
open PySem PySem.Spec PyProof.Rows L2
theorem cut_to {xs : List V} {k : Nat} : cutV xs none (some (k : Int)) = xs.take k := by
  unfold cutV
  rw [HT.sIx_nat, HT.sIx_none, List.drop_zero, Nat.sub_zero]
  exact List.take_eq_take_iff.mpr (by simp)
theorem nodup_take {l : List Str} {i : Nat} {x : Str} (n : l.Nodup) (h : l[i]? = some x) : x ∉ l.take i := by
  intro m
  obtain ⟨hi, e⟩ := List.getElem?_eq_some_iff.mp h
  obtain ⟨j, hj, e2⟩ := List.mem_take_iff_getElem.mp m
  have := (List.getElem_inj n).mp (e2.trans e.symm)
  omega
theorem kvK_snoc (k : List (Str × Int)) (x : Str) (i : Int) : kvK (k ++ [(x, i)]) = kvK k ++ [(Sum.inr x, V.int i)] := by unfold kvK; simp
section
variable {P : Program} {w : World} {K : PySem.W.Frag} {mg : Str → Option Value} {base : Heap}
def sp_check_uses (K : PySem.W.Frag) : Sp := fun vs H Q _ => ∃ (s : Sc) (v : V), vs = [v] ∧ Rp K H s.enc v ∧ WfS s ∧ UsS s ∧ s.dep ≤ 16 ∧ ∀ H', Ext [] H H' → Q .non H'
theorem sc_check_uses : FnScope ["script", "known", "name", "parameters", "term", "index", "parameter"] ["script"] (defScope s_check_uses) := ⟨rfl, rfl, rfl, by decide +kernel, rfl, by decide +kernel, by decide +kernel⟩
theorem ok_check_uses (T : Tx w K mg) : Cal P w K mg base "check_uses" 18 ["script"] (sp_check_uses K) := by
  have C_check_term : Cal P w K mg base "check_term" 17 ["term", "variables", "known"] (sp_check_term K 16) := ok_check_term T 16
  refine Cal.of T.f_check_uses T.g_check_uses sc_check_uses (fun _ _ _ _ _ _ us hl => match us, hl with | [_], _ => rfl) (fun vs H Q E h => ?_) (fun f cdv A outer s H vs Q E hr h => ?_)
  · obtain ⟨t, v, rfl, _⟩ := h; rfl
  obtain ⟨s, v, rfl, r, wf, us, d16, q⟩ := h
  refine ⟨_, pss_cons (ps_set (i := 1) sc_check_uses.nd rfl (Or.inl rfl) (pe_callTy call_dictKD (by rfl) T.n_dict (by decide +kernel) (pa_cons (pe_gr rfl T.g_FUNCTIONS) pa_nil)))
    (pss_cons (ps_for PassesOwn.never rfl (pi_tup (pe_ix ix_tup (pv 0) (pe_int) (fun _ _ => rfl))) (pg_tup (by rfl) (pgs_cons (pg_name (i := 2) sc_check_uses.nd rfl (Or.inl rfl)) (pgs_cons (pg_name (i := 3) sc_check_uses.nd rfl (Or.inl rfl)) (pgs_cons (pg_name (i := 4) sc_check_uses.nd rfl (Or.inl rfl)) pgs_nil))))
    (pss_cons (ps_if (pt_cmp (pc_din (hu_of hr) (pv 2) (pv 1)))
      (pss_one (ps_never))
      (pss_nil))
      (pss_cons (ps_for PassesOwn.never rfl (pi_enumT rfl T.n_enumerate (pa_cons (pv 3) pa_nil)) (pg_tup (by rfl) (pgs_cons (pg_name (i := 5) sc_check_uses.nd rfl (Or.inl rfl)) (pgs_cons (pg_name (i := 6) sc_check_uses.nd rfl (Or.inl rfl)) pgs_nil)))
      (pss_one (ps_if (pt_cmpR op_in_seq (pv 6) (pe_slice sl_tupA (pv 3) po_none (po_some (pv 5))) rfl)
        (pss_one (ps_never))
        (pss_nil))))
      (pss_cons (ps_expr (pe_cal C_check_term (hr.mono (by omega)) rfl (pa_cons (pv 4) (pa_cons (pv 3) (pa_cons (pv 1) pa_nil)))))
      (pss_one (ps_dput (hu_of hr) (pv 1) (pv 2) (pe_callB call_len (by rfl) T.n_len (by decide +kernel) (pa_cons (pv 3) pa_nil)) rfl))))))
    (pss_one (ps_expr (pe_cal C_check_term (hr.mono (by omega)) rfl (pa_cons (pe_ix ix_tup (pv 0) (pe_int) (fun _ _ => rfl)) (pa_cons (pe_tup pa_nil) (pa_cons (pv 1) pa_nil))))))), ?_⟩
  obtain ⟨a, d, ds, b, rfl, h1, h2, h3, h4⟩ := Sc.elim r
  have ld : s.defs.length = ds.length := by have := h3.length; rwa [List.length_map] at this
  refine ⟨_, kv_FUNCTIONS, rfl, kd_FUNS T, fun kd hkd => ?_⟩
  have e1 : Ext [] H (upd H kd (.dK (kvK kv_FUNCTIONS))) := .new hkd
  refine ⟨_, rfl, _, _, _, _, rfl, rfl, e1.tup .nil h1, a0, d, rfl, ⟨_, e1.tup .nil h2⟩, ?_⟩
  refine for_tup (xs := ds) (fun i σ H' => Ext [] H H' ∧ H' kd = some (.dK (kvK (kv_FUNCTIONS ++ (s.defs.take i).map Df.kv))) ∧ ∃ x1 x2 x3 x4 x5, σ = [some (.ref a), some (.ref kd), x1, x2, x3, x4, x5]) ⟨e1, by rw [upd_same]; simp, none, none, none, none, none, rfl⟩ (fun i σ H' _ pv => Ext.tup pv.1 .nil h2) (fun i x σ H' hx pv => ?_) (fun σ H' pv => ?_)
  · obtain ⟨c, hc, rc⟩ := h3.at_ hx
    obtain ⟨pe, hk, y1, y2, y3, y4, y5, rfl⟩ := pv
    obtain ⟨ad, ps, t, rfl, k1, k2, k3⟩ := Df.elim rc
    have wd := wf.defs c (mem_at hc)
    obtain ⟨ul, un, ut⟩ := us.defs.at_ hc
    refine ⟨ad, _, rfl, pe.tup .nil k1, rfl, _, _, rfl, _, _, rfl, _, _, rfl, rfl, ?_⟩
    refine ⟨_, rfl, _, rfl, kd, _, rfl, DGet.k (k := Sum.inr c.name) hk, _, rfl, ?_⟩
    rw [valV_kvK, ul]
    refine iteF ?_
    refine ⟨_, rfl, ps, _, rfl, pe.tup .nil k2, ?_⟩
    refine for_enumT (xs := c.pars.map V.str) (fun j σ H2 => Ext [] H' H2 ∧ ∃ z1 z2, σ = [some (.ref a), some (.ref kd), some (.str c.name), some (.ref ps), some t, z1, z2]) ⟨.refl _ _, _, _, rfl⟩ (fun j σ H2 _ pv => pv.1.tup .nil (pe.tup .nil k2)) (fun j y σ H2 Ta hy pv hT => ?_) (fun σ H2 pv => ?_)
    · obtain ⟨pe2, z1, z2, rfl⟩ := pv
      rw [List.getElem?_map] at hy
      obtain ⟨y, hy2, rfl⟩ := Option.map_eq_some_iff.mp hy
      have pe3 : Ext [] H' (upd H2 Ta (.tup [.int (j : Nat), .str y])) := pe2.news hT
      refine ⟨Ta, _, rfl, SqT.of upd_same, rfl, _, _, rfl, _, _, rfl, rfl, ?_⟩
      refine ⟨_, rfl, _, rfl, _, rfl, _, rfl, slA_ (pe3.tup .nil (pe.tup .nil k2)) fun r3 H3 e3 hr3 => ?_⟩
      rw [cut_to, ← List.map_take] at hr3
      refine ⟨r3, _, rfl, .inr hr3, rfl, flat_str _, _, rfl, ?_⟩
      rw [if_neg Bool.false_ne_true, inV_str, decide_eq_false (nodup_take un hy2)]
      exact iteF ⟨pe3.trans e3, _, _, rfl⟩
    · obtain ⟨pe2, z1, z2, rfl⟩ := pv
      have pe3 := pe.trans pe2
      have hk2 := pe2 _ _ hk (by simp)
      refine ⟨_, rfl, _, rfl, _, rfl, c.term, t, ps, kd, c.pars, _, rfl, k3.ex0 pe3, pe3.tup .nil k2, hk2, ut, wd.term, Nat.le_trans (Sc.dep_def (mem_at hc)) d16, by have := wd.few; omega, fun H3 e3 => ?_⟩
      have pe4 := pe3.trans e3
      have hk3 := e3 _ _ hk2 (by simp)
      refine ⟨_, rfl, _, (c.pars.map V.str).length, rfl, .inr ⟨_, pe4.tup .nil k2, rfl⟩, _, rfl, _, rfl, kd, _, rfl, DPut.k (k := Sum.inr c.name) hk3 ?_, pe4.own hkd, ?_, _, _, _, _, _, rfl⟩
      · unfold kvK
        rw [List.length_map, List.length_append, List.length_map, List.length_take]
        have : kv_FUNCTIONS.length = 14 := rfl
        have := wf.few
        exact small' (by omega)
      · rw [upd_same, putK_new _ (by rw [valV_kvK, ul]; rfl), take_snoc hc, List.map_append, ← List.append_assoc]
        show _ = some (HO.dK (kvK (_ ++ [(c.name, (c.pars.length : Int))])))
        rw [kvK_snoc, List.length_map]
  · obtain ⟨pe, hk, y1, y2, y3, y4, y5, rfl⟩ := pv
    rw [← ld, List.take_length] at hk
    refine ⟨_, rfl, _, _, _, _, rfl, rfl, pe.tup .nil h1, a1, Nat.zero_le _, fun p hp => ?_⟩
    have pe2 : Ext [] H (upd H' p (.tup [])) := pe.news hp
    exact ⟨_, rfl, s.body, b, p, kd, [], _, rfl, h4.ex0 pe2, SqT.of upd_same, by rw [upd_ne (ne_of_none hk hp)]; exact hk, us.body, wf.body, Nat.le_trans s.dep_body d16, by simp, fun H3 e3 => q H3 (pe2.trans e3)⟩
end
end K13

/-! M2: tokens and layouts: plain Lean -/
namespace K13
open PySem L2
theorem letters_mem (c : Nat) : c ∈ cd (o "abcdefghijklmnopqrstuvwxyz") ↔ isL c = true := by
  have e : cd (o "abcdefghijklmnopqrstuvwxyz") = (List.range 26).map (97 + ·) := by decide +kernel
  rw [e]
  unfold isL
  simp only [List.mem_map, List.mem_range, decide_eq_true_eq]
  exact ⟨fun ⟨a, h, e⟩ => by omega, fun h => ⟨c - 97, by omega, by omega⟩⟩
theorem digits_mem (c : Nat) : c ∈ cd (o "0123456789") ↔ isD c = true := by
  have e : cd (o "0123456789") = (List.range 10).map (48 + ·) := by decide +kernel
  rw [e]
  unfold isD
  simp only [List.mem_map, List.mem_range, decide_eq_true_eq]
  exact ⟨fun ⟨a, h, e⟩ => by omega, fun h => ⟨c - 48, by omega, by omega⟩⟩
def tsigns : List Str := ["==", "<=", "<", "=", "+", "-", "*", "(", ")", "[", "]", ",", ";"]
def NumTok (t : Str) : Prop := ∃ n : Nat, n ≤ 1000000000000000 ∧ cd t = TL.numL n
/-- a token as the tokens of a text are -/
def Tokn (t : Str) : Prop := NumTok t ∨ Word t ∨ t ∈ tsigns
def glue (a : Str) (c : Nat) : Bool := match cd a with
  | [] => false
  | x :: _ => if isD x then isD c else if isL x then isL c else (decide (a = o "<") || decide (a = o "=")) && c == 61
def NoGlue (a : Str) (rest : List Nat) : Prop := ∀ c r, rest = c :: r → glue a c = false
theorem numL_isD {n c : Nat} (h : c ∈ TL.numL n) : isD c = true := by
  have := TL.numL_digits n c h
  unfold isD; simp; omega
theorem numL_zero : ∀ {n : Nat} {r : List Nat}, TL.numL n = 48 :: r → r = [] := by
  intro n
  induction n using Nat.strongRecOn with
  | _ n ih =>
    intro r h
    by_cases h10 : n < 10
    · rw [TL.numL_lt h10] at h
      exact (List.cons.inj h).2.symm
    · rw [TL.numL_step (by omega)] at h
      cases e : TL.numL (n / 10) with
      | nil => exact absurd e (TL.numL_ne _)
      | cons x q =>
        rw [e] at h
        have hx : x = 48 := (List.cons.inj h).1
        subst hx
        have e2 := ih (n / 10) (by omega) e
        subst e2
        have v := TL.numL_val (n / 10)
        rw [e] at v
        have z : NumText.digitsVal [48] = 0 := by decide
        rw [z] at v
        omega
theorem NumTok.shape {t : Str} (h : NumTok t) : ∃ n c r, n ≤ 1000000000000000 ∧ cd t = c :: r ∧ cd t = TL.numL n ∧ isD c = true ∧ (∀ x ∈ cd t, isD x = true) ∧ (cd t).length ≤ 16 := by
  obtain ⟨n, hn, e⟩ := h
  cases q : cd t with
  | nil => rw [q] at e; exact absurd e.symm (TL.numL_ne n)
  | cons c r =>
    have ha : ∀ x ∈ c :: r, isD x = true := fun x hx => numL_isD (by rw [← e, q]; exact hx)
    refine ⟨n, c, r, hn, rfl, by rw [← q]; exact e, ha c (by simp), ha, ?_⟩
    rw [← q, e]
    exact TL.numL_len (by decide) (Nat.lt_of_le_of_lt hn (by decide))
theorem Word.shape {t : Str} (h : Word t) : ∃ c r, cd t = c :: r ∧ isL c = true := by
  cases q : cd t with
  | nil => exact absurd q h.pos
  | cons c r => exact ⟨c, r, rfl, h.all c (by rw [q]; simp)⟩
theorem sign_shape {t : Str} (h : t ∈ tsigns) : ∃ c r, cd t = c :: r ∧ isD c = false ∧ isL c = false ∧ c ≠ 32 ∧ r.length ≤ 1 := by
  have h0 : ∀ t ∈ tsigns, (match cd t with | [] => false | c :: r => !isD c && (!isL c && (!(c == 32) && decide (r.length ≤ 1)))) = true := by decide +kernel
  have h1 := h0 t h
  cases q : cd t with
  | nil => rw [q] at h1; cases h1
  | cons c r =>
    rw [q] at h1
    simp only [Bool.and_eq_true, Bool.not_eq_true', decide_eq_true_eq, beq_eq_false_iff_ne] at h1
    exact ⟨c, r, rfl, h1.1, h1.2.1, h1.2.2.1, h1.2.2.2⟩
theorem Tokn.shape {t : Str} (h : Tokn t) : ∃ c r, cd t = c :: r ∧ c ≠ 32 ∧ (cd t).length ≤ 16 := by
  rcases h with h | h | h
  · obtain ⟨n, c, r, _, e, _, d, _, l⟩ := h.shape
    exact ⟨c, r, e, fun z => by subst z; revert d; decide, l⟩
  · obtain ⟨c, r, e, d⟩ := h.shape
    exact ⟨c, r, e, fun z => by subst z; revert d; decide, Nat.le_trans h.len (by decide)⟩
  · obtain ⟨c, r, e, _, _, d, l⟩ := sign_shape h
    exact ⟨c, r, e, d, by rw [e]; simp; omega⟩
/-! ### layouts -/
def lay : List (Nat × Str) → List Nat
  | [] => []
  | (g, t) :: r => List.replicate g 32 ++ (cd t ++ lay r)
def placed : Nat → List (Nat × Str) → List (Str × Nat)
  | _, [] => []
  | p, (g, t) :: r => (t, p + g) :: placed (p + g + (cd t).length) r
theorem placed_len : ∀ (p : Nat) (ps : List (Nat × Str)), (placed p ps).length = ps.length
  | _, [] => rfl
  | p, (g, t) :: r => by simp [placed, placed_len _ r]
theorem placed_fst : ∀ (p : Nat) (ps : List (Nat × Str)), (placed p ps).map (·.1) = ps.map (·.2)
  | _, [] => rfl
  | p, (g, t) :: r => by simp [placed, placed_fst _ r]
/-- the tokens are tokens, and two that would read as one stand apart -/
def Lx : List (Nat × Str) → Prop
  | [] => True
  | [(_, t)] => Tokn t
  | (_, a) :: (g, b) :: r => Tokn a ∧ (g = 0 → NoGlue a (cd b)) ∧ Lx ((g, b) :: r)
theorem Lx.head {g : Nat} {t : Str} {r : List (Nat × Str)} (h : Lx ((g, t) :: r)) : Tokn t := by
  cases r with
  | nil => exact h
  | cons x r => obtain ⟨g2, b⟩ := x; exact h.1
theorem Lx.tail {x : Nat × Str} {r : List (Nat × Str)} (h : Lx (x :: r)) : Lx r := by
  obtain ⟨g, t⟩ := x
  cases r with
  | nil => trivial
  | cons x r => obtain ⟨g2, b⟩ := x; exact h.2.2
theorem Lx.gap {g g' : Nat} {t : Str} {r : List (Nat × Str)} (h : Lx ((g, t) :: r)) : Lx ((g', t) :: r) := by
  cases r with
  | nil => exact h
  | cons x r => obtain ⟨g2, b⟩ := x; exact h
theorem glue_sp {a : Str} : glue a 32 = false := by
  unfold glue
  split
  · rfl
  · have e1 : isD 32 = false := by decide
    have e2 : isL 32 = false := by decide
    rw [e1, e2]
    split
    · rfl
    · split
      · rfl
      · simp
theorem Lx.noglue {g : Nat} {t : Str} {r : List (Nat × Str)} {k : Nat} (h : Lx ((g, t) :: r)) : NoGlue t (lay r ++ List.replicate k 32) := by
  cases r with
  | nil =>
    intro c q e
    cases k with
    | zero => simp [lay] at e
    | succ k =>
      simp only [lay, List.nil_append, List.replicate_succ] at e
      rw [← (List.cons.inj e).1]
      exact glue_sp
  | cons x r =>
    obtain ⟨g2, b⟩ := x
    intro c q e
    cases g2 with
    | zero =>
      obtain ⟨d, s, hd, _⟩ := (Lx.head h.2.2).shape
      simp only [lay, List.replicate_zero, List.nil_append, hd, List.cons_append] at e
      rw [← (List.cons.inj e).1]
      exact h.2.1 rfl d s hd
    | succ g2 =>
      simp only [lay, List.replicate_succ, List.cons_append] at e
      rw [← (List.cons.inj e).1]
      exact glue_sp
end K13

/-! W9: run_of, number_at, word_at, token_at, tokens -/
namespace K13
open PySem PySem.Spec PyProof.Rows L2
theorem cut_S (l : List Nat) (p e : Nat) : cutS (S l) (some (p : Int)) (some (e : Int)) = S ((l.drop p).take (e - p)) := by
  unfold cutS
  rw [HT.sIx_nat, HT.sIx_nat, S_len]
  have h : (S l).cps.toList = l := cd_S l
  rw [h]
  show S _ = S _
  congr 1
  by_cases hp : p ≤ l.length
  · rw [Nat.min_eq_left hp]
    exact List.take_eq_take_iff.mpr (by simp; omega)
  · have e1 : l.drop p = [] := List.drop_eq_nil_of_le (by omega)
    have e2 : l.drop (min p l.length) = [] := List.drop_eq_nil_of_le (by omega)
    rw [e1, e2]
    simp
theorem at_S {l : List Nat} {p c : Nat} {r : List Nat} (h : l.drop p = c :: r) : atI (S l).cps.toList (p : Int) = some c := by
  have e : (S l).cps.toList = l := cd_S l
  rw [e]
  refine atI_nat ?_
  have := congrArg (·[0]?) h
  simpa using this
theorem lt_of_drop {l : List Nat} {p c : Nat} {r : List Nat} (h : l.drop p = c :: r) : p < l.length := by
  have := congrArg List.length h
  rw [List.length_drop] at this
  simp at this; omega
theorem sone (c : Nat) : (⟨#[c]⟩ : Str) = S [c] := rfl
section
variable {P : Program} {w : World} {K : PySem.W.Frag} {mg : Str → Option Value} {base : Heap}
def sp_run_of : Sp := fun vs H Q _ => ∃ (l a b : List Nat) (p : Nat) (z : Str), vs = [.str (S l), .int p, .str z] ∧ l.drop p = a ++ b ∧ (∀ c ∈ a, c ∈ cd z) ∧ (∀ c r, b = c :: r → c ∉ cd z) ∧ l.length ≤ 5000 ∧ p ≤ l.length ∧ Q (.str (S a)) H
theorem sc_run_of : FnScope ["text", "place", "chars", "end"] ["text", "place", "chars"] (defScope s_run_of) := ⟨rfl, rfl, rfl, by decide +kernel, rfl, by decide +kernel, by decide +kernel⟩
theorem ok_run_of (T : Tx w K mg) : Cal P w K mg base "run_of" 1 ["text", "place", "chars"] sp_run_of := by
  refine Cal.of T.f_run_of T.g_run_of sc_run_of (fun _ _ _ _ _ _ us hl => match us, hl with | [_, _, _], _ => rfl) (fun vs H Q E h => ?_) (fun f cdv A outer s H vs Q E hr h => ?_)
  · obtain ⟨l, a, b, p, z, rfl, _⟩ := h; rfl
  obtain ⟨l, a, b, p, z, rfl, hd, ha, hb, hl, hp, q⟩ := h
  refine ⟨_, pss_cons (ps_set (i := 3) sc_run_of.nd rfl (Or.inl rfl) (pv 1))
    (pss_cons (ps_while PassesOwn.never (PW.pt (pw_and (pt_cmpR op_lt (pv 3) (pe_callB call_len (by rfl) T.n_len (by decide +kernel) (pa_cons (pv 0) pa_nil)) (nomark _)) (pw_and1 (pt_cmpR op_in_sign (pe_ix ix_str (pv 0) (pv 3) (fun _ _ => rfl)) (pv 2) rfl))))
    (pss_one (ps_set (i := 3) sc_run_of.nd rfl (Or.inl rfl) (pe_op op_add (pv 3) (pe_int)))))
    (pss_one (ps_ret (pe_slice sl_str (pv 0) (po_some (pv 1)) (po_some (pv 3)))))), ?_⟩
  refine ⟨_, rfl, fun m σ H' => ∃ i : Nat, i + m = a.length ∧ H' = H ∧ σ = [some (.str (S l)), some (.int p), some (.str z), some (.int ((p + i : Nat) : Int))], ⟨a.length, 0, by omega, rfl, rfl⟩, ?_⟩
  rintro m σ H' ⟨i, hi, rfl, rfl⟩
  have lz : (S l).length ≤ sizeLine := by rw [S_len]; exact small (by omega)
  have hdi : l.drop (p + i) = a.drop i ++ b := by
    rw [← List.drop_drop, hd, List.drop_append_of_le_length (by omega)]
  refine ⟨_, rfl, _, rfl, _, (S l).length, rfl, ⟨lz, rfl⟩, _, _, rfl, rfl, _, rfl, ite2 (fun c => ?_) fun c => ?_⟩
  · have c : p + i < l.length := by have := of_decide_eq_true c; rw [S_len] at this; omega
    cases m with
    | zero =>
      have e : a.drop i = [] := List.drop_eq_nil_of_le (by omega)
      rw [e, List.nil_append] at hdi
      cases eb : b with
      | nil =>
        rw [eb] at hdi
        have := congrArg List.length hdi
        rw [List.length_drop] at this
        simp at this; omega
      | cons x r =>
        rw [eb] at hdi
        refine ⟨_, rfl, _, rfl, _, _, x, rfl, rfl, lz, at_S hdi, _, rfl, x, z, rfl, rfl, _, rfl, ?_⟩
        rw [decide_eq_false (show ¬ x ∈ z.cps.toList from hb x r eb)]
        refine iteF ⟨_, rfl, _, rfl, _, rfl, _, rfl, _, rfl, _, rfl, lz, ?_⟩
        rw [cut_S]
        refine qs q ?_
        rw [cd_S, hd, show p + i - p = a.length by omega, List.take_left]
    | succ m =>
      cases ea : a.drop i with
      | nil =>
        have := congrArg List.length ea
        rw [List.length_drop] at this
        simp at this; omega
      | cons x r =>
        rw [ea] at hdi
        refine ⟨_, rfl, _, rfl, _, _, x, rfl, rfl, lz, at_S hdi, _, rfl, x, z, rfl, rfl, _, rfl, ?_⟩
        have hx : x ∈ a := List.mem_of_mem_drop (i := i) (by rw [ea]; simp)
        rw [decide_eq_true (show x ∈ z.cps.toList from ha x hx)]
        refine iteT ⟨fun σ' H'' => ∃ i : Nat, i + m = a.length ∧ H'' = H' ∧ σ' = [some (.str (S l)), some (.int p), some (.str z), some (.int ((p + i : Nat) : Int))], fun σ' H'' n => ⟨m, Nat.lt_succ_self m, n⟩, ?_⟩
        exact ⟨_, rfl, _, _, rfl, rfl, i + 1, by omega, rfl, rfl⟩
  · have c : ¬ p + i < l.length := fun z => c (decide_eq_true (by rw [S_len]; omega))
    have e : (a.drop i ++ b).length = 0 := by rw [← hdi, List.length_drop]; omega
    rw [List.length_append, List.length_drop] at e
    refine ⟨_, rfl, _, rfl, _, rfl, _, rfl, _, rfl, _, rfl, lz, ?_⟩
    rw [cut_S]
    refine qs q ?_
    rw [cd_S, hd, show p + i - p = a.length by omega, List.take_left]
def sp_number_at : Sp := fun vs H Q _ => ∃ (l b : List Nat) (p : Nat) (t : Str), vs = [.str (S l), .int p] ∧ l.drop p = cd t ++ b ∧ NumTok t ∧ (∀ c r, b = c :: r → isD c = false) ∧ l.length ≤ 5000 ∧ Q (.str t) H
theorem sc_number_at : FnScope ["text", "place", "digits"] ["text", "place"] (defScope s_number_at) := ⟨rfl, rfl, rfl, by decide +kernel, rfl, by decide +kernel, by decide +kernel⟩
theorem ok_number_at (T : Tx w K mg) : Cal P w K mg base "number_at" 2 ["text", "place"] sp_number_at := by
  have C_run_of := ok_run_of T (P := P) (base := base)
  refine Cal.of T.f_number_at T.g_number_at sc_number_at (fun _ _ _ _ _ _ us hl => match us, hl with | [_, _], _ => rfl) (fun vs H Q E h => ?_) (fun f cdv A outer s H vs Q E hr h => ?_)
  · obtain ⟨l, b, p, z, rfl, _⟩ := h; rfl
  obtain ⟨l, b, p, t, rfl, hd, ht, hb, hl, q⟩ := h
  refine ⟨_, pss_cons (ps_set (i := 2) sc_number_at.nd rfl (Or.inl rfl) (pe_cal C_run_of (hr.mono (by omega)) rfl (pa_cons (pv 0) (pa_cons (pv 1) (pa_cons (pe_gs rfl T.s_DIGITS) pa_nil)))))
    (pss_cons (ps_if (PW.pt (pw_or (PW.pt (pw_and (pt_cmpR op_eq (pe_ix ix_str (pv 2) (pe_int) (fun _ _ => rfl)) (pe_str) (nomark _)) (pw_and1 (pt_cmpR op_gt (pe_callB call_len (by rfl) T.n_len (by decide +kernel) (pa_cons (pv 2) pa_nil)) (pe_int) (nomark _))))) (pw_or1 (pt_cmpR op_gt (pe_callTy call_int_str (by rfl) T.n_int (by decide +kernel) (pa_cons (pv 2) pa_nil)) (pe_gi rfl T.i_MOST) (nomark _)))))
    (pss_one (ps_never))
    (pss_nil))
    (pss_one (ps_ret (pv 2)))), ?_⟩
  obtain ⟨n, c, r, hn, e, en, dc, da, l16⟩ := ht.shape
  have hp : p ≤ l.length := Nat.le_of_lt (lt_of_drop (show l.drop p = c :: (r ++ b) by rw [hd, e]; rfl))
  refine ⟨_, rfl, _, rfl, l, cd t, b, p, _, rfl, hd, fun c hc => (digits_mem c).mpr (da c hc), fun c r hbc hm => ?_, hl, hp, ?_⟩
  · have := hb c r hbc
    rw [(digits_mem c).mp hm] at this; cases this
  have lz : (S (cd t)).length ≤ sizeLine := by rw [S_len]; exact small (by omega)
  have a0' : atI (S (cd t)).cps.toList 0 = some c := by
    have e2 : (S (cd t)).cps.toList = c :: r := by rw [← e]; exact cd_S (cd t)
    rw [e2]; exact a0
  have fin : ∀ R : Prop, R → ((tTest (tOp (rI0 fun i j => V.bl (decide (j < i))) (tCB (fun xs H Q => ∃ a n, xs = [V.str a] ∧ intText? a = some n ∧ a.length ≤ 640 ∧ Q (.int n) H) (tCons (tVar 2) tNil)) (tC (.int 1000000000000000)))) [some (.str (S l)), some (.int p), some (.str (S (cd t)))] H fun b _ => b = false ∧ R) := fun R hR => by
    have et : t = Str.ofString (toString ((n : Nat) : Int)) := cd_inj (by rw [en]; exact (TL.tl_num n).symm)
    refine ⟨_, rfl, _, (n : Int), rfl, ?_, ?_, _, _, rfl, rfl, _, rfl, ?_, hR⟩
    · rw [S_cd, et]
      exact TL.int_num (by rw [← en]; omega)
    · rw [S_len]; omega
    · exact decide_eq_false (by omega)
  have tail : Q (.str (S (cd t))) H := by rw [S_cd]; exact q
  refine ⟨_, rfl, _, _, c, rfl, rfl, lz, a0', rfl, _, rfl, ite2 (fun z => ?_) fun z => ?_⟩
  · have hc : c = 48 := by
      have h1 := dec_eq z
      have h2 : S [c] = S [48] := by
        rw [← sone]
        have : Str.ofString "0" = S [48] := by decide +kernel
        rw [h1, this]
      exact (List.cons.inj (S_inj h2)).1
    subst hc
    have er := numL_zero (en.symm.trans e)
    subst er
    refine ⟨_, rfl, _, (S (cd t)).length, rfl, ⟨lz, rfl⟩, _, _, rfl, rfl, _, rfl, ?_⟩
    have e3 : decide ((1 : Int) < ((S (cd t)).length : Int)) = false := decide_eq_false (by rw [S_len, e]; simp)
    show if decide ((1 : Int) < ((S (cd t)).length : Int)) = true then _ else _
    rw [e3]
    refine iteF ?_
    have et : t = Str.ofString (toString ((n : Nat) : Int)) := cd_inj (by rw [en]; exact (TL.tl_num n).symm)
    refine ⟨_, rfl, _, (n : Int), rfl, by rw [S_cd, et]; exact TL.int_num (by rw [← en]; omega), by rw [S_len]; omega, _, _, rfl, rfl, _, rfl, ?_⟩
    have e4 : decide ((1000000000000000 : Int) < (n : Int)) = false := decide_eq_false (by omega)
    show if decide ((1000000000000000 : Int) < (n : Int)) = true then _ else _
    rw [e4]
    exact iteF ⟨_, rfl, tail⟩
  · have et : t = Str.ofString (toString ((n : Nat) : Int)) := cd_inj (by rw [en]; exact (TL.tl_num n).symm)
    refine ⟨_, rfl, _, (n : Int), rfl, by rw [S_cd, et]; exact TL.int_num (by rw [← en]; omega), by rw [S_len]; omega, _, _, rfl, rfl, _, rfl, ?_⟩
    have e4 : decide ((1000000000000000 : Int) < (n : Int)) = false := decide_eq_false (by omega)
    show if decide ((1000000000000000 : Int) < (n : Int)) = true then _ else _
    rw [e4]
    exact iteF ⟨_, rfl, tail⟩
def sp_word_at : Sp := fun vs H Q _ => ∃ (l b : List Nat) (p : Nat) (t : Str), vs = [.str (S l), .int p] ∧ l.drop p = cd t ++ b ∧ Word t ∧ (∀ c r, b = c :: r → isL c = false) ∧ l.length ≤ 5000 ∧ Q (.str t) H
theorem sc_word_at : FnScope ["text", "place", "word"] ["text", "place"] (defScope s_word_at) := ⟨rfl, rfl, rfl, by decide +kernel, rfl, by decide +kernel, by decide +kernel⟩
theorem ok_word_at (T : Tx w K mg) : Cal P w K mg base "word_at" 2 ["text", "place"] sp_word_at := by
  have C_run_of := ok_run_of T (P := P) (base := base)
  refine Cal.of T.f_word_at T.g_word_at sc_word_at (fun _ _ _ _ _ _ us hl => match us, hl with | [_, _], _ => rfl) (fun vs H Q E h => ?_) (fun f cdv A outer s H vs Q E hr h => ?_)
  · obtain ⟨l, b, p, z, rfl, _⟩ := h; rfl
  obtain ⟨l, b, p, t, rfl, hd, ht, hb, hl, q⟩ := h
  refine ⟨_, pss_cons (ps_set (i := 2) sc_word_at.nd rfl (Or.inl rfl) (pe_cal C_run_of (hr.mono (by omega)) rfl (pa_cons (pv 0) (pa_cons (pv 1) (pa_cons (pe_gs rfl T.s_LETTERS) pa_nil)))))
    (pss_cons (ps_if (pt_cmpR op_gt (pe_callB call_len (by rfl) T.n_len (by decide +kernel) (pa_cons (pv 2) pa_nil)) (pe_gi rfl T.i_MOST_LETTERS) (nomark _))
    (pss_one (ps_never))
    (pss_nil))
    (pss_one (ps_ret (pv 2)))), ?_⟩
  obtain ⟨c, r, e, dc⟩ := ht.shape
  have l12 := ht.len
  have hp : p ≤ l.length := Nat.le_of_lt (lt_of_drop (show l.drop p = c :: (r ++ b) by rw [hd, e]; rfl))
  refine ⟨_, rfl, _, rfl, l, cd t, b, p, _, rfl, hd, fun c hc => (letters_mem c).mpr (ht.all c hc), fun c r hbc hm => ?_, hl, hp, ?_⟩
  · have := hb c r hbc
    rw [(letters_mem c).mp hm] at this; cases this
  have lz : (S (cd t)).length ≤ sizeLine := by rw [S_len]; exact small (by omega)
  refine ⟨_, rfl, _, (S (cd t)).length, rfl, ⟨lz, rfl⟩, _, _, rfl, rfl, _, rfl, ?_⟩
  have e4 : decide ((12 : Int) < ((S (cd t)).length : Int)) = false := decide_eq_false (by rw [S_len]; omega)
  show if decide ((12 : Int) < ((S (cd t)).length : Int)) = true then _ else _
  rw [e4]
  exact iteF ⟨_, rfl, by rw [S_cd]; exact q⟩
end
end K13

/-! W10: token_at, tokens -/
namespace K13
open PySem PySem.Spec PyProof.Rows L2
theorem dbl_in {l : List Nat} {t : Str} {b : List Nat} {p : Nat} (hd : l.drop p = cd t ++ b) (ht : t ∈ tsigns) (ng : NoGlue t b) : inV (.str (S ((l.drop p).take 2))) (tu_DOUBLE_SIGNS.map V.str) = decide (t ∈ tu_DOUBLE_SIGNS) ∧ (t ∈ tu_DOUBLE_SIGNS → S ((l.drop p).take 2) = t) ∧ (t ∉ tu_DOUBLE_SIGNS → ∃ c, cd t = [c] ∧ c ∈ cd (o "<=+-*()[],;")) := by
  rw [inV_str]
  have h0 : ∀ t ∈ tsigns, (t ∈ tu_DOUBLE_SIGNS ∧ (cd t).length = 2) ∨ (t ∉ tu_DOUBLE_SIGNS ∧ (cd t).length = 1 ∧ ∀ c ∈ cd t, c ∈ cd (o "<=+-*()[],;") ∧ isD c = false ∧ isL c = false ∧ ((c = 60 ∨ c = 61) → t = o "<" ∨ t = o "=")) := by decide +kernel
  rcases h0 t ht with ⟨h1, h2⟩ | ⟨h1, h2, h3⟩
  · have e : S ((l.drop p).take 2) = t := by
      rw [hd, List.take_append_of_le_length (by omega), List.take_of_length_le (by omega), S_cd]
    rw [e]
    exact ⟨rfl, fun _ => rfl, fun z => absurd h1 z⟩
  · obtain ⟨c, e⟩ := len1 h2
    have hc := h3 c (by rw [e]; simp)
    refine ⟨?_, fun z => absurd z h1, fun _ => ⟨c, e, hc.1⟩⟩
    have no : S ((l.drop p).take 2) ∉ tu_DOUBLE_SIGNS := by
      intro m
      have two : ∀ s ∈ tu_DOUBLE_SIGNS, ∃ x, cd s = [x, 61] ∧ (x = 60 ∨ x = 61) := by
        intro s hs
        have h4 : ∀ s ∈ tu_DOUBLE_SIGNS, cd s = [60, 61] ∨ cd s = [61, 61] := by decide +kernel
        rcases h4 s hs with h | h
        · exact ⟨_, h, .inl rfl⟩
        · exact ⟨_, h, .inr rfl⟩
      obtain ⟨x, hx, hx2⟩ := two _ m
      rw [cd_S, hd, e] at hx
      cases b with
      | nil => simp at hx
      | cons y q =>
        simp at hx
        obtain ⟨rfl, rfl⟩ := hx
        have g := ng 61 q rfl
        unfold glue at g
        rw [e] at g
        simp only [hc.2.1, hc.2.2.1] at g
        rcases hc.2.2.2 hx2 with h | h <;> (rw [h] at g; revert g; decide +kernel)
    rw [decide_eq_false h1, decide_eq_false no]
section
variable {P : Program} {w : World} {K : PySem.W.Frag} {mg : Str → Option Value} {base : Heap}
def sp_token_at : Sp := fun vs H Q _ => ∃ (l b : List Nat) (p : Nat) (t : Str), vs = [.str (S l), .int p] ∧ l.drop p = cd t ++ b ∧ Tokn t ∧ NoGlue t b ∧ l.length ≤ 5000 ∧ Q (.str t) H
theorem sc_token_at : FnScope ["text", "place"] ["text", "place"] (defScope s_token_at) := ⟨rfl, rfl, rfl, by decide +kernel, rfl, by decide +kernel, by decide +kernel⟩
theorem ok_token_at (T : Tx w K mg) : Cal P w K mg base "token_at" 3 ["text", "place"] sp_token_at := by
  have C_number_at := ok_number_at T (P := P) (base := base)
  have C_word_at := ok_word_at T (P := P) (base := base)
  refine Cal.of T.f_token_at T.g_token_at sc_token_at (fun _ _ _ _ _ _ us hl => match us, hl with | [_, _], _ => rfl) (fun vs H Q E h => ?_) (fun f cdv A outer s H vs Q E hr h => ?_)
  · obtain ⟨l, b, p, z, rfl, _⟩ := h; rfl
  obtain ⟨l, b, p, t, rfl, hd, ht, ng, hl, q⟩ := h
  refine ⟨_, pss_cons (ps_if (pt_cmpR op_in_sign (pe_ix ix_str (pv 0) (pv 1) (fun _ _ => rfl)) (pe_gs rfl T.s_DIGITS) rfl)
    (pss_one (ps_ret (pe_cal C_number_at (hr.mono (by omega)) rfl (pa_cons (pv 0) (pa_cons (pv 1) pa_nil)))))
    (pss_nil))
    (pss_cons (ps_if (pt_cmpR op_in_sign (pe_ix ix_str (pv 0) (pv 1) (fun _ _ => rfl)) (pe_gs rfl T.s_LETTERS) rfl)
    (pss_one (ps_ret (pe_cal C_word_at (hr.mono (by omega)) rfl (pa_cons (pv 0) (pa_cons (pv 1) pa_nil)))))
    (pss_nil))
    (pss_cons (ps_if (pt_cmpR op_in_seq (pe_slice sl_str (pv 0) (po_some (pv 1)) (po_some (pe_op op_add (pv 1) (pe_int)))) (pe_gr rfl T.g_DOUBLE_SIGNS) rfl)
    (pss_one (ps_ret (pe_slice sl_str (pv 0) (po_some (pv 1)) (po_some (pe_op op_add (pv 1) (pe_int))))))
    (pss_nil))
    (pss_cons (ps_if (pt_cmpR op_in_sign (pe_ix ix_str (pv 0) (pv 1) (fun _ _ => rfl)) (pe_gs rfl T.s_SIGNS) rfl)
    (pss_one (ps_ret (pe_ix ix_str (pv 0) (pv 1) (fun _ _ => rfl))))
    (pss_nil))
    (pss_one (ps_never))))), ?_⟩
  have lz : (S l).length ≤ sizeLine := by rw [S_len]; exact small (by omega)
  obtain ⟨c, r, e, c32, _⟩ := ht.shape
  have hc : l.drop p = c :: (r ++ b) := by rw [hd, e]; rfl
  refine ⟨_, rfl, _, rfl, _, _, c, rfl, rfl, lz, at_S hc, c, _, rfl, rfl, _, rfl, ite2 (fun z => ?_) fun z => ?_⟩
  · have dc : isD c = true := (digits_mem c).mp (of_decide_eq_true z)
    have hn : NumTok t := by
      rcases ht with h | h | h
      · exact h
      · obtain ⟨c', r', e', d'⟩ := h.shape
        rw [e] at e'; cases e'
        unfold isD at dc; unfold isL at d'
        simp at dc d'; omega
      · obtain ⟨c', r', e', d', _⟩ := sign_shape h
        rw [e] at e'; cases e'
        rw [dc] at d'; cases d'
    refine ⟨_, rfl, _, rfl, l, b, p, t, rfl, hd, hn, fun x q hx => ?_, hl, q⟩
    have g := ng x q hx
    unfold glue at g
    rw [e] at g
    simp only [dc, if_true] at g
    exact g
  have nd : isD c = false := by
    cases q : isD c with
    | false => rfl
    | true => exact absurd (decide_eq_true ((digits_mem c).mpr q)) z
  refine ⟨_, rfl, _, rfl, _, _, c, rfl, rfl, lz, at_S hc, c, _, rfl, rfl, _, rfl, ite2 (fun z => ?_) fun z => ?_⟩
  · have lc : isL c = true := (letters_mem c).mp (of_decide_eq_true z)
    have hn : Word t := by
      rcases ht with h | h | h
      · obtain ⟨n, c', r', _, e', _, d', _⟩ := h.shape
        rw [e] at e'; cases e'
        rw [nd] at d'; cases d'
      · exact h
      · obtain ⟨c', r', e', _, d', _⟩ := sign_shape h
        rw [e] at e'; cases e'
        rw [lc] at d'; cases d'
    refine ⟨_, rfl, _, rfl, l, b, p, t, rfl, hd, hn, fun x q hx => ?_, hl, q⟩
    have g := ng x q hx
    unfold glue at g
    rw [e] at g
    simp only [nd, lc, if_true, Bool.false_eq_true, if_false] at g
    exact g
  have nl : isL c = false := by
    cases q : isL c with
    | false => rfl
    | true => exact absurd (decide_eq_true ((letters_mem c).mpr q)) z
  have hs : t ∈ tsigns := by
    rcases ht with h | h | h
    · obtain ⟨n, c', r', _, e', _, d', _⟩ := h.shape
      rw [e] at e'; cases e'
      rw [nd] at d'; cases d'
    · obtain ⟨c', r', e', d'⟩ := h.shape
      rw [e] at e'; cases e'
      rw [nl] at d'; cases d'
    · exact h
  obtain ⟨h1, h2, h3⟩ := dbl_in hd hs ng
  have e2 : cutS (S l) (some (p : Int)) (some ((p : Int) + 2)) = S ((l.drop p).take 2) := by
    have := cut_S l p (p + 2)
    rw [show p + 2 - p = 2 by omega] at this
    exact this
  refine ⟨_, rfl, _, rfl, _, rfl, _, rfl, _, _, rfl, rfl, _, rfl, _, rfl, lz, _, _, rfl, .inr (T.tu_DOUBLE_SIGNS H), rfl, flat_str _, _, rfl, ?_⟩
  show if (if false = true then _ else inV (.str (cutS (S l) (some (p : Int)) (some ((p : Int) + 2)))) (tu_DOUBLE_SIGNS.map V.str)) = true then _ else _
  rw [if_neg Bool.false_ne_true, e2, h1]
  refine ite2 (fun z => ?_) fun z => ?_
  · refine ⟨_, rfl, _, rfl, _, rfl, _, rfl, _, _, rfl, rfl, _, rfl, _, rfl, lz, ?_⟩
    show Q (.str (cutS (S l) (some (p : Int)) (some ((p : Int) + 2)))) H
    rw [e2, h2 (of_decide_eq_true z)]
    exact q
  · obtain ⟨c', e', hm⟩ := h3 (fun y => z (decide_eq_true y))
    rw [e] at e'
    obtain ⟨rfl, rfl⟩ := List.cons.inj e'
    refine ⟨_, rfl, _, rfl, _, _, c, rfl, rfl, lz, at_S hc, c, _, rfl, rfl, _, rfl, ?_⟩
    rw [decide_eq_true (show c ∈ (o "<=+-*()[],;").cps.toList from hm)]
    refine iteT ⟨_, rfl, _, rfl, _, _, c, rfl, rfl, lz, at_S hc, ?_⟩
    rw [sone, ← e, S_cd]
    exact q
/-! ### tokens -/
def rowD (p : Str × Nat) : D := .tup [.str p.1, .int p.2]
def sp_tokens (K : PySem.W.Frag) : Sp := fun vs H Q _ => ∃ (ps : List (Nat × Str)) (k : Nat), vs = [.str (S (lay ps ++ List.replicate k 32))] ∧ Lx ps ∧ ps.length ≤ 200 ∧ (lay ps ++ List.replicate k 32).length ≤ 5000 ∧
  ∀ l H' rs, Ext [] H H' → H l = none → H' l = some (.lst rs) → RpL K H' ((placed 0 ps).map rowD) rs → Q (.ref l) H'
theorem sc_tokens : FnScope ["text", "found", "place", "token"] ["text"] (defScope s_tokens) := ⟨rfl, rfl, rfl, by decide +kernel, rfl, by decide +kernel, by decide +kernel⟩
theorem ok_tokens (T : Tx w K mg) : Cal P w K mg base "tokens" 4 ["text"] (sp_tokens K) := by
  have C_token_at := ok_token_at T (P := P) (base := base)
  refine Cal.of T.f_tokens T.g_tokens sc_tokens (fun _ _ _ _ _ _ us hl => match us, hl with | [_], _ => rfl) (fun vs H Q E h => ?_) (fun f cdv A outer s H vs Q E hr h => ?_)
  · obtain ⟨l, b, rfl, _⟩ := h; rfl
  obtain ⟨ps, k, rfl, lx, l200, hl, q⟩ := h
  refine ⟨_, pss_cons (ps_set (i := 1) sc_tokens.nd rfl (Or.inl rfl) (pe_lst pa_nil))
    (pss_cons (ps_set (i := 2) sc_tokens.nd rfl (Or.inl rfl) (pe_int))
    (pss_cons (ps_while PassesOwn.never (pt_cmpR op_lt (pv 2) (pe_callB call_len (by rfl) T.n_len (by decide +kernel) (pa_cons (pv 0) pa_nil)) (nomark _))
    (pss_one (ps_if (pt_cmpR op_eq (pe_ix ix_str (pv 0) (pv 2) (fun _ _ => rfl)) (pe_str) (nomark _))
      (pss_one (ps_set (i := 2) sc_tokens.nd rfl (Or.inl rfl) (pe_op op_add (pv 2) (pe_int))))
      (pss_cons (ps_if (pt_cmpR op_eq (pe_callB call_len (by rfl) T.n_len (by decide +kernel) (pa_cons (pv 1) pa_nil)) (pe_gi rfl T.i_MOST_TOKENS) (nomark _))
        (pss_one (ps_never))
        (pss_nil))
        (pss_cons (ps_set (i := 3) sc_tokens.nd rfl (Or.inl rfl) (pe_cal C_token_at (hr.mono (by omega)) rfl (pa_cons (pv 0) (pa_cons (pv 2) pa_nil))))
        (pss_cons (ps_expr (pe_bm PySem.F.plainAttrs_list PySem.F.slot_list_append PySem.F.type_list_append mt_append (pv 1) (pa_cons (pe_tup (pa_cons (pv 3) (pa_cons (pv 2) pa_nil))) pa_nil)))
        (pss_one (ps_set (i := 2) sc_tokens.nd rfl (Or.inl rfl) (pe_op op_add (pv 2) (pe_callB call_len (by rfl) T.n_len (by decide +kernel) (pa_cons (pv 3) pa_nil)))))))))))
    (pss_one (ps_ret (pv 1))))), ?_⟩
  generalize hL : lay ps ++ List.replicate k 32 = L at hl
  have lz : (S L).length ≤ sizeLine := by rw [S_len]; exact small (by omega)
  refine ⟨Nat.zero_le _, fun f0 hf0 => ?_⟩
  let W : Nat → L2.St → Hp → Prop := fun m σ H' => ∃ (p : Nat) (rs : List (Nat × Str)) (j : Nat) (done : List (Str × Nat)) (xs : List V) (x : Option V),
    m = L.length - p ∧ σ = [some (.str (S L)), some (.ref f0), some (.int (p : Int)), x] ∧ Ext [] H H' ∧ H' f0 = some (.lst xs) ∧ RpL K H' (done.map rowD) xs ∧ L.drop p = lay rs ++ List.replicate j 32 ∧ placed 0 ps = done ++ placed p rs ∧ Lx rs
  refine ⟨W, ⟨_, 0, ps, k, [], [], none, rfl, rfl, .new hf0, upd_same, rfl, by rw [List.drop_zero, ← hL], rfl, lx⟩, ?_⟩
  rintro m σ H' ⟨p, rs, j, done, xs, x, rfl, rfl, pe, hf, rl, hd, hp, lxr⟩
  have lend : xs.length = done.length := by have := rl.length; rw [List.length_map] at this; exact this.symm
  have ltot : done.length + rs.length = ps.length := by
    have := congrArg List.length hp
    rw [List.length_append, placed_len, placed_len] at this
    omega
  refine ⟨_, rfl, _, rfl, _, (S L).length, rfl, ⟨lz, rfl⟩, _, _, rfl, rfl, _, rfl, ite2 (fun c => ?_) fun c => ?_⟩
  · have c : p < L.length := by have := of_decide_eq_true c; rw [S_len] at this; omega
    -- the sign at p
    have key : (∃ r, L.drop p = 32 :: r ∧ ∃ rs' j', L.drop (p + 1) = lay rs' ++ List.replicate j' 32 ∧ placed p rs = placed (p + 1) rs' ∧ Lx rs') ∨ (∃ t r, rs = (0, t) :: r) := by
      cases rs with
      | nil =>
        cases j with
        | zero =>
          have := congrArg List.length hd
          rw [List.length_drop] at this
          simp [lay] at this; omega
        | succ j =>
          refine .inl ⟨List.replicate j 32, hd, [], j, ?_, rfl, trivial⟩
          rw [show p + 1 = p + 1 from rfl, ← List.drop_drop, hd]
          simp [lay, List.replicate_succ]
      | cons y r =>
        obtain ⟨g, t⟩ := y
        cases g with
        | zero => exact .inr ⟨t, r, rfl⟩
        | succ g =>
          refine .inl ⟨lay ((g, t) :: r) ++ List.replicate j 32, by rw [hd]; simp [lay, List.replicate_succ], (g, t) :: r, j, ?_, ?_, lxr.gap⟩
          · rw [← List.drop_drop, hd]
            simp [lay, List.replicate_succ]
          · simp only [placed]
            rw [show p + (g + 1) = p + 1 + g by omega]
    rcases key with ⟨r, hr32, rs', j', k1, k2, k3⟩ | ⟨t, r, rfl⟩
    · refine ⟨W (L.length - (p + 1)), fun σ' H'' n => ⟨_, by omega, n⟩, ?_⟩
      refine ⟨_, rfl, _, rfl, _, _, 32, rfl, rfl, lz, at_S hr32, rfl, _, rfl, ?_⟩
      have e : decide (V.str ⟨#[32]⟩ = V.str (Str.ofString " ")) = true := by decide +kernel
      rw [e]
      exact iteT ⟨_, rfl, _, _, rfl, rfl, p + 1, rs', j', done, xs, x, rfl, rfl, pe, hf, rl, k1, by rw [hp, k2], k3⟩
    · obtain ⟨ch, q1, e1, c32, _⟩ := lxr.head.shape
      have hch : L.drop p = ch :: (q1 ++ (lay r ++ List.replicate j 32)) := by rw [hd]; simp [lay, e1]
      have htk : L.drop p = cd t ++ (lay r ++ List.replicate j 32) := by rw [hd]; simp [lay]
      have hlen : p + (cd t).length ≤ L.length := by
        have := congrArg List.length htk
        rw [List.length_drop, List.length_append] at this
        omega
      have tl : 0 < (cd t).length := by rw [e1]; simp
      refine ⟨W (L.length - (p + (cd t).length)), fun σ' H'' n => ⟨_, by omega, n⟩, ?_⟩
      refine ⟨_, rfl, _, rfl, _, _, ch, rfl, rfl, lz, at_S hch, rfl, _, rfl, ?_⟩
      have e : decide (V.str ⟨#[ch]⟩ = V.str (Str.ofString " ")) = false := decide_eq_false fun z => by
        have h1 := V.str.inj z
        have h2 : Str.ofString " " = S [32] := by decide +kernel
        rw [sone, h2] at h1
        exact c32 (List.cons.inj (S_inj h1)).1
      rw [e]
      refine iteF ⟨_, rfl, _, xs.length, rfl, .inl ⟨xs, SqL.of hf, rfl⟩, rfl, _, rfl, ?_⟩
      have e2 : decide (V.int (xs.length : Int) = V.int 200) = false := decide_eq_false fun z => by
        have := V.int.inj z
        rw [lend] at this
        simp at ltot; omega
      rw [e2]
      refine iteF ⟨_, rfl, _, rfl, L, _, p, t, rfl, htk, lxr.head, lxr.noglue, by omega, ?_⟩
      refine ⟨_, rfl, .inl ⟨rfl, _, SqL.of hf⟩, _, rfl, _, rfl, by show 2 ≤ sizeLine; decide, fun pt hpt => ?_⟩
      have nf : f0 ≠ pt := ne_of_none hf hpt
      refine ⟨f0, xs, _, rfl, rfl, by rw [upd_ne nf]; exact hf, small' (by omega), ?_⟩
      have lt : (t : Str).length ≤ sizeLine := by rw [cd_len]; exact small (by omega)
      refine ⟨_, rfl, _, rfl, _, t.length, rfl, ⟨lt, rfl⟩, _, _, rfl, rfl, ?_⟩
      have pe2 : Ext [] H' (upd H' pt (.tup [.str t, .int (p : Int)])) := .new hpt
      have rl2 : RpL K (upd (upd H' pt (.tup [.str t, .int (p : Int)])) f0 (.lst (xs ++ [.ref pt]))) (done.map rowD) xs := (rl.ex0 pe2).ext (ms := [f0]) ((Ext.refl _ _).set (by simp)) (NoT.lst (by rw [upd_ne nf]; exact hf) .nil)
      refine ⟨p + (cd t).length, r, j, done ++ [(t, p)], xs ++ [.ref pt], some (.str t), rfl, ?_, (pe.trans pe2).own hf0, upd_same, ?_, ?_, ?_, lxr.tail⟩
      · show [some (V.str (S L)), some (.ref f0), some (.int ((p : Int) + (t.length : Int))), some (.str t)] = _
        rw [cd_len]; rfl
      · rw [List.map_append]
        refine rl2.snoc ⟨pt, _, rfl, SqT.of ?_, _, _, rfl, rfl, _, _, rfl, rfl, rfl⟩
        rw [upd_ne (Ne.symm nf), upd_same]
      · rw [← List.drop_drop, htk, List.drop_left]
      · rw [hp, List.append_assoc]
        simp [placed]
  · have c : ¬ p < L.length := fun z => c (decide_eq_true (by rw [S_len]; omega))
    have e : L.drop p = [] := List.drop_eq_nil_of_le (by omega)
    rw [e] at hd
    have er : rs = [] := by
      cases rs with
      | nil => rfl
      | cons y r =>
        obtain ⟨g, t⟩ := y
        obtain ⟨ch, q1, e1, _⟩ := lxr.head.shape
        simp [lay, e1] at hd
    subst er
    have e3 : placed 0 ps = done := by rw [hp]; simp [placed]
    exact ⟨_, rfl, q f0 H' xs pe hf0 hf (by rw [e3]; exact rl)⟩
end
end K13

/-! W11: Reader: token, step, take, name, enter, leave, comma -/
namespace K13
open PySem PySem.Spec PyProof.Rows L2
/-- the reader at a: o constructs are open, the tokens rest are to be read -/
def RS (K : PySem.W.Frag) (H : Hp) (a R : Addr) (o : Nat) (rest : List Str) : Prop :=
  ∃ (dx : Addr) (n : Int) (i : Nat) (rows : List (Str × Nat)) (rs : List V), H a = some (.ins (He.ga K "Reader") dx (fsR R n i o)) ∧ H R = some (.lst rs) ∧ RpL K H (rows.map rowD) rs ∧ i ≤ rows.length ∧ (rows.drop i).map (·.1) = rest ∧ rows.length ≤ 200 ∧ ∀ r ∈ rows, (cd r.1).length ≤ 20
theorem RS.ex0 {K : PySem.W.Frag} {H H' : Hp} {a R : Addr} {o : Nat} {rest : List Str} (h : RS K H a R o rest) (e : Ext [] H H') : RS K H' a R o rest := by
  obtain ⟨dx, n, i, rows, rs, h1, h2, h3, h4, h5, h6, h7⟩ := h
  exact ⟨dx, n, i, rows, rs, e _ _ h1 (by simp), e _ _ h2 (by simp), h3.ex0 e, h4, h5, h6, h7⟩
theorem RS.rd {K : PySem.W.Frag} {H : Hp} {a R : Addr} {o : Nat} {rest : List Str} (h : RS K H a R o rest) : IsRd K (.ref a) H := by
  obtain ⟨dx, n, i, rows, rs, h1, _⟩ := h
  exact ⟨a, dx, R, n, i, o, rfl, h1⟩
theorem RS.not {K : PySem.W.Frag} {H : Hp} {a R : Addr} {o : Nat} {rest : List Str} (h : RS K H a R o rest) : NoT H [a] := by
  obtain ⟨dx, n, i, rows, rs, h1, _⟩ := h
  exact .ins h1 .nil
theorem RS.turn {K : PySem.W.Frag} {H : Hp} {a dx R : Addr} {n : Int} {i o : Nat} {rows : List (Str × Nat)} {rs : List V} (h1 : H a = some (.ins (He.ga K "Reader") dx (fsR R n i o))) (h2 : H R = some (.lst rs)) (h3 : RpL K H (rows.map rowD) rs) (h6 : rows.length ≤ 200) (h7 : ∀ r ∈ rows, (cd r.1).length ≤ 20)
    {j o' : Nat} {rest : List Str} (h4 : j ≤ rows.length) (h5 : (rows.drop j).map (·.1) = rest) : RS K (upd H a (.ins (He.ga K "Reader") dx (fsR R n j o'))) a R o' rest := by
  have ne : R ≠ a := ne_of h2 h1 (fun z => nomatch z)
  exact ⟨dx, n, j, rows, rs, upd_same, by rw [upd_ne ne]; exact h2, h3.ext (ms := [a]) ((Ext.refl _ _).set (by simp)) (.ins h1 .nil), h4, h5, h6, h7⟩
theorem drop_fst {rows : List (Str × Nat)} {i : Nat} {t : Str} {r : List Str} (h : (rows.drop i).map (·.1) = t :: r) : ∃ n, rows[i]? = some (t, n) ∧ (rows.drop (i + 1)).map (·.1) = r ∧ i < rows.length := by
  cases e : rows.drop i with
  | nil => rw [e] at h; simp at h
  | cons y q =>
    rw [e] at h
    obtain ⟨u, n⟩ := y
    simp at h
    obtain ⟨rfl, rfl⟩ := h
    have hi : i < rows.length := by
      have := congrArg List.length e
      rw [List.length_drop] at this
      simp at this; omega
    refine ⟨n, ?_, ?_, hi⟩
    · have := congrArg (·[0]?) e
      simpa using this
    · rw [← List.drop_drop, e]; rfl
def hd0 : List Str → Str
  | [] => o ""
  | t :: _ => t
section
variable {R : Addr} {n i o : Int}
theorem fl_rows : (fsR R n i o).lookup (K13.o "rows") = some (.ref R) := rfl
theorem fl_length : (fsR R n i o).lookup (K13.o "length") = some (.int n) := rfl
theorem fl_at : (fsR R n i o).lookup (K13.o "at") = some (.int i) := rfl
theorem fl_opened : (fsR R n i o).lookup (K13.o "opened") = some (.int o) := rfl
theorem fp_at {j : Int} : putF "at" (.int j) (fsR R n i o) = fsR R n j o := rfl
theorem fp_opened {j : Int} : putF "opened" (.int j) (fsR R n i o) = fsR R n i j := rfl
end
section
variable {P : Program} {w : World} {K : PySem.W.Frag} {mg : Str → Option Value} {base : Heap}
def sp_is_name : Sp := fun vs H Q _ => ∃ t, vs = [.str t] ∧ Name t ∧ Q (.bl true) H
theorem sc_is_name : FnScope ["token"] ["token"] (defScope s_is_name) := ⟨rfl, rfl, rfl, by decide +kernel, rfl, by decide +kernel, by decide +kernel⟩
theorem ok_is_name (T : Tx w K mg) : Cal P w K mg base "is_name" 1 ["token"] sp_is_name := by
  refine Cal.of T.f_is_name T.g_is_name sc_is_name (fun _ _ _ _ _ _ us hl => match us, hl with | [_], _ => rfl) (fun vs H Q E h => ?_) (fun f cdv A outer s H vs Q E hr h => ?_)
  · obtain ⟨t, rfl, _⟩ := h; rfl
  obtain ⟨t, rfl, nm, q⟩ := h
  refine ⟨_, pss_one (ps_ret ((pe_and (pe_cmpR op_ne (pv 0) (pe_str) (nomark _)) (pe_and (pe_cmpR op_in_sign (pe_ix ix_str (pv 0) (pe_int) (fun _ _ => rfl)) (pe_gs rfl T.s_LETTERS) rfl) (pe_one (pe_cmpR op_notIn_seq (pv 0) (pe_gr rfl T.g_RESERVED) rfl)))))), ?_⟩
  obtain ⟨c, r, e, lc⟩ := nm.toWord.shape
  have ne : t ≠ o "" := fun z => by
    subst z
    have z0 : cd (o "") = [] := by decide +kernel
    rw [z0] at e
    cases e
  have lz : t.length ≤ sizeLine := by rw [cd_len]; exact small (by have := nm.len; omega)
  have ha : atI t.cps.toList 0 = some c := by
    rw [show t.cps.toList = c :: r from e]; exact a0
  refine ⟨_, rfl, rfl, _, rfl, ?_⟩
  rw [decide_eq_false (show ¬ V.str t = V.str (Str.ofString "") from fun z => ne (V.str.inj z))]
  refine iteT ⟨_, rfl, _, _, c, rfl, rfl, lz, ha, c, _, rfl, rfl, _, rfl, ?_⟩
  rw [decide_eq_true (show c ∈ (o "abcdefghijklmnopqrstuvwxyz").cps.toList from (letters_mem c).mpr lc)]
  refine iteT ⟨_, rfl, _, _, rfl, .inr (T.tu_RESERVED H), rfl, flat_str _, ?_⟩
  rw [if_pos rfl, inV_str, decide_eq_false nm.free]
  exact q
def sp_token (K : PySem.W.Frag) : Sp := fun vs H Q _ => ∃ (a R : Addr) (o : Nat) (rest : List Str), vs = [.ref a] ∧ RS K H a R o rest ∧ Q (.str (hd0 rest)) H
theorem sc_R_token : FnScope ["self"] ["self"] (defScope s_R_token) := ⟨rfl, rfl, rfl, by decide +kernel, rfl, by decide +kernel, by decide +kernel⟩
theorem ok_token (T : Tx w K mg) : Met P w K mg base "token" 1 ["self"] (sp_token K) := by
  refine Met.of T.cl T.f_R_token T.me_token sc_R_token (fun _ _ _ _ _ _ us hl => match us, hl with | [_], _ => rfl) (fun vs H Q E h => ?_) (fun f cdv A outer s H vs Q E hr h => ?_)
  · obtain ⟨a, R, o, rest, rfl, _⟩ := h; rfl
  obtain ⟨a, R, o, rest, rfl, ⟨dx, n, i, rows, rs, h1, h2, h3, h4, h5, h6, h7⟩, q⟩ := h
  refine ⟨_, pss_cons (ps_if (pt_cmpR op_lt (pe_fld (pv 0) rfl) (pe_callB call_len (by rfl) T.n_len (by decide +kernel) (pa_cons (pe_fld (pv 0) rfl) pa_nil)) (nomark _))
    (pss_one (ps_ret (pe_ix ix_tup (pe_ix ix_list (pe_fld (pv 0) rfl) (pe_fld (pv 0) rfl) (fun _ _ => rfl)) (pe_int) (fun _ _ => rfl))))
    (pss_nil))
    (pss_one (ps_ret (pe_str))), ?_⟩
  have lr : rs.length = rows.length := by have := h3.length; rw [List.length_map] at this; exact this.symm
  refine ⟨_, rfl, a, _, _, _, _, rfl, h1, T.cl, T.na_at, fl_at, _, rfl, a, _, _, _, _, rfl, h1, T.cl, T.na_rows, fl_rows, _, rs.length, rfl, .inl ⟨rs, SqL.of h2, rfl⟩, _, _, rfl, rfl, _, rfl, ite2 (fun c => ?_) fun c => ?_⟩
  · have c : i < rows.length := by have := of_decide_eq_true c; omega
    cases e : rest with
    | nil =>
      rw [e] at h5
      have := congrArg List.length h5
      rw [List.length_map, List.length_drop] at this
      simp at this; omega
    | cons t r =>
      rw [e] at h5
      obtain ⟨m, h8, _, _⟩ := drop_fst h5
      obtain ⟨v, hv, ⟨b, xs, rfl, hb, y1, r1, rfl, e1, _⟩⟩ := h3.get (d := rowD (t, m)) (by rw [List.getElem?_map, h8]; rfl)
      cases (show y1 = V.str t from e1)
      refine ⟨_, rfl, a, _, _, _, _, rfl, h1, T.cl, T.na_rows, fl_rows, _, rfl, a, _, _, _, _, rfl, h1, T.cl, T.na_at, fl_at, _, _, _, _, rfl, rfl, SqL.of h2, atI_nat hv, _, _, _, _, rfl, rfl, hb, a0, ?_⟩
      rw [e] at q
      exact q
  · have c : ¬ i < rows.length := fun z => c (decide_eq_true (by rw [lr]; omega))
    have e : rest = [] := by rw [← h5, List.drop_eq_nil_of_le (by omega)]; rfl
    rw [e] at q
    exact q
def sp_step (K : PySem.W.Frag) : Sp := fun vs H Q _ => ∃ (a R : Addr) (o : Nat) (t : Str) (rest : List Str), vs = [.ref a] ∧ RS K H a R o (t :: rest) ∧ ∀ H', Ext [a] H H' → RS K H' a R o rest → Q (.str t) H'
theorem sc_R_step : FnScope ["self", "token"] ["self"] (defScope s_R_step) := ⟨rfl, rfl, rfl, by decide +kernel, rfl, by decide +kernel, by decide +kernel⟩
theorem ok_step (T : Tx w K mg) : Met P w K mg base "step" 2 ["self"] (sp_step K) := by
  have C_token := ok_token T (P := P) (base := base)
  refine Met.of T.cl T.f_R_step T.me_step sc_R_step (fun _ _ _ _ _ _ us hl => match us, hl with | [_], _ => rfl) (fun vs H Q E h => ?_) (fun f cdv A outer s H vs Q E hr h => ?_)
  · obtain ⟨a, R, o, t, rest, rfl, _⟩ := h; rfl
  obtain ⟨a, R, o, t, rest, rfl, hrs, q⟩ := h
  refine ⟨_, pss_cons (ps_set (i := 1) sc_R_step.nd rfl (Or.inl rfl) (pe_met0 C_token (hr.mono (by omega)) (fun _ _ _ _ => rfl) (pv 0)))
    (pss_cons (ps_fld (pv 0) (pe_op op_add (pe_fld (pv 0) rfl) (pe_int)) rfl)
    (pss_one (ps_ret (pv 1)))), ?_⟩
  refine ⟨_, rfl, hrs.rd, a, R, o, _, rfl, hrs, ?_⟩
  obtain ⟨dx, n, i, rows, rs, h1, h2, h3, h4, h5, h6, h7⟩ := hrs
  obtain ⟨m, h8, h9, h10⟩ := drop_fst h5
  refine ⟨_, rfl, a, _, _, _, _, rfl, h1, T.cl, T.na_at, fl_at, _, _, rfl, rfl, _, rfl, a, _, _, _, rfl, h1, T.cl, T.na_at, by show 4 < 1000; decide, _, rfl, ?_⟩
  refine q _ ((Ext.refl _ _).set (by simp)) ?_
  rw [fp_at]
  exact RS.turn h1 h2 h3 h6 h7 (j := i + 1) (by omega) h9
def sp_take (K : PySem.W.Frag) : Sp := fun vs H Q _ => ∃ (a R : Addr) (o : Nat) (t : Str) (rest : List Str), vs = [.ref a, .str t] ∧ RS K H a R o (t :: rest) ∧ ∀ H', Ext [a] H H' → RS K H' a R o rest → Q .non H'
theorem sc_R_take : FnScope ["self", "wanted"] ["self", "wanted"] (defScope s_R_take) := ⟨rfl, rfl, rfl, by decide +kernel, rfl, by decide +kernel, by decide +kernel⟩
theorem ok_take (T : Tx w K mg) : Met P w K mg base "take" 2 ["self", "wanted"] (sp_take K) := by
  have C_token := ok_token T (P := P) (base := base)
  refine Met.of T.cl T.f_R_take T.me_take sc_R_take (fun _ _ _ _ _ _ us hl => match us, hl with | [_, _], _ => rfl) (fun vs H Q E h => ?_) (fun f cdv A outer s H vs Q E hr h => ?_)
  · obtain ⟨a, R, o, t, rest, rfl, _⟩ := h; rfl
  obtain ⟨a, R, o, t, rest, rfl, hrs, q⟩ := h
  refine ⟨_, pss_cons (ps_if (pt_cmpR op_ne (pe_met0 C_token (hr.mono (by omega)) (fun _ _ _ _ => rfl) (pv 0)) (pv 1) (nomark _))
    (pss_one (ps_never))
    (pss_nil))
    (pss_one (ps_fld (pv 0) (pe_op op_add (pe_fld (pv 0) rfl) (pe_int)) rfl)), ?_⟩
  refine ⟨_, rfl, hrs.rd, a, R, o, _, rfl, hrs, _, rfl, rfl, _, rfl, ?_⟩
  show if (!decide (V.str t = V.str t)) = true then _ else _
  rw [decide_eq_true rfl]
  obtain ⟨dx, n, i, rows, rs, h1, h2, h3, h4, h5, h6, h7⟩ := hrs
  obtain ⟨m, h8, h9, h10⟩ := drop_fst h5
  refine iteF ⟨_, rfl, a, _, _, _, _, rfl, h1, T.cl, T.na_at, fl_at, _, _, rfl, rfl, _, rfl, a, _, _, _, rfl, h1, T.cl, T.na_at, by show 4 < 1000; decide, ?_⟩
  refine q _ ((Ext.refl _ _).set (by simp)) ?_
  rw [fp_at]
  exact RS.turn h1 h2 h3 h6 h7 (j := i + 1) (by omega) h9
def sp_name (K : PySem.W.Frag) : Sp := fun vs H Q _ => ∃ (a R : Addr) (o : Nat) (t : Str) (rest : List Str), vs = [.ref a] ∧ RS K H a R o (t :: rest) ∧ Name t ∧ ∀ H', Ext [a] H H' → RS K H' a R o rest → Q (.str t) H'
theorem sc_R_name : FnScope ["self"] ["self"] (defScope s_R_name) := ⟨rfl, rfl, rfl, by decide +kernel, rfl, by decide +kernel, by decide +kernel⟩
theorem ok_name (T : Tx w K mg) : Met P w K mg base "name" 3 ["self"] (sp_name K) := by
  have C_token := ok_token T (P := P) (base := base)
  have C_step := ok_step T (P := P) (base := base)
  have C_is_name := ok_is_name T (P := P) (base := base)
  refine Met.of T.cl T.f_R_name T.me_name sc_R_name (fun _ _ _ _ _ _ us hl => match us, hl with | [_], _ => rfl) (fun vs H Q E h => ?_) (fun f cdv A outer s H vs Q E hr h => ?_)
  · obtain ⟨a, R, o, t, rest, rfl, _⟩ := h; rfl
  obtain ⟨a, R, o, t, rest, rfl, hrs, nm, q⟩ := h
  refine ⟨_, pss_cons (ps_if (pt_not (pt_val (pe_cal C_is_name (hr.mono (by omega)) rfl (pa_cons (pe_met0 C_token (hr.mono (by omega)) (fun _ _ _ _ => rfl) (pv 0)) pa_nil))))
    (pss_one (ps_never))
    (pss_nil))
    (pss_one (ps_ret (pe_met0 C_step (hr.mono (by omega)) (fun _ _ _ _ => rfl) (pv 0)))), ?_⟩
  refine ⟨_, rfl, hrs.rd, a, R, o, _, rfl, hrs, t, rfl, nm, _, rfl, iteF ?_⟩
  exact ⟨_, rfl, hrs.rd, a, R, o, t, rest, rfl, hrs, q⟩
def sp_enter (K : PySem.W.Frag) : Sp := fun vs H Q _ => ∃ (a R : Addr) (o : Nat) (t : Str) (rest : List Str), vs = [.ref a] ∧ RS K H a R o (t :: rest) ∧ o < 16 ∧ ∀ H', Ext [a] H H' → RS K H' a R (o + 1) rest → Q (.str t) H'
theorem sc_R_enter : FnScope ["self"] ["self"] (defScope s_R_enter) := ⟨rfl, rfl, rfl, by decide +kernel, rfl, by decide +kernel, by decide +kernel⟩
theorem ok_enter (T : Tx w K mg) : Met P w K mg base "enter" 3 ["self"] (sp_enter K) := by
  have C_step := ok_step T (P := P) (base := base)
  refine Met.of T.cl T.f_R_enter T.me_enter sc_R_enter (fun _ _ _ _ _ _ us hl => match us, hl with | [_], _ => rfl) (fun vs H Q E h => ?_) (fun f cdv A outer s H vs Q E hr h => ?_)
  · obtain ⟨a, R, o, t, rest, rfl, _⟩ := h; rfl
  obtain ⟨a, R, o, t, rest, rfl, hrs, lt, q⟩ := h
  refine ⟨_, pss_cons (ps_if (pt_cmpR op_eq (pe_fld (pv 0) rfl) (pe_gi rfl T.i_MOST_OPEN) (nomark _))
    (pss_one (ps_never))
    (pss_nil))
    (pss_cons (ps_fld (pv 0) (pe_op op_add (pe_fld (pv 0) rfl) (pe_int)) rfl)
    (pss_one (ps_ret (pe_met0 C_step (hr.mono (by omega)) (fun _ _ _ _ => rfl) (pv 0))))), ?_⟩
  obtain ⟨dx, n, i, rows, rs, h1, h2, h3, h4, h5, h6, h7⟩ := hrs
  refine ⟨_, rfl, a, _, _, _, _, rfl, h1, T.cl, T.na_opened, fl_opened, rfl, _, rfl, ?_⟩
  rw [decide_eq_false (show ¬ V.int (o : Int) = V.int 16 from fun z => by have := V.int.inj z; omega)]
  refine iteF ⟨_, rfl, a, _, _, _, _, rfl, h1, T.cl, T.na_opened, fl_opened, _, _, rfl, rfl, _, rfl, a, _, _, _, rfl, h1, T.cl, T.na_opened, by show 4 < 1000; decide, ?_⟩
  rw [fp_opened]
  have hrs2 : RS K (upd H a (.ins (He.ga K "Reader") dx (fsR R n i ((o + 1 : Nat) : Int)))) a R (o + 1) (t :: rest) := RS.turn h1 h2 h3 h6 h7 h4 h5
  refine ⟨_, rfl, hrs2.rd, a, R, o + 1, t, rest, rfl, hrs2, fun H' e h => q H' (((Ext.refl _ _).set (by simp)).trans e) h⟩
def sp_leave (K : PySem.W.Frag) : Sp := fun vs H Q _ => ∃ (a R : Addr) (o : Nat) (rest : List Str), vs = [.ref a] ∧ RS K H a R (o + 1) rest ∧ ∀ H', Ext [a] H H' → RS K H' a R o rest → Q .non H'
theorem sc_R_leave : FnScope ["self"] ["self"] (defScope s_R_leave) := ⟨rfl, rfl, rfl, by decide +kernel, rfl, by decide +kernel, by decide +kernel⟩
theorem ok_leave (T : Tx w K mg) : Met P w K mg base "leave" 1 ["self"] (sp_leave K) := by
  refine Met.of T.cl T.f_R_leave T.me_leave sc_R_leave (fun _ _ _ _ _ _ us hl => match us, hl with | [_], _ => rfl) (fun vs H Q E h => ?_) (fun f cdv A outer s H vs Q E hr h => ?_)
  · obtain ⟨a, R, o, rest, rfl, _⟩ := h; rfl
  obtain ⟨a, R, o, rest, rfl, hrs, q⟩ := h
  refine ⟨_, pss_one (ps_fld (pv 0) (pe_op op_sub (pe_fld (pv 0) rfl) (pe_int)) rfl), ?_⟩
  obtain ⟨dx, n, i, rows, rs, h1, h2, h3, h4, h5, h6, h7⟩ := hrs
  refine ⟨_, rfl, a, _, _, _, _, rfl, h1, T.cl, T.na_opened, fl_opened, _, _, rfl, rfl, _, rfl, a, _, _, _, rfl, h1, T.cl, T.na_opened, by show 4 < 1000; decide, ?_⟩
  refine q _ ((Ext.refl _ _).set (by simp)) ?_
  rw [fp_opened, show (((o + 1 : Nat) : Int) - 1) = ((o : Nat) : Int) by omega]
  exact RS.turn h1 h2 h3 h6 h7 h4 h5
def sp_comma (K : PySem.W.Frag) : Sp := fun vs H Q _ => ∃ (a R : Addr) (o k m : Nat) (rest : List Str), vs = [.ref a, .int k, .int m] ∧ RS K H a R o rest ∧
  (hd0 rest ≠ K13.o "," → Q (.bl false) H) ∧ (∀ r, rest = K13.o "," :: r → k ≠ m ∧ ∀ H', Ext [a] H H' → RS K H' a R o r → Q (.bl true) H')
theorem sc_R_comma : FnScope ["self", "many", "most"] ["self", "many", "most"] (defScope s_R_comma) := ⟨rfl, rfl, rfl, by decide +kernel, rfl, by decide +kernel, by decide +kernel⟩
theorem ok_comma (T : Tx w K mg) : Met P w K mg base "comma" 3 ["self", "many", "most"] (sp_comma K) := by
  have C_token := ok_token T (P := P) (base := base)
  have C_step := ok_step T (P := P) (base := base)
  refine Met.of T.cl T.f_R_comma T.me_comma sc_R_comma (fun _ _ _ _ _ _ us hl => match us, hl with | [_, _, _], _ => rfl) (fun vs H Q E h => ?_) (fun f cdv A outer s H vs Q E hr h => ?_)
  · obtain ⟨a, R, o, k, m, rest, rfl, _⟩ := h; rfl
  obtain ⟨a, R, o, k, m, rest, rfl, hrs, q1, q2⟩ := h
  refine ⟨_, pss_cons (ps_if (pt_cmpR op_ne (pe_met0 C_token (hr.mono (by omega)) (fun _ _ _ _ => rfl) (pv 0)) (pe_str) (nomark _))
    (pss_one (ps_ret (pe_bl)))
    (pss_nil))
    (pss_cons (ps_if (pt_cmpR op_eq (pv 1) (pv 2) (nomark _))
    (pss_one (ps_never))
    (pss_nil))
    (pss_cons (ps_expr (pe_met0 C_step (hr.mono (by omega)) (fun _ _ _ _ => rfl) (pv 0)))
    (pss_one (ps_ret (pe_bl))))), ?_⟩
  refine ⟨_, rfl, hrs.rd, a, R, o, _, rfl, hrs, rfl, _, rfl, ?_⟩
  by_cases e : hd0 rest = K13.o ","
  · rw [decide_eq_true (show V.str (hd0 rest) = V.str (Str.ofString ",") from congrArg V.str e)]
    cases rest with
    | nil => exact absurd e (by decide +kernel)
    | cons t r =>
      have et : t = K13.o "," := e
      subst et
      obtain ⟨nk, q3⟩ := q2 r rfl
      refine iteF ⟨_, rfl, _, rfl, rfl, _, rfl, ?_⟩
      rw [decide_eq_false (show ¬ V.int (k : Int) = V.int (m : Int) from fun z => nk (by have := V.int.inj z; omega))]
      exact iteF ⟨_, rfl, hrs.rd, a, R, o, _, r, rfl, hrs, fun H' e h => q3 H' e h⟩
  · rw [decide_eq_false (show ¬ V.str (hd0 rest) = V.str (Str.ofString ",") from fun z => e (V.str.inj z))]
    exact iteT (q1 e)
end
end K13

/-! M3: the tokens as a reader meets them: plain Lean -/
namespace K13
open PySem L2
def ptk (t : Tm) : List Str := (tk t).map pl
theorem pl_of {v : Str} (h1 : v ≠ o "u-") (h2 : v ≠ o "c(") : pl v = v := by
  unfold pl
  rw [if_neg h1, if_neg h2]
theorem pl_num (n : Int) (h0 : 0 ≤ n) : pl (o (toString n)) = o (toString n) := by
  have e : n = ((n.toNat : Nat) : Int) := by omega
  have ht : cd (o (toString n)) = TL.numL n.toNat := by rw [e]; exact TL.tl_num n.toNat
  have no : ∀ s : Str, (∃ c ∈ cd s, isD c = false) → o (toString n) ≠ s := fun s ⟨c, hc, hd⟩ z => by
    rw [← z, ht] at hc
    rw [numL_isD hc] at hd; cases hd
  exact pl_of (no _ ⟨117, by decide +kernel, by decide⟩) (no _ ⟨99, by decide +kernel, by decide⟩)
theorem pl_word {v : Str} (w : Word v) : pl v = v := by
  have no : ∀ s : Str, (∃ c ∈ cd s, isL c = false) → v ≠ s := fun s ⟨c, hc, hd⟩ z => by
    subst z
    rw [w.all c hc] at hd; cases hd
  exact pl_of (no _ ⟨45, by decide +kernel, by decide⟩) (no _ ⟨40, by decide +kernel, by decide⟩)
theorem pl_sign {s : Str} (h : s ∈ signs) : pl s = s := by
  have : ∀ s ∈ signs, pl s = s := by decide +kernel
  exact this s h
def wordB (v : Str) : Bool := !(cd v).isEmpty && (decide ((cd v).length ≤ 12) && (cd v).all isL)
theorem wordB_ok {v : Str} (h : wordB v = true) : Word v := by
  unfold wordB at h
  simp only [Bool.and_eq_true, Bool.not_eq_true', decide_eq_true_eq, List.all_eq_true] at h
  exact ⟨fun z => by rw [z] at h; simp at h, h.2.1, h.2.2⟩
theorem fact_word {v : Str} (h : v ∈ tu_FACTS) : Word v := by
  have : ∀ v ∈ tu_FACTS, wordB v = true := by decide +kernel
  exact wordB_ok (this v h)
theorem fn_word {v : Str} (h : v ∈ fnames) : Word v := by
  have : ∀ v ∈ fnames, wordB v = true := by decide +kernel
  exact wordB_ok (this v h)
theorem call_word {f : Str} (h : Name f ∨ f ∈ fnames) : Word f := h.elim (fun h => h.toWord) fn_word
theorem sepc_map (f : Str → Str) (hc : f (o ",") = o ",") : ∀ rs : List (List Str), (sepc rs).map f = sepc (rs.map (List.map f))
  | [] => rfl
  | [_] => rfl
  | r :: s :: q => by
    simp only [sepc, List.map_cons, List.map_append, hc, List.cons.injEq, List.append_cancel_left_eq]
    exact ⟨trivial, sepc_map f hc (s :: q)⟩
theorem sepc_pl (cs : List Tm) : (sepc (cs.map tk)).map pl = sepc (cs.map ptk) := by
  rw [sepc_map pl (by decide +kernel), List.map_map]; rfl
section
variable {p : Nat} {h : Hd} {cs : List Tm} {a b c : Tm} {s v x f : Str}
theorem ptk_wrap : ptk (.mk (p + 1) h cs) = o "(" :: (ptk (.mk p h cs) ++ [o ")"]) := by
  unfold ptk
  rw [tk_mk, tk_mk, wrap, List.map_cons, List.map_append]
  rfl
theorem ptk0 : ptk (.mk 0 h cs) = (h.bare (cs.map tk)).map pl := by unfold ptk; rw [tk_mk, wrap]
theorem ptk_minus : ptk (.mk 0 .minus [a]) = o "-" :: ptk a := by
  rw [ptk0]; show pl (o "u-") :: (tk a).map pl = _
  rw [show pl (o "u-") = o "-" by decide +kernel]; rfl
theorem ptk_not : ptk (.mk 0 .not_ [a]) = o "not" :: ptk a := by
  rw [ptk0]; show pl (o "not") :: (tk a).map pl = _
  rw [show pl (o "not") = o "not" by decide +kernel]; rfl
theorem ptk_bin (hs : s ∈ signs) : ptk (.mk 0 (.bin s) [a, b]) = ptk a ++ s :: ptk b := by
  rw [ptk0]; show (tk a ++ s :: tk b).map pl = _
  rw [List.map_append, List.map_cons, pl_sign hs]; rfl
theorem ptk_pair : ptk (.mk 0 .pair [a, b]) = o "(" :: (ptk a ++ o "," :: (ptk b ++ [o ")"])) := by
  rw [ptk0]; show (o "(" :: (sepc ([a, b].map tk) ++ [o ")"])).map pl = _
  rw [List.map_cons, List.map_append, sepc_pl]
  simp [sepc, show pl (o "(") = o "(" by decide +kernel, show pl (o ")") = o ")" by decide +kernel]
theorem ptk_list : ptk (.mk 0 .list cs) = o "[" :: (sepc (cs.map ptk) ++ [o "]"]) := by
  rw [ptk0]; show (o "[" :: (sepc (cs.map tk) ++ [o "]"])).map pl = _
  rw [List.map_cons, List.map_append, sepc_pl]
  simp [show pl (o "[") = o "[" by decide +kernel, show pl (o "]") = o "]" by decide +kernel]
theorem ptk_call (hf : Word f) : ptk (.mk 0 (.call f) cs) = f :: o "(" :: (sepc (cs.map ptk) ++ [o ")"]) := by
  rw [ptk0]; show (f :: o "c(" :: (sepc (cs.map tk) ++ [o ")"])).map pl = _
  rw [List.map_cons, List.map_cons, List.map_append, sepc_pl, pl_word hf]
  simp [show pl (o "c(") = o "(" by decide +kernel, show pl (o ")") = o ")" by decide +kernel]
theorem ptk_let (hv : Word v) : ptk (.mk 0 (.let_ v) [a, b]) = o "let" :: v :: o "=" :: (ptk a ++ o "in" :: ptk b) := by
  rw [ptk0]; show (o "let" :: v :: o "=" :: (tk a ++ o "in" :: tk b)).map pl = _
  simp only [List.map_cons, List.map_append, pl_word hv, show pl (o "let") = o "let" by decide +kernel, show pl (o "=") = o "=" by decide +kernel, show pl (o "in") = o "in" by decide +kernel]; rfl
theorem ptk_if : ptk (.mk 0 .ite_ [a, b, c]) = o "if" :: (ptk a ++ o "then" :: (ptk b ++ o "else" :: ptk c)) := by
  rw [ptk0]; show (o "if" :: (tk a ++ o "then" :: (tk b ++ o "else" :: tk c))).map pl = _
  simp only [List.map_cons, List.map_append, show pl (o "if") = o "if" by decide +kernel, show pl (o "then") = o "then" by decide +kernel, show pl (o "else") = o "else" by decide +kernel]; rfl
theorem ptk_note : ptk (.mk 0 .note [a, b]) = o "note" :: (ptk a ++ o "then" :: ptk b) := by
  rw [ptk0]; show (o "note" :: (tk a ++ o "then" :: tk b)).map pl = _
  simp only [List.map_cons, List.map_append, show pl (o "note") = o "note" by decide +kernel, show pl (o "then") = o "then" by decide +kernel]; rfl
theorem ptk_fold (hx : Word x) (hs : Word s) : ptk (.mk 0 (.fold x s) [a, b, c]) = o "fold" :: x :: s :: o "in" :: (ptk a ++ o "from" :: (ptk b ++ o "do" :: ptk c)) := by
  rw [ptk0]; show (o "fold" :: x :: s :: o "in" :: (tk a ++ o "from" :: (tk b ++ o "do" :: tk c))).map pl = _
  simp only [List.map_cons, List.map_append, pl_word hx, pl_word hs, show pl (o "fold") = o "fold" by decide +kernel, show pl (o "in") = o "in" by decide +kernel, show pl (o "from") = o "from" by decide +kernel, show pl (o "do") = o "do" by decide +kernel]; rfl
theorem ptk_num {n : Int} (h0 : 0 ≤ n) : ptk (.mk 0 (.num n) []) = [o (toString n)] := by
  rw [ptk0]; show [pl (o (toString n))] = _
  rw [pl_num n h0]
theorem ptk_tru {n : Bool} : ptk (.mk 0 (.tru n) []) = [if n then o "true" else o "false"] := by
  rw [ptk0]; show [pl (if n then o "true" else o "false")] = _
  cases n <;> decide +kernel
theorem ptk_var (hv : Word v) : ptk (.mk 0 (.var v) []) = [v] := by
  rw [ptk0]; show [pl v] = _
  rw [pl_word hv]
theorem ptk_fact (hv : Word v) : ptk (.mk 0 (.fact v) []) = [v] := by
  rw [ptk0]; show [pl v] = _
  rw [pl_word hv]
theorem ptk_fail : ptk (.mk 0 .fail []) = [o "fail"] := by rw [ptk0]; decide +kernel
end
/-! ### what may stand behind -/
def ops : Nat → List Str
  | 0 => ["or"] | 1 => ["and"] | 2 => ["==", "<", "<="] | 3 => ["+", "-"] | 4 => ["*", "div", "mod"] | _ => []
def Stop (lv : Nat) (t : Str) : Prop := t ≠ o "(" ∧ ∀ j, lv ≤ j → t ∉ ops j
theorem Stop.mono {i j : Nat} {t : Str} (h : Stop i t) (l : i ≤ j) : Stop j t := ⟨h.1, fun k hk => h.2 k (Nat.le_trans l hk)⟩
def stopB (t : Str) : Bool := !decide (t = o "(") && [0, 1, 2, 3, 4].all fun j => !decide (t ∈ ops j)
theorem stop_ok {t : Str} (h : stopB t = true) : Stop 0 t := by
  unfold stopB at h
  simp only [Bool.and_eq_true, Bool.not_eq_true', decide_eq_false_iff_not, List.all_cons, List.all_nil, Bool.and_true] at h
  obtain ⟨h1, h2, h3, h4, h5, h6⟩ := h
  exact ⟨h1, fun j _ => match j with
    | 0 => h2 | 1 => h3 | 2 => h4 | 3 => h5 | 4 => h6 | _ + 5 => fun z => nomatch z⟩
theorem lvS_pos (s : Str) : 1 ≤ lvS s ∧ lvS s ≤ 5 := by
  unfold lvS
  repeat' split
  all_goals omega
theorem sign_ops {s : Str} (h : s ∈ signs) : s ∈ ops (lvS s - 1) ∧ Stop (lvS s) s := by
  have h0 : ∀ s ∈ signs, decide (s ∈ ops (lvS s - 1)) = true ∧ decide (s = o "(") = false ∧ ([0, 1, 2, 3, 4].all fun j => decide (j < lvS s) || !decide (s ∈ ops j)) = true := by decide +kernel
  obtain ⟨h1, h2, h3⟩ := h0 s h
  refine ⟨of_decide_eq_true h1, of_decide_eq_false h2, fun j hj => ?_⟩
  have h4 := List.all_eq_true.mp h3
  match j, hj with
  | _ + 5, _ => exact fun z => nomatch z
  | 0, hj => have := h4 0 (by simp); simp at this; exact this.resolve_left (by omega)
  | 1, hj => have := h4 1 (by simp); simp at this; exact this.resolve_left (by omega)
  | 2, hj => have := h4 2 (by simp); simp at this; exact this.resolve_left (by omega)
  | 3, hj => have := h4 3 (by simp); simp at this; exact this.resolve_left (by omega)
  | 4, hj => have := h4 4 (by simp); simp at this; exact this.resolve_left (by omega)
/-! ### chains of one level's operators -/
def flat : List (Str × Tm) → List Str
  | [] => []
  | (s, b) :: r => s :: (ptk b ++ flat r)
def bld (f : Tm) : List (Str × Tm) → Tm
  | [] => f
  | (s, b) :: r => bld (.mk 0 (.bin s) [f, b]) r
theorem flat_app : ∀ a b : List (Str × Tm), flat (a ++ b) = flat a ++ flat b
  | [], _ => rfl
  | (s, x) :: r, b => by simp [flat, flat_app r b]
theorem bld_snoc : ∀ (f : Tm) (ps : List (Str × Tm)) (s : Str) (b : Tm), bld f (ps ++ [(s, b)]) = .mk 0 (.bin s) [bld f ps, b]
  | f, [], s, b => rfl
  | f, (t, c) :: r, s, b => by simp only [List.cons_append, bld]; exact bld_snoc _ r s b
/-- d is f, behind which operators of the level stand with their right operands -/
structure Ch (lv : Nat) (d f : Tm) (ps : List (Str × Tm)) : Prop where
  eq : d = bld f ps
  tk : ptk d = ptk f ++ flat ps
  el : lv + 2 ≤ f.el
  wf : Wf f
  ok : Okd f
  sz : sz f ≤ sz d
  nest : nest f ≤ nest d
  one : lv = 2 → ps.length ≤ 1
  nil : ps = [] → f = d
  all : ∀ p ∈ ps, p.1 ∈ ops lv ∧ lv + 2 ≤ p.2.el ∧ Wf p.2 ∧ Okd p.2 ∧ K13.sz p.2 < K13.sz d ∧ K13.nest p.2 ≤ K13.nest d ∧ Stop (lv + 1) p.1
  lt : ps ≠ [] → K13.sz f < K13.sz d
theorem okc_of {p : Nat} {h : Hd} {cs : List Tm} (k : Okd (.mk p h cs)) : Okc h cs ∧ ∀ c ∈ cs, Okd c := by
  rw [Okd] at k
  exact ⟨k.1, okds_iff.mp k.2⟩
theorem chain {lv : Nat} (l4 : lv ≤ 4) : ∀ d : Tm, Wf d → Okd d → lv + 1 ≤ d.el → ∃ f ps, Ch lv d f ps := by
  refine Tm.ind fun p h cs ih wf ok le => ?_
  by_cases hl : lv + 2 ≤ (Tm.mk p h cs).el
  · exact ⟨_, [], ⟨rfl, by simp [flat], hl, wf, ok, Nat.le_refl _, Nat.le_refl _, fun _ => Nat.zero_le _, fun _ => rfl, (fun p hp => by simp at hp), fun z => absurd rfl z⟩⟩
  · have e : (Tm.mk p h cs).el = lv + 1 := by omega
    -- such a level is an operator's
    have hb : p = 0 ∧ ∃ s, h = .bin s ∧ lvS s = lv + 1 := by
      have e : (if p = 0 then h.lv else 7) = lv + 1 := e
      by_cases hp : p = 0
      · rw [if_pos hp] at e
        refine ⟨hp, ?_⟩
        cases h <;> simp only [Hd.lv] at e <;> first | exact ⟨_, rfl, e⟩ | omega
      · rw [if_neg hp] at e; omega
    obtain ⟨rfl, s, rfl, hs⟩ := hb
    · obtain ⟨a, b, rfl⟩ := len2 wf.hd.1
      have hsig : s ∈ signs := wf.hd.2
      obtain ⟨oc, oks⟩ := okc_of ok
      have la := oc 0 a rfl
      have lb := oc 1 b rfl
      simp only [Hd.least, if_true] at la
      have lb : lvS s + 1 ≤ b.el := lb
      have wa := wf.sub (c := a) (by simp)
      have wb := wf.sub (c := b) (by simp)
      obtain ⟨ho, hst⟩ := sign_ops hsig
      rw [hs] at ho hst
      have lea : lv + 1 ≤ a.el := by rw [hs] at la; split at la <;> omega
      obtain ⟨f, ps, c⟩ := ih a (by simp) wa (oks a (by simp)) lea
      have sza : sz a < sz (.mk 0 (.bin s) [a, b]) := by rw [sz_mk]; have := sz_mem (cs := [a, b]) (c := a) (by simp); omega
      have szb : sz b < sz (.mk 0 (.bin s) [a, b]) := by rw [sz_mk]; have := sz_mem (cs := [a, b]) (c := b) (by simp); omega
      have na : nest a ≤ nest (.mk 0 (.bin s) [a, b]) := by rw [nest_mk]; have := nest_mem (cs := [a, b]) (c := a) (by simp); omega
      have nb : nest b ≤ nest (.mk 0 (.bin s) [a, b]) := by rw [nest_mk]; have := nest_mem (cs := [a, b]) (c := b) (by simp); omega
      refine ⟨f, ps ++ [(s, b)], ⟨by rw [bld_snoc, ← c.eq], ?_, c.el, c.wf, c.ok, Nat.le_trans c.sz (Nat.le_of_lt sza), Nat.le_trans c.nest na, fun h2 => ?_, fun z => by simp at z, fun q hq => ?_, fun _ => Nat.lt_of_le_of_lt c.sz sza⟩⟩
      · rw [ptk_bin hsig, c.tk, flat_app]
        simp [flat]
      · subst h2
        have h4 : 4 ≤ a.el := by rw [hs] at la; simpa using la
        have : ps = [] := by
          cases ps with
          | nil => rfl
          | cons q r =>
            have e2 := c.eq
            have ha : ∃ s' x y, a = .mk 0 (.bin s') [x, y] ∧ s' ∈ ops 2 := by
              have := (List.eq_nil_or_concat (q :: r)).resolve_left (by simp)
              obtain ⟨l, z, hz⟩ := this
              obtain ⟨s', b'⟩ := z
              rw [hz, List.concat_eq_append, bld_snoc] at e2
              exact ⟨s', _, _, e2, (c.all (s', b') (by rw [hz]; simp)).1⟩
            obtain ⟨s', x, y, rfl, hs'⟩ := ha
            have h3 : ∀ s ∈ ops 2, lvS s = 3 := by decide +kernel
            have : (Tm.mk 0 (.bin s') [x, y]).el = 3 := h3 s' hs'
            omega
        rw [this]; simp
      · rcases List.mem_append.mp hq with hq | hq
        · obtain ⟨k1, k2, k3, k4, k5, k6, k7⟩ := c.all q hq
          exact ⟨k1, k2, k3, k4, Nat.lt_trans k5 sza, Nat.le_trans k6 na, k7⟩
        · rw [List.mem_singleton.mp hq]
          exact ⟨ho, (by show lv + 2 ≤ b.el; omega), wb, oks b (by simp), szb, nb, hst⟩
end K13

/-! W12: Reader: binding, choice, folding, noting, bracket -/
namespace K13
open PySem PySem.Spec PyProof.Rows L2
/-- what a reading of d gives -/
def Got (K : PySem.W.Frag) (H : Hp) (a R : Addr) (o : Nat) (rest : List Str) (d : Tm) (Q : VK) : Prop := ∀ r H', Ext [a] H H' → RS K H' a R o rest → Rp K H' (enc d) r → Q r H'
/-- d may be read: its size, how deep it opens -/
structure Fit (d : Tm) (n m o : Nat) : Prop where
  wf : Wf d
  ok : Okd d
  sz : K13.sz d ≤ n
  nest : K13.nest d ≤ m
  room : o + K13.nest d ≤ 16
def spG (K : PySem.W.Frag) (n m : Nat) (ok : Tm → List Str → Prop) : Sp := fun vs H Q _ => ∃ (d : Tm) (a R : Addr) (o : Nat) (rest : List Str), vs = [.ref a] ∧ RS K H a R o (ptk d ++ rest) ∧ Fit d n m o ∧ ok d rest ∧ Got K H a R o rest d Q
def sp_expr (K : PySem.W.Frag) (n m : Nat) : Sp := spG K n m fun d rest => Stop 0 (hd0 rest)
theorem Fit.kid {h : Hd} {cs : List Tm} {n m o : Nat} {c : Tm} (f : Fit (.mk 0 h cs) (n + 1) (m + 1) o) (hc : c ∈ cs) (ho : h.opn = 1) : Fit c n m (o + 1) := by
  have k := (okc_of f.ok).2 c hc
  have w := f.wf.sub hc
  have h1 := f.sz
  have h2 := f.nest
  have h3 := f.room
  rw [sz_mk] at h1
  rw [nest_mk] at h2 h3
  have s1 := sz_mem hc
  have s2 := nest_mem hc
  exact ⟨w, k, by omega, by omega, by omega⟩
theorem Fit.opn {h : Hd} {cs : List Tm} {p n m o : Nat} (f : Fit (.mk p h cs) n m o) (ho : 1 ≤ p + h.opn) : ∃ m', m = m' + 1 ∧ o < 16 := by
  have h2 := f.nest
  have h3 := f.room
  rw [nest_mk] at h2 h3
  exact ⟨m - 1, by omega, by omega⟩
/-- what was read before is kept -/
theorem Rp.past {K : PySem.W.Frag} {H H' : Hp} {a R : Addr} {o : Nat} {rest : List Str} {d : D} {v : V} (h : Rp K H d v) (e : Ext [a] H H') (r : RS K H a R o rest) : Rp K H' d v := h.ext e r.not
theorem stops {t : Str} {r : List Str} (h : stopB t = true) : Stop 0 (hd0 (t :: r)) := stop_ok h
section
variable {P : Program} {w : World} {K : PySem.W.Frag} {mg : Str → Option Value} {base : Heap}
def sp_head (K : PySem.W.Frag) (n m : Nat) (ok : Hd → Prop) : Sp := spG K n m fun d rest => (∃ h cs, d = .mk 0 h cs ∧ ok h) ∧ Stop 0 (hd0 rest)
theorem sc_R_noting : FnScope ["self", "number", "body"] ["self"] (defScope s_R_noting) := ⟨rfl, rfl, rfl, by decide +kernel, rfl, by decide +kernel, by decide +kernel⟩
theorem ok_noting (T : Tx w K mg) {n m : Nat} (CE : ∀ m, Met P w K mg base "expression" (11 * m + 12) ["self"] (sp_expr K n m)) : Met P w K mg base "noting" (11 * m + 2) ["self"] (sp_head K (n + 1) m (· = .note)) := by
  have C_enter := ok_enter T (P := P) (base := base)
  have C_leave := ok_leave T (P := P) (base := base)
  have C_take := ok_take T (P := P) (base := base)
  refine Met.of T.cl T.f_R_noting T.me_noting sc_R_noting (fun _ _ _ _ _ _ us hl => match us, hl with | [_], _ => rfl) (fun vs H Q E h => ?_) (fun f cdv A outer s H vs Q E hr h => ?_)
  · obtain ⟨d, a, R, o, rest, rfl, _⟩ := h; rfl
  obtain ⟨d, a, R, o, rest, rfl, hrs, fit, ⟨⟨h, cs, rfl, rfl⟩, st⟩, q⟩ := h
  obtain ⟨m, rfl, lo⟩ := fit.opn (by show 1 ≤ 0 + 1; omega)
  obtain ⟨x, y, rfl⟩ := len2 fit.wf.hd
  have fx := fit.kid (c := x) (by simp) rfl
  have fy := fit.kid (c := y) (by simp) rfl
  have C_expression := CE m
  rw [ptk_note] at hrs
  simp only [List.cons_append, List.append_assoc] at hrs
  refine ⟨_, pss_cons (ps_expr (pe_met0 C_enter (hr.mono (by omega)) (fun _ _ _ _ => rfl) (pv 0)))
    (pss_cons (ps_set (i := 1) sc_R_noting.nd rfl (Or.inl rfl) (pe_met0 C_expression (hr.mono (by omega)) (fun _ _ _ _ => rfl) (pv 0)))
    (pss_cons (ps_expr (pe_met C_take (hr.mono (by omega)) (fun _ _ _ _ => rfl) (pv 0) (pa_cons (pe_str) pa_nil)))
    (pss_cons (ps_set (i := 2) sc_R_noting.nd rfl (Or.inl rfl) (pe_met0 C_expression (hr.mono (by omega)) (fun _ _ _ _ => rfl) (pv 0)))
    (pss_cons (ps_expr (pe_met0 C_leave (hr.mono (by omega)) (fun _ _ _ _ => rfl) (pv 0)))
    (pss_one (ps_ret (pe_tup (pa_cons (pe_str) (pa_cons (pv 1) (pa_cons (pv 2) pa_nil)))))))))), ?_⟩
  refine ⟨_, rfl, hrs.rd, a, R, o, _, _, rfl, hrs, lo, fun H1 e1 h1 => ?_⟩
  refine ⟨_, rfl, h1.rd, x, a, R, o + 1, _, rfl, h1, fx, stops (by decide +kernel), fun r2 H2 e2 h2 q2 => ?_⟩
  refine ⟨_, rfl, h2.rd, a, R, o + 1, _, _, rfl, h2, fun H3 e3 h3 => ?_⟩
  refine ⟨_, rfl, h3.rd, y, a, R, o + 1, rest, rfl, h3, fy, st, fun r4 H4 e4 h4 q4 => ?_⟩
  refine ⟨_, rfl, h4.rd, a, R, o, rest, rfl, h4, fun H5 e5 h5 => ?_⟩
  refine ⟨_, rfl, _, rfl, by show 3 ≤ sizeLine; decide, fun pt hpt => ?_⟩
  have e6 : Ext [a] H5 (upd H5 pt (.tup [.str (K13.o "note"), r2, r4])) := (Ext.new (ms := []) hpt).nil
  refine q _ _ ((((e1.trans e2).trans e3).trans (e4.trans e5)).trans e6) (h5.ex0 (.new hpt)) ?_
  refine ⟨pt, _, rfl, SqT.of upd_same, _, _, rfl, rfl, _, _, rfl, ?_, _, _, rfl, ?_, rfl⟩
  · exact ((((q2.past e3 h2).past e4 h3).past e5 h4).past e6 h5)
  · exact ((q4.past e5 h4).past e6 h5)
theorem sc_R_binding : FnScope ["self", "variable", "value", "body"] ["self"] (defScope s_R_binding) := ⟨rfl, rfl, rfl, by decide +kernel, rfl, by decide +kernel, by decide +kernel⟩
theorem ok_binding (T : Tx w K mg) {n m : Nat} (CE : ∀ m, Met P w K mg base "expression" (11 * m + 12) ["self"] (sp_expr K n m)) : Met P w K mg base "binding" (11 * m + 2) ["self"] (sp_head K (n + 1) m (fun h => ∃ v, h = .let_ v)) := by
  have C_enter := ok_enter T (P := P) (base := base)
  have C_leave := ok_leave T (P := P) (base := base)
  have C_take := ok_take T (P := P) (base := base)
  have C_name := ok_name T (P := P) (base := base)
  refine Met.of T.cl T.f_R_binding T.me_binding sc_R_binding (fun _ _ _ _ _ _ us hl => match us, hl with | [_], _ => rfl) (fun vs H Q E h => ?_) (fun f cdv A outer s H vs Q E hr h => ?_)
  · obtain ⟨d, a, R, o, rest, rfl, _⟩ := h; rfl
  obtain ⟨d, a, R, o, rest, rfl, hrs, fit, ⟨⟨h, cs, rfl, v, rfl⟩, st⟩, q⟩ := h
  obtain ⟨m, rfl, lo⟩ := fit.opn (by show 1 ≤ 0 + 1; omega)
  obtain ⟨x, y, rfl⟩ := len2 fit.wf.hd.1
  have nv : Name v := fit.wf.hd.2
  have fx := fit.kid (c := x) (by simp) rfl
  have fy := fit.kid (c := y) (by simp) rfl
  have C_expression := CE m
  rw [ptk_let nv.toWord] at hrs
  simp only [List.cons_append, List.append_assoc] at hrs
  refine ⟨_, pss_cons (ps_expr (pe_met0 C_enter (hr.mono (by omega)) (fun _ _ _ _ => rfl) (pv 0)))
    (pss_cons (ps_set (i := 1) sc_R_binding.nd rfl (Or.inl rfl) (pe_met0 C_name (hr.mono (by omega)) (fun _ _ _ _ => rfl) (pv 0)))
    (pss_cons (ps_expr (pe_met C_take (hr.mono (by omega)) (fun _ _ _ _ => rfl) (pv 0) (pa_cons (pe_str) pa_nil)))
    (pss_cons (ps_set (i := 2) sc_R_binding.nd rfl (Or.inl rfl) (pe_met0 C_expression (hr.mono (by omega)) (fun _ _ _ _ => rfl) (pv 0)))
    (pss_cons (ps_expr (pe_met C_take (hr.mono (by omega)) (fun _ _ _ _ => rfl) (pv 0) (pa_cons (pe_str) pa_nil)))
    (pss_cons (ps_set (i := 3) sc_R_binding.nd rfl (Or.inl rfl) (pe_met0 C_expression (hr.mono (by omega)) (fun _ _ _ _ => rfl) (pv 0)))
    (pss_cons (ps_expr (pe_met0 C_leave (hr.mono (by omega)) (fun _ _ _ _ => rfl) (pv 0)))
    (pss_one (ps_ret (pe_tup (pa_cons (pe_str) (pa_cons (pv 1) (pa_cons (pv 2) (pa_cons (pv 3) pa_nil))))))))))))), ?_⟩
  refine ⟨_, rfl, hrs.rd, a, R, o, _, _, rfl, hrs, lo, fun H1 e1 h1 => ?_⟩
  refine ⟨_, rfl, h1.rd, a, R, o + 1, _, _, rfl, h1, nv, fun H2 e2 h2 => ?_⟩
  refine ⟨_, rfl, h2.rd, a, R, o + 1, _, _, rfl, h2, fun H3 e3 h3 => ?_⟩
  refine ⟨_, rfl, h3.rd, x, a, R, o + 1, _, rfl, h3, fx, stops (by decide +kernel), fun r4 H4 e4 h4 q4 => ?_⟩
  refine ⟨_, rfl, h4.rd, a, R, o + 1, _, _, rfl, h4, fun H5 e5 h5 => ?_⟩
  refine ⟨_, rfl, h5.rd, y, a, R, o + 1, rest, rfl, h5, fy, st, fun r6 H6 e6 h6 q6 => ?_⟩
  refine ⟨_, rfl, h6.rd, a, R, o, rest, rfl, h6, fun H7 e7 h7 => ?_⟩
  refine ⟨_, rfl, _, rfl, _, rfl, by show 4 ≤ sizeLine; decide, fun pt hpt => ?_⟩
  have e8 : Ext [a] H7 (upd H7 pt (.tup [.str (K13.o "let"), .str v, r4, r6])) := (Ext.new (ms := []) hpt).nil
  refine q _ _ (((((e1.trans e2).trans e3).trans (e4.trans e5)).trans (e6.trans e7)).trans e8) (h7.ex0 (.new hpt)) ?_
  refine ⟨pt, _, rfl, SqT.of upd_same, _, _, rfl, rfl, _, _, rfl, rfl, _, _, rfl, ?_, _, _, rfl, ?_, rfl⟩
  · exact (((((q4.past e5 h4).past e6 h5).past e7 h6).past e8 h7))
  · exact ((q6.past e7 h6).past e8 h7)
theorem sc_R_choice : FnScope ["self", "test", "chosen", "other"] ["self"] (defScope s_R_choice) := ⟨rfl, rfl, rfl, by decide +kernel, rfl, by decide +kernel, by decide +kernel⟩
theorem ok_choice (T : Tx w K mg) {n m : Nat} (CE : ∀ m, Met P w K mg base "expression" (11 * m + 12) ["self"] (sp_expr K n m)) : Met P w K mg base "choice" (11 * m + 2) ["self"] (sp_head K (n + 1) m (· = .ite_)) := by
  have C_enter := ok_enter T (P := P) (base := base)
  have C_leave := ok_leave T (P := P) (base := base)
  have C_take := ok_take T (P := P) (base := base)
  refine Met.of T.cl T.f_R_choice T.me_choice sc_R_choice (fun _ _ _ _ _ _ us hl => match us, hl with | [_], _ => rfl) (fun vs H Q E h => ?_) (fun f cdv A outer s H vs Q E hr h => ?_)
  · obtain ⟨d, a, R, o, rest, rfl, _⟩ := h; rfl
  obtain ⟨d, a, R, o, rest, rfl, hrs, fit, ⟨⟨h, cs, rfl, rfl⟩, st⟩, q⟩ := h
  obtain ⟨m, rfl, lo⟩ := fit.opn (by show 1 ≤ 0 + 1; omega)
  obtain ⟨x, y, z, rfl⟩ := len3 fit.wf.hd
  have fx := fit.kid (c := x) (by simp) rfl
  have fy := fit.kid (c := y) (by simp) rfl
  have fz := fit.kid (c := z) (by simp) rfl
  have C_expression := CE m
  rw [ptk_if] at hrs
  simp only [List.cons_append, List.append_assoc] at hrs
  refine ⟨_, pss_cons (ps_expr (pe_met0 C_enter (hr.mono (by omega)) (fun _ _ _ _ => rfl) (pv 0)))
    (pss_cons (ps_set (i := 1) sc_R_choice.nd rfl (Or.inl rfl) (pe_met0 C_expression (hr.mono (by omega)) (fun _ _ _ _ => rfl) (pv 0)))
    (pss_cons (ps_expr (pe_met C_take (hr.mono (by omega)) (fun _ _ _ _ => rfl) (pv 0) (pa_cons (pe_str) pa_nil)))
    (pss_cons (ps_set (i := 2) sc_R_choice.nd rfl (Or.inl rfl) (pe_met0 C_expression (hr.mono (by omega)) (fun _ _ _ _ => rfl) (pv 0)))
    (pss_cons (ps_expr (pe_met C_take (hr.mono (by omega)) (fun _ _ _ _ => rfl) (pv 0) (pa_cons (pe_str) pa_nil)))
    (pss_cons (ps_set (i := 3) sc_R_choice.nd rfl (Or.inl rfl) (pe_met0 C_expression (hr.mono (by omega)) (fun _ _ _ _ => rfl) (pv 0)))
    (pss_cons (ps_expr (pe_met0 C_leave (hr.mono (by omega)) (fun _ _ _ _ => rfl) (pv 0)))
    (pss_one (ps_ret (pe_tup (pa_cons (pe_str) (pa_cons (pv 1) (pa_cons (pv 2) (pa_cons (pv 3) pa_nil))))))))))))), ?_⟩
  refine ⟨_, rfl, hrs.rd, a, R, o, _, _, rfl, hrs, lo, fun H1 e1 h1 => ?_⟩
  refine ⟨_, rfl, h1.rd, x, a, R, o + 1, _, rfl, h1, fx, stops (by decide +kernel), fun r2 H2 e2 h2 q2 => ?_⟩
  refine ⟨_, rfl, h2.rd, a, R, o + 1, _, _, rfl, h2, fun H3 e3 h3 => ?_⟩
  refine ⟨_, rfl, h3.rd, y, a, R, o + 1, _, rfl, h3, fy, stops (by decide +kernel), fun r4 H4 e4 h4 q4 => ?_⟩
  refine ⟨_, rfl, h4.rd, a, R, o + 1, _, _, rfl, h4, fun H5 e5 h5 => ?_⟩
  refine ⟨_, rfl, h5.rd, z, a, R, o + 1, rest, rfl, h5, fz, st, fun r6 H6 e6 h6 q6 => ?_⟩
  refine ⟨_, rfl, h6.rd, a, R, o, rest, rfl, h6, fun H7 e7 h7 => ?_⟩
  refine ⟨_, rfl, _, rfl, _, rfl, by show 4 ≤ sizeLine; decide, fun pt hpt => ?_⟩
  have e8 : Ext [a] H7 (upd H7 pt (.tup [.str (K13.o "if"), r2, r4, r6])) := (Ext.new (ms := []) hpt).nil
  refine q _ _ (((((e1.trans e2).trans e3).trans (e4.trans e5)).trans (e6.trans e7)).trans e8) (h7.ex0 (.new hpt)) ?_
  refine ⟨pt, _, rfl, SqT.of upd_same, _, _, rfl, rfl, _, _, rfl, ?_, _, _, rfl, ?_, _, _, rfl, ?_, rfl⟩
  · exact ((((((q2.past e3 h2).past e4 h3).past e5 h4).past e6 h5).past e7 h6).past e8 h7)
  · exact (((((q4.past e5 h4).past e6 h5).past e7 h6).past e8 h7))
  · exact ((q6.past e7 h6).past e8 h7)
theorem sc_R_folding : FnScope ["self", "variable", "result", "row", "start", "body"] ["self"] (defScope s_R_folding) := ⟨rfl, rfl, rfl, by decide +kernel, rfl, by decide +kernel, by decide +kernel⟩
theorem ok_folding (T : Tx w K mg) {n m : Nat} (CE : ∀ m, Met P w K mg base "expression" (11 * m + 12) ["self"] (sp_expr K n m)) : Met P w K mg base "folding" (11 * m + 2) ["self"] (sp_head K (n + 1) m (fun h => ∃ v u, h = .fold v u)) := by
  have C_enter := ok_enter T (P := P) (base := base)
  have C_leave := ok_leave T (P := P) (base := base)
  have C_take := ok_take T (P := P) (base := base)
  have C_name := ok_name T (P := P) (base := base)
  refine Met.of T.cl T.f_R_folding T.me_folding sc_R_folding (fun _ _ _ _ _ _ us hl => match us, hl with | [_], _ => rfl) (fun vs H Q E h => ?_) (fun f cdv A outer s H vs Q E hr h => ?_)
  · obtain ⟨d, a, R, o, rest, rfl, _⟩ := h; rfl
  obtain ⟨d, a, R, o, rest, rfl, hrs, fit, ⟨⟨h, cs, rfl, v, u, rfl⟩, st⟩, q⟩ := h
  obtain ⟨m, rfl, lo⟩ := fit.opn (by show 1 ≤ 0 + 1; omega)
  obtain ⟨x, y, z, rfl⟩ := len3 fit.wf.hd.1
  have nv : Name v := fit.wf.hd.2.1
  have nu : Name u := fit.wf.hd.2.2
  have fx := fit.kid (c := x) (by simp) rfl
  have fy := fit.kid (c := y) (by simp) rfl
  have fz := fit.kid (c := z) (by simp) rfl
  have C_expression := CE m
  rw [ptk_fold nv.toWord nu.toWord] at hrs
  simp only [List.cons_append, List.append_assoc] at hrs
  refine ⟨_, pss_cons (ps_expr (pe_met0 C_enter (hr.mono (by omega)) (fun _ _ _ _ => rfl) (pv 0)))
    (pss_cons (ps_set (i := 1) sc_R_folding.nd rfl (Or.inl rfl) (pe_met0 C_name (hr.mono (by omega)) (fun _ _ _ _ => rfl) (pv 0)))
    (pss_cons (ps_set (i := 2) sc_R_folding.nd rfl (Or.inl rfl) (pe_met0 C_name (hr.mono (by omega)) (fun _ _ _ _ => rfl) (pv 0)))
    (pss_cons (ps_expr (pe_met C_take (hr.mono (by omega)) (fun _ _ _ _ => rfl) (pv 0) (pa_cons (pe_str) pa_nil)))
    (pss_cons (ps_set (i := 3) sc_R_folding.nd rfl (Or.inl rfl) (pe_met0 C_expression (hr.mono (by omega)) (fun _ _ _ _ => rfl) (pv 0)))
    (pss_cons (ps_expr (pe_met C_take (hr.mono (by omega)) (fun _ _ _ _ => rfl) (pv 0) (pa_cons (pe_str) pa_nil)))
    (pss_cons (ps_set (i := 4) sc_R_folding.nd rfl (Or.inl rfl) (pe_met0 C_expression (hr.mono (by omega)) (fun _ _ _ _ => rfl) (pv 0)))
    (pss_cons (ps_expr (pe_met C_take (hr.mono (by omega)) (fun _ _ _ _ => rfl) (pv 0) (pa_cons (pe_str) pa_nil)))
    (pss_cons (ps_set (i := 5) sc_R_folding.nd rfl (Or.inl rfl) (pe_met0 C_expression (hr.mono (by omega)) (fun _ _ _ _ => rfl) (pv 0)))
    (pss_cons (ps_expr (pe_met0 C_leave (hr.mono (by omega)) (fun _ _ _ _ => rfl) (pv 0)))
    (pss_one (ps_ret (pe_tup (pa_cons (pe_str) (pa_cons (pv 1) (pa_cons (pv 2) (pa_cons (pv 3) (pa_cons (pv 4) (pa_cons (pv 5) pa_nil)))))))))))))))))), ?_⟩
  refine ⟨_, rfl, hrs.rd, a, R, o, _, _, rfl, hrs, lo, fun H1 e1 h1 => ?_⟩
  refine ⟨_, rfl, h1.rd, a, R, o + 1, _, _, rfl, h1, nv, fun G1 d1 g1 => ?_⟩
  refine ⟨_, rfl, g1.rd, a, R, o + 1, _, _, rfl, g1, nu, fun G2 d2 g2 => ?_⟩
  refine ⟨_, rfl, g2.rd, a, R, o + 1, _, _, rfl, g2, fun G3 d3 g3 => ?_⟩
  refine ⟨_, rfl, g3.rd, x, a, R, o + 1, _, rfl, g3, fx, stops (by decide +kernel), fun r2 H2 e2 h2 q2 => ?_⟩
  refine ⟨_, rfl, h2.rd, a, R, o + 1, _, _, rfl, h2, fun H3 e3 h3 => ?_⟩
  refine ⟨_, rfl, h3.rd, y, a, R, o + 1, _, rfl, h3, fy, stops (by decide +kernel), fun r4 H4 e4 h4 q4 => ?_⟩
  refine ⟨_, rfl, h4.rd, a, R, o + 1, _, _, rfl, h4, fun H5 e5 h5 => ?_⟩
  refine ⟨_, rfl, h5.rd, z, a, R, o + 1, rest, rfl, h5, fz, st, fun r6 H6 e6 h6 q6 => ?_⟩
  refine ⟨_, rfl, h6.rd, a, R, o, rest, rfl, h6, fun H7 e7 h7 => ?_⟩
  refine ⟨_, rfl, _, rfl, _, rfl, _, rfl, _, rfl, by show 6 ≤ sizeLine; decide, fun pt hpt => ?_⟩
  have e8 : Ext [a] H7 (upd H7 pt (.tup [.str (K13.o "fold"), .str v, .str u, r2, r4, r6])) := (Ext.new (ms := []) hpt).nil
  refine q _ _ ((((((e1.trans d1).trans (d2.trans d3)).trans (e2.trans e3)).trans (e4.trans e5)).trans (e6.trans e7)).trans e8) (h7.ex0 (.new hpt)) ?_
  refine ⟨pt, _, rfl, SqT.of upd_same, _, _, rfl, rfl, _, _, rfl, rfl, _, _, rfl, rfl, _, _, rfl, ?_, _, _, rfl, ?_, _, _, rfl, ?_, rfl⟩
  · exact ((((((q2.past e3 h2).past e4 h3).past e5 h4).past e6 h5).past e7 h6).past e8 h7)
  · exact (((((q4.past e5 h4).past e6 h5).past e7 h6).past e8 h7))
  · exact ((q6.past e7 h6).past e8 h7)
theorem sc_R_bracket : FnScope ["self", "term"] ["self"] (defScope s_R_bracket) := ⟨rfl, rfl, rfl, by decide +kernel, rfl, by decide +kernel, by decide +kernel⟩
/-- brackets around a term, or a pair -/
def sp_bracket (K : PySem.W.Frag) (n m : Nat) : Sp := spG K n m fun d rest => ∃ p h cs, d = .mk p h cs ∧ (1 ≤ p ∨ p = 0 ∧ h = .pair)
theorem ok_bracket (T : Tx w K mg) {n m : Nat} (CE : ∀ m, Met P w K mg base "expression" (11 * m + 12) ["self"] (sp_expr K n m)) : Met P w K mg base "bracket" (11 * m + 2) ["self"] (sp_bracket K (n + 1) m) := by
  have C_enter := ok_enter T (P := P) (base := base)
  have C_leave := ok_leave T (P := P) (base := base)
  have C_take := ok_take T (P := P) (base := base)
  have C_token := ok_token T (P := P) (base := base)
  have C_step := ok_step T (P := P) (base := base)
  refine Met.of T.cl T.f_R_bracket T.me_bracket sc_R_bracket (fun _ _ _ _ _ _ us hl => match us, hl with | [_], _ => rfl) (fun vs H Q E h => ?_) (fun f cdv A outer s H vs Q E hr h => ?_)
  · obtain ⟨d, a, R, o, rest, rfl, _⟩ := h; rfl
  obtain ⟨d, a, R, o, rest, rfl, hrs, fit, ⟨p, h, cs, rfl, hp⟩, q⟩ := h
  obtain ⟨m, rfl, lo⟩ := fit.opn (by rcases hp with hp | ⟨rfl, rfl⟩; omega; show 1 ≤ 0 + 1; omega)
  have C_expression := CE m
  refine ⟨_, pss_cons (ps_expr (pe_met0 C_enter (hr.mono (by omega)) (fun _ _ _ _ => rfl) (pv 0)))
    (pss_cons (ps_set (i := 1) sc_R_bracket.nd rfl (Or.inl rfl) (pe_met0 C_expression (hr.mono (by omega)) (fun _ _ _ _ => rfl) (pv 0)))
    (pss_cons (ps_if (pt_cmpR op_eq (pe_met0 C_token (hr.mono (by omega)) (fun _ _ _ _ => rfl) (pv 0)) (pe_str) (nomark _))
    (pss_cons (ps_expr (pe_met0 C_step (hr.mono (by omega)) (fun _ _ _ _ => rfl) (pv 0)))
      (pss_one (ps_set (i := 1) sc_R_bracket.nd rfl (Or.inl rfl) (pe_tup (pa_cons (pe_str) (pa_cons (pv 1) (pa_cons (pe_met0 C_expression (hr.mono (by omega)) (fun _ _ _ _ => rfl) (pv 0)) pa_nil)))))))
    (pss_nil))
    (pss_cons (ps_expr (pe_met C_take (hr.mono (by omega)) (fun _ _ _ _ => rfl) (pv 0) (pa_cons (pe_str) pa_nil)))
    (pss_cons (ps_expr (pe_met0 C_leave (hr.mono (by omega)) (fun _ _ _ _ => rfl) (pv 0)))
    (pss_one (ps_ret (pv 1))))))), ?_⟩
  rcases hp with hp | ⟨rfl, rfl⟩
  · obtain ⟨p, rfl⟩ : ∃ p', p = p' + 1 := ⟨p - 1, by omega⟩
    have fx : Fit (.mk p h cs) n m (o + 1) := by
      obtain ⟨f1, f2, f3, f4, f5⟩ := fit
      rw [sz_mk] at f3
      rw [nest_mk] at f4 f5
      exact ⟨f1, f2, by rw [sz_mk]; omega, by rw [nest_mk]; omega, by rw [nest_mk]; omega⟩
    rw [ptk_wrap] at hrs
    simp only [List.cons_append, List.append_assoc, List.nil_append] at hrs
    refine ⟨_, rfl, hrs.rd, a, R, o, _, _, rfl, hrs, lo, fun H1 e1 h1 => ?_⟩
    refine ⟨_, rfl, h1.rd, _, a, R, o + 1, _, rfl, h1, fx, stops (by decide +kernel), fun r2 H2 e2 h2 q2 => ?_⟩
    refine ⟨_, rfl, h2.rd, a, R, o + 1, _, rfl, h2, rfl, _, rfl, ?_⟩
    rw [show decide (V.str (hd0 (K13.o ")" :: rest)) = V.str (Str.ofString ",")) = false from decide_eq_false fun z => absurd (V.str.inj z) (show ¬ K13.o ")" = K13.o "," by decide +kernel)]
    refine iteF ⟨_, rfl, h2.rd, a, R, o + 1, _, _, rfl, h2, fun H3 e3 h3 => ?_⟩
    refine ⟨_, rfl, h3.rd, a, R, o, rest, rfl, h3, fun H4 e4 h4 => ?_⟩
    refine ⟨_, rfl, q _ _ ((e1.trans e2).trans (e3.trans e4)) h4 ?_⟩
    rw [enc_p (p + 1) p]
    exact (q2.past e3 h2).past e4 h3
  · obtain ⟨x, y, rfl⟩ := len2 fit.wf.hd
    have fx := fit.kid (c := x) (by simp) rfl
    have fy := fit.kid (c := y) (by simp) rfl
    rw [ptk_pair] at hrs
    simp only [List.cons_append, List.append_assoc, List.nil_append] at hrs
    refine ⟨_, rfl, hrs.rd, a, R, o, _, _, rfl, hrs, lo, fun H1 e1 h1 => ?_⟩
    refine ⟨_, rfl, h1.rd, _, a, R, o + 1, _, rfl, h1, fx, stops (by decide +kernel), fun r2 H2 e2 h2 q2 => ?_⟩
    refine ⟨_, rfl, h2.rd, a, R, o + 1, _, rfl, h2, rfl, _, rfl, ?_⟩
    generalize hg : K13.o "," :: (ptk y ++ K13.o ")" :: rest) = g at h2 ⊢
    rw [show decide (V.str (hd0 g) = V.str (Str.ofString ",")) = true by rw [← hg]; exact decide_eq_true rfl]
    subst hg
    refine iteT ⟨_, rfl, h2.rd, a, R, o + 1, _, _, rfl, h2, fun H3 e3 h3 => ?_⟩
    refine ⟨_, rfl, _, rfl, h3.rd, _, a, R, o + 1, _, rfl, h3, fy, stops (by decide +kernel), fun r4 H4 e4 h4 q4 => ?_⟩
    refine ⟨by show 3 ≤ sizeLine; decide, fun pt hpt => ?_⟩
    have e5 : Ext [a] H4 (upd H4 pt (.tup [.str (K13.o "pair"), r2, r4])) := (Ext.new (ms := []) hpt).nil
    have h5 := h4.ex0 (.new (ms := []) (o := .tup [.str (K13.o "pair"), r2, r4]) hpt)
    have q5 : Rp K (upd H4 pt (.tup [.str (K13.o "pair"), r2, r4])) (enc (.mk 0 .pair [x, y])) (.ref pt) := by
      refine ⟨pt, _, rfl, SqT.of upd_same, _, _, rfl, rfl, _, _, rfl, ?_, _, _, rfl, ?_, rfl⟩
      · exact ((q2.past e3 h2).past e4 h3).past e5 h4
      · exact q4.past e5 h4
    refine ⟨_, rfl, h5.rd, a, R, o + 1, _, _, rfl, h5, fun H6 e6 h6 => ?_⟩
    refine ⟨_, rfl, h6.rd, a, R, o, rest, rfl, h6, fun H7 e7 h7 => ?_⟩
    refine ⟨_, rfl, q _ _ (((e1.trans e2).trans (e3.trans e4)).trans (e5.trans (e6.trans e7))) h7 ?_⟩
    exact (q5.past e6 h5).past e7 h6
end
end K13

/-! W13: Reader: first tokens; series, named -/
namespace K13
open PySem PySem.Spec PyProof.Rows L2
theorem RS.put {K : PySem.W.Frag} {H : Hp} {a R f : Addr} {o : Nat} {rest : List Str} {u v : HO} (h : RS K H a R o rest) (n1 : f ≠ a) (n2 : f ≠ R) (n : NoT H [f]) : RS K (upd H f v) a R o rest := by
  obtain ⟨dx, n, i, rows, rs, h1, h2, h3, h4, h5, h6, h7⟩ := h
  exact ⟨dx, n, i, rows, rs, by rw [upd_ne (Ne.symm n1)]; exact h1, by rw [upd_ne (Ne.symm n2)]; exact h2, h3.ext (ms := [f]) ((Ext.refl _ _).set (by simp)) (by assumption), h4, h5, h6, h7⟩
theorem RS.off {K : PySem.W.Frag} {H : Hp} {a R f : Addr} {o : Nat} {rest : List Str} (h : RS K H a R o rest) (n : H f = none) : f ≠ a ∧ f ≠ R := by
  obtain ⟨dx, n, i, rows, rs, h1, h2, _⟩ := h
  exact ⟨fun z => by subst z; simp_all, fun z => by subst z; simp_all⟩
/-! ### first tokens -/
def nof (lv : Nat) : List Str := ([")", "]", "def"] : List Str) ++ (if 1 ≤ lv then (["let", "if", "fold", "note"] : List Str) else []) ++ (if 7 ≤ lv then (["-", "not"] : List Str) else [])
theorem nof_mono {i j : Nat} (h : i ≤ j) {t : Str} (n : t ∉ nof j) : t ∉ nof i := by
  unfold nof at n ⊢
  simp only [List.mem_append, not_or] at n ⊢
  obtain ⟨⟨n1, n2⟩, n3⟩ := n
  refine ⟨⟨n1, ?_⟩, ?_⟩
  · split
    · rw [if_pos (by omega)] at n2; exact n2
    · exact fun z => nomatch z
  · split
    · rw [if_pos (by omega)] at n3; exact n3
    · exact fun z => nomatch z
theorem word_nof {v : Str} (hv : Word v) (hn : v ∉ tu_RESERVED ∨ v ∈ fnames ∨ v ∈ tu_FACTS) : v ∉ nof 7 := by
  intro h
  have h0 : ∀ s ∈ nof 7, (decide (s ∈ tu_RESERVED) && !decide (s ∈ fnames) && !decide (s ∈ tu_FACTS)) = true ∨ (cd s).any (fun c => !isL c) = true := by decide +kernel
  rcases h0 v h with h1 | h1
  · simp only [Bool.and_eq_true, Bool.not_eq_true', decide_eq_true_eq, decide_eq_false_iff_not] at h1
    rcases hn with hn | hn | hn
    · exact hn h1.1.1
    · exact h1.1.2 hn
    · exact h1.2 hn
  · obtain ⟨c, hc, hd⟩ := List.any_eq_true.mp h1
    rw [hv.all c hc] at hd; cases hd
theorem num_nof {n : Int} (h0 : 0 ≤ n) : o (toString n) ∉ nof 7 := by
  have e : n = ((n.toNat : Nat) : Int) := by omega
  have ht : cd (o (toString n)) = TL.numL n.toNat := by rw [e]; exact TL.tl_num n.toNat
  have h1 : ∀ s ∈ nof 7, (cd s).any (fun c => !isD c) = true := by decide +kernel
  intro h
  obtain ⟨c, hc, hd⟩ := List.any_eq_true.mp (h1 _ h)
  rw [ht] at hc
  rw [numL_isD hc] at hd; cases hd
theorem first_tok : ∀ d : Tm, Wf d → Okd d → ∃ t r, ptk d = t :: r ∧ t ∉ nof d.el := by
  refine Tm.ind fun p h cs ih wf ok => ?_
  cases p with
  | succ p => exact ⟨_, _, ptk_wrap, by show _ ∉ nof 7; decide +kernel⟩
  | zero =>
    have hw := wf.hd
    cases h with
    | num n =>
      obtain ⟨h1, h2, _⟩ := hw
      obtain rfl := List.eq_nil_of_length_eq_zero h1
      exact ⟨_, _, ptk_num h2, num_nof h2⟩
    | tru b =>
      obtain rfl := List.eq_nil_of_length_eq_zero hw
      exact ⟨_, _, ptk_tru, by show _ ∉ nof 7; cases b <;> decide +kernel⟩
    | var v =>
      obtain ⟨h1, h2⟩ := hw
      obtain rfl := List.eq_nil_of_length_eq_zero h1
      exact ⟨_, _, ptk_var h2.toWord, word_nof h2.toWord (.inl h2.free)⟩
    | fact v =>
      obtain ⟨h1, h2⟩ := hw
      obtain rfl := List.eq_nil_of_length_eq_zero h1
      exact ⟨_, _, ptk_fact (fact_word h2), word_nof (fact_word h2) (.inr (.inr h2))⟩
    | fail =>
      obtain rfl := List.eq_nil_of_length_eq_zero hw
      exact ⟨_, _, ptk_fail, by show _ ∉ nof 7; decide +kernel⟩
    | minus =>
      obtain ⟨a, rfl⟩ := len1 hw
      exact ⟨_, _, ptk_minus, by show _ ∉ nof 6; decide +kernel⟩
    | not_ =>
      obtain ⟨a, rfl⟩ := len1 hw
      exact ⟨_, _, ptk_not, by show _ ∉ nof 6; decide +kernel⟩
    | bin s =>
      obtain ⟨h1, h2⟩ := hw
      obtain ⟨a, b, rfl⟩ := len2 h1
      obtain ⟨oc, oks⟩ := okc_of ok
      obtain ⟨t, r, e, n⟩ := ih a (by simp) (wf.sub (by simp)) (oks a (by simp))
      have la := oc 0 a rfl
      simp only [Hd.least, if_true] at la
      refine ⟨t, _, by rw [ptk_bin h2, e]; rfl, nof_mono (j := a.el) ?_ n⟩
      show lvS s ≤ _
      split at la <;> omega
    | pair =>
      obtain ⟨a, b, rfl⟩ := len2 hw
      exact ⟨_, _, ptk_pair, by show _ ∉ nof 7; decide +kernel⟩
    | list => exact ⟨_, _, ptk_list, by show _ ∉ nof 7; decide +kernel⟩
    | call f =>
      have wd := call_word hw.2
      exact ⟨_, _, ptk_call wd, word_nof wd (hw.2.elim (fun h => .inl h.free) fun h => .inr (.inl h))⟩
    | let_ v =>
      obtain ⟨h1, h2⟩ := hw
      obtain ⟨a, b, rfl⟩ := len2 h1
      exact ⟨_, _, ptk_let h2.toWord, by show _ ∉ nof 0; decide +kernel⟩
    | ite_ =>
      obtain ⟨a, b, c, rfl⟩ := len3 hw
      exact ⟨_, _, ptk_if, by show _ ∉ nof 0; decide +kernel⟩
    | fold x s =>
      obtain ⟨h1, h2, h3⟩ := hw
      obtain ⟨a, b, c, rfl⟩ := len3 h1
      exact ⟨_, _, ptk_fold h2.toWord h3.toWord, by show _ ∉ nof 0; decide +kernel⟩
    | note =>
      obtain ⟨a, b, rfl⟩ := len2 hw
      exact ⟨_, _, ptk_note, by show _ ∉ nof 0; decide +kernel⟩
/-! ### series -/
def flatc : List Tm → List Str
  | [] => []
  | c :: r => o "," :: (ptk c ++ flatc r)
theorem sepc_cons : ∀ (c : Tm) (cs : List Tm), sepc ((c :: cs).map ptk) = ptk c ++ flatc cs
  | c, [] => by simp [sepc, flatc]
  | c, b :: r => by
    have := sepc_cons b r
    simp only [List.map_cons, sepc, flatc] at this ⊢
    rw [this]
section
variable {P : Program} {w : World} {K : PySem.W.Frag} {mg : Str → Option Value} {base : Heap}
def sp_series (K : PySem.W.Frag) (n m : Nat) : Sp := fun vs H Q _ => ∃ (a R : Addr) (o : Nat) (cl : Str) (most : Nat) (t : Str) (cs : List Tm) (rest : List Str), vs = [.ref a, .str cl, .int (most : Int)] ∧ (cl = K13.o ")" ∨ cl = K13.o "]") ∧ RS K H a R o (t :: (sepc (cs.map ptk) ++ cl :: rest)) ∧ o < 16 ∧ cs.length ≤ most ∧ most ≤ 8 ∧ (∀ c ∈ cs, Fit c n m (o + 1)) ∧
  ∀ l xs H', Ext [a] H H' → RS K H' a R o rest → SqT K H' l xs → RpL K H' (cs.map enc) xs → Q (.ref l) H'
theorem sc_R_series : FnScope ["self", "closing", "most", "found"] ["self", "closing", "most"] (defScope s_R_series) := ⟨rfl, rfl, rfl, by decide +kernel, rfl, by decide +kernel, by decide +kernel⟩
theorem ok_series (T : Tx w K mg) {n m : Nat} (CE : Met P w K mg base "expression" (11 * m + 12) ["self"] (sp_expr K n m)) : Met P w K mg base "series" (11 * m + 13) ["self", "closing", "most"] (sp_series K n m) := by
  have C_enter := ok_enter T (P := P) (base := base)
  have C_leave := ok_leave T (P := P) (base := base)
  have C_take := ok_take T (P := P) (base := base)
  have C_token := ok_token T (P := P) (base := base)
  have C_comma := ok_comma T (P := P) (base := base)
  have C_expression := CE
  refine Met.of T.cl T.f_R_series T.me_series sc_R_series (fun _ _ _ _ _ _ us hl => match us, hl with | [_, _, _], _ => rfl) (fun vs H Q E h => ?_) (fun f cdv A outer s H vs Q E hr h => ?_)
  · obtain ⟨a, R, o, cl, most, t, cs, rest, rfl, _⟩ := h; rfl
  obtain ⟨a, R, o, cl, most, t, cs, rest, rfl, hcl, hrs, lo, lm, m8, fit, q⟩ := h
  have cl_comma : cl ≠ K13.o "," := by rcases hcl with rfl | rfl <;> decide +kernel
  have cl_stop : stopB cl = true := by rcases hcl with rfl | rfl <;> decide +kernel
  refine ⟨_, pss_cons (ps_expr (pe_met0 C_enter (hr.mono (by omega)) (fun _ _ _ _ => rfl) (pv 0)))
    (pss_cons (ps_set (i := 3) sc_R_series.nd rfl (Or.inl rfl) (pe_lst pa_nil))
    (C8.pss_cut (ps_if (pt_cmpR op_ne (pe_met0 C_token (hr.mono (by omega)) (fun _ _ _ _ => rfl) (pv 0)) (pv 1) (nomark _))
    (pss_cons (ps_expr (pe_bm PySem.F.plainAttrs_list PySem.F.slot_list_append PySem.F.type_list_append mt_append (pv 3) (pa_cons (pe_met0 C_expression (hr.mono (by omega)) (fun _ _ _ _ => rfl) (pv 0)) pa_nil)))
      (pss_one (ps_while PassesOwn.never (pt_val (pe_met C_comma (hr.mono (by omega)) (fun _ _ _ _ => rfl) (pv 0) (pa_cons (pe_callB call_len (by rfl) T.n_len (by decide +kernel) (pa_cons (pv 3) pa_nil)) (pa_cons (pv 2) pa_nil))))
      (pss_one (ps_expr (pe_bm PySem.F.plainAttrs_list PySem.F.slot_list_append PySem.F.type_list_append mt_append (pv 3) (pa_cons (pe_met0 C_expression (hr.mono (by omega)) (fun _ _ _ _ => rfl) (pv 0)) pa_nil)))))))
    (pss_nil))
    (pss_cons (ps_expr (pe_met C_take (hr.mono (by omega)) (fun _ _ _ _ => rfl) (pv 0) (pa_cons (pv 1) pa_nil)))
    (pss_cons (ps_expr (pe_met0 C_leave (hr.mono (by omega)) (fun _ _ _ _ => rfl) (pv 0)))
    (pss_one (ps_ret (pe_callTy call_tuple_of (by rfl) T.n_tuple (by decide +kernel) (pa_cons (pv 3) pa_nil)))))))), ?_⟩
  refine ⟨_, rfl, hrs.rd, a, R, o, _, _, rfl, hrs, lo, fun H1 e1 h1 => ?_⟩
  refine ⟨Nat.zero_le _, fun f0 hf0 => ?_⟩
  have e2 : Ext [] H1 (upd H1 f0 (.lst [])) := .new hf0
  have h2 := h1.ex0 e2
  obtain ⟨na, nR⟩ := h1.off hf0
  refine ⟨fun σ' H5 => ∃ xs, σ' = [some (.ref a), some (.str cl), some (.int (most : Int)), some (.ref f0)] ∧ Ext [a] H1 H5 ∧ H5 f0 = some (.lst xs) ∧ RS K H5 a R (o + 1) (cl :: rest) ∧ RpL K H5 (cs.map enc) xs, ?_, ?_⟩
  rotate_left
  · rintro σ' H5 ⟨xs, rfl, e5, hf, h5, rl⟩
    refine ⟨_, rfl, h5.rd, _, rfl, a, R, o + 1, cl, rest, rfl, h5, fun H6 e6 h6 => ?_⟩
    refine ⟨_, rfl, h6.rd, a, R, o, rest, rfl, h6, fun H7 e7 h7 => ?_⟩
    have hf7 := e7 _ _ (e6 _ _ hf (by simpa using na)) (by simpa using na)
    refine ⟨_, rfl, f0, xs, rfl, .inl ⟨.of hf7, fun l hl => ?_⟩⟩
    have e8 : Ext [] H7 (upd H7 l (.tup xs)) := .new hl
    exact q l xs _ (((e1.trans e5).trans (e6.trans e7)).trans e8.nil) (h7.ex0 e8) (SqT.of upd_same) (((rl.ext e6 h5.not).ext e7 h6.not).ex0 e8)
  cases cs with
  | nil =>
    have h2 : RS K (upd H1 f0 (.lst [])) a R (o + 1) (cl :: rest) := h2
    refine ⟨_, rfl, h2.rd, a, R, o + 1, _, rfl, h2, _, rfl, rfl, _, rfl, ?_⟩
    rw [show decide (V.str (hd0 (cl :: rest)) = V.str cl) = true from decide_eq_true rfl]
    refine iteF ?_
    exact ⟨[], rfl, (Ext.refl _ _).own hf0, upd_same, h2, rfl⟩
  | cons c cs =>
    have wc := (fit c (by simp)).wf
    have kc := (fit c (by simp)).ok
    obtain ⟨t0, r0, et, nt⟩ := first_tok c wc kc
    rw [sepc_cons] at h2
    simp only [List.append_assoc] at h2
    have hne : hd0 (ptk c ++ (flatc cs ++ cl :: rest)) ≠ cl := by
      rw [et]
      have nt := nof_mono (Nat.zero_le _) nt
      show t0 ≠ cl
      intro z
      apply nt
      rw [z]
      rcases hcl with rfl | rfl <;> decide +kernel
    have hst : ∀ cs : List Tm, Stop 0 (hd0 (flatc cs ++ cl :: rest)) := fun cs => by
      cases cs with
      | nil => exact stops cl_stop
      | cons b r => exact stops (by decide +kernel)
    refine ⟨_, rfl, h2.rd, a, R, o + 1, _, rfl, h2, _, rfl, rfl, _, rfl, ?_⟩
    rw [show decide (V.str (hd0 (ptk c ++ (flatc cs ++ cl :: rest))) = V.str cl) = false from decide_eq_false fun z => hne (V.str.inj z)]
    refine iteT ⟨_, rfl, .inl ⟨rfl, _, SqL.of upd_same⟩, _, rfl, h2.rd, c, a, R, o + 1, _, rfl, h2, fit c (by simp), hst cs, fun r3 H3 e3 h3 q3 => ?_⟩
    have hf3 : H3 f0 = some (.lst []) := e3 _ _ upd_same (by simpa using na)
    refine ⟨f0, [], _, rfl, rfl, hf3, by show 0 < sizeLine; decide, ?_⟩
    have ee : Ext [a] H1 (upd H3 f0 (.lst [r3])) := ((e2.nil).trans e3).own hf0
    have h4 := h3.put (v := .lst [r3]) (u := .lst []) na nR (.lst hf3 .nil)
    have q4 : Rp K (upd H3 f0 (.lst [r3])) (enc c) r3 := q3.ext (ms := [f0]) ((Ext.refl _ _).set (by simp)) (.lst hf3 .nil)
    let W : Nat → L2.St → Hp → Prop := fun m σ H' => ∃ (k : Nat) (xs : List V), m = cs.length - k ∧ k ≤ cs.length ∧ σ = [some (.ref a), some (.str cl), some (.int (most : Int)), some (.ref f0)] ∧ Ext [a] H1 H' ∧ H' f0 = some (.lst xs) ∧ RpL K H' ((c :: cs.take k).map enc) xs ∧ RS K H' a R (o + 1) (flatc (cs.drop k) ++ cl :: rest)
    refine ⟨W, ⟨_, 0, [r3], rfl, Nat.zero_le _, rfl, ee, upd_same, ⟨_, _, rfl, q4, rfl⟩, h4⟩, ?_⟩
    rintro m' σ H' ⟨k, xs, rfl, lk, rfl, e5, hf5, rl5, h5⟩
    have lx : xs.length = k + 1 := by
      have := rl5.length
      rw [List.length_map, List.length_cons, List.length_take] at this
      omega
    refine ⟨_, rfl, h5.rd, _, rfl, _, xs.length, rfl, .inl ⟨xs, SqL.of hf5, rfl⟩, _, rfl, a, R, o + 1, xs.length, most, _, rfl, h5, fun hn => ?_, fun r er => ?_⟩
    · refine ⟨_, rfl, iteF ?_⟩
      have ed : cs.drop k = [] := by
        cases ed : cs.drop k with
        | nil => rfl
        | cons b r => rw [ed] at hn; exact absurd rfl hn
      have ek : cs.take k = cs := by
        have := List.drop_eq_nil_iff.mp ed
        rw [List.take_of_length_le this]
      rw [ek] at rl5
      rw [ed] at h5
      exact ⟨xs, rfl, e5, hf5, h5, rl5⟩
    · cases ed : cs.drop k with
      | nil =>
        rw [ed] at er
        exact absurd (List.cons.inj er).1 cl_comma
      | cons b r' =>
        rw [ed] at er
        have er : (ptk b ++ flatc r') ++ (cl :: rest) = r := (List.cons.inj er).2
        have hb : cs[k]? = some b := by
          have := congrArg (·[0]?) ed
          simpa using this
        have er' : cs.drop (k + 1) = r' := by rw [← List.drop_drop, ed]; rfl
        have lk2 : k < cs.length := by
          have := (List.getElem?_eq_some_iff.mp hb).1
          exact this
        have ll : (c :: cs).length ≤ most := lm
        rw [List.length_cons] at ll
        refine ⟨by omega, fun H6 e6 h6 => ⟨_, rfl, iteT ?_⟩⟩
        refine ⟨W (cs.length - (k + 1)), fun σ' H'' n => ⟨_, by omega, n⟩, ?_⟩
        have hf6 := e6 _ _ hf5 (by simpa using na)
        rw [← er, List.append_assoc] at h6
        refine ⟨_, rfl, .inl ⟨rfl, _, SqL.of hf6⟩, _, rfl, h6.rd, b, a, R, o + 1, _, rfl, h6, fit b (by simp [mem_at hb]), hst r', fun r7 H7 e7 h7 q7 => ?_⟩
        have hf7 := e7 _ _ hf6 (by simpa using na)
        refine ⟨f0, xs, _, rfl, rfl, hf7, small' (by omega), ?_⟩
        refine ⟨k + 1, xs ++ [r7], rfl, lk2, rfl, ((e5.trans e6).trans e7).own hf0, upd_same, ?_, ?_⟩
        · rw [take_snoc hb, ← List.cons_append, List.map_append]
          refine RpL.snoc ?_ (q7.ext (ms := [f0]) ((Ext.refl _ _).set (by simp)) (.lst hf7 .nil))
          exact ((rl5.ext e6 h5.not).ext e7 h6.not).ext (ms := [f0]) ((Ext.refl _ _).set (by simp)) (.lst hf7 .nil)
        · rw [er']
          exact h7.put (u := .lst xs) na nR (.lst hf7 .nil)
end
end K13

/-! W14: Reader: named, simple -/
namespace K13
open PySem PySem.Spec PyProof.Rows L2
theorem itN {t s : Str} {A B : Prop} (h : t ≠ s) (b : B) : if decide (V.str t = V.str s) = true then A else B := by
  rw [decide_eq_false (show ¬ V.str t = V.str s from fun z => h (V.str.inj z))]
  exact iteF b
theorem itY {t s : Str} {A B : Prop} (h : t = s) (a : A) : if decide (V.str t = V.str s) = true then A else B := by
  rw [decide_eq_true (show V.str t = V.str s from congrArg V.str h)]
  exact iteT a
theorem lookup_some : ∀ {l : List (Str × Int)} {v : Str}, (l.lookup v).isSome = decide (v ∈ l.map (·.1))
  | [], v => rfl
  | (k, i) :: r, v => by
    rw [List.lookup_cons]
    by_cases e : v = k
    · subst e; simp
    · rw [show (v == k) = false from by simpa using e]
      simp [lookup_some (l := r), e]
theorem fns_some {v : Str} : (kv_FUNCTIONS.lookup v).isSome = decide (v ∈ fnames) := lookup_some
theorem name_fn {v : Str} (h : Name v) : v ∉ fnames := fun z => h.free ((by decide +kernel : ∀ s ∈ fnames, s ∈ tu_RESERVED) v z)
theorem wne {v s : Str} (h : Word v) (hs : (cd s).all isL = false ∨ cd s = []) : v ≠ s := fun z => by
  subst z
  rcases hs with hs | hs
  · rw [List.all_eq_true.mpr h.all] at hs; cases hs
  · exact h.pos hs
section
variable {P : Program} {w : World} {K : PySem.W.Frag} {mg : Str → Option Value} {base : Heap}
def sp_ser (K : PySem.W.Frag) (n m : Nat) : Sp := fun vs H Q E => ∃ m', m = m' + 1 ∧ sp_series K n m' vs H Q E
theorem ok_ser (T : Tx w K mg) {n : Nat} (CE : ∀ m, Met P w K mg base "expression" (11 * m + 12) ["self"] (sp_expr K n m)) : ∀ m, Met P w K mg base "series" (11 * m + 2) ["self", "closing", "most"] (sp_ser K n m)
  | 0 => Met.none_ T.cl T.f_R_series T.me_series (fun _ _ _ _ _ _ us hl => match us, hl with | [_, _, _], _ => rfl) (fun vs H Q E h => by obtain ⟨m', h, _⟩ := h; omega)
  | m + 1 => ((ok_series T (CE m)).imp fun vs H Q E h => by obtain ⟨m', e, h⟩ := h; cases (show m' = m by omega); exact h).mono (by omega)
def sp_named (K : PySem.W.Frag) (n m : Nat) : Sp := fun vs H Q _ => ∃ (a R : Addr) (o : Nat) (v : Str) (d : Tm) (ts rest : List Str), vs = [.ref a, .str v] ∧ RS K H a R o (ts ++ rest) ∧ Fit d n m o ∧ Got K H a R o rest d Q ∧
  ((∃ cs, d = .mk 0 (.call v) cs ∧ ts = K13.o "(" :: (sepc (cs.map ptk) ++ [K13.o ")"])) ∨ (d = .mk 0 (.var v) [] ∧ ts = [] ∧ Stop 5 (hd0 rest)))
theorem sc_R_named : FnScope ["self", "name"] ["self", "name"] (defScope s_R_named) := ⟨rfl, rfl, rfl, by decide +kernel, rfl, by decide +kernel, by decide +kernel⟩
theorem ok_named (T : Tx w K mg) {n m : Nat} (CE : ∀ m, Met P w K mg base "expression" (11 * m + 12) ["self"] (sp_expr K n m)) : Met P w K mg base "named" (11 * m + 3) ["self", "name"] (sp_named K (n + 1) m) := by
  have C_token := ok_token T (P := P) (base := base)
  have C_series := ok_ser T CE m
  refine Met.of T.cl T.f_R_named T.me_named sc_R_named (fun _ _ _ _ _ _ us hl => match us, hl with | [_, _], _ => rfl) (fun vs H Q E h => ?_) (fun f cdv A outer s H vs Q E hr h => ?_)
  · obtain ⟨a, R, o, v, d, ts, rest, rfl, _⟩ := h; rfl
  obtain ⟨a, R, o, v, d, ts, rest, rfl, hrs, fit, q, h⟩ := h
  refine ⟨_, pss_cons (ps_if (pt_cmpR op_eq (pe_met0 C_token (hr.mono (by omega)) (fun _ _ _ _ => rfl) (pv 0)) (pe_str) (nomark _))
    (pss_one (ps_ret (pe_tup (pa_cons (pe_str) (pa_cons (pv 1) (pa_cons (pe_met C_series (hr.mono (by omega)) (fun _ _ _ _ => rfl) (pv 0) (pa_cons (pe_str) (pa_cons (pe_gi rfl T.i_MOST_PARAMETERS) pa_nil))) pa_nil))))))
    (pss_nil))
    (pss_cons (ps_if (pt_cmpR op_in_kdA (pv 1) (pe_gr rfl T.g_FUNCTIONS) rfl)
    (pss_one (ps_never))
    (pss_nil))
    (pss_one (ps_ret (pe_tup (pa_cons (pe_str) (pa_cons (pv 1) pa_nil)))))), ?_⟩
  refine ⟨_, rfl, hrs.rd, a, R, o, _, rfl, hrs, rfl, _, rfl, ?_⟩
  rcases h with ⟨cs, rfl, rfl⟩ | ⟨rfl, rfl, st⟩
  · obtain ⟨m, rfl, lo⟩ := fit.opn (by show 1 ≤ 0 + 1; omega)
    refine itY rfl ?_
    have h0 : RS K H a R o (K13.o "(" :: (sepc (cs.map ptk) ++ K13.o ")" :: rest)) := by
      have := hrs
      simp only [List.cons_append, List.append_assoc, List.nil_append] at this
      exact this
    refine ⟨_, rfl, _, rfl, h0.rd, m, rfl, a, R, o, _, 4, _, cs, rest, rfl, .inl rfl, h0, lo, ?_, by omega, fun c hc => fit.kid hc rfl, fun l xs H1 e1 h1 hl rl => ?_⟩
    · exact fit.wf.hd.1
    refine ⟨by show 3 ≤ sizeLine; decide, fun pt hpt => ?_⟩
    have e2 : Ext [] H1 (upd H1 pt (.tup [.str (K13.o "call"), .str v, .ref l])) := .new hpt
    refine q _ _ (e1.trans e2.nil) (h1.ex0 e2) ?_
    rw [enc_mk]
    exact ⟨pt, _, rfl, SqT.of upd_same, _, _, rfl, rfl, _, _, rfl, rfl, _, _, rfl, ⟨l, xs, rfl, e2.tup .nil hl, rl.ex0 e2⟩, rfl⟩
  · refine itN (t := hd0 rest) st.1 ?_
    refine ⟨_, rfl, v, _, _, rfl, rfl, kd_FUNS T, _, rfl, ?_⟩
    rw [fns_some, decide_eq_false (name_fn fit.wf.hd.2)]
    refine iteF ⟨_, rfl, by show 2 ≤ sizeLine; decide, fun pt hpt => ?_⟩
    have e2 : Ext [] H (upd H pt (.tup [.str (K13.o "variable"), .str v])) := .new hpt
    refine q _ _ e2.nil (hrs.ex0 e2) ?_
    rw [enc_mk]
    exact ⟨pt, _, rfl, SqT.of upd_same, _, _, rfl, rfl, _, _, rfl, rfl, rfl⟩
def sp_simple (K : PySem.W.Frag) (n m : Nat) : Sp := spG K n m fun d rest => 7 ≤ d.el ∧ Stop 5 (hd0 rest)
theorem sc_R_simple : FnScope ["self"] ["self"] (defScope s_R_simple) := ⟨rfl, rfl, rfl, by decide +kernel, rfl, by decide +kernel, by decide +kernel⟩
/-- the ways of a simple term -/
theorem simple_cases {d : Tm} (wf : Wf d) (e : 7 ≤ d.el) :
    (∃ p h cs r, d = .mk p h cs ∧ (1 ≤ p ∨ p = 0 ∧ h = .pair) ∧ ptk d = o "(" :: r) ∨ (∃ cs, d = .mk 0 .list cs ∧ ptk d = o "[" :: (sepc (cs.map ptk) ++ [o "]"])) ∨ (∃ n : Nat, d = .mk 0 (.num n) [] ∧ n ≤ 1000000000000000 ∧ ptk d = [o (toString (n : Int))]) ∨
    ∃ t ts, ptk d = t :: ts ∧ Word t ∧ ((∃ b, d = .mk 0 (.tru b) [] ∧ t = (if b then o "true" else o "false")) ∨ (d = .mk 0 .fail [] ∧ t = o "fail") ∨ (d = .mk 0 (.fact t) [] ∧ t ∈ tu_FACTS) ∨
      ((Name t ∨ t ∈ fnames) ∧ ((∃ cs, d = .mk 0 (.call t) cs ∧ ts = o "(" :: (sepc (cs.map ptk) ++ [o ")"])) ∨ (d = .mk 0 (.var t) [] ∧ ts = [])))) ∧ ((∃ b, d = .mk 0 (.tru b) []) ∨ d = .mk 0 .fail [] ∨ (∃ v, d = .mk 0 (.fact v) []) → ts = []) := by
  obtain ⟨p, h, cs⟩ := d
  cases p with
  | succ p => exact .inl ⟨_, _, _, _, rfl, .inl (by omega), ptk_wrap⟩
  | zero =>
    have hw := wf.hd
    have e : 7 ≤ h.lv := e
    cases h with
    | num n =>
      obtain ⟨h1, h2, h3⟩ := hw
      obtain rfl := List.eq_nil_of_length_eq_zero h1
      obtain ⟨k, rfl⟩ : ∃ k : Nat, n = (k : Int) := ⟨n.toNat, by omega⟩
      exact .inr (.inr (.inl ⟨k, rfl, by omega, ptk_num h2⟩))
    | tru b =>
      obtain rfl := List.eq_nil_of_length_eq_zero hw
      exact .inr (.inr (.inr ⟨_, _, ptk_tru, wordB_ok (by cases b <;> decide +kernel), .inl ⟨b, rfl, rfl⟩, fun _ => rfl⟩))
    | var v =>
      obtain ⟨h1, h2⟩ := hw
      obtain rfl := List.eq_nil_of_length_eq_zero h1
      exact .inr (.inr (.inr ⟨_, _, ptk_var h2.toWord, h2.toWord, .inr (.inr (.inr ⟨.inl h2, .inr ⟨rfl, rfl⟩⟩)), fun _ => rfl⟩))
    | fact v =>
      obtain ⟨h1, h2⟩ := hw
      obtain rfl := List.eq_nil_of_length_eq_zero h1
      exact .inr (.inr (.inr ⟨_, _, ptk_fact (fact_word h2), fact_word h2, .inr (.inr (.inl ⟨rfl, h2⟩)), fun _ => rfl⟩))
    | fail =>
      obtain rfl := List.eq_nil_of_length_eq_zero hw
      exact .inr (.inr (.inr ⟨_, _, ptk_fail, wordB_ok (by decide +kernel), .inr (.inl ⟨rfl, rfl⟩), fun _ => rfl⟩))
    | minus => exact absurd e (by show ¬ 7 ≤ 6; omega)
    | not_ => exact absurd e (by show ¬ 7 ≤ 6; omega)
    | bin s => exact absurd e (by have := (lvS_pos s).2; show ¬ 7 ≤ lvS s; omega)
    | pair =>
      obtain ⟨a, b, rfl⟩ := len2 hw
      exact .inl ⟨_, _, _, _, rfl, .inr ⟨rfl, rfl⟩, ptk_pair⟩
    | list => exact .inr (.inl ⟨_, rfl, ptk_list⟩)
    | call f =>
      have wd := call_word hw.2
      refine .inr (.inr (.inr ⟨_, _, ptk_call wd, wd, .inr (.inr (.inr ⟨hw.2, .inl ⟨_, rfl, rfl⟩⟩)), fun z => ?_⟩))
      rcases z with ⟨b, z⟩ | z | ⟨v, z⟩ <;> cases z
    | let_ v => exact absurd e (by show ¬ 7 ≤ 0; omega)
    | ite_ => exact absurd e (by show ¬ 7 ≤ 0; omega)
    | fold x s => exact absurd e (by show ¬ 7 ≤ 0; omega)
    | note => exact absurd e (by show ¬ 7 ≤ 0; omega)
theorem ok_simple (T : Tx w K mg) {n m : Nat} (CE : ∀ m, Met P w K mg base "expression" (11 * m + 12) ["self"] (sp_expr K n m)) : Met P w K mg base "simple" (11 * m + 4) ["self"] (sp_simple K (n + 1) m) := by
  have C_token := ok_token T (P := P) (base := base)
  have C_step := ok_step T (P := P) (base := base)
  have C_is_name := ok_is_name T (P := P) (base := base)
  have C_series := ok_ser T CE m
  have C_bracket := ok_bracket T CE (m := m)
  have C_named := ok_named T CE (m := m)
  refine Met.of T.cl T.f_R_simple T.me_simple sc_R_simple (fun _ _ _ _ _ _ us hl => match us, hl with | [_], _ => rfl) (fun vs H Q E h => ?_) (fun f cdv A outer s H vs Q E hr h => ?_)
  · obtain ⟨d, a, R, o, rest, rfl, _⟩ := h; rfl
  obtain ⟨d, a, R, o, rest, rfl, hrs, fit, ⟨el, st⟩, q⟩ := h
  refine ⟨_, pss_cons (ps_if (pt_cmpR op_eq (pe_met0 C_token (hr.mono (by omega)) (fun _ _ _ _ => rfl) (pv 0)) (pe_str) (nomark _))
    (pss_one (ps_ret (pe_met0 C_bracket (hr.mono (by omega)) (fun _ _ _ _ => rfl) (pv 0))))
    (pss_nil))
    (pss_cons (ps_if (pt_cmpR op_eq (pe_met0 C_token (hr.mono (by omega)) (fun _ _ _ _ => rfl) (pv 0)) (pe_str) (nomark _))
    (pss_one (ps_ret (pe_tup (pa_cons (pe_str) (pa_cons (pe_met C_series (hr.mono (by omega)) (fun _ _ _ _ => rfl) (pv 0) (pa_cons (pe_str) (pa_cons (pe_gi rfl T.i_MOST_ITEMS) pa_nil))) pa_nil)))))
    (pss_nil))
    (pss_cons (ps_if (pt_cmpR op_eq (pe_met0 C_token (hr.mono (by omega)) (fun _ _ _ _ => rfl) (pv 0)) (pe_str) (nomark _))
    (pss_one (ps_never))
    (pss_nil))
    (pss_cons (ps_if (pt_cmpR op_in_sign (pe_ix ix_str (pe_met0 C_token (hr.mono (by omega)) (fun _ _ _ _ => rfl) (pv 0)) (pe_int) (fun _ _ => rfl)) (pe_gs rfl T.s_DIGITS) rfl)
    (pss_one (ps_ret (pe_tup (pa_cons (pe_str) (pa_cons (pe_callTy call_int_str (by rfl) T.n_int (by decide +kernel) (pa_cons (pe_met0 C_step (hr.mono (by omega)) (fun _ _ _ _ => rfl) (pv 0)) pa_nil)) pa_nil)))))
    (pss_nil))
    (pss_cons (ps_if (PW.pt (pw_or (pt_cmpR op_eq (pe_met0 C_token (hr.mono (by omega)) (fun _ _ _ _ => rfl) (pv 0)) (pe_str) (nomark _)) (pw_or1 (pt_cmpR op_eq (pe_met0 C_token (hr.mono (by omega)) (fun _ _ _ _ => rfl) (pv 0)) (pe_str) (nomark _)))))
    (pss_one (ps_ret (pe_tup (pa_cons (pe_str) (pa_cons (pe_cmpR op_eq (pe_met0 C_step (hr.mono (by omega)) (fun _ _ _ _ => rfl) (pv 0)) (pe_str) (nomark _)) pa_nil)))))
    (pss_nil))
    (pss_cons (ps_if (pt_cmpR op_eq (pe_met0 C_token (hr.mono (by omega)) (fun _ _ _ _ => rfl) (pv 0)) (pe_str) (nomark _))
    (pss_cons (ps_expr (pe_met0 C_step (hr.mono (by omega)) (fun _ _ _ _ => rfl) (pv 0)))
      (pss_one (ps_ret (pe_tup (pa_cons (pe_str) pa_nil)))))
    (pss_nil))
    (pss_cons (ps_if (pt_cmpR op_in_seq (pe_met0 C_token (hr.mono (by omega)) (fun _ _ _ _ => rfl) (pv 0)) (pe_gr rfl T.g_FACTS) rfl)
    (pss_one (ps_ret (pe_tup (pa_cons (pe_str) (pa_cons (pe_met0 C_step (hr.mono (by omega)) (fun _ _ _ _ => rfl) (pv 0)) pa_nil)))))
    (pss_nil))
    (pss_cons (ps_if (PW.pt (pw_and (pt_cmpR op_notIn_kdA (pe_met0 C_token (hr.mono (by omega)) (fun _ _ _ _ => rfl) (pv 0)) (pe_gr rfl T.g_FUNCTIONS) rfl) (pw_and1 (pt_not (pt_val (pe_cal C_is_name (hr.mono (by omega)) rfl (pa_cons (pe_met0 C_token (hr.mono (by omega)) (fun _ _ _ _ => rfl) (pv 0)) pa_nil)))))))
    (pss_one (ps_never))
    (pss_nil))
    (pss_one (ps_ret (pe_met C_named (hr.mono (by omega)) (fun _ _ _ _ => rfl) (pv 0) (pa_cons (pe_met0 C_step (hr.mono (by omega)) (fun _ _ _ _ => rfl) (pv 0)) pa_nil))))))))))), ?_⟩
  rcases simple_cases fit.wf el with ⟨p, h, cs, r, rfl, hp, et⟩ | ⟨cs, rfl, et⟩ | ⟨k, rfl, hk, et⟩ | ⟨t, ts, et, wt, hc, hts⟩
  · refine ⟨_, rfl, hrs.rd, a, R, o, _, rfl, hrs, rfl, _, rfl, itY (by rw [et]; rfl) ?_⟩
    exact ⟨_, rfl, hrs.rd, _, a, R, o, rest, rfl, hrs, fit, ⟨p, h, cs, rfl, hp⟩, q⟩
  · obtain ⟨m, rfl, lo⟩ := fit.opn (by show 1 ≤ 0 + 1; omega)
    rw [et] at hrs
    simp only [List.cons_append, List.append_assoc, List.nil_append] at hrs
    refine ⟨_, rfl, hrs.rd, a, R, o, _, rfl, hrs, rfl, _, rfl, itN (t := K13.o "[") (by decide +kernel) ?_⟩
    refine ⟨_, rfl, hrs.rd, a, R, o, _, rfl, hrs, rfl, _, rfl, itY rfl ?_⟩
    refine ⟨_, rfl, hrs.rd, m, rfl, a, R, o, _, 8, _, cs, rest, rfl, .inr rfl, hrs, lo, fit.wf.hd, by omega, fun c hc => fit.kid hc rfl, fun l xs H1 e1 h1 hl rl => ?_⟩
    refine ⟨by show 2 ≤ sizeLine; decide, fun pt hpt => ?_⟩
    have e2 : Ext [] H1 (upd H1 pt (.tup [.str (K13.o "list"), .ref l])) := .new hpt
    refine q _ _ (e1.trans e2.nil) (h1.ex0 e2) ?_
    rw [enc_mk]
    exact ⟨pt, _, rfl, SqT.of upd_same, _, _, rfl, rfl, _, _, rfl, ⟨l, xs, rfl, e2.tup .nil hl, rl.ex0 e2⟩, rfl⟩
  · rw [et] at hrs
    simp only [List.cons_append, List.nil_append] at hrs
    have hn : NumTok (K13.o (toString (k : Int))) := ⟨k, hk, TL.tl_num k⟩
    generalize ht : K13.o (toString (k : Int)) = t at *
    obtain ⟨k2, c, r, h1, h2, h3, h4, h5, h6⟩ := hn.shape
    have nos : ∀ s : Str, (cd s).all isD = false ∨ cd s = [] → t ≠ s := fun s hs z => by
      subst z
      rcases hs with hs | hs
      · rw [List.all_eq_true.mpr h5] at hs; cases hs
      · rw [hs] at h2; cases h2
    have lz : t.length ≤ sizeLine := by rw [cd_len]; exact small (by omega)
    have ha : atI t.cps.toList 0 = some c := by
      rw [show t.cps.toList = c :: r from h2]; exact a0
    refine ⟨_, rfl, hrs.rd, a, R, o, _, rfl, hrs, rfl, _, rfl, itN (nos _ (by decide +kernel)) ?_⟩
    refine ⟨_, rfl, hrs.rd, a, R, o, _, rfl, hrs, rfl, _, rfl, itN (nos _ (by decide +kernel)) ?_⟩
    refine ⟨_, rfl, hrs.rd, a, R, o, _, rfl, hrs, rfl, _, rfl, itN (nos _ (by decide +kernel)) ?_⟩
    refine ⟨_, rfl, hrs.rd, a, R, o, _, rfl, hrs, _, _, c, rfl, rfl, lz, ha, c, _, rfl, rfl, _, rfl, ?_⟩
    rw [decide_eq_true (show c ∈ (K13.o "0123456789").cps.toList from (digits_mem c).mpr h4)]
    refine iteT ⟨_, rfl, hrs.rd, a, R, o, t, rest, rfl, hrs, fun H1 e1 h1 => ?_⟩
    refine ⟨t, (k : Int), rfl, ?_, by rw [cd_len]; omega, by show 2 ≤ sizeLine; decide, fun pt hpt => ?_⟩
    · rw [← ht]
      exact TL.int_num (by
        have : cd t = TL.numL k := by rw [← ht]; exact TL.tl_num k
        rw [← this]; omega)
    have e2 : Ext [] H1 (upd H1 pt (.tup [.str (K13.o "number"), .int k])) := .new hpt
    refine q _ _ (e1.trans e2.nil) (h1.ex0 e2) ?_
    rw [enc_mk]
    exact ⟨pt, _, rfl, SqT.of upd_same, _, _, rfl, rfl, _, _, rfl, rfl, rfl⟩
  · have hrs0 := hrs
    rw [et, List.cons_append] at hrs
    obtain ⟨c, r, h2, lc⟩ := wt.shape
    have lz : t.length ≤ sizeLine := by rw [cd_len]; exact small (by have := wt.len; omega)
    have ha : atI t.cps.toList 0 = some c := by
      rw [show t.cps.toList = c :: r from h2]; exact a0
    have nd : c ∉ (K13.o "0123456789").cps.toList := fun z => by
      have := (digits_mem c).mp z
      unfold isD at this
      unfold isL at lc
      have := of_decide_eq_true this
      have := of_decide_eq_true lc
      omega
    refine ⟨_, rfl, hrs.rd, a, R, o, _, rfl, hrs, rfl, _, rfl, itN (wne wt (by decide +kernel)) ?_⟩
    refine ⟨_, rfl, hrs.rd, a, R, o, _, rfl, hrs, rfl, _, rfl, itN (wne wt (by decide +kernel)) ?_⟩
    refine ⟨_, rfl, hrs.rd, a, R, o, _, rfl, hrs, rfl, _, rfl, itN (wne wt (by decide +kernel)) ?_⟩
    refine ⟨_, rfl, hrs.rd, a, R, o, _, rfl, hrs, _, _, c, rfl, rfl, lz, ha, c, _, rfl, rfl, _, rfl, ?_⟩
    rw [decide_eq_false nd]
    refine iteF ?_
    by_cases ht : t = K13.o "true" ∨ t = K13.o "false"
    · have hb : ∃ b, d = .mk 0 (.tru b) [] ∧ t = (if b then K13.o "true" else K13.o "false") := by
        rcases hc with h | ⟨_, h⟩ | ⟨_, h⟩ | ⟨h, _⟩
        · exact h
        · subst h; exact absurd ht (by decide +kernel)
        · rcases ht with rfl | rfl <;> exact absurd h (by decide +kernel)
        · rcases h with h | h
          · rcases ht with rfl | rfl <;> exact absurd (by decide +kernel) h.free
          · rcases ht with rfl | rfl <;> exact absurd h (by decide +kernel)
      obtain ⟨b, rfl, tb⟩ := hb
      obtain rfl := hts (.inl ⟨b, rfl⟩)
      have go : ∀ H1, Ext [a] H H1 → RS K H1 a R o rest → ∀ pt, H1 pt = none → Q (.ref pt) (upd H1 pt (.tup [.str (K13.o "truth"), .bl (decide (V.str t = V.str (K13.o "true")))])) := fun H1 e1 h1 pt hpt => by
        have e2 : Ext [] H1 (upd H1 pt (.tup [.str (K13.o "truth"), .bl (decide (V.str t = V.str (K13.o "true")))])) := .new hpt
        refine q _ _ (e1.trans e2.nil) (h1.ex0 e2) ?_
        have eb : decide (V.str t = V.str (K13.o "true")) = b := by
          subst tb
          cases b
          · exact decide_eq_false fun z => absurd (V.str.inj z) (by decide +kernel)
          · exact decide_eq_true rfl
        rw [enc_mk, eb]
        exact ⟨pt, _, rfl, SqT.of upd_same, _, _, rfl, rfl, _, _, rfl, rfl, rfl⟩
      refine ⟨_, rfl, hrs.rd, a, R, o, _, rfl, hrs, rfl, _, rfl, ite2 (fun z => ?_) fun z => ?_⟩
      · refine iteT ?_
        exact ⟨_, rfl, hrs.rd, a, R, o, t, _, rfl, hrs, fun H1 e1 h1 => ⟨rfl, by show 2 ≤ sizeLine; decide, fun pt hpt => go H1 e1 h1 pt hpt⟩⟩
      · have tf : t = K13.o "false" := ht.resolve_left fun y => z (decide_eq_true (congrArg V.str y))
        refine ⟨_, rfl, hrs.rd, a, R, o, _, rfl, hrs, rfl, _, rfl, itY tf ?_⟩
        exact ⟨_, rfl, hrs.rd, a, R, o, t, _, rfl, hrs, fun H1 e1 h1 => ⟨rfl, by show 2 ≤ sizeLine; decide, fun pt hpt => go H1 e1 h1 pt hpt⟩⟩
    · refine ⟨_, rfl, hrs.rd, a, R, o, _, rfl, hrs, rfl, _, rfl, itN (fun z => ht (.inl z)) ?_⟩
      refine ⟨_, rfl, hrs.rd, a, R, o, _, rfl, hrs, rfl, _, rfl, itN (fun z => ht (.inr z)) ?_⟩
      rcases hc with ⟨b, rfl, tb⟩ | ⟨rfl, rfl⟩ | ⟨rfl, h⟩ | ⟨nf, h⟩
      · exact absurd (by subst tb; cases b <;> simp) ht
      · obtain rfl := hts (.inr (.inl rfl))
        refine ⟨_, rfl, hrs.rd, a, R, o, _, rfl, hrs, rfl, _, rfl, itY rfl ?_⟩
        refine ⟨_, rfl, hrs.rd, a, R, o, _, _, rfl, hrs, fun H1 e1 h1 => ?_⟩
        refine ⟨by show 1 ≤ sizeLine; decide, fun pt hpt => ?_⟩
        have e2 : Ext [] H1 (upd H1 pt (.tup [.str (K13.o "fail")])) := .new hpt
        refine q _ _ (e1.trans e2.nil) (h1.ex0 e2) ?_
        rw [enc_mk]
        exact ⟨pt, _, rfl, SqT.of upd_same, _, _, rfl, rfl, rfl⟩
      · obtain rfl := hts (.inr (.inr ⟨_, rfl⟩))
        refine ⟨_, rfl, hrs.rd, a, R, o, _, rfl, hrs, rfl, _, rfl, itN (fun z => ?_) ?_⟩
        · have z : t = K13.o "fail" := z
          subst z; exact absurd h (by decide +kernel)
        refine ⟨_, rfl, hrs.rd, a, R, o, _, rfl, hrs, _, _, rfl, .inr (T.tu_FACTS H), rfl, flat_str _, _, rfl, ?_⟩
        rw [if_neg Bool.false_ne_true, inV_str, decide_eq_true (show hd0 (t :: ([] ++ rest)) ∈ tu_FACTS from h)]
        refine iteT ⟨_, rfl, hrs.rd, a, R, o, _, _, rfl, hrs, fun H1 e1 h1 => ?_⟩
        refine ⟨by show 2 ≤ sizeLine; decide, fun pt hpt => ?_⟩
        have e2 : Ext [] H1 (upd H1 pt (.tup [.str (K13.o "fact"), .str t])) := .new hpt
        refine q _ _ (e1.trans e2.nil) (h1.ex0 e2) ?_
        rw [enc_mk]
        exact ⟨pt, _, rfl, SqT.of upd_same, _, _, rfl, rfl, _, _, rfl, rfl, rfl⟩
      · have n1 : t ≠ K13.o "fail" := fun z => by
          subst z
          rcases nf with nf | nf
          · exact nf.free (by decide +kernel)
          · exact absurd nf (by decide +kernel)
        have n2 : t ∉ tu_FACTS := fun z => by
          rcases nf with nf | nf
          · exact nf.free ((by decide +kernel : ∀ s ∈ tu_FACTS, s ∈ tu_RESERVED) t z)
          · exact (by decide +kernel : ∀ s ∈ tu_FACTS, ¬ s ∈ fnames) t z nf
        refine ⟨_, rfl, hrs.rd, a, R, o, _, rfl, hrs, rfl, _, rfl, itN n1 ?_⟩
        refine ⟨_, rfl, hrs.rd, a, R, o, _, rfl, hrs, _, _, rfl, .inr (T.tu_FACTS H), rfl, flat_str _, _, rfl, ?_⟩
        rw [if_neg Bool.false_ne_true, inV_str, decide_eq_false (show ¬ hd0 (t :: (ts ++ rest)) ∈ tu_FACTS from n2)]
        refine iteF ?_
        have last : ∀ H', H' = H → tMe K (sp_named K (n + 1) m) (tVar 0) (tCons (tMe K (sp_step K) (tVar 0) tNil) tNil) [some (.ref a)] H' Q := by
          rintro H' rfl
          refine ⟨_, rfl, hrs.rd, _, rfl, hrs.rd, a, R, o, t, _, rfl, hrs, fun H1 e1 h1 => ?_⟩
          refine ⟨a, R, o, t, d, ts, rest, rfl, h1, fit, fun r H2 e2 h2 q2 => q r H2 (e1.trans e2) h2 q2, ?_⟩
          rcases h with ⟨cs, rfl, rfl⟩ | ⟨rfl, rfl⟩
          · exact .inl ⟨cs, rfl, rfl⟩
          · exact .inr ⟨rfl, rfl, st⟩
        refine ⟨_, rfl, hrs.rd, a, R, o, _, rfl, hrs, t, _, _, rfl, rfl, kd_FUNS T, _, rfl, ?_⟩
        rw [fns_some]
        by_cases hf : t ∈ fnames
        · rw [decide_eq_true hf]
          exact iteF (iteF (last H rfl))
        · rw [decide_eq_false hf]
          refine iteT ⟨_, rfl, hrs.rd, a, R, o, _, rfl, hrs, t, rfl, nf.resolve_right hf, _, rfl, iteF (last H rfl)⟩
end
end K13

/-! W15: Reader: unary, operation, expression -/
namespace K13
open PySem PySem.Spec PyProof.Rows L2
section
variable {P : Program} {w : World} {K : PySem.W.Frag} {mg : Str → Option Value} {base : Heap}
def sp_unary (K : PySem.W.Frag) (n m : Nat) : Sp := spG K n m fun d rest => 6 ≤ d.el ∧ Stop 5 (hd0 rest)
def sp_un (K : PySem.W.Frag) (n m : Nat) : Sp := fun vs H Q E => ∃ m', m = m' + 1 ∧ sp_unary K n m' vs H Q E
theorem ok_un (T : Tx w K mg) {n : Nat} (CU : ∀ m, Met P w K mg base "unary" (11 * m + 5) ["self"] (sp_unary K n m)) : ∀ m, Met P w K mg base "unary" (11 * m + 4) ["self"] (sp_un K n m)
  | 0 => Met.none_ T.cl T.f_R_unary T.me_unary (fun _ _ _ _ _ _ us hl => match us, hl with | [_], _ => rfl) (fun vs H Q E h => by obtain ⟨m', h, _⟩ := h; omega)
  | m + 1 => ((CU m).imp fun vs H Q E h => by obtain ⟨m', e, h⟩ := h; cases (show m' = m by omega); exact h).mono (by omega)
theorem el6 {d : Tm} (e : 6 ≤ d.el) (n : ¬ 7 ≤ d.el) : ∃ cs, d = .mk 0 .minus cs ∨ d = .mk 0 .not_ cs := by
  obtain ⟨p, h, cs⟩ := d
  cases p with
  | succ p => exact absurd (by show 7 ≤ 7; omega) n
  | zero =>
    have e : 6 ≤ h.lv := e
    have n : ¬ 7 ≤ h.lv := n
    cases h with
    | minus => exact ⟨_, .inl rfl⟩
    | not_ => exact ⟨_, .inr rfl⟩
    | bin s => exact absurd e (by have := (lvS_pos s).2; show ¬ 6 ≤ lvS s; omega)
    | let_ v => exact absurd e (by show ¬ 6 ≤ 0; omega)
    | ite_ => exact absurd e (by show ¬ 6 ≤ 0; omega)
    | fold x s => exact absurd e (by show ¬ 6 ≤ 0; omega)
    | note => exact absurd e (by show ¬ 6 ≤ 0; omega)
    | num n' => exact absurd (by show 7 ≤ 7; omega) n
    | tru n' => exact absurd (by show 7 ≤ 7; omega) n
    | var n' => exact absurd (by show 7 ≤ 7; omega) n
    | fact n' => exact absurd (by show 7 ≤ 7; omega) n
    | fail => exact absurd (by show 7 ≤ 7; omega) n
    | pair => exact absurd (by show 7 ≤ 7; omega) n
    | list => exact absurd (by show 7 ≤ 7; omega) n
    | call n' => exact absurd (by show 7 ≤ 7; omega) n
theorem sc_R_unary : FnScope ["self", "sign", "part"] ["self"] (defScope s_R_unary) := ⟨rfl, rfl, rfl, by decide +kernel, rfl, by decide +kernel, by decide +kernel⟩
theorem ok_unary (T : Tx w K mg) {n m : Nat} (CE : ∀ m, Met P w K mg base "expression" (11 * m + 12) ["self"] (sp_expr K n m)) (CU : ∀ m, Met P w K mg base "unary" (11 * m + 5) ["self"] (sp_unary K n m)) : Met P w K mg base "unary" (11 * m + 5) ["self"] (sp_unary K (n + 1) m) := by
  have C_token := ok_token T (P := P) (base := base)
  have C_enter := ok_enter T (P := P) (base := base)
  have C_leave := ok_leave T (P := P) (base := base)
  have C_simple := ok_simple T CE (m := m)
  have C_unary := ok_un T CU m
  refine Met.of T.cl T.f_R_unary T.me_unary sc_R_unary (fun _ _ _ _ _ _ us hl => match us, hl with | [_], _ => rfl) (fun vs H Q E h => ?_) (fun f cdv A outer s H vs Q E hr h => ?_)
  · obtain ⟨d, a, R, o, rest, rfl, _⟩ := h; rfl
  obtain ⟨d, a, R, o, rest, rfl, hrs, fit, ⟨el, st⟩, q⟩ := h
  refine ⟨_, pss_cons (ps_if (PW.pt (pw_and (pt_cmpR op_ne (pe_met0 C_token (hr.mono (by omega)) (fun _ _ _ _ => rfl) (pv 0)) (pe_str) (nomark _)) (pw_and1 (pt_cmpR op_ne (pe_met0 C_token (hr.mono (by omega)) (fun _ _ _ _ => rfl) (pv 0)) (pe_str) (nomark _)))))
    (pss_one (ps_ret (pe_met0 C_simple (hr.mono (by omega)) (fun _ _ _ _ => rfl) (pv 0))))
    (pss_nil))
    (pss_cons (ps_set (i := 1) sc_R_unary.nd rfl (Or.inl rfl) (pe_met0 C_enter (hr.mono (by omega)) (fun _ _ _ _ => rfl) (pv 0)))
    (pss_cons (ps_set (i := 2) sc_R_unary.nd rfl (Or.inl rfl) (pe_met0 C_unary (hr.mono (by omega)) (fun _ _ _ _ => rfl) (pv 0)))
    (pss_cons (ps_expr (pe_met0 C_leave (hr.mono (by omega)) (fun _ _ _ _ => rfl) (pv 0)))
    (pss_cons (ps_if (pt_cmpR op_eq (pv 1) (pe_str) (nomark _))
    (pss_one (ps_ret (pe_tup (pa_cons (pe_str) (pa_cons (pv 2) pa_nil)))))
    (pss_nil))
    (pss_one (ps_ret (pe_tup (pa_cons (pe_str) (pa_cons (pv 2) pa_nil))))))))), ?_⟩
  refine ⟨_, rfl, hrs.rd, a, R, o, _, rfl, hrs, rfl, _, rfl, ?_⟩
  by_cases e7 : 7 ≤ d.el
  · obtain ⟨t, r, et, nt⟩ := first_tok d fit.wf fit.ok
    have nt := nof_mono e7 nt
    have n1 : hd0 (ptk d ++ rest) ≠ K13.o "-" := by rw [et]; exact fun z => nt (by have z : t = _ := z; rw [z]; decide +kernel)
    have n2 : hd0 (ptk d ++ rest) ≠ K13.o "not" := by rw [et]; exact fun z => nt (by have z : t = _ := z; rw [z]; decide +kernel)
    rw [show decide (V.str (hd0 (ptk d ++ rest)) = V.str (Str.ofString "-")) = false from decide_eq_false fun z => n1 (V.str.inj z)]
    refine iteT ⟨_, rfl, hrs.rd, a, R, o, _, rfl, hrs, rfl, _, rfl, ?_⟩
    rw [show decide (V.str (hd0 (ptk d ++ rest)) = V.str (Str.ofString "not")) = false from decide_eq_false fun z => n2 (V.str.inj z)]
    exact iteT ⟨_, rfl, hrs.rd, d, a, R, o, rest, rfl, hrs, fit, ⟨e7, st⟩, q⟩
  · obtain ⟨cs, hd⟩ := el6 el e7
    rcases hd with rfl | rfl
    · obtain ⟨m, rfl, lo⟩ := fit.opn (by show 1 ≤ 0 + 1; omega)
      obtain ⟨c, rfl⟩ := len1 fit.wf.hd
      have fc := fit.kid (c := c) (by simp) rfl
      have lc : 6 ≤ c.el := (okc_of fit.ok).1 0 c rfl
      rw [ptk_minus] at hrs ⊢
      rw [List.cons_append] at hrs
      refine iteF (iteF ?_)
      refine ⟨_, rfl, hrs.rd, a, R, o, _, _, rfl, hrs, lo, fun H1 e1 h1 => ?_⟩
      refine ⟨_, rfl, h1.rd, m, rfl, c, a, R, o + 1, rest, rfl, h1, fc, ⟨lc, st⟩, fun r2 H2 e2 h2 q2 => ?_⟩
      refine ⟨_, rfl, h2.rd, a, R, o, rest, rfl, h2, fun H3 e3 h3 => ?_⟩
      refine ⟨_, rfl, rfl, _, rfl, itY rfl ?_⟩
      refine ⟨_, rfl, by show 2 ≤ sizeLine; decide, fun pt hpt => ?_⟩
      have e4 : Ext [] H3 (upd H3 pt (.tup [.str (K13.o "minus"), r2])) := .new hpt
      refine q _ _ ((e1.trans e2).trans (e3.trans e4.nil)) (h3.ex0 e4) ?_
      rw [enc_mk]
      exact ⟨pt, _, rfl, SqT.of upd_same, _, _, rfl, rfl, _, _, rfl, (q2.past e3 h2).ex0 e4, rfl⟩
    · obtain ⟨m, rfl, lo⟩ := fit.opn (by show 1 ≤ 0 + 1; omega)
      obtain ⟨c, rfl⟩ := len1 fit.wf.hd
      have fc := fit.kid (c := c) (by simp) rfl
      have lc : 6 ≤ c.el := (okc_of fit.ok).1 0 c rfl
      rw [ptk_not] at hrs ⊢
      rw [List.cons_append] at hrs
      rw [show decide (V.str (hd0 (K13.o "not" :: ptk c ++ rest)) = V.str (Str.ofString "-")) = false from decide_eq_false fun z => absurd (V.str.inj z) (show ¬ K13.o "not" = K13.o "-" by decide +kernel)]
      refine iteT ⟨_, rfl, hrs.rd, a, R, o, _, rfl, hrs, rfl, _, rfl, ?_⟩
      refine iteF ?_
      refine ⟨_, rfl, hrs.rd, a, R, o, _, _, rfl, hrs, lo, fun H1 e1 h1 => ?_⟩
      refine ⟨_, rfl, h1.rd, m, rfl, c, a, R, o + 1, rest, rfl, h1, fc, ⟨lc, st⟩, fun r2 H2 e2 h2 q2 => ?_⟩
      refine ⟨_, rfl, h2.rd, a, R, o, rest, rfl, h2, fun H3 e3 h3 => ?_⟩
      refine ⟨_, rfl, rfl, _, rfl, itN (by decide +kernel) ?_⟩
      refine ⟨_, rfl, by show 2 ≤ sizeLine; decide, fun pt hpt => ?_⟩
      have e4 : Ext [] H3 (upd H3 pt (.tup [.str (K13.o "not"), r2])) := .new hpt
      refine q _ _ ((e1.trans e2).trans (e3.trans e4.nil)) (h3.ex0 e4) ?_
      rw [enc_mk]
      exact ⟨pt, _, rfl, SqT.of upd_same, _, _, rfl, rfl, _, _, rfl, (q2.past e3 h2).ex0 e4, rfl⟩
/-! ### operation -/
theorem ops_tup (T : Tx w K mg) (H : Hp) : ∀ {lv : Nat}, lv ≤ 4 → SqT K H (itemAt K (He.ga K "LEVELS_reader") lv) ((ops lv).map V.str)
  | 0, _ => T.tu_LEVELS_reader_0 H
  | 1, _ => T.tu_LEVELS_reader_1 H
  | 2, _ => T.tu_LEVELS_reader_2 H
  | 3, _ => T.tu_LEVELS_reader_3 H
  | 4, _ => T.tu_LEVELS_reader_4 H
  | n + 5, h => absurd h (by omega)
theorem ops_at {x : Nat → V} : ∀ {lv : Nat}, lv ≤ 4 → atI [x 0, x 1, x 2, x 3, x 4] (lv : Int) = some (x lv)
  | 0, _ => rfl
  | 1, _ => rfl
  | 2, _ => rfl
  | 3, _ => rfl
  | 4, _ => rfl
  | n + 5, h => absurd h (by omega)
def sp_op (K : PySem.W.Frag) (n m lv : Nat) : Sp := fun vs H Q _ => ∃ (d : Tm) (a R : Addr) (o : Nat) (rest : List Str), vs = [.ref a, .int (lv : Int)] ∧ RS K H a R o (ptk d ++ rest) ∧ Fit d n m o ∧ lv + 1 ≤ d.el ∧ Stop lv (hd0 rest) ∧ Got K H a R o rest d Q
theorem sc_R_operation : FnScope ["self", "level", "left", "sign"] ["self", "level"] (defScope s_R_operation) := ⟨rfl, rfl, rfl, by decide +kernel, rfl, by decide +kernel, by decide +kernel⟩
theorem ok_op5 (T : Tx w K mg) {n m : Nat} (C_unary : Met P w K mg base "unary" (11 * m + 5) ["self"] (sp_unary K n m)) (C_operation : Met P w K mg base "operation" (11 * m + 5) ["self", "level"] fun _ _ _ _ => False) : Met P w K mg base "operation" (11 * m + 6) ["self", "level"] (sp_op K n m 5) := by
  have C_token := ok_token T (P := P) (base := base)
  have C_step := ok_step T (P := P) (base := base)
  refine Met.of T.cl T.f_R_operation T.me_operation sc_R_operation (fun _ _ _ _ _ _ us hl => match us, hl with | [_, _], _ => rfl) (fun vs H Q E h => ?_) (fun f cdv A outer s H vs Q E hr h => ?_)
  · obtain ⟨d, a, R, o, rest, rfl, _⟩ := h; rfl
  obtain ⟨d, a, R, o, rest, rfl, hrs, fit, el, st, q⟩ := h
  refine ⟨_, pss_cons (ps_if (pt_cmpR op_eq (pv 1) (pe_callB call_len (by rfl) T.n_len (by decide +kernel) (pa_cons (pe_gr rfl T.g_LEVELS_reader) pa_nil)) (nomark _))
    (pss_one (ps_ret (pe_met0 C_unary (hr.mono (by omega)) (fun _ _ _ _ => rfl) (pv 0))))
    (pss_nil))
    pss_never, ?_⟩
  refine ⟨_, rfl, _, 5, rfl, .inr ⟨_, T.tu_LEVELS_reader H, rfl⟩, rfl, _, rfl, ?_⟩
  exact iteT ⟨_, rfl, hrs.rd, d, a, R, o, rest, rfl, hrs, fit, ⟨el, st⟩, q⟩
theorem ok_op (T : Tx w K mg) {n m lv : Nat} (l4 : lv ≤ 4) {k : Nat} (C_operation : Met P w K mg base "operation" (k + 5) ["self", "level"] (sp_op K n m (lv + 1))) : Met P w K mg base "operation" (k + 6) ["self", "level"] (sp_op K n m lv) := by
  have C_token := ok_token T (P := P) (base := base)
  have C_step := ok_step T (P := P) (base := base)
  have C_unary : Met P w K mg base "unary" 0 ["self"] (fun _ _ _ _ => False) := Met.none_ T.cl T.f_R_unary T.me_unary (fun _ _ _ _ _ _ us hl => match us, hl with | [_], _ => rfl) (fun vs H Q E h => h)
  refine Met.of T.cl T.f_R_operation T.me_operation sc_R_operation (fun _ _ _ _ _ _ us hl => match us, hl with | [_, _], _ => rfl) (fun vs H Q E h => ?_) (fun f cdv A outer s H vs Q E hr h => ?_)
  · obtain ⟨d, a, R, o, rest, rfl, _⟩ := h; rfl
  obtain ⟨d, a, R, o, rest, rfl, hrs, fit, el, st, q⟩ := h
  refine ⟨_, pss_cons (ps_if (pt_cmpR op_eq (pv 1) (pe_callB call_len (by rfl) T.n_len (by decide +kernel) (pa_cons (pe_gr rfl T.g_LEVELS_reader) pa_nil)) (nomark _))
    (pss_one (ps_ret (pe_met0 C_unary (hr.mono (by omega)) (fun _ _ _ _ => rfl) (pv 0))))
    (pss_nil))
    (pss_cons (ps_set (i := 2) sc_R_operation.nd rfl (Or.inl rfl) (pe_met C_operation (hr.mono (by omega)) (fun _ _ _ _ => rfl) (pv 0) (pa_cons (pe_op op_add (pv 1) (pe_int)) pa_nil)))
    (pss_cons (ps_while PassesOwn.never (pt_cmpR op_in_seq (pe_met0 C_token (hr.mono (by omega)) (fun _ _ _ _ => rfl) (pv 0)) (pe_ix ix_tup (pe_gr rfl T.g_LEVELS_reader) (pv 1) (fun _ _ => rfl)) rfl)
    (pss_cons (ps_set (i := 3) sc_R_operation.nd rfl (Or.inl rfl) (pe_met0 C_step (hr.mono (by omega)) (fun _ _ _ _ => rfl) (pv 0)))
      (pss_cons (ps_set (i := 2) sc_R_operation.nd rfl (Or.inl rfl) (pe_tup (pa_cons (pe_str) (pa_cons (pv 3) (pa_cons (pv 2) (pa_cons (pe_met C_operation (hr.mono (by omega)) (fun _ _ _ _ => rfl) (pv 0) (pa_cons (pe_op op_add (pv 1) (pe_int)) pa_nil)) pa_nil))))))
      (pss_one (ps_if (pt_cmpR op_eq (pv 1) (pe_gi rfl T.i_COMPARISON_reader) (nomark _))
      (pss_one (ps_ret (pv 2)))
      (pss_nil))))))
    (pss_one (ps_ret (pv 2))))), ?_⟩
  obtain ⟨f0, ps, ch⟩ := chain l4 d fit.wf fit.ok el
  have fit0 : Fit f0 n m o := ⟨ch.wf, ch.ok, Nat.le_trans ch.sz fit.sz, Nat.le_trans ch.nest fit.nest, by have := ch.nest; have := fit.room; omega⟩
  have fitp : ∀ p ∈ ps, Fit p.2 n m o := fun p hp => by
    obtain ⟨_, _, c3, c4, c5, c6, _⟩ := ch.all p hp
    exact ⟨c3, c4, by have := fit.sz; omega, Nat.le_trans c6 fit.nest, by have := fit.room; omega⟩
  have stp : ∀ k, Stop (lv + 1) (hd0 (flat (ps.drop k) ++ rest)) := fun k => by
    cases e : ps.drop k with
    | nil => exact st.mono (by omega)
    | cons y r =>
      obtain ⟨_, _, _, _, _, _, c7⟩ := ch.all y (List.mem_of_mem_drop (by rw [e]; simp))
      exact c7
  rw [ch.tk, List.append_assoc] at hrs
  refine ⟨_, rfl, _, 5, rfl, .inr ⟨_, T.tu_LEVELS_reader H, rfl⟩, rfl, _, rfl, ?_⟩
  rw [decide_eq_false (show ¬ V.int (lv : Int) = V.int ((5 : Nat) : Int) from fun z => by have := V.int.inj z; omega)]
  refine iteF ⟨_, rfl, hrs.rd, _, rfl, _, _, rfl, rfl, f0, a, R, o, _, rfl, hrs, fit0, ch.el, stp 0, fun r1 H1 e1 h1 q1 => ?_⟩
  let W : Nat → L2.St → Hp → Prop := fun m σ H' => ∃ (k : Nat) (r : V) (x : Option V), m = ps.length - k ∧ k ≤ ps.length ∧ σ = [some (.ref a), some (.int (lv : Int)), some r, x] ∧ Ext [a] H H' ∧ RS K H' a R o (flat (ps.drop k) ++ rest) ∧ Rp K H' (enc (bld f0 (ps.take k))) r
  refine ⟨W, ⟨_, 0, r1, none, rfl, Nat.zero_le _, rfl, e1, h1, q1⟩, ?_⟩
  rintro m' σ H' ⟨k, r, x, rfl, lk, rfl, e2, h2, q2⟩
  refine ⟨_, rfl, h2.rd, a, R, o, _, rfl, h2, _, rfl, _, _, _, _, rfl, rfl, T.tu_LEVELS_reader H', ops_at (x := fun i => V.ref (itemAt K (He.ga K "LEVELS_reader") i)) l4, _, _, rfl, .inr (ops_tup T H' l4), rfl, flat_str _, _, rfl, ?_⟩
  rw [if_neg Bool.false_ne_true, inV_str]
  cases e : ps.drop k with
  | nil =>
    rw [e] at h2
    have lk2 : ps.length ≤ k := List.drop_eq_nil_iff.mp e
    rw [decide_eq_false (show ¬ hd0 (flat [] ++ rest) ∈ ops lv from st.2 lv (Nat.le_refl _))]
    refine iteF ⟨_, rfl, q _ _ e2 h2 ?_⟩
    rw [List.take_of_length_le lk2, ← ch.eq] at q2
    exact q2
  | cons y tl =>
    obtain ⟨s1, b⟩ := y
    have hm : (s1, b) ∈ ps := List.mem_of_mem_drop (by rw [e]; simp)
    obtain ⟨c1, c2, c3, c4, c5, c6, c7⟩ := ch.all _ hm
    have hb : ps[k]? = some (s1, b) := by
      have := congrArg (·[0]?) e
      simpa using this
    have e' : ps.drop (k + 1) = tl := by rw [← List.drop_drop, e]; rfl
    have lk2 : k < ps.length := (List.getElem?_eq_some_iff.mp hb).1
    rw [decide_eq_true (show hd0 (flat ((s1, b) :: tl) ++ rest) ∈ ops lv from c1)]
    refine iteT ⟨W (ps.length - (k + 1)), fun σ' H'' n => ⟨_, by omega, n⟩, ?_⟩
    rw [e] at h2
    have h2 : RS K H' a R o (s1 :: (ptk b ++ flat tl ++ rest)) := h2
    rw [List.append_assoc] at h2
    refine ⟨_, rfl, h2.rd, a, R, o, _, _, rfl, h2, fun H3 e3 h3 => ?_⟩
    refine ⟨_, rfl, _, rfl, _, rfl, h3.rd, _, rfl, _, _, rfl, rfl, b, a, R, o, _, rfl, h3, fitp _ hm, c2, by rw [← e']; exact stp (k + 1), fun r4 H4 e4 h4 q4 => ?_⟩
    refine ⟨by show 4 ≤ sizeLine; decide, fun pt hpt => ?_⟩
    have e5 : Ext [] H4 (upd H4 pt (.tup [.str (K13.o "binary"), .str s1, r, r4])) := .new hpt
    have h5 := h4.ex0 e5
    have ee := (e2.trans e3).trans (e4.trans e5.nil)
    have q5 : Rp K (upd H4 pt (.tup [.str (K13.o "binary"), .str s1, r, r4])) (enc (bld f0 (ps.take (k + 1)))) (.ref pt) := by
      rw [take_snoc hb, bld_snoc, enc_mk]
      exact ⟨pt, _, rfl, SqT.of upd_same, _, _, rfl, rfl, _, _, rfl, rfl, _, _, rfl, ((q2.past e3 h2).past e4 h3).ex0 e5, _, _, rfl, q4.ex0 e5, rfl⟩
    refine ⟨_, rfl, rfl, _, rfl, ite2 (fun z => ?_) fun z => ?_⟩
    · have z : lv = 2 := by have := V.int.inj (of_decide_eq_true z); omega
      have l1 := ch.one z
      have etl : tl = [] := by rw [← e']; exact List.drop_eq_nil_of_le (by omega)
      refine ⟨_, rfl, q _ _ ee (by rw [etl] at h5; exact h5) ?_⟩
      rw [List.take_of_length_le (by omega), ← ch.eq] at q5
      exact q5
    · refine ⟨k + 1, _, _, rfl, lk2, rfl, ee, by rw [e']; exact h5, q5⟩
/-! ### expression -/
theorem el0 {d : Tm} (n : ¬ 1 ≤ d.el) : ∃ h cs, d = .mk 0 h cs ∧ ((∃ v, h = .let_ v) ∨ h = .ite_ ∨ (∃ v u, h = .fold v u) ∨ h = .note) := by
  obtain ⟨p, h, cs⟩ := d
  cases p with
  | succ p => exact absurd (by show 1 ≤ 7; omega) n
  | zero =>
    have n : ¬ 1 ≤ h.lv := n
    cases h with
    | let_ v => exact ⟨_, _, rfl, .inl ⟨_, rfl⟩⟩
    | ite_ => exact ⟨_, _, rfl, .inr (.inl rfl)⟩
    | fold x s => exact ⟨_, _, rfl, .inr (.inr (.inl ⟨_, _, rfl⟩))⟩
    | note => exact ⟨_, _, rfl, .inr (.inr (.inr rfl))⟩
    | bin s => exact absurd (lvS_pos s).1 n
    | _ => exact absurd (by show 1 ≤ _; simp only [Hd.lv]; omega) n
theorem sc_R_expression : FnScope ["self"] ["self"] (defScope s_R_expression) := ⟨rfl, rfl, rfl, by decide +kernel, rfl, by decide +kernel, by decide +kernel⟩
theorem ok_expr (T : Tx w K mg) {n m : Nat} (CE : ∀ m, Met P w K mg base "expression" (11 * m + 12) ["self"] (sp_expr K n m)) (C_operation : Met P w K mg base "operation" (11 * m + 11) ["self", "level"] (sp_op K (n + 1) m 0)) : Met P w K mg base "expression" (11 * m + 12) ["self"] (sp_expr K (n + 1) m) := by
  have C_token := ok_token T (P := P) (base := base)
  have C_binding := ok_binding T CE (m := m)
  have C_choice := ok_choice T CE (m := m)
  have C_folding := ok_folding T CE (m := m)
  have C_noting := ok_noting T CE (m := m)
  refine Met.of T.cl T.f_R_expression T.me_expression sc_R_expression (fun _ _ _ _ _ _ us hl => match us, hl with | [_], _ => rfl) (fun vs H Q E h => ?_) (fun f cdv A outer s H vs Q E hr h => ?_)
  · obtain ⟨d, a, R, o, rest, rfl, _⟩ := h; rfl
  obtain ⟨d, a, R, o, rest, rfl, hrs, fit, st, q⟩ := h
  refine ⟨_, pss_cons (ps_if (pt_cmpR op_eq (pe_met0 C_token (hr.mono (by omega)) (fun _ _ _ _ => rfl) (pv 0)) (pe_str) (nomark _))
    (pss_one (ps_ret (pe_met0 C_binding (hr.mono (by omega)) (fun _ _ _ _ => rfl) (pv 0))))
    (pss_nil))
    (pss_cons (ps_if (pt_cmpR op_eq (pe_met0 C_token (hr.mono (by omega)) (fun _ _ _ _ => rfl) (pv 0)) (pe_str) (nomark _))
    (pss_one (ps_ret (pe_met0 C_choice (hr.mono (by omega)) (fun _ _ _ _ => rfl) (pv 0))))
    (pss_nil))
    (pss_cons (ps_if (pt_cmpR op_eq (pe_met0 C_token (hr.mono (by omega)) (fun _ _ _ _ => rfl) (pv 0)) (pe_str) (nomark _))
    (pss_one (ps_ret (pe_met0 C_folding (hr.mono (by omega)) (fun _ _ _ _ => rfl) (pv 0))))
    (pss_nil))
    (pss_cons (ps_if (pt_cmpR op_eq (pe_met0 C_token (hr.mono (by omega)) (fun _ _ _ _ => rfl) (pv 0)) (pe_str) (nomark _))
    (pss_one (ps_ret (pe_met0 C_noting (hr.mono (by omega)) (fun _ _ _ _ => rfl) (pv 0))))
    (pss_nil))
    (pss_one (ps_ret (pe_met C_operation (hr.mono (by omega)) (fun _ _ _ _ => rfl) (pv 0) (pa_cons (pe_int) pa_nil))))))), ?_⟩
  by_cases e1 : 1 ≤ d.el
  · obtain ⟨t, r, et, nt⟩ := first_tok d fit.wf fit.ok
    have nt := nof_mono e1 nt
    have nn : ∀ s ∈ nof 1, hd0 (ptk d ++ rest) ≠ s := fun s hs => by
      rw [et]
      exact fun z => nt (by have z : t = _ := z; rw [z]; exact hs)
    refine ⟨_, rfl, hrs.rd, a, R, o, _, rfl, hrs, rfl, _, rfl, itN (nn _ (by decide +kernel)) ?_⟩
    refine ⟨_, rfl, hrs.rd, a, R, o, _, rfl, hrs, rfl, _, rfl, itN (nn _ (by decide +kernel)) ?_⟩
    refine ⟨_, rfl, hrs.rd, a, R, o, _, rfl, hrs, rfl, _, rfl, itN (nn _ (by decide +kernel)) ?_⟩
    refine ⟨_, rfl, hrs.rd, a, R, o, _, rfl, hrs, rfl, _, rfl, itN (nn _ (by decide +kernel)) ?_⟩
    exact ⟨_, rfl, hrs.rd, d, a, R, o, rest, rfl, hrs, fit, e1, st, q⟩
  · obtain ⟨h, cs, rfl, hh⟩ := el0 e1
    have hw := fit.wf.hd
    rcases hh with ⟨v, rfl⟩ | rfl | ⟨v, u, rfl⟩ | rfl
    · obtain ⟨x, y, rfl⟩ := len2 hw.1
      have et := ptk_let (a := x) (b := y) hw.2.toWord
      refine ⟨_, rfl, hrs.rd, a, R, o, _, rfl, hrs, rfl, _, rfl, itY (by rw [et]; rfl) ?_⟩
      exact ⟨_, rfl, hrs.rd, _, a, R, o, rest, rfl, hrs, fit, ⟨⟨_, _, rfl, v, rfl⟩, st⟩, q⟩
    · obtain ⟨x, y, z, rfl⟩ := len3 hw
      have et := ptk_if (a := x) (b := y) (c := z)
      refine ⟨_, rfl, hrs.rd, a, R, o, _, rfl, hrs, rfl, _, rfl, itN (t := K13.o "if") (by decide +kernel) ?_⟩
      refine ⟨_, rfl, hrs.rd, a, R, o, _, rfl, hrs, rfl, _, rfl, itY (by rw [et]; rfl) ?_⟩
      exact ⟨_, rfl, hrs.rd, _, a, R, o, rest, rfl, hrs, fit, ⟨⟨_, _, rfl, rfl⟩, st⟩, q⟩
    · obtain ⟨x, y, z, rfl⟩ := len3 hw.1
      have et := ptk_fold (a := x) (b := y) (c := z) hw.2.1.toWord hw.2.2.toWord
      have e0 : hd0 (ptk (.mk 0 (.fold v u) [x, y, z]) ++ rest) = K13.o "fold" := by rw [et]; rfl
      refine ⟨_, rfl, hrs.rd, a, R, o, _, rfl, hrs, rfl, _, rfl, itN (by rw [e0]; decide +kernel) ?_⟩
      refine ⟨_, rfl, hrs.rd, a, R, o, _, rfl, hrs, rfl, _, rfl, itN (by rw [e0]; decide +kernel) ?_⟩
      refine ⟨_, rfl, hrs.rd, a, R, o, _, rfl, hrs, rfl, _, rfl, itY e0 ?_⟩
      exact ⟨_, rfl, hrs.rd, _, a, R, o, rest, rfl, hrs, fit, ⟨⟨_, _, rfl, v, u, rfl⟩, st⟩, q⟩
    · obtain ⟨x, y, rfl⟩ := len2 hw
      have et := ptk_note (a := x) (b := y)
      have e0 : hd0 (ptk (.mk 0 .note [x, y]) ++ rest) = K13.o "note" := by rw [et]; rfl
      refine ⟨_, rfl, hrs.rd, a, R, o, _, rfl, hrs, rfl, _, rfl, itN (by rw [e0]; decide +kernel) ?_⟩
      refine ⟨_, rfl, hrs.rd, a, R, o, _, rfl, hrs, rfl, _, rfl, itN (by rw [e0]; decide +kernel) ?_⟩
      refine ⟨_, rfl, hrs.rd, a, R, o, _, rfl, hrs, rfl, _, rfl, itN (by rw [e0]; decide +kernel) ?_⟩
      refine ⟨_, rfl, hrs.rd, a, R, o, _, rfl, hrs, rfl, _, rfl, itY e0 ?_⟩
      exact ⟨_, rfl, hrs.rd, _, a, R, o, rest, rfl, hrs, fit, ⟨⟨_, _, rfl, rfl⟩, st⟩, q⟩
theorem ok_parse (T : Tx w K mg) : ∀ n, (∀ m, Met P w K mg base "expression" (11 * m + 12) ["self"] (sp_expr K n m)) ∧ ∀ m, Met P w K mg base "unary" (11 * m + 5) ["self"] (sp_unary K n m)
  | 0 => ⟨fun m => Met.none_ T.cl T.f_R_expression T.me_expression (fun _ _ _ _ _ _ us hl => match us, hl with | [_], _ => rfl) (fun vs H Q E h => by
      obtain ⟨d, a, R, o, rest, _, _, fit, _⟩ := h
      have := sz_pos d; have := fit.sz; omega),
    fun m => Met.none_ T.cl T.f_R_unary T.me_unary (fun _ _ _ _ _ _ us hl => match us, hl with | [_], _ => rfl) (fun vs H Q E h => by
      obtain ⟨d, a, R, o, rest, _, _, fit, _⟩ := h
      have := sz_pos d; have := fit.sz; omega)⟩
  | n + 1 => by
    obtain ⟨CE, CU⟩ := ok_parse T n
    have U : ∀ m, Met P w K mg base "unary" (11 * m + 5) ["self"] (sp_unary K (n + 1) m) := fun m => ok_unary T CE CU
    refine ⟨fun m => ok_expr T CE ?_, U⟩
    have o5 : Met P w K mg base "operation" (11 * m + 6) ["self", "level"] (sp_op K (n + 1) m 5) := ok_op5 T (U m) (Met.none_ T.cl T.f_R_operation T.me_operation (fun _ _ _ _ _ _ us hl => match us, hl with | [_, _], _ => rfl) (fun vs H Q E h => h))
    have o4 := ok_op T (lv := 4) (by omega) (k := 11 * m + 1) o5
    have o3 := ok_op T (lv := 3) (by omega) (k := 11 * m + 2) o4
    have o2 := ok_op T (lv := 2) (by omega) (k := 11 * m + 3) o3
    have o1 := ok_op T (lv := 1) (by omega) (k := 11 * m + 4) o2
    exact ok_op T (lv := 0) (by omega) (k := 11 * m + 5) o1
end
end K13

/-! W16: Reader: made, definition, script -/
namespace K13
open PySem PySem.Spec PyProof.Rows L2
def flatn : List Str → List Str
  | [] => []
  | v :: r => o "," :: v :: flatn r
def sepn : List Str → List Str
  | [] => []
  | v :: r => v :: flatn r
def dtk (d : Df) : List Str := o "def" :: d.name :: o "(" :: (sepn d.pars ++ o ")" :: o "=" :: (ptk d.term ++ [o ";"]))
def dtks : List Df → List Str
  | [] => []
  | d :: r => dtk d ++ dtks r
def stk (s : Sc) : List Str := dtks s.defs ++ ptk s.body
/-- a term that the reader can read with no bracket open -/
structure Rdb (t : Tm) : Prop where
  ok : Okd t
  nest : K13.nest t ≤ 16
section
variable {P : Program} {w : World} {K : PySem.W.Frag} {mg : Str → Option Value} {base : Heap}
def sp_init (K : PySem.W.Frag) : Sp := fun vs H Q _ => ∃ (x dx : Addr) (ps : List (Nat × Str)) (k : Nat), vs = [.ref x, .str (S (lay ps ++ List.replicate k 32))] ∧ H x = some (.ins (He.ga K "Reader") dx []) ∧ Lx ps ∧ ps.length ≤ 200 ∧ (lay ps ++ List.replicate k 32).length ≤ 5000 ∧
  ∀ H' R, Ext [x] H H' → RS K H' x R 0 (ps.map (·.2)) → Q .non H'
theorem sc_R_init : FnScope ["self", "text"] ["self", "text"] (defScope s_R_init) := ⟨rfl, rfl, rfl, by decide +kernel, rfl, by decide +kernel, by decide +kernel⟩
theorem Lx.toks : ∀ {ps : List (Nat × Str)}, Lx ps → ∀ p ∈ ps, Tokn p.2
  | [], _, p, h => nomatch h
  | (g, t) :: r, lx, p, h => by
    rcases List.mem_cons.mp h with e | h
    · subst e; exact lx.head
    · exact lx.tail.toks p h
theorem ok_init (T : Tx w K mg) : ∃ fd, FnOk P w K mg base CX0 5 (He.ma K (He.ga K "Reader") "__init__") fd ["self", "text"] (sp_init K) ∧ Binds K fd ["self", "text"] [] := by
  have C_tokens := ok_tokens T (P := P) (base := base)
  obtain ⟨fd, F⟩ := T.f_R_init
  refine ⟨fd, F.ok sc_R_init (fun vs H Q E h => ?_) (fun cdv A outer s H vs Q E hr h => ?_), F.bindsN (fun _ _ _ _ _ _ us hl => match us, hl with | [_, _], _ => rfl)⟩
  · obtain ⟨x, dx, ps, k, rfl, _⟩ := h; rfl
  obtain ⟨x, dx, ps, k, rfl, hx, lx, l2, l5, q⟩ := h
  refine ⟨_, PSs.nox (pss_cons (ps_fld (pv 0) (pe_cal C_tokens (hr.mono (by omega)) rfl (pa_cons (pv 1) pa_nil)) rfl)
    (pss_cons (ps_fld (pv 0) (pe_callB call_len (by rfl) T.n_len (by decide +kernel) (pa_cons (pv 1) pa_nil)) rfl)
    (pss_cons (ps_fld (pv 0) (pe_int) rfl)
    (pss_one (ps_fld (pv 0) (pe_int) rfl))))), ?_⟩
  generalize hL : lay ps ++ List.replicate k 32 = L at *
  have lz : (S L).length ≤ sizeLine := by rw [S_len]; exact small (by omega)
  refine ⟨_, rfl, ps, k, by rw [hL], lx, l2, by rw [hL]; exact l5, fun l H1 rs e1 hl hr rl => ?_⟩
  have hx1 := e1 _ _ hx (by simp)
  refine ⟨_, rfl, x, _, _, _, rfl, hx1, T.cl, T.na_rows, by show 0 < 1000; decide, ?_⟩
  refine ⟨_, rfl, _, (S L).length, rfl, ⟨lz, rfl⟩, _, rfl, x, _, _, _, rfl, upd_same, T.cl, T.na_length, by show 1 < 1000; decide, ?_⟩
  refine ⟨_, rfl, x, _, _, _, rfl, upd_same, T.cl, T.na_at, by show 2 < 1000; decide, ?_⟩
  refine ⟨_, rfl, x, _, _, _, rfl, upd_same, T.cl, T.na_opened, by show 3 < 1000; decide, ?_⟩
  have nl : l ≠ x := fun z => by subst z; rw [hx] at hl; cases hl
  refine q _ l ((((e1.nil.set (by simp)).set (by simp)).set (by simp)).set (by simp)) ⟨dx, L.length, 0, placed 0 ps, rs, ?_, ?_, ?_, Nat.zero_le _, ?_, ?_, ?_⟩
  · rw [upd_same, ← S_len L]
    rfl
  · rw [upd_ne nl, upd_ne nl, upd_ne nl, upd_ne nl]; exact hr
  · refine rl.keep fun b xs h => ?_
    have nt : NoT H1 [x] := .ins hx1 .nil
    exact Ext.tup ((((Ext.refl [x] H1).set (by simp)).set (by simp)).set (by simp) |>.set (by simp)) nt h
  · rw [List.drop_zero, placed_fst]
  · rw [placed_len]; exact l2
  · intro r hr2
    have h1 : r.1 ∈ ps.map (·.2) := by rw [← placed_fst 0 ps]; exact List.mem_map_of_mem hr2
    obtain ⟨p, hp, e⟩ := List.mem_map.mp h1
    obtain ⟨c, q1, _, _, h16⟩ := (lx.toks p hp).shape
    rw [← e]; omega
def sp_def (K : PySem.W.Frag) : Sp := fun vs H Q _ => ∃ (d : Df) (a R : Addr) (rest : List Str), vs = [.ref a] ∧ RS K H a R 0 (dtk d ++ rest) ∧ WfD d ∧ Rdb d.term ∧ ∀ r H', Ext [a] H H' → RS K H' a R 0 rest → Rp K H' d.enc r → Q r H'
theorem sc_R_definition : FnScope ["self", "name", "parameters", "term"] ["self"] (defScope s_R_definition) := ⟨rfl, rfl, rfl, by decide +kernel, rfl, by decide +kernel, by decide +kernel⟩
theorem ok_definition (T : Tx w K mg) : Met P w K mg base "definition" 189 ["self"] (sp_def K) := by
  have C_token := ok_token T (P := P) (base := base)
  have C_take := ok_take T (P := P) (base := base)
  have C_name := ok_name T (P := P) (base := base)
  have C_comma := ok_comma T (P := P) (base := base)
  refine Met.of T.cl T.f_R_definition T.me_definition sc_R_definition (fun _ _ _ _ _ _ us hl => match us, hl with | [_], _ => rfl) (fun vs H Q E h => ?_) (fun f cdv A outer s H vs Q E hr h => ?_)
  · obtain ⟨d, a, R, rest, rfl, _⟩ := h; rfl
  obtain ⟨⟨nm, pars, term⟩, a, R, rest, rfl, hrs, ⟨wn, w4, wp, wt⟩, ⟨okt, nst⟩, q⟩ := h
  have C_expression := (ok_parse T (P := P) (base := base) (sz term)).1 16
  refine ⟨_, pss_cons (ps_expr (pe_met C_take (hr.mono (by omega)) (fun _ _ _ _ => rfl) (pv 0) (pa_cons (pe_str) pa_nil)))
    (pss_cons (ps_set (i := 1) sc_R_definition.nd rfl (Or.inl rfl) (pe_met0 C_name (hr.mono (by omega)) (fun _ _ _ _ => rfl) (pv 0)))
    (pss_cons (ps_expr (pe_met C_take (hr.mono (by omega)) (fun _ _ _ _ => rfl) (pv 0) (pa_cons (pe_str) pa_nil)))
    (pss_cons (ps_set (i := 2) sc_R_definition.nd rfl (Or.inl rfl) (pe_lst pa_nil))
    (C8.pss_cut (ps_if (pt_cmpR op_ne (pe_met0 C_token (hr.mono (by omega)) (fun _ _ _ _ => rfl) (pv 0)) (pe_str) (nomark _))
    (pss_cons (ps_expr (pe_bm PySem.F.plainAttrs_list PySem.F.slot_list_append PySem.F.type_list_append mt_append (pv 2) (pa_cons (pe_met0 C_name (hr.mono (by omega)) (fun _ _ _ _ => rfl) (pv 0)) pa_nil)))
      (pss_one (ps_while PassesOwn.never (pt_val (pe_met C_comma (hr.mono (by omega)) (fun _ _ _ _ => rfl) (pv 0) (pa_cons (pe_callB call_len (by rfl) T.n_len (by decide +kernel) (pa_cons (pv 2) pa_nil)) (pa_cons (pe_gi rfl T.i_MOST_PARAMETERS) pa_nil))))
      (pss_one (ps_expr (pe_bm PySem.F.plainAttrs_list PySem.F.slot_list_append PySem.F.type_list_append mt_append (pv 2) (pa_cons (pe_met0 C_name (hr.mono (by omega)) (fun _ _ _ _ => rfl) (pv 0)) pa_nil)))))))
    (pss_nil))
    (pss_cons (ps_expr (pe_met C_take (hr.mono (by omega)) (fun _ _ _ _ => rfl) (pv 0) (pa_cons (pe_str) pa_nil)))
    (pss_cons (ps_expr (pe_met C_take (hr.mono (by omega)) (fun _ _ _ _ => rfl) (pv 0) (pa_cons (pe_str) pa_nil)))
    (pss_cons (ps_set (i := 3) sc_R_definition.nd rfl (Or.inl rfl) (pe_met0 C_expression (hr.mono (by omega)) (fun _ _ _ _ => rfl) (pv 0)))
    (pss_cons (ps_expr (pe_met C_take (hr.mono (by omega)) (fun _ _ _ _ => rfl) (pv 0) (pa_cons (pe_str) pa_nil)))
    (pss_one (ps_ret (pe_tup (pa_cons (pv 1) (pa_cons (pe_callTy call_tuple_of (by rfl) T.n_tuple (by decide +kernel) (pa_cons (pv 2) pa_nil)) (pa_cons (pv 3) pa_nil)))))))))))))), ?_⟩
  unfold dtk at hrs
  simp only [List.cons_append, List.append_assoc, List.nil_append] at hrs
  refine ⟨_, rfl, hrs.rd, a, R, 0, _, _, rfl, hrs, fun H1 e1 h1 => ?_⟩
  refine ⟨_, rfl, h1.rd, a, R, 0, _, _, rfl, h1, wn, fun H2 e2 h2 => ?_⟩
  refine ⟨_, rfl, h2.rd, a, R, 0, _, _, rfl, h2, fun H3 e3 h3 => ?_⟩
  refine ⟨Nat.zero_le _, fun f0 hf0 => ?_⟩
  have e4 : Ext [] H3 (upd H3 f0 (.lst [])) := .new hf0
  have h4 := h3.ex0 e4
  obtain ⟨na, nR⟩ := h3.off hf0
  generalize hrest : K13.o "=" :: (ptk term ++ K13.o ";" :: rest) = rest1 at h4
  refine ⟨fun σ' H5 => ∃ x3, σ' = [some (.ref a), some (.str nm), some (.ref f0), x3] ∧ Ext [a] H3 H5 ∧ H5 f0 = some (.lst (pars.map V.str)) ∧ RS K H5 a R 0 (K13.o ")" :: rest1), ?_, ?_⟩
  rotate_left
  · rintro σ' H5 ⟨x3, rfl, e5, hf, h5⟩
    refine ⟨_, rfl, h5.rd, a, R, 0, _, _, rfl, h5, fun H6 e6 h6 => ?_⟩
    rw [← hrest] at h6
    refine ⟨_, rfl, h6.rd, a, R, 0, _, _, rfl, h6, fun H7 e7 h7 => ?_⟩
    refine ⟨_, rfl, h7.rd, term, a, R, 0, _, rfl, h7, ⟨wt, okt, Nat.le_refl _, nst, by have h : nest term ≤ 16 := nst; omega⟩, stops (by decide +kernel), fun r8 H8 e8 h8 q8 => ?_⟩
    refine ⟨_, rfl, h8.rd, a, R, 0, _, _, rfl, h8, fun H9 e9 h9 => ?_⟩
    have ef : Ext [a] H5 H9 := (e6.trans e7).trans (e8.trans e9)
    have hf9 := ef _ _ hf (by simpa using na)
    refine ⟨_, rfl, _, rfl, f0, _, rfl, .inl ⟨.of hf9, fun l hl => ?_⟩⟩
    refine ⟨_, rfl, by show 3 ≤ sizeLine; decide, fun pt hpt => ?_⟩
    have eA : Ext [] H9 (upd H9 l (.tup (pars.map V.str))) := .new hl
    have eB : Ext [] (upd H9 l (.tup (pars.map V.str))) (upd (upd H9 l (.tup (pars.map V.str))) pt (.tup [.str nm, .ref l, r8])) := .new hpt
    refine q _ _ (((e1.trans e2).trans (e3.trans e5)).trans (ef.trans (eA.trans eB).nil)) (h9.ex0 (eA.trans eB)) ?_
    exact Df.mk_ (SqT.of upd_same) (eB.tup .nil (SqT.of upd_same)) ((q8.past e9 h8).ex0 (eA.trans eB))
  cases pars with
  | nil =>
    have h4 : RS K (upd H3 f0 (.lst [])) a R 0 (K13.o ")" :: rest1) := h4
    refine ⟨_, rfl, h4.rd, a, R, 0, _, rfl, h4, rfl, _, rfl, ?_⟩
    rw [show decide (V.str (hd0 (K13.o ")" :: rest1)) = V.str (Str.ofString ")")) = true from decide_eq_true rfl]
    exact iteF ⟨_, rfl, (Ext.refl _ _).own hf0, upd_same, h4⟩
  | cons c cs =>
    have hc : Name c := wp c (by simp)
    have h4 : RS K (upd H3 f0 (.lst [])) a R 0 (c :: (flatn cs ++ K13.o ")" :: rest1)) := h4
    refine ⟨_, rfl, h4.rd, a, R, 0, _, rfl, h4, rfl, _, rfl, ?_⟩
    rw [show decide (V.str (hd0 (c :: (flatn cs ++ K13.o ")" :: rest1))) = V.str (Str.ofString ")")) = false from decide_eq_false fun z => absurd (V.str.inj z) (wne hc.toWord (by decide +kernel))]
    refine iteT ⟨_, rfl, .inl ⟨rfl, _, SqL.of upd_same⟩, _, rfl, h4.rd, a, R, 0, _, _, rfl, h4, hc, fun H5 e5 h5 => ?_⟩
    have hf5 : H5 f0 = some (.lst []) := e5 _ _ upd_same (by simpa using na)
    refine ⟨f0, [], _, rfl, rfl, hf5, by show 0 < sizeLine; decide, ?_⟩
    have ee : Ext [a] H3 (upd H5 f0 (.lst [.str c])) := ((e4.nil).trans e5).own hf0
    have h6 := h5.put (v := .lst [.str c]) (u := .lst []) na nR (.lst hf5 .nil)
    let W : Nat → L2.St → Hp → Prop := fun m σ H' => ∃ (k : Nat) (x : Option V), m = cs.length - k ∧ k ≤ cs.length ∧ σ = [some (.ref a), some (.str nm), some (.ref f0), x] ∧ Ext [a] H3 H' ∧ H' f0 = some (.lst ((c :: cs.take k).map V.str)) ∧ RS K H' a R 0 (flatn (cs.drop k) ++ K13.o ")" :: rest1)
    refine ⟨W, ⟨_, 0, none, rfl, Nat.zero_le _, rfl, ee, upd_same, h6⟩, ?_⟩
    rintro m' σ H' ⟨k, x, rfl, lk, rfl, e7, hf7, h7⟩
    have lx : ((c :: cs.take k).map V.str).length = k + 1 := by
      rw [List.length_map, List.length_cons, List.length_take]; omega
    have ll : cs.length + 1 ≤ 4 := w4
    refine ⟨_, rfl, h7.rd, _, rfl, _, ((c :: cs.take k).map V.str).length, rfl, .inl ⟨_, SqL.of hf7, rfl⟩, a, R, 0, _, 4, _, rfl, h7, fun hn => ?_, fun r er => ?_⟩
    · refine ⟨_, rfl, iteF ?_⟩
      have ed : cs.drop k = [] := by
        cases ed : cs.drop k with
        | nil => rfl
        | cons b r => rw [ed] at hn; exact absurd rfl hn
      have ek : cs.take k = cs := by
        have := List.drop_eq_nil_iff.mp ed
        rw [List.take_of_length_le this]
      rw [ek] at hf7
      rw [ed] at h7
      exact ⟨_, rfl, e7, hf7, h7⟩
    · cases ed : cs.drop k with
      | nil =>
        rw [ed] at er
        exact absurd (List.cons.inj er).1 (by decide +kernel)
      | cons b r' =>
        rw [ed] at er
        have er : b :: (flatn r' ++ K13.o ")" :: rest1) = r := (List.cons.inj er).2
        have hb : cs[k]? = some b := by
          have := congrArg (·[0]?) ed
          simpa using this
        have er' : cs.drop (k + 1) = r' := by rw [← List.drop_drop, ed]; rfl
        have lk2 : k < cs.length := (List.getElem?_eq_some_iff.mp hb).1
        refine ⟨by rw [lx]; omega, fun H8 e8 h8 => ⟨_, rfl, iteT ?_⟩⟩
        refine ⟨W (cs.length - (k + 1)), fun σ' H'' n => ⟨_, by omega, n⟩, ?_⟩
        have hf8 := e8 _ _ hf7 (by simpa using na)
        rw [← er] at h8
        refine ⟨_, rfl, .inl ⟨rfl, _, SqL.of hf8⟩, _, rfl, h8.rd, a, R, 0, _, _, rfl, h8, wp b (by simp [mem_at hb]), fun H9 e9 h9 => ?_⟩
        have hf9 := e9 _ _ hf8 (by simpa using na)
        refine ⟨f0, _, _, rfl, rfl, hf9, small' (by rw [lx]; omega), ?_⟩
        refine ⟨k + 1, _, rfl, lk2, rfl, ((e7.trans e8).trans e9).own hf0, ?_, ?_⟩
        · rw [upd_same, take_snoc hb, ← List.cons_append, List.map_append]; rfl
        · rw [er']
          exact h9.put (u := .lst ((c :: cs.take k).map V.str)) na nR (.lst hf9 .nil)
def sp_script (K : PySem.W.Frag) : Sp := fun vs H Q _ => ∃ (s : Sc) (a R : Addr), vs = [.ref a] ∧ RS K H a R 0 (stk s) ∧ WfS s ∧ (∀ t ∈ s.terms, Rdb t) ∧ ∀ r H', Ext [a] H H' → Rp K H' s.enc r → Q r H'
theorem sc_R_script : FnScope ["self", "definitions", "body"] ["self"] (defScope s_R_script) := ⟨rfl, rfl, rfl, by decide +kernel, rfl, by decide +kernel, by decide +kernel⟩
theorem ok_script (T : Tx w K mg) : Met P w K mg base "script" 190 ["self"] (sp_script K) := by
  have C_token := ok_token T (P := P) (base := base)
  have C_definition := ok_definition T (P := P) (base := base)
  refine Met.of T.cl T.f_R_script T.me_script sc_R_script (fun _ _ _ _ _ _ us hl => match us, hl with | [_], _ => rfl) (fun vs H Q E h => ?_) (fun f cdv A outer s H vs Q E hr h => ?_)
  · obtain ⟨d, a, R, rfl, _⟩ := h; rfl
  obtain ⟨⟨ds, body⟩, a, R, rfl, hrs, ⟨w6, wds, wb⟩, rdb, q⟩ := h
  have C_expression := (ok_parse T (P := P) (base := base) (sz body)).1 16
  refine ⟨_, pss_cons (ps_set (i := 1) sc_R_script.nd rfl (Or.inl rfl) (pe_lst pa_nil))
    (pss_cons (ps_while PassesOwn.never (pt_cmpR op_eq (pe_met0 C_token (hr.mono (by omega)) (fun _ _ _ _ => rfl) (pv 0)) (pe_str) (nomark _))
    (pss_cons (ps_if (pt_cmpR op_eq (pe_callB call_len (by rfl) T.n_len (by decide +kernel) (pa_cons (pv 1) pa_nil)) (pe_gi rfl T.i_MOST_DEFINITIONS) (nomark _))
      (pss_one (ps_never))
      (pss_nil))
      (pss_one (ps_expr (pe_bm PySem.F.plainAttrs_list PySem.F.slot_list_append PySem.F.type_list_append mt_append (pv 1) (pa_cons (pe_met0 C_definition (hr.mono (by omega)) (fun _ _ _ _ => rfl) (pv 0)) pa_nil))))))
    (pss_cons (ps_set (i := 2) sc_R_script.nd rfl (Or.inl rfl) (pe_met0 C_expression (hr.mono (by omega)) (fun _ _ _ _ => rfl) (pv 0)))
    (pss_cons (ps_if (pt_cmpR op_lt (pe_fld (pv 0) rfl) (pe_callB call_len (by rfl) T.n_len (by decide +kernel) (pa_cons (pe_fld (pv 0) rfl) pa_nil)) (nomark _))
    (pss_one (ps_never))
    (pss_nil))
    (pss_one (ps_ret (pe_tup (pa_cons (pe_callTy call_tuple_of (by rfl) T.n_tuple (by decide +kernel) (pa_cons (pv 1) pa_nil)) (pa_cons (pv 2) pa_nil)))))))), ?_⟩
  have rb : Rdb body := rdb body (by unfold Sc.terms; simp)
  refine ⟨Nat.zero_le _, fun f0 hf0 => ?_⟩
  have e1 : Ext [] H (upd H f0 (.lst [])) := .new hf0
  have h1 : RS K (upd H f0 (.lst [])) a R 0 (dtks ds ++ ptk body) := hrs.ex0 e1
  obtain ⟨na, nR⟩ := hrs.off hf0
  let W : Nat → L2.St → Hp → Prop := fun m σ H' => ∃ (k : Nat) (x : Option V) (xs : List V), m = ds.length - k ∧ k ≤ ds.length ∧ σ = [some (.ref a), some (.ref f0), x] ∧ Ext [a] H H' ∧ H' f0 = some (.lst xs) ∧ RpL K H' ((ds.take k).map Df.enc) xs ∧ RS K H' a R 0 (dtks (ds.drop k) ++ ptk body)
  refine ⟨W, ⟨_, 0, none, [], rfl, Nat.zero_le _, rfl, e1.nil, upd_same, rfl, h1⟩, ?_⟩
  rintro m' σ H' ⟨k, x, xs, rfl, lk, rfl, e2, hf2, rl, h2⟩
  have lx : xs.length = k := by
    have := rl.length
    rw [List.length_map, List.length_take] at this
    omega
  refine ⟨_, rfl, h2.rd, a, R, 0, _, rfl, h2, rfl, _, rfl, ?_⟩
  cases ed : ds.drop k with
  | nil =>
    rw [ed] at h2
    have h2 : RS K H' a R 0 (ptk body ++ []) := by rw [List.append_nil]; exact h2
    obtain ⟨t, r, et, nt⟩ := first_tok body wb rb.ok
    have nt := nof_mono (Nat.zero_le _) nt
    have nn : hd0 (dtks [] ++ ptk body) ≠ Str.ofString "def" := by
      show hd0 (ptk body) ≠ _
      rw [et]
      exact fun z => nt (by have z : t = _ := z; rw [z]; decide +kernel)
    rw [show decide (V.str (hd0 (dtks [] ++ ptk body)) = V.str (Str.ofString "def")) = false from decide_eq_false fun z => nn (V.str.inj z)]
    refine iteF ⟨_, rfl, h2.rd, body, a, R, 0, [], rfl, h2, ⟨wb, rb.ok, Nat.le_refl _, rb.nest, by have := rb.nest; omega⟩, stop_ok (by decide +kernel), fun r3 H3 e3 h3 q3 => ?_⟩
    have ek : ds.take k = ds := by
      have := List.drop_eq_nil_iff.mp ed
      rw [List.take_of_length_le this]
    have hf3 := e3 _ _ hf2 (by simpa using na)
    have rl3 := rl.ext e3 h2.not
    obtain ⟨dx, n, i, rows, rs, k1, k2, k3, k4, k5, k6, k7⟩ := h3
    have lr : rs.length = rows.length := by have := k3.length; rw [List.length_map] at this; exact this.symm
    have hi : rows.length ≤ i := by
      have := congrArg List.length k5
      rw [List.length_map, List.length_drop] at this
      simp at this; omega
    refine ⟨_, rfl, a, _, _, _, _, rfl, k1, T.cl, T.na_at, fl_at, _, rfl, a, _, _, _, _, rfl, k1, T.cl, T.na_rows, fl_rows, _, rs.length, rfl, .inl ⟨rs, SqL.of k2, rfl⟩, _, _, rfl, rfl, _, rfl, ?_⟩
    show if decide ((i : Int) < (rs.length : Int)) = true then _ else _
    rw [decide_eq_false (show ¬ ((i : Int) < (rs.length : Int)) by rw [lr]; omega)]
    refine iteF ⟨_, rfl, f0, _, rfl, .inl ⟨.of hf3, fun l hl => ?_⟩⟩
    refine ⟨_, rfl, by show 2 ≤ sizeLine; decide, fun pt hpt => ?_⟩
    have eA : Ext [] H3 (upd H3 l (.tup xs)) := .new hl
    have eB : Ext [] (upd H3 l (.tup xs)) (upd (upd H3 l (.tup xs)) pt (.tup [.ref l, r3])) := .new hpt
    refine q _ _ ((e2.trans e3).trans (eA.trans eB).nil) ?_
    rw [ek] at rl3
    exact Sc.mk_ (SqT.of upd_same) (eB.tup .nil (SqT.of upd_same)) (rl3.ex0 (eA.trans eB)) (q3.ex0 (eA.trans eB))
  | cons d tl =>
    rw [ed] at h2
    have hb : ds[k]? = some d := by
      have := congrArg (·[0]?) ed
      simpa using this
    have er' : ds.drop (k + 1) = tl := by rw [← List.drop_drop, ed]; rfl
    have lk2 : k < ds.length := (List.getElem?_eq_some_iff.mp hb).1
    have hd : d ∈ ds := mem_at hb
    rw [show decide (V.str (hd0 (dtks (d :: tl) ++ ptk body)) = V.str (Str.ofString "def")) = true from decide_eq_true rfl]
    refine iteT ⟨W (ds.length - (k + 1)), fun σ' H'' n => ⟨_, by omega, n⟩, ?_⟩
    have h2 : RS K H' a R 0 ((dtk d ++ dtks tl) ++ ptk body) := h2
    rw [List.append_assoc] at h2
    refine ⟨_, rfl, _, xs.length, rfl, .inl ⟨xs, SqL.of hf2, rfl⟩, rfl, _, rfl, ?_⟩
    rw [show decide (V.int (xs.length : Int) = V.int 6) = false from decide_eq_false fun z => by have := V.int.inj z; have : ds.length ≤ 6 := w6; omega]
    refine iteF ⟨_, rfl, .inl ⟨rfl, _, SqL.of hf2⟩, _, rfl, h2.rd, d, a, R, _, rfl, h2, wds d hd, rdb d.term (by unfold Sc.terms; exact List.mem_append_left _ (List.mem_map_of_mem hd)), fun r3 H3 e3 h3 q3 => ?_⟩
    have hf3 := e3 _ _ hf2 (by simpa using na)
    refine ⟨f0, xs, _, rfl, rfl, hf3, small' (by have : ds.length ≤ 6 := w6; omega), ?_⟩
    refine ⟨k + 1, _, xs ++ [r3], rfl, lk2, rfl, (e2.trans e3).own hf0, upd_same, ?_, ?_⟩
    · rw [take_snoc hb, List.map_append]
      exact ((rl.ext e3 h2.not).ext (ms := [f0]) ((Ext.refl _ _).set (by simp)) (.lst hf3 .nil)).snoc (q3.ext (ms := [f0]) ((Ext.refl _ _).set (by simp)) (.lst hf3 .nil))
    · rw [er']
      exact h3.put (u := .lst xs) na nR (.lst hf3 .nil)
end
end K13

/-! W17: read_script -/
namespace K13
open PySem PySem.Spec PyProof.Rows L2
section
variable {P : Program} {w : World} {K : PySem.W.Frag} {mg : Str → Option Value} {base : Heap}
def sp_read_script (K : PySem.W.Frag) : Sp := fun vs H Q _ => ∃ (s : Sc) (ps : List (Nat × Str)) (k : Nat), vs = [.str (S (lay ps ++ List.replicate k 32))] ∧ Lx ps ∧ ps.map (·.2) = stk s ∧ ps.length ≤ 200 ∧ (lay ps ++ List.replicate k 32).length ≤ 5000 ∧
  WfS s ∧ UsS s ∧ s.dep ≤ 16 ∧ (∀ t ∈ s.terms, Rdb t) ∧ ∀ r H', Ext [] H H' → Rp K H' s.enc r → Q r H'
theorem sc_read_script : FnScope ["text", "script", "deepest", "term"] ["text"] (defScope s_read_script) := ⟨rfl, rfl, rfl, by decide +kernel, rfl, by decide +kernel, by decide +kernel⟩
theorem ok_read_script (T : Tx w K mg) : Cal P w K mg base "read_script" 191 ["text"] (sp_read_script K) := by
  have C_script := ok_script T (P := P) (base := base)
  have C_check_uses := ok_check_uses T (P := P) (base := base)
  have C_terms_of := ok_terms_of T (P := P) (base := base)
  have C_depth := ok_depth T (P := P) (base := base) 16
  obtain ⟨fdi, Fi, bi⟩ := ok_init T (P := P) (base := base)
  refine Cal.of T.f_read_script T.g_read_script sc_read_script (fun _ _ _ _ _ _ us hl => match us, hl with | [_], _ => rfl) (fun vs H Q E h => ?_) (fun f cdv A outer s H vs Q E hr h => ?_)
  · obtain ⟨d, a, R, rfl, _⟩ := h; rfl
  obtain ⟨s, ps, k, rfl, lx, etk, l2, l5, wf, us, d16, rdb, q⟩ := h
  refine ⟨_, pss_cons (ps_set (i := 1) sc_read_script.nd rfl (Or.inl rfl) (pe_met0 C_script (hr.mono (by omega)) (fun _ _ _ _ => rfl) (pe_make T.mk_ Fi (hr.mono (by omega)) rfl T.g_Reader bi .nil pass0 (pa_cons (pv 0) pa_nil))))
    (pss_cons (ps_expr (pe_cal C_check_uses (hr.mono (by omega)) rfl (pa_cons (pv 1) pa_nil)))
    (pss_cons (ps_set (i := 2) sc_read_script.nd rfl (Or.inl rfl) (pe_callB (cr_max rfl) (by rfl) T.n_max (by decide +kernel) (pa_cons (pe_lc (own := [("term", 3)]) (g := gName 3) rfl sc_read_script.nd (pi_list (pe_cal C_terms_of (hr.mono (by omega)) rfl (pa_cons (pv 1) pa_nil))) (blkOk_by (N := ["text", "script", "deepest", "term"]) (own := [("term", 3)]) (sc := defScope s_read_script) (by decide +kernel)) (fun _ _ _ _ _ => pg_name (i := 3) sc_read_script.nd rfl (Or.inl rfl)) (fun _ _ _ _ _ => pts_nil) (fun _ _ _ _ _ => (pe_cal C_depth (hr.mono (by omega)) rfl (pa_cons (pv 3) pa_nil)))) pa_nil)))
    (pss_cons (ps_if (pt_cmpR op_gt (pv 2) (pe_gi rfl T.i_MOST_DEPTH) (nomark _))
    (pss_one (ps_never))
    (pss_nil))
    (pss_one (ps_ret (pv 1)))))), ?_⟩
  refine ⟨_, rfl, fun x dx hx hdx ndx => ?_⟩
  have e0 : Ext [] H (upd (upd H dx (.own x)) x (.ins (He.ga K "Reader") dx [])) := (Ext.new hdx).trans (.new (by rw [upd_ne (Ne.symm ndx)]; exact hx))
  refine ⟨x, dx, ps, k, rfl, upd_same, lx, l2, l5, fun H1 R e1 h1 => ⟨rfl, h1.rd, ?_⟩⟩
  have eH1 : Ext [] H H1 := fun b u hb n => by
    have nb : b ≠ x := ne_of_none hb hx
    exact e1 b u (e0 b u hb n) (by simpa using nb)
  rw [etk] at h1
  refine ⟨s, x, R, rfl, h1, wf, rdb, fun r H2 e2 q2 => ?_⟩
  have eH2 : Ext [] H H2 := fun b u hb n => by
    have nb : b ≠ x := ne_of_none hb hx
    exact e2 b u (eH1 b u hb n) (by simpa using nb)
  refine ⟨_, rfl, s, r, rfl, q2, wf, us, d16, fun H3 e3 => ?_⟩
  have q3 := q2.ex0 e3
  refine ⟨_, rfl, s, r, rfl, q3, wf.few, fun l H4 xs e4 hl rl => ?_⟩
  refine ⟨l, rfl, ⟨xs, SqL.of hl⟩, fun Dl hD => ?_⟩
  have ln : xs.length = s.terms.length := by have := rl.length; rw [List.length_map] at this; exact this.symm
  have l7 : s.terms.length ≤ 7 := by unfold Sc.terms; rw [List.length_append, List.length_map]; have := wf.few; simp; omega
  have wt : ∀ t ∈ s.terms, Wf t := fun t ht => by
    unfold Sc.terms at ht
    rcases List.mem_append.mp ht with ht | ht
    · obtain ⟨d, hd, rfl⟩ := List.mem_map.mp ht
      exact (wf.defs d hd).term
    · rw [List.mem_singleton.mp ht]; exact wf.body
  have dt : ∀ t ∈ s.terms, dep t ≤ 16 := fun t ht => Nat.le_trans (le_maxl (List.mem_map_of_mem ht)) d16
  refine lc_list (xs := xs) (fun i H' => Ext [] H4 H' ∧ H' Dl = some (.lst ((s.terms.take i).map fun c => V.int (dep c)))) ⟨(Ext.refl _ _).own hD, upd_same⟩ (fun i H' _ pv => pv.1.sqL (.of hl)) (fun i x H' hx pv => ?_) (fun H' pv => ?_)
  · obtain ⟨c, hc, rc⟩ := rl.at_ hx
    refine ⟨rfl, yes_ (iteT ?_)⟩
    refine ⟨_, rfl, c, x, rfl, rc.ex0 pv.1, wt c (mem_at hc), dt c (mem_at hc), fun H3 e3 => ?_⟩
    refine ⟨_, e3 _ _ pv.2 (by simp), ?_, (pv.1.trans e3).own hD, ?_⟩
    · rw [List.length_map, List.length_take]
      exact small' (by omega)
    · rw [upd_same, take_snoc hc, List.map_append]; rfl
  · obtain ⟨pe, pl⟩ := pv
    rw [ln, List.take_length] at pl
    refine ⟨Dl, s.terms.map (fun c => (dep c : Int)), rfl, SqL.of (by rw [pl]; simp [Function.comp_def]), by unfold Sc.terms; simp, fun m hm hle => ?_⟩
    obtain ⟨c, hc, rfl⟩ := List.mem_map.mp hm
    refine ⟨_, rfl, _, _, rfl, rfl, _, rfl, ?_⟩
    show if decide ((16 : Int) < (dep c : Int)) = true then _ else _
    rw [decide_eq_false (show ¬ ((16 : Int) < (dep c : Int)) by have := dt c hc; omega)]
    exact iteF ⟨_, rfl, q _ _ (eH2.trans (e3.trans (e4.trans pe))) ((q3.ex0 e4).ex0 pe)⟩
end
end K13

/-! L1: the law's numbers, draws, words -/
namespace K13
open PySem PySem.Spec PyProof.Rows L2
/-- the list of draws -/
def Dr (H : Hp) (d : Addr) : Prop := ∃ xs : List Int, H d = some (.lst (xs.map V.int))
theorem Dr.ex {H H' : Hp} {d : Addr} {ms : List Addr} (h : Dr H d) (e : Ext ms H H') (n : d ∉ ms) : Dr H' d := by
  obtain ⟨xs, h⟩ := h
  exact ⟨xs, e _ _ h n⟩
theorem Dr.not {H : Hp} {d : Addr} (h : Dr H d) : NoT H [d] := by
  obtain ⟨xs, h⟩ := h
  exact .lst h .nil
theorem Dr.off {H : Hp} {d l : Addr} (h : Dr H d) (n : H l = none) : l ≠ d := fun z => by
  subst z
  obtain ⟨xs, h⟩ := h
  rw [h] at n; cases n
def nxt (a b : Int) : Int := (a * 48271 + b * 69621 + 11) % 2147483647
theorem pos_ {j : Int} (h : 0 < j) : (fun (_ j : Int) => 0 < j) 0 j := h
section
variable {P : Program} {w : World} {K : PySem.W.Frag} {mg : Str → Option Value} {base : Heap}
def sp_numbers (K : PySem.W.Frag) : Sp := fun vs H Q _ => ∃ (s : Addr) (cs : List Int), vs = [.ref s, .int 700] ∧ SqL K H s (cs.map V.int) ∧ cs.length ≤ 63 ∧ ∀ d H', Ext [] H H' → H d = none → Dr H' d → Q (.ref d) H'
theorem sc_law_numbers : FnScope ["_law_script", "_law_many", "_law_numbers_here", "_law_seed", "_law_cell", "_law_rest", "_law_turn", "_law_k", "_law_mixed"] ["_law_script", "_law_many"] (defScope s_law_numbers) := ⟨rfl, rfl, rfl, by decide +kernel, rfl, by decide +kernel, by decide +kernel⟩
theorem ok_law_numbers (T : Tx w K mg) : Cal P w K mg base "_law_numbers" 1 ["_law_script", "_law_many"] (sp_numbers K) := by
  refine Cal.of T.f_law_numbers T.g__law_numbers sc_law_numbers (fun _ _ _ _ _ _ us hl => match us, hl with | [_, _], _ => rfl) (fun vs H Q E h => ?_) (fun f cdv A outer s H vs Q E hr h => ?_)
  · obtain ⟨s, cs, rfl, _⟩ := h; rfl
  obtain ⟨s, cs, rfl, hs, l63, q⟩ := h
  refine ⟨_, pss_cons (ps_set (i := 2) sc_law_numbers.nd rfl (Or.inl rfl) (pe_lst pa_nil))
    (pss_cons (ps_set (i := 3) sc_law_numbers.nd rfl (Or.inl rfl) (pe_int))
    (pss_cons (ps_for PassesOwn.never rfl (pi_list (pv 0)) (pg_name (i := 4) sc_law_numbers.nd rfl (Or.inl rfl))
    (pss_cons (ps_set (i := 5) sc_law_numbers.nd rfl (Or.inl rfl) (pe_callB call_abs (by rfl) T.n_abs (by decide +kernel) (pa_cons (pv 4) pa_nil)))
      (pss_cons (ps_set (i := 3) sc_law_numbers.nd rfl (Or.inl rfl) (pe_op op_mod (pe_callTy call_int1 (by rfl) T.n_int (by decide +kernel) (pa_cons (pe_op op_add (pe_op op_add (pe_op op_mul (pv 3) (pe_int)) (pe_op op_mul (pv 5) (pe_int))) (pe_int)) pa_nil)) (pe_int)))
      (pss_one (ps_if (pt_cmpR op_ge (pv 5) (pe_op op_pow (pe_int) (pe_int)) (nomark _))
      (pss_one (ps_for PassesOwn.never rfl (pi_range1 rfl T.n_range (pa_cons (pe_int) pa_nil)) (pg_name (i := 6) sc_law_numbers.nd rfl (Or.inl rfl))
        (pss_one (ps_if (pt_cmpR op_ge (pv 5) (pe_int) (nomark _))
          (pss_cons (ps_expr (pe_bm PySem.F.plainAttrs_list PySem.F.slot_list_append PySem.F.type_list_append mt_append (pv 2) (pa_cons (pe_op op_mod (pe_callTy call_int1 (by rfl) T.n_int (by decide +kernel) (pa_cons (pv 5) pa_nil)) (pe_int)) pa_nil)))
            (pss_one (ps_set (i := 5) sc_law_numbers.nd rfl (Or.inl rfl) (pe_op op_fdiv (pv 5) (pe_int)))))
          (pss_nil)))))
      (pss_nil))))))
    (pss_cons (ps_set (i := 2) sc_law_numbers.nd rfl (Or.inl rfl) (pe_slice sl_list (pv 2) po_none (po_some (pv 1))))
    (pss_cons (ps_for PassesOwn.never rfl (pi_range1 rfl T.n_range (pa_cons (pe_op op_sub (pv 1) (pe_callB call_len (by rfl) T.n_len (by decide +kernel) (pa_cons (pv 2) pa_nil))) pa_nil)) (pg_name (i := 7) sc_law_numbers.nd rfl (Or.inl rfl))
    (pss_cons (ps_set (i := 8) sc_law_numbers.nd rfl (Or.inl rfl) (pe_op op_mod (pe_callTy call_int1 (by rfl) T.n_int (by decide +kernel) (pa_cons (pe_op op_add (pe_op op_add (pe_op op_mul (pv 3) (pe_int)) (pe_op op_mul (pv 7) (pe_int))) (pe_int)) pa_nil)) (pe_int)))
      (pss_cons (ps_set (i := 8) sc_law_numbers.nd rfl (Or.inl rfl) (pe_op op_mod (pe_callTy call_int1 (by rfl) T.n_int (by decide +kernel) (pa_cons (pe_op op_add (pe_op op_add (pe_op op_mul (pv 8) (pv 8)) (pe_op op_mul (pe_int) (pv 7))) (pe_int)) pa_nil)) (pe_int)))
      (pss_one (ps_expr (pe_bm PySem.F.plainAttrs_list PySem.F.slot_list_append PySem.F.type_list_append mt_append (pv 2) (pa_cons (pe_op op_mod (pe_callTy call_int1 (by rfl) T.n_int (by decide +kernel) (pa_cons (pe_op op_fdiv (pv 8) (pe_int)) pa_nil)) (pe_int)) pa_nil)))))))
    (pss_one (ps_ret (pe_revL (pv 2)))))))), ?_⟩
  refine ⟨Nat.zero_le _, fun f0 hf0 => ?_⟩
  have e1 : Ext [] H (upd H f0 (.lst [])) := .new hf0
  refine ⟨_, rfl, s, rfl, ⟨_, e1.sqL hs⟩, ?_⟩
  refine for_list (xs := cs.map V.int) (fun i σ H' => Ext [] H H' ∧ ∃ (xs : List Int) (seed : Int), H' f0 = some (.lst (xs.map V.int)) ∧ xs.length ≤ 60 * i ∧ 0 ≤ seed ∧ seed < 2147483647 ∧ ∃ x4 x5 x6 x7 x8, σ = [some (.ref s), some (.int 700), some (.ref f0), some (.int seed), x4, x5, x6, x7, x8]) ⟨e1, [], 7, upd_same, Nat.zero_le _, by omega, by omega, none, none, none, none, none, rfl⟩ (fun i σ H' _ pv => pv.1.sqL hs) (fun i x σ H' hx pv => ?_) (fun σ H' pv => ?_)
  · obtain ⟨pe, xs, seed, hf, lx, s0, s1, x4, x5, x6, x7, x8, rfl⟩ := pv
    rw [List.getElem?_map] at hx
    obtain ⟨c, hc, rfl⟩ := Option.map_eq_some_iff.mp hx
    have li : i < cs.length := (List.getElem?_eq_some_iff.mp hc).1
    refine ⟨_, rfl, c, rfl, ?_⟩
    generalize hr0 : (if c < 0 then -c else c) = r0
    refine ⟨_, rfl, _, _, rfl, rfl, .inl ⟨by omega, by omega⟩, _, rfl, _, _, rfl, rfl, .inr ⟨by decide, by decide⟩, _, _, rfl, rfl, _, _, rfl, rfl, .inl ⟨_, rfl, _, _, rfl, rfl, pos_ (by decide), ?_⟩⟩
    have b1 : 0 ≤ nxt seed r0 := Int.emod_nonneg _ (by decide)
    have b2 : nxt seed r0 < 2147483647 := Int.emod_lt_of_pos _ (by decide)
    refine ⟨_, rfl, _, _, rfl, rfl, ⟨by decide, by decide, by decide⟩, _, _, rfl, rfl, _, rfl, ite2 (fun z => ?_) fun z => ?_⟩
    · refine ⟨60, rfl, by decide, by decide, ?_⟩
      refine for_range (fun j σ H'' => Ext [] H H'' ∧ ∃ (xs : List Int) (r : Int), H'' f0 = some (.lst (xs.map V.int)) ∧ xs.length ≤ 60 * i + j ∧ ∃ x6, σ = [some (.ref s), some (.int 700), some (.ref f0), some (.int (nxt seed r0)), some (.int c), some (.int r), x6, x7, x8]) ⟨pe, xs, r0, hf, by omega, x6, rfl⟩ (fun j σ H'' lj pv => ?_) (fun σ H'' pv => ?_)
      · obtain ⟨pe2, ys, r, hf2, ly, y6, rfl⟩ := pv
        refine ⟨_, rfl, _, _, rfl, rfl, _, rfl, ite2 (fun z => ?_) fun z => ?_⟩
        · refine ⟨_, rfl, .inl ⟨rfl, _, SqL.of hf2⟩, _, rfl, .inl ⟨_, rfl, _, _, rfl, rfl, pos_ (by decide), ?_⟩⟩
          have lj : j < 60 := lj
          refine ⟨f0, _, _, rfl, rfl, hf2, small' (by rw [List.length_map]; omega), ?_⟩
          refine ⟨_, rfl, _, _, rfl, rfl, ⟨by decide, by decide⟩, pe2.own hf0, ys ++ [r % 1000], _, ?_, ?_, _, rfl⟩
          · rw [upd_same, List.map_append]; rfl
          · rw [List.length_append]; simp; omega
        · exact ⟨pe2, ys, r, hf2, by omega, _, rfl⟩
      · obtain ⟨pe2, ys, r, hf2, ly, y6, rfl⟩ := pv
        have ly : ys.length ≤ 60 * i + 60 := ly
        exact ⟨pe2, ys, (nxt seed r0), hf2, by omega, b1, b2, _, _, _, _, _, rfl⟩
    · exact ⟨pe, xs, (nxt seed r0), hf, by omega, b1, b2, _, _, _, _, _, rfl⟩
  · obtain ⟨pe, xs, seed, hf, lx, s0, s1, x4, x5, x6, x7, x8, rfl⟩ := pv
    refine ⟨_, rfl, _, rfl, _, rfl, f0, _, rfl, SqL.of hf, fun g hg => ?_⟩
    rw [show (700 : Int) = ((700 : Nat) : Int) from rfl, cut_to, ← List.map_take]
    generalize hys : xs.take 700 = ys
    have ly : ys.length ≤ 700 := by rw [← hys, List.length_take]; omega
    have pe2 : Ext [] H (upd H' g (.lst (ys.map V.int))) := pe.news hg
    have hgH : H g = none := pe.free hg
    refine ⟨_, rfl, _, rfl, _, (ys.map V.int).length, rfl, .inl ⟨_, SqL.of upd_same, rfl⟩, _, _, rfl, rfl, _, rfl, ?_, ?_, ?_⟩
    · rw [List.length_map]; omega
    · rw [List.length_map]; omega
    · have en : (((700 : Nat) : Int) - ((ys.map V.int).length : Int)).toNat = 700 - ys.length := by rw [List.length_map]; omega
      rw [en]
      refine for_range (fun j σ H'' => Ext [] H H'' ∧ ∃ (zs : List Int), H'' g = some (.lst (zs.map V.int)) ∧ zs.length = ys.length + j ∧ ∃ x7 x8, σ = [some (.ref s), some (.int 700), some (.ref g), some (.int seed), x4, x5, x6, x7, x8]) ⟨pe2, ys, upd_same, rfl, _, _, rfl⟩ (fun j σ H'' lj pv => ?_) (fun σ H'' pv => ?_)
      · obtain ⟨pe3, zs, hg3, lz, y7, y8, rfl⟩ := pv
        refine ⟨_, rfl, _, _, rfl, rfl, .inl ⟨by omega, by omega⟩, _, rfl, _, _, rfl, rfl, .inr ⟨by decide, by decide⟩, _, _, rfl, rfl, _, _, rfl, rfl, .inl ⟨_, rfl, _, _, rfl, rfl, pos_ (by decide), ?_⟩⟩
        have b1 : 0 ≤ nxt seed (0 + (j : Int)) := Int.emod_nonneg _ (by decide)
        have b2 : nxt seed (0 + (j : Int)) < 2147483647 := Int.emod_lt_of_pos _ (by decide)
        refine ⟨_, rfl, _, rfl, nxt seed (0 + (j : Int)), nxt seed (0 + (j : Int)), rfl, rfl, .inl ⟨by omega, by omega⟩, _, rfl, _, _, rfl, rfl, .inl ⟨by decide, by decide⟩, _, _, rfl, rfl, _, _, rfl, rfl, .inl ⟨_, rfl, _, _, rfl, rfl, pos_ (by decide), ?_⟩⟩
        refine ⟨_, rfl, .inl ⟨rfl, _, SqL.of hg3⟩, _, rfl, _, _, rfl, rfl, ⟨by decide, by decide⟩, .inl ⟨_, rfl, _, _, rfl, rfl, pos_ (by decide), ?_⟩⟩
        refine ⟨g, _, _, rfl, rfl, hg3, small' (by rw [List.length_map]; omega), ?_⟩
        refine ⟨pe3.own hgH, zs ++ [((nxt seed (0 + (j : Int)) * nxt seed (0 + (j : Int)) + 40692 * (0 + (j : Int)) + 3) % 2147483629 / 7) % 1000], ?_, ?_, _, _, rfl⟩
        · rw [upd_same, List.map_append]; rfl
        · rw [List.length_append]; simp; omega
      · obtain ⟨pe3, zs, hg3, lz, y7, y8, rfl⟩ := pv
        refine ⟨_, rfl, g, _, rfl, .of hg3, fun p hp => ?_⟩
        exact q p _ (pe3.news hp) (pe3.free hp) ⟨zs.reverse, by rw [upd_same, List.map_reverse]⟩
/-! ### draws -/
def sp_draw : Sp := fun vs H Q _ => ∃ (d : Addr) (m : Int), vs = [.ref d, .int m] ∧ Dr H d ∧ 0 < m ∧ ∀ (i : Nat) H', Ext [d] H H' → Dr H' d → (i : Int) < m → Q (.int (i : Int)) H'
theorem sc_law_draw : FnScope ["_law_draws", "_law_many"] ["_law_draws", "_law_many"] (defScope s_law_draw) := ⟨rfl, rfl, rfl, by decide +kernel, rfl, by decide +kernel, by decide +kernel⟩
theorem ok_law_draw (T : Tx w K mg) : Cal P w K mg base "_law_draw" 1 ["_law_draws", "_law_many"] sp_draw := by
  refine Cal.of T.f_law_draw T.g__law_draw sc_law_draw (fun _ _ _ _ _ _ us hl => match us, hl with | [_, _], _ => rfl) (fun vs H Q E h => ?_) (fun f cdv A outer s H vs Q E hr h => ?_)
  · obtain ⟨s, cs, rfl, _⟩ := h; rfl
  obtain ⟨d, m, rfl, ⟨xs, hd⟩, hm, q⟩ := h
  refine ⟨_, pss_cons (ps_if (pt_cmpR op_eq (pe_callB call_len (by rfl) T.n_len (by decide +kernel) (pa_cons (pv 0) pa_nil)) (pe_int) (nomark _))
    (pss_one (ps_ret (pe_int)))
    (pss_nil))
    (pss_one (ps_ret (pe_op op_mod (pe_callTy call_int1 (by rfl) T.n_int (by decide +kernel) (pa_cons (pe_bm0 PySem.F.plainAttrs_list PySem.F.slot_list_pop PySem.F.type_list_pop mt_pop (pv 0)) pa_nil)) (pv 1)))), ?_⟩
  refine ⟨_, rfl, _, (xs.map V.int).length, rfl, .inl ⟨_, SqL.of hd, rfl⟩, rfl, _, rfl, ite2 (fun z => ?_) fun z => ?_⟩
  · exact q 0 H (.refl _ _) ⟨xs, hd⟩ hm
  · have l0 : 0 < xs.length := by
      rcases Nat.eq_zero_or_pos xs.length with h | h
      · exact absurd (decide_eq_true (by rw [List.length_map, h]; rfl)) z
      · exact h
    have hl : (xs.map V.int)[(xs.map V.int).length - 1]? = some (.int (xs[xs.length - 1])) := by
      rw [List.length_map, List.getElem?_map, List.getElem?_eq_getElem (by omega)]; rfl
    refine ⟨_, rfl, .inl ⟨rfl, _, SqL.of hd⟩, d, _, _, rfl, rfl, hd, hl, .inl ⟨_, rfl, _, rfl, _, _, rfl, rfl, hm, ?_⟩⟩
    have b1 : 0 ≤ xs[xs.length - 1] % m := Int.emod_nonneg _ (by omega)
    have b2 : xs[xs.length - 1] % m < m := Int.emod_lt_of_pos _ hm
    obtain ⟨i, hi⟩ : ∃ i : Nat, xs[xs.length - 1] % m = (i : Int) := ⟨(xs[xs.length - 1] % m).toNat, by omega⟩
    show Q (.int (xs[xs.length - 1] % m)) _
    rw [hi]
    exact q i _ ((Ext.refl _ _).set (by simp)) ⟨xs.dropLast, by rw [upd_same, List.map_dropLast]⟩ (by omega)
def sp_big : Sp := fun vs H Q _ => ∃ (d : Addr), vs = [.ref d] ∧ Dr H d ∧ ∀ (i : Nat) H', Ext [d] H H' → Dr H' d → Q (.int (i : Int)) H'
theorem sc_law_big : FnScope ["_law_draws", "_law_number", "_law_k"] ["_law_draws"] (defScope s_law_big) := ⟨rfl, rfl, rfl, by decide +kernel, rfl, by decide +kernel, by decide +kernel⟩
theorem ok_law_big (T : Tx w K mg) : Cal P w K mg base "_law_big" 2 ["_law_draws"] sp_big := by
  have C_law_draw := ok_law_draw T (P := P) (base := base)
  refine Cal.of T.f_law_big T.g__law_big sc_law_big (fun _ _ _ _ _ _ us hl => match us, hl with | [_], _ => rfl) (fun vs H Q E h => ?_) (fun f cdv A outer s H vs Q E hr h => ?_)
  · obtain ⟨s, rfl, _⟩ := h; rfl
  obtain ⟨d, rfl, hd, q⟩ := h
  refine ⟨_, pss_cons (ps_set (i := 1) sc_law_big.nd rfl (Or.inl rfl) (pe_int))
    (pss_cons (ps_for PassesOwn.never rfl (pi_range1 rfl T.n_range (pa_cons (pe_int) pa_nil)) (pg_name (i := 2) sc_law_big.nd rfl (Or.inl rfl))
    (pss_one (ps_set (i := 1) sc_law_big.nd rfl (Or.inl rfl) (pe_op op_add (pe_op op_mul (pv 1) (pe_int)) (pe_cal C_law_draw (hr.mono (by omega)) rfl (pa_cons (pv 0) (pa_cons (pe_int) pa_nil)))))))
    (pss_one (ps_ret (pv 1)))), ?_⟩
  refine ⟨6, rfl, by decide, by decide, ?_⟩
  refine for_range (fun j σ H' => Ext [d] H H' ∧ Dr H' d ∧ ∃ (n : Nat) (x : Option V), σ = [some (.ref d), some (.int (n : Int)), x]) ⟨.refl _ _, hd, 0, none, rfl⟩ (fun j σ H' _ pv => ?_) (fun σ H' pv => ?_)
  · obtain ⟨pe, hd1, n, x, rfl⟩ := pv
    refine ⟨_, rfl, _, _, rfl, rfl, .inr ⟨by decide, by decide⟩, _, rfl, d, 1000, rfl, hd1, by decide, fun i H2 e2 hd2 hi => ?_⟩
    exact ⟨_, _, rfl, rfl, pe.trans e2, hd2, n * 1000 + i, some (.int (0 + (j : Int))), rfl⟩
  · obtain ⟨pe, hd1, n, x, rfl⟩ := pv
    exact ⟨_, rfl, q n H' pe hd1⟩
def sp_reserved : Sp := fun vs H Q _ => vs = [] ∧ ∀ l H', Ext [] H H' → H l = none → H' l = some (.lst (tu_RESERVED.map V.str)) → Q (.ref l) H'
theorem sc_law_reserved : FnScope ["_law_words"] [] (defScope s_law_reserved) := ⟨rfl, rfl, rfl, by decide +kernel, rfl, by decide +kernel, by decide +kernel⟩
theorem ok_law_reserved (T : Tx w K mg) : Cal P w K mg base "_law_reserved" 1 [] sp_reserved := by
  refine Cal.of T.f_law_reserved T.g__law_reserved sc_law_reserved (fun _ _ _ _ _ _ us hl => match us, hl with | [], _ => rfl) (fun vs H Q E h => ?_) (fun f cdv A outer s H vs Q E hr h => ?_)
  · obtain ⟨rfl, _⟩ := h; rfl
  obtain ⟨rfl, q⟩ := h
  refine ⟨_, pss_cons (ps_set (i := 0) sc_law_reserved.nd rfl (Or.inl rfl) (pe_lst (pa_cons (pe_str) (pa_cons (pe_str) (pa_cons (pe_str) (pa_cons (pe_str) (pa_cons (pe_str) (pa_cons (pe_str) (pa_cons (pe_str) (pa_cons (pe_str) (pa_cons (pe_str) (pa_cons (pe_str) pa_nil))))))))))))
    (pss_cons (ps_set (i := 0) sc_law_reserved.nd rfl (Or.inl rfl) (pe_op op_cat (pv 0) (pe_lst (pa_cons (pe_str) (pa_cons (pe_str) (pa_cons (pe_str) (pa_cons (pe_str) (pa_cons (pe_str) (pa_cons (pe_str) (pa_cons (pe_str) (pa_cons (pe_str) (pa_cons (pe_str) (pa_cons (pe_str) (pa_cons (pe_str) pa_nil))))))))))))))
    (pss_cons (ps_set (i := 0) sc_law_reserved.nd rfl (Or.inl rfl) (pe_op op_cat (pv 0) (pe_lst (pa_cons (pe_str) (pa_cons (pe_str) (pa_cons (pe_str) (pa_cons (pe_str) (pa_cons (pe_str) (pa_cons (pe_str) (pa_cons (pe_str) (pa_cons (pe_str) (pa_cons (pe_str) (pa_cons (pe_str) (pa_cons (pe_str) (pa_cons (pe_str) pa_nil)))))))))))))))
    (pss_one (ps_ret (pe_op op_cat (pv 0) (pe_lst (pa_cons (pe_str) (pa_cons (pe_str) (pa_cons (pe_str) (pa_cons (pe_str) (pa_cons (pe_str) (pa_cons (pe_str) (pa_cons (pe_str) (pa_cons (pe_str) (pa_cons (pe_str) pa_nil))))))))))))))), ?_⟩
  refine ⟨by show 10 ≤ sizeLine; decide, fun l1 h1 => ?_⟩
  refine ⟨_, rfl, by show 11 ≤ sizeLine; decide, fun l2 h2 => ⟨l1, l2, _, _, rfl, rfl, by rw [upd_ne (ne_of_none upd_same h2)]; exact upd_same, upd_same, by show 21 ≤ sizeLine; decide, fun l3 h3 => ?_⟩⟩
  refine ⟨_, rfl, by show 12 ≤ sizeLine; decide, fun l4 h4 => ⟨l3, l4, _, _, rfl, rfl, by rw [upd_ne (ne_of_none upd_same h4)]; exact upd_same, upd_same, by show 33 ≤ sizeLine; decide, fun l5 h5 => ?_⟩⟩
  refine ⟨_, rfl, by show 9 ≤ sizeLine; decide, fun l6 h6 => ⟨l5, l6, _, _, rfl, rfl, by rw [upd_ne (ne_of_none upd_same h6)]; exact upd_same, upd_same, by show 42 ≤ sizeLine; decide, fun l7 h7 => ?_⟩⟩
  refine q l7 _ ?_ ?_ upd_same
  · exact ((((((Ext.new (ms := []) h1).news h2).news h3).news h4).news h5).news h6).news h7
  · exact (((((((Ext.new (ms := []) h1).news h2).news h3).news h4).news h5).news h6)).free h7
end
end K13

/-! L2w: the law's words, names, layouts, picks -/
namespace K13
open PySem PySem.Spec PyProof.Rows L2
theorem six_at {k : Nat} (hk : k < 12) : ∀ {i : Nat}, i < 6 → ∃ m : Nat, atI [V.int 1, V.int 1, V.int 1, V.int 2, V.int 3, V.int (1 + (k : Int))] (i : Int) = some (.int (m : Int)) ∧ 1 ≤ m ∧ m ≤ 12
  | 0, _ => ⟨1, rfl, by omega, by omega⟩
  | 1, _ => ⟨1, rfl, by omega, by omega⟩
  | 2, _ => ⟨1, rfl, by omega, by omega⟩
  | 3, _ => ⟨2, rfl, by omega, by omega⟩
  | 4, _ => ⟨3, rfl, by omega, by omega⟩
  | 5, _ => ⟨1 + k, rfl, by omega, by omega⟩
  | i + 6, h => absurd h (by omega)
theorem letter_at {i : Nat} (h : i < 26) : ∃ c, atI (o "abcdefghijklmnopqrstuvwxyz").cps.toList (i : Int) = some c ∧ isL c = true := by
  have hl : (o "abcdefghijklmnopqrstuvwxyz").cps.toList.length = 26 := by decide +kernel
  have e := List.getElem?_eq_getElem (l := (o "abcdefghijklmnopqrstuvwxyz").cps.toList) (i := i) (by omega)
  exact ⟨_, atI_nat e, (letters_mem _).mp (List.mem_of_getElem? e)⟩
theorem gap_at : ∀ {i : Nat}, i < 4 → ∃ m : Nat, atI [V.int 0, V.int 1, V.int 1, V.int 2] (i : Int) = some (.int (m : Int)) ∧ m ≤ 2
  | 0, _ => ⟨0, rfl, by omega⟩
  | 1, _ => ⟨1, rfl, by omega⟩
  | 2, _ => ⟨1, rfl, by omega⟩
  | 3, _ => ⟨2, rfl, by omega⟩
  | i + 4, h => absurd h (by omega)
theorem mul_sp : ∀ {n : Nat}, n ≤ 2 → MulOk (o " ") (n : Int) ∧ Txt.mul (o " ") (n : Int) = S (List.replicate n 32)
  | 0, _ => ⟨by unfold MulOk; decide +kernel, by decide +kernel⟩
  | 1, _ => ⟨by unfold MulOk; decide +kernel, by decide +kernel⟩
  | 2, _ => ⟨by unfold MulOk; decide +kernel, by decide +kernel⟩
  | n + 3, h => absurd h (by omega)
theorem resv_x {t : Str} (h : t ∈ tu_RESERVED) : Name (t ++ o "x") := by
  have h0 : ∀ s ∈ tu_RESERVED, wordB (s ++ o "x") = true ∧ decide (s ++ o "x" ∈ tu_RESERVED) = false := by decide +kernel
  obtain ⟨h1, h2⟩ := h0 t h
  exact ⟨wordB_ok h1, of_decide_eq_false h2⟩
theorem S_word {l : List Nat} (h0 : l ≠ []) (h1 : l.length ≤ 12) (h2 : ∀ c ∈ l, isL c = true) : Word (S l) := ⟨by rw [cd_S]; exact h0, by rw [cd_S]; exact h1, by rw [cd_S]; exact h2⟩
theorem lay_snoc : ∀ (ps : List (Nat × Str)) (g : Nat) (t : Str), lay (ps ++ [(g, t)]) = lay ps ++ (List.replicate g 32 ++ cd t)
  | [], g, t => by simp [lay]
  | (g0, t0) :: r, g, t => by simp [lay, lay_snoc r g t]
theorem Lx_snoc : ∀ {ps : List (Nat × Str)} {g : Nat} {t : Str}, Lx ps → Tokn t → (∀ q a, ps.map (·.2) = q ++ [a] → g = 0 → NoGlue a (cd t)) → Lx (ps ++ [(g, t)])
  | [], g, t, _, ht, _ => ht
  | [(g0, a)], g, t, h, ht, hn => ⟨h, hn [] a rfl, ht⟩
  | (g0, a) :: (g1, b) :: r, g, t, h, ht, hn => by
    refine ⟨h.1, h.2.1, Lx_snoc (ps := (g1, b) :: r) h.2.2 ht fun q a' e => hn (a :: q) a' ?_⟩
    rw [List.map_cons, e]; rfl
section
variable {P : Program} {w : World} {K : PySem.W.Frag} {mg : Str → Option Value} {base : Heap}
def sp_word (R : Str → Prop) : Sp := fun vs H Q _ => ∃ (d : Addr), vs = [.ref d] ∧ Dr H d ∧ ∀ t H', Ext [d] H H' → Dr H' d → R t → Q (.str t) H'
theorem sc_law_word : FnScope ["_law_draws", "_law_letters", "_law_many", "_law_word_here", "_law_k"] ["_law_draws"] (defScope s_law_word) := ⟨rfl, rfl, rfl, by decide +kernel, rfl, by decide +kernel, by decide +kernel⟩
theorem ok_law_word (T : Tx w K mg) : Cal P w K mg base "_law_word" 2 ["_law_draws"] (sp_word Word) := by
  have C_law_draw := ok_law_draw T (P := P) (base := base)
  refine Cal.of T.f_law_word T.g__law_word sc_law_word (fun _ _ _ _ _ _ us hl => match us, hl with | [_], _ => rfl) (fun vs H Q E h => ?_) (fun f cdv A outer s H vs Q E hr h => ?_)
  · obtain ⟨s, rfl, _⟩ := h; rfl
  obtain ⟨d, rfl, hd, q⟩ := h
  refine ⟨_, pss_cons (ps_set (i := 1) sc_law_word.nd rfl (Or.inl rfl) (pe_str))
    (pss_cons (ps_set (i := 2) sc_law_word.nd rfl (Or.inl rfl) (pe_ix ix_list (pe_lst (pa_cons (pe_int) (pa_cons (pe_int) (pa_cons (pe_int) (pa_cons (pe_int) (pa_cons (pe_int) (pa_cons (pe_op op_add (pe_int) (pe_cal C_law_draw (hr.mono (by omega)) rfl (pa_cons (pv 0) (pa_cons (pe_int) pa_nil)))) pa_nil))))))) (pe_cal C_law_draw (hr.mono (by omega)) rfl (pa_cons (pv 0) (pa_cons (pe_int) pa_nil))) (fun _ _ => rfl)))
    (pss_cons (ps_set (i := 3) sc_law_word.nd rfl (Or.inl rfl) (pe_str))
    (pss_cons (ps_for PassesOwn.never rfl (pi_range1 rfl T.n_range (pa_cons (pv 2) pa_nil)) (pg_name (i := 4) sc_law_word.nd rfl (Or.inl rfl))
    (pss_one (ps_set (i := 3) sc_law_word.nd rfl (Or.inl rfl) (pe_op op_add_str (pv 3) (pe_ix ix_str (pv 1) (pe_cal C_law_draw (hr.mono (by omega)) rfl (pa_cons (pv 0) (pa_cons (pe_int) pa_nil))) (fun _ _ => rfl))))))
    (pss_one (ps_ret (pv 3)))))), ?_⟩
  refine ⟨_, rfl, d, 12, rfl, hd, by decide, fun k H1 e1 hd1 hk => ⟨_, _, rfl, rfl, ?_⟩⟩
  refine ⟨by show 6 ≤ sizeLine; decide, fun l hl => ?_⟩
  have e2 : Ext [] H1 (upd H1 l (.lst [.int 1, .int 1, .int 1, .int 2, .int 3, .int (1 + (k : Int))])) := .new hl
  refine ⟨_, rfl, d, 6, rfl, hd1.ex e2 (by simp), by decide, fun i H2 e3 hd2 hi => ?_⟩
  have nl : l ≠ d := hd1.off hl
  obtain ⟨m, hm, m1, m2⟩ := six_at (k := k) (by omega) (i := i) (by omega)
  refine ⟨l, _, _, _, rfl, rfl, SqL.of (e3 _ _ upd_same (by simpa using nl)), hm, ?_⟩
  have ee : Ext [d] H H2 := (e1.trans e2.nil).trans e3
  refine ⟨_, rfl, (m : Int), rfl, by omega, by omega, ?_⟩
  rw [show ((m : Int).toNat) = m by omega]
  refine for_range (fun j σ H' => Ext [d] H H' ∧ Dr H' d ∧ ∃ (z : List Nat) (x : Option V), z.length = j ∧ (∀ c ∈ z, isL c = true) ∧ σ = [some (.ref d), some (.str (K13.o "abcdefghijklmnopqrstuvwxyz")), some (.int (m : Int)), some (.str (S z)), x]) ⟨ee, hd2, [], none, rfl, by simp, rfl⟩ (fun j σ H' lj pv => ?_) (fun σ H' pv => ?_)
  · obtain ⟨pe, hd3, z, x, lz, al, rfl⟩ := pv
    refine ⟨_, rfl, _, rfl, _, rfl, d, 26, rfl, hd3, by decide, fun i2 H3 e4 hd4 hi2 => ?_⟩
    obtain ⟨c, hc, lc⟩ := letter_at (i := i2) (by omega)
    refine ⟨_, _, c, rfl, rfl, by rw [cd_len]; exact small (by decide +kernel), hc, ?_⟩
    refine ⟨_, _, rfl, rfl, ?_, ?_⟩
    · rw [S_len, sone, S_len]
      exact small (by simp; omega)
    · refine ⟨pe.trans e4, hd4, z ++ [c], some (.int (0 + (j : Int))), by simp [lz], fun c' hc' => ?_, ?_⟩
      · rcases List.mem_append.mp hc' with h | h
        · exact al c' h
        · rw [List.mem_singleton.mp h]; exact lc
      · rw [sone, S_app]; rfl
  · obtain ⟨pe, hd3, z, x, lz, al, rfl⟩ := pv
    exact ⟨_, rfl, q (S z) H' pe hd3 (S_word (fun h => by subst h; simp at lz; omega) (by omega) al)⟩
theorem sc_law_name : FnScope ["_law_draws", "_law_word_here"] ["_law_draws"] (defScope s_law_name) := ⟨rfl, rfl, rfl, by decide +kernel, rfl, by decide +kernel, by decide +kernel⟩
theorem ok_law_name (T : Tx w K mg) : Cal P w K mg base "_law_name" 3 ["_law_draws"] (sp_word Name) := by
  have C_law_word := ok_law_word T (P := P) (base := base)
  have C_law_reserved := ok_law_reserved T (P := P) (base := base)
  refine Cal.of T.f_law_name T.g__law_name sc_law_name (fun _ _ _ _ _ _ us hl => match us, hl with | [_], _ => rfl) (fun vs H Q E h => ?_) (fun f cdv A outer s H vs Q E hr h => ?_)
  · obtain ⟨s, rfl, _⟩ := h; rfl
  obtain ⟨d, rfl, hd, q⟩ := h
  refine ⟨_, pss_cons (ps_set (i := 1) sc_law_name.nd rfl (Or.inl rfl) (pe_cal C_law_word (hr.mono (by omega)) rfl (pa_cons (pv 0) pa_nil)))
    (pss_cons (ps_if (pt_cmpR op_in_seq (pv 1) (pe_cal0 C_law_reserved (hr.mono (by omega)) rfl) rfl)
    (pss_one (ps_ret (pe_op op_add_str (pv 1) (pe_str))))
    (pss_nil))
    (pss_one (ps_ret (pv 1)))), ?_⟩
  refine ⟨_, rfl, d, rfl, hd, fun t H1 e1 hd1 wt => ?_⟩
  refine ⟨_, rfl, rfl, fun l H2 e2 hl hl2 => ?_⟩
  refine ⟨l, _, rfl, .inl (SqL.of hl2), rfl, flat_str _, _, rfl, ?_⟩
  have ee : Ext [d] H H2 := e1.trans e2.nil
  have hd2 : Dr H2 d := hd1.ex e2 (by simp)
  rw [if_neg Bool.false_ne_true, inV_str]
  refine ite2 (fun z => ?_) fun z => ?_
  · have ht : t ∈ tu_RESERVED := of_decide_eq_true z
    refine ⟨_, rfl, _, _, rfl, rfl, ?_, q _ H2 ee hd2 (resv_x ht)⟩
    rw [cd_len]
    have := wt.len
    exact small (by show _ + 1 ≤ _; omega)
  · exact ⟨_, rfl, q _ H2 ee hd2 ⟨wt, fun h => z (decide_eq_true h)⟩⟩
/-! ### glued -/
def sp_glued : Sp := fun vs H Q _ => ∃ (a b : Str) (c : Nat) (r : List Nat), vs = [.str a, .str b] ∧ Tokn a ∧ Tokn b ∧ cd b = c :: r ∧ Q (.bl (glue a c)) H
theorem sc_law_glued : FnScope ["_law_before", "_law_after", "_law_letters"] ["_law_before", "_law_after"] (defScope s_law_glued) := ⟨rfl, rfl, rfl, by decide +kernel, rfl, by decide +kernel, by decide +kernel⟩
theorem ok_law_glued (T : Tx w K mg) : Cal P w K mg base "_law_glued" 1 ["_law_before", "_law_after"] sp_glued := by
  refine Cal.of T.f_law_glued T.g__law_glued sc_law_glued (fun _ _ _ _ _ _ us hl => match us, hl with | [_, _], _ => rfl) (fun vs H Q E h => ?_) (fun f cdv A outer s H vs Q E hr h => ?_)
  · obtain ⟨a, b, c, r, rfl, _⟩ := h; rfl
  obtain ⟨a, b, c, r, rfl, ta, tb, eb, q⟩ := h
  refine ⟨_, pss_cons (ps_set (i := 2) sc_law_glued.nd rfl (Or.inl rfl) (pe_str))
    (pss_cons (ps_if (pt_cmpR op_in_sign (pe_ix ix_str (pv 0) (pe_int) (fun _ _ => rfl)) (pe_str) rfl)
    (pss_one (ps_ret (pe_cmpR op_in_sign (pe_ix ix_str (pv 1) (pe_int) (fun _ _ => rfl)) (pe_str) rfl)))
    (pss_nil))
    (pss_cons (ps_if (pt_cmpR op_in_sign (pe_ix ix_str (pv 0) (pe_int) (fun _ _ => rfl)) (pv 2) rfl)
    (pss_one (ps_ret (pe_cmpR op_in_sign (pe_ix ix_str (pv 1) (pe_int) (fun _ _ => rfl)) (pv 2) rfl)))
    (pss_nil))
    (pss_one (ps_ret ((pe_and ((pe_or (pe_cmpR op_eq (pv 0) (pe_str) (nomark _)) (pe_one (pe_cmpR op_eq (pv 0) (pe_str) (nomark _))))) (pe_one (pe_cmpR op_eq (pe_ix ix_str (pv 1) (pe_int) (fun _ _ => rfl)) (pe_str) (nomark _))))))))), ?_⟩
  obtain ⟨x, r1, ea, _, la⟩ := ta.shape
  obtain ⟨_, _, _, _, lb⟩ := tb.shape
  have za : a.length ≤ sizeLine := by rw [cd_len]; exact small (by omega)
  have zb : b.length ≤ sizeLine := by rw [cd_len]; exact small (by omega)
  have aa : atI a.cps.toList 0 = some x := by rw [show a.cps.toList = x :: r1 from ea]; exact a0
  have ab : atI b.cps.toList 0 = some c := by rw [show b.cps.toList = c :: r from eb]; exact a0
  have dd : ∀ c, decide (c ∈ (K13.o "0123456789").cps.toList) = isD c := fun c => by
    have : c ∈ (K13.o "0123456789").cps.toList ↔ isD c = true := digits_mem c
    by_cases h : isD c = true
    · rw [h, decide_eq_true (this.mpr h)]
    · rw [Bool.not_eq_true] at h
      rw [h, decide_eq_false (fun z => by have := this.mp z; rw [h] at this; cases this)]
  have dl : ∀ c, decide (c ∈ (K13.o "abcdefghijklmnopqrstuvwxyz").cps.toList) = isL c := fun c => by
    have : c ∈ (K13.o "abcdefghijklmnopqrstuvwxyz").cps.toList ↔ isL c = true := letters_mem c
    by_cases h : isL c = true
    · rw [h, decide_eq_true (this.mpr h)]
    · rw [Bool.not_eq_true] at h
      rw [h, decide_eq_false (fun z => by have := this.mp z; rw [h] at this; cases this)]
  have eg : glue a c = if isD x then isD c else if isL x then isL c else (decide (a = K13.o "<") || decide (a = K13.o "=")) && c == 61 := by
    unfold glue
    rw [ea]
  refine ⟨_, rfl, _, _, x, rfl, rfl, za, aa, x, _, rfl, rfl, _, rfl, ?_⟩
  rw [dd]
  refine ite2 (fun z => ?_) fun z => ?_
  · refine ⟨_, rfl, _, _, c, rfl, rfl, zb, ab, c, _, rfl, rfl, ?_⟩
    rw [dd]
    rw [eg, if_pos z] at q
    exact q
  · rw [eg, if_neg z] at q
    refine ⟨_, rfl, _, _, x, rfl, rfl, za, aa, _, rfl, x, _, rfl, rfl, _, rfl, ?_⟩
    rw [dl]
    refine ite2 (fun z => ?_) fun z => ?_
    · refine ⟨_, rfl, _, _, c, rfl, rfl, zb, ab, _, rfl, c, _, rfl, rfl, ?_⟩
      rw [dl]
      rw [if_pos z] at q
      exact q
    · rw [if_neg z] at q
      have e1 : ∀ s : Str, decide (V.str a = V.str s) = decide (a = s) := fun s => by
        by_cases h : a = s
        · subst h; simp
        · rw [decide_eq_false h, decide_eq_false fun z => h (V.str.inj z)]
      have e2 : decide (V.str ⟨#[c]⟩ = V.str (Str.ofString "=")) = (c == 61) := by
        rw [sone, show Str.ofString "=" = S [61] by decide +kernel]
        by_cases h : c = 61
        · subst h; simp
        · rw [decide_eq_false fun z => h (List.cons.inj (S_inj (V.str.inj z))).1]
          simp [h]
      refine ⟨_, rfl, rfl, _, rfl, ite2 (fun y => ?_) fun y => ?_⟩
      · have ya := dec_eq y
        refine ⟨_, rfl, iteT ⟨_, rfl, _, _, c, rfl, rfl, zb, ab, rfl, ?_⟩⟩
        rw [e2]
        rw [show decide (a = K13.o "<") = true from decide_eq_true ya, Bool.true_or, Bool.true_and] at q
        exact q
      · have ya : ¬ a = K13.o "<" := dec_ne y
        refine ⟨_, rfl, rfl, _, rfl, ite2 (fun y2 => ?_) fun y2 => ?_⟩
        · have yb := dec_eq y2
          refine ⟨_, rfl, _, _, c, rfl, rfl, zb, ab, rfl, ?_⟩
          rw [e2]
          rw [show decide (a = K13.o "=") = true from decide_eq_true yb, Bool.or_true, Bool.true_and] at q
          exact q
        · have yb : ¬ a = K13.o "=" := dec_ne y2
          rw [decide_eq_false ya, decide_eq_false yb, Bool.or_false, Bool.false_and] at q
          exact q
/-! ### pick -/
def sp_pick (K : PySem.W.Frag) : Sp := fun vs H Q _ => ∃ (d : Addr) (row : V), vs = [.ref d, row] ∧ Dr H d ∧
  ((∃ r xs, row = .ref r ∧ r ≠ d ∧ H r = some (.lst xs) ∧ 0 < xs.length ∧ ∀ (i : Nat) v H', xs[i]? = some v → Ext [d] H H' → Dr H' d → Q v H') ∨
   (∃ z, row = .str z ∧ 0 < z.length ∧ z.length ≤ 1000 ∧ ∀ c H', c ∈ cd z → Ext [d] H H' → Dr H' d → Q (.str (S [c])) H'))
theorem sc_law_pick : FnScope ["_law_draws", "_law_row"] ["_law_draws", "_law_row"] (defScope s_law_pick) := ⟨rfl, rfl, rfl, by decide +kernel, rfl, by decide +kernel, by decide +kernel⟩
theorem ok_law_pick (T : Tx w K mg) : Cal P w K mg base "_law_pick" 2 ["_law_draws", "_law_row"] (sp_pick K) := by
  have C_law_draw := ok_law_draw T (P := P) (base := base)
  refine Cal.of T.f_law_pick T.g__law_pick sc_law_pick (fun _ _ _ _ _ _ us hl => match us, hl with | [_, _], _ => rfl) (fun vs H Q E h => ?_) (fun f cdv A outer s H vs Q E hr h => ?_)
  · obtain ⟨d, r, rfl, _⟩ := h; rfl
  obtain ⟨d, row, rfl, hd, h⟩ := h
  refine ⟨_, pss_one (ps_ret (pe_ix ix_seq (pv 1) (pe_op op_mod (pe_callTy call_int1 (by rfl) T.n_int (by decide +kernel) (pa_cons (pe_cal C_law_draw (hr.mono (by omega)) rfl (pa_cons (pv 0) (pa_cons (pe_int) pa_nil))) pa_nil)) (pe_callB call_len (by rfl) T.n_len (by decide +kernel) (pa_cons (pv 1) pa_nil))) (fun _ _ => rfl))), ?_⟩
  refine ⟨_, rfl, _, rfl, d, 1000, rfl, hd, by decide, fun k H1 e1 hd1 hk => .inl ⟨_, rfl, ?_⟩⟩
  have idx : ∀ n : Nat, 0 < n → ∃ j : Nat, (k : Int) % (n : Int) = (j : Int) ∧ j < n := fun n hn => ⟨k % n, by omega, Nat.mod_lt _ hn⟩
  rcases h with ⟨r, xs, rfl, nr, hx, l0, q⟩ | ⟨z, rfl, l0, lz, q⟩
  · have hx1 := e1 _ _ hx (by simpa using nr)
    refine ⟨_, rfl, _, xs.length, rfl, .inl ⟨xs, SqL.of hx1, rfl⟩, _, _, rfl, rfl, by show (0 : Int) < (xs.length : Int); omega, ?_⟩
    obtain ⟨j, ej, lj⟩ := idx xs.length l0
    have hj := List.getElem?_eq_getElem lj
    exact .inl ⟨r, xs, _, _, rfl, rfl, SqL.of hx1, by rw [ej]; exact atI_nat hj, q j _ H1 hj e1 hd1⟩
  · refine ⟨_, rfl, _, z.length, rfl, ⟨small (by omega), rfl⟩, _, _, rfl, rfl, by show (0 : Int) < (z.length : Int); omega, ?_⟩
    obtain ⟨j, ej, lj⟩ := idx z.length l0
    have lj2 : j < z.cps.toList.length := by have := cd_len z; unfold cd at this; omega
    have hj := List.getElem?_eq_getElem lj2
    exact .inr (.inr ⟨z, _, _, rfl, rfl, small (by omega), by rw [ej]; exact atI_nat hj, q _ H1 (List.mem_of_getElem? hj) e1 hd1⟩)
end
end K13

/-! L3: the law's second text -/
namespace K13
open PySem PySem.Spec PyProof.Rows L2
theorem rep_add (a b : Nat) : List.replicate (a + b) 32 = List.replicate a 32 ++ List.replicate b 32 := List.replicate_append_replicate.symm
section
variable {P : Program} {w : World} {K : PySem.W.Frag} {mg : Str → Option Value} {base : Heap}
def sp_text (K : PySem.W.Frag) : Sp := fun vs H Q _ => ∃ (d r : Addr) (ts : List Str), vs = [.ref d, .ref r] ∧ Dr H d ∧ r ≠ d ∧ H r = some (.lst (ts.map V.str)) ∧ (∀ t ∈ ts, Tokn t) ∧
  ∀ a p H' L xs, Ext [d] H H' → Dr H' d → SqT K H' a [.str (S L), .ref p] → H' p = some (.lst xs) → L.length ≤ 2000 → xs.length ≤ 200 → (ts.length ≤ xs.length → ∃ ps k, L = lay ps ++ List.replicate k 32 ∧ ps.map (·.2) = ts ∧ Lx ps) → Q (.ref a) H'
theorem sc_law_text : FnScope ["_law_draws", "_law_rows", "_law_text_here", "_law_placed", "_law_token", "_law_gap"] ["_law_draws", "_law_rows"] (defScope s_law_text) := ⟨rfl, rfl, rfl, by decide +kernel, rfl, by decide +kernel, by decide +kernel⟩
theorem ok_law_text (T : Tx w K mg) : Cal P w K mg base "_law_text" 2 ["_law_draws", "_law_rows"] (sp_text K) := by
  have C_law_draw := ok_law_draw T (P := P) (base := base)
  have C_law_glued := ok_law_glued T (P := P) (base := base)
  refine Cal.of T.f_law_text T.g__law_text sc_law_text (fun _ _ _ _ _ _ us hl => match us, hl with | [_, _], _ => rfl) (fun vs H Q E h => ?_) (fun f cdv A outer s H vs Q E hr h => ?_)
  · obtain ⟨d, r, ts, rfl, _⟩ := h; rfl
  obtain ⟨d, r, ts, rfl, hd, nr, hr0, tok, q⟩ := h
  refine ⟨_, pss_cons (ps_set (i := 2) sc_law_text.nd rfl (Or.inl rfl) (pe_op op_mul_str (pe_str) (pe_cal C_law_draw (hr.mono (by omega)) rfl (pa_cons (pv 0) (pa_cons (pe_int) pa_nil)))))
    (pss_cons (ps_set (i := 3) sc_law_text.nd rfl (Or.inl rfl) (pe_lst pa_nil))
    (pss_cons (ps_for PassesOwn.never rfl (pi_list (pv 1)) (pg_name (i := 4) sc_law_text.nd rfl (Or.inl rfl))
    (pss_cons (ps_set (i := 5) sc_law_text.nd rfl (Or.inl rfl) (pe_op op_mul_str (pe_str) (pe_ix ix_list (pe_lst (pa_cons (pe_int) (pa_cons (pe_int) (pa_cons (pe_int) (pa_cons (pe_int) pa_nil))))) (pe_cal C_law_draw (hr.mono (by omega)) rfl (pa_cons (pv 0) (pa_cons (pe_int) pa_nil))) (fun _ _ => rfl))))
      (C8.pss_cut (ps_if (PW.pt (pw_and (pt_cmpR op_eq (pv 5) (pe_str) (nomark _)) (pw_and (pt_cmpR op_gt (pe_callB call_len (by rfl) T.n_len (by decide +kernel) (pa_cons (pv 3) pa_nil)) (pe_int) (nomark _)) (pw_and1 (pt_val (pe_cal C_law_glued (hr.mono (by omega)) rfl (pa_cons (pe_ix ix_tup (pe_ix ix_list (pv 3) (pe_un un_neg (pe_int)) (fun _ _ => rfl)) (pe_int) (fun _ _ => rfl)) (pa_cons (pv 4) pa_nil))))))))
      (pss_one (ps_set (i := 5) sc_law_text.nd rfl (Or.inl rfl) (pe_str)))
      (pss_nil))
      (pss_one (ps_if (PW.pt (pw_and (pt_cmpR op_le (pe_op op_add (pe_op op_add (pe_callB call_len (by rfl) T.n_len (by decide +kernel) (pa_cons (pv 2) pa_nil)) (pe_callB call_len (by rfl) T.n_len (by decide +kernel) (pa_cons (pv 5) pa_nil))) (pe_callB call_len (by rfl) T.n_len (by decide +kernel) (pa_cons (pv 4) pa_nil))) (pe_int) (nomark _)) (pw_and1 (pt_cmpR op_lt (pe_callB call_len (by rfl) T.n_len (by decide +kernel) (pa_cons (pv 3) pa_nil)) (pe_int) (nomark _)))))
      (pss_cons (ps_set (i := 2) sc_law_text.nd rfl (Or.inl rfl) (pe_op op_add_str (pv 2) (pv 5)))
        (pss_cons (ps_expr (pe_bm PySem.F.plainAttrs_list PySem.F.slot_list_append PySem.F.type_list_append mt_append (pv 3) (pa_cons (pe_tup (pa_cons (pv 4) (pa_cons (pe_callB call_len (by rfl) T.n_len (by decide +kernel) (pa_cons (pv 2) pa_nil)) pa_nil))) pa_nil)))
        (pss_one (ps_set (i := 2) sc_law_text.nd rfl (Or.inl rfl) (pe_op op_add_str (pv 2) (pv 4))))))
      (pss_nil))))))
    (pss_one (ps_ret (pe_tup (pa_cons (pe_op op_add_str (pv 2) (pe_op op_mul_str (pe_str) (pe_cal C_law_draw (hr.mono (by omega)) rfl (pa_cons (pv 0) (pa_cons (pe_int) pa_nil))))) (pa_cons (pv 3) pa_nil))))))), ?_⟩
  refine ⟨_, rfl, d, 3, rfl, hd, by decide, fun g0 H1 e1 hd1 hg0 => ?_⟩
  obtain ⟨mo, em⟩ := mul_sp (n := g0) (by omega)
  refine ⟨_, _, rfl, rfl, mo, ?_⟩
  rw [em]
  refine ⟨Nat.zero_le _, fun p hp => ?_⟩
  have e2 : Ext [] H1 (upd H1 p (.lst [])) := .new hp
  have hr1 := e1 _ _ hr0 (by simpa using nr)
  have np : p ≠ d := hd1.off hp
  have npr : p ≠ r := fun z => by subst z; rw [hr1] at hp; cases hp
  have hr2 := e2 _ _ hr1 (by simp)
  refine ⟨_, rfl, r, rfl, ⟨_, SqL.of hr2⟩, ?_⟩
  refine for_list (xs := ts.map V.str) (fun i σ H' => Ext [d] H H' ∧ Dr H' d ∧ H' r = some (.lst (ts.map V.str)) ∧ Ext [d, p] (upd H1 p (.lst [])) H' ∧ ∃ (L : List Nat) (rows : List (Str × Nat)) (xs : List V) (x4 x5 : Option V), H' p = some (.lst xs) ∧ RpL K H' (rows.map rowD) xs ∧ (∀ r ∈ rows, Tokn r.1) ∧ L.length ≤ 996 ∧ rows.length ≤ i ∧ rows.length ≤ 200 ∧
      (rows.length = i → ∃ ps k, L = lay ps ++ List.replicate k 32 ∧ (ps ≠ [] → k = 0) ∧ ps.map (·.2) = ts.take i ∧ rows.map (·.1) = ts.take i ∧ Lx ps) ∧ σ = [some (.ref d), some (.ref r), some (.str (S L)), some (.ref p), x4, x5])
    ⟨e1.trans e2.nil, hd1.ex e2 (by simp), hr2, .refl _ _, List.replicate g0 32, [], [], none, none, upd_same, rfl, by simp, by simp; omega, Nat.zero_le _, Nat.zero_le _, fun _ => ⟨[], g0, rfl, fun z => absurd rfl z, rfl, rfl, trivial⟩, rfl⟩ (fun i σ H' _ pv => SqL.of pv.2.2.1) (fun i x σ H' hx pv => ?_) (fun σ H' pv => ?_)
  · obtain ⟨pe, hd2, hr3, pp, L, rows, xs, x4, x5, hp3, rl, rt, lL, li, l2, hps, rfl⟩ := pv
    rw [List.getElem?_map] at hx
    obtain ⟨t, ht, rfl⟩ := Option.map_eq_some_iff.mp hx
    have tt : Tokn t := tok t (mem_at ht)
    obtain ⟨c, cr, ec, _, l16⟩ := tt.shape
    have lx : xs.length = rows.length := by have := rl.length; rw [List.length_map] at this; exact this.symm
    -- the gap
    refine ⟨by show 4 ≤ sizeLine; decide, fun l4 hl4 => ?_⟩
    have eA : Ext [] H' (upd H' l4 (.lst [.int 0, .int 1, .int 1, .int 2])) := .new hl4
    have nl4 : l4 ≠ d := hd2.off hl4
    refine ⟨_, rfl, d, 4, rfl, hd2.ex eA (by simp), by decide, fun gi H3 e3 hd3 hgi => ?_⟩
    obtain ⟨g, hg, g2⟩ := gap_at (i := gi) (by omega)
    refine ⟨l4, _, _, _, rfl, rfl, SqL.of (e3 _ _ upd_same (by simpa using nl4)), hg, ?_⟩
    obtain ⟨mo, em⟩ := mul_sp (n := g) g2
    refine ⟨_, _, rfl, rfl, mo, ?_⟩
    rw [em]
    have e4 : Ext [d] H' H3 := eA.nil.trans e3
    have hp4 : H3 p = some (.lst xs) := e4 _ _ hp3 (by simpa using np)
    have rl4 : RpL K H3 (rows.map rowD) xs := (rl.ex0 eA).ext e3 (hd2.ex eA (by simp)).not
    -- the gap that is taken
    refine ⟨fun σ' H'' => H'' = H3 ∧ ∃ g' : Nat, g' ≤ 2 ∧ (g' = 0 → ∀ q a, rows.map (·.1) = q ++ [a] → glue a c = false) ∧ σ' = [some (.ref d), some (.ref r), some (.str (S L)), some (.ref p), some (.str t), some (.str (S (List.replicate g' 32)))], ?_, ?_⟩
    · refine ⟨_, rfl, rfl, _, rfl, ite2 (fun z => ?_) fun z => ?_⟩
      · have g0 : g = 0 := by
          have := dec_eq z
          have h2 := congrArg cd this
          rw [cd_S, show cd (Str.ofString "") = [] by decide +kernel] at h2
          cases g with
          | zero => rfl
          | succ g => simp [List.replicate_succ] at h2
        subst g0
        refine ⟨_, rfl, _, xs.length, rfl, .inl ⟨xs, SqL.of hp4, rfl⟩, _, _, rfl, rfl, _, rfl, ite2 (fun z => ?_) fun z => ?_⟩
        · have lpos : 0 < xs.length := by have := of_decide_eq_true z; omega
          obtain ⟨xs0, y, rfl⟩ : ∃ xs0 y, xs = xs0 ++ [y] := by
            rcases List.eq_nil_or_concat xs with h | ⟨a, b, h⟩
            · subst h; simp at lpos
            · exact ⟨a, b, by rw [h, List.concat_eq_append]⟩
          have hl : rows ≠ [] := fun h => by subst h; simp at lx
          obtain ⟨rows0, ⟨a, n⟩, er⟩ : ∃ r0 y, rows = r0 ++ [y] := by
            rcases List.eq_nil_or_concat rows with h | ⟨a, b, h⟩
            · exact absurd h hl
            · exact ⟨a, b, by rw [h, List.concat_eq_append]⟩
          have l0 : xs0.length = rows0.length := by rw [er] at lx; simp at lx; exact lx
          obtain ⟨yv, hy, ⟨ya, ys, rfl, sq, y1, yr, rfl, eq1, _⟩⟩ := rl4.get (i := rows0.length) (d := rowD (a, n)) (by rw [er]; simp)
          cases (show y1 = V.str a from eq1)
          have ey : y = .ref ya := by
            rw [← l0] at hy
            simpa using hy
          subst ey
          have ta : Tokn a := rt (a, n) (by rw [er]; simp)
          refine ⟨_, rfl, _, rfl, p, _, _, _, rfl, rfl, SqL.of hp4, atI_last _ _, ya, _, _, _, rfl, rfl, sq, a0, _, rfl, a, t, c, cr, rfl, ta, tt, ec, ?_⟩
          refine ⟨_, rfl, ite2 (fun z => ?_) fun z => ?_⟩
          · refine ⟨rfl, 1, by omega, fun z => by omega, ?_⟩
            rw [show S (List.replicate 1 32) = Str.ofString " " by decide +kernel]
            rfl
          · refine ⟨rfl, 0, by omega, fun _ q' a' e => ?_, rfl⟩
            rw [er, List.map_append] at e
            have := (List.append_inj' e rfl).2
            rw [← (List.cons.inj this).1]
            exact Bool.not_eq_true _ ▸ z
        · have l0 : rows = [] := by
            rcases Nat.eq_zero_or_pos xs.length with h | h
            · rw [lx] at h; exact List.eq_nil_of_length_eq_zero h
            · exact absurd (decide_eq_true (by omega)) z
          refine iteF ⟨rfl, 0, by omega, fun _ q a e => ?_, rfl⟩
          rw [l0] at e
          have := congrArg List.length e
          simp at this
      · refine iteF ⟨rfl, g, g2, fun g0 => ?_, rfl⟩
        subst g0
        exact absurd (decide_eq_true (by decide +kernel)) z
    · rintro σ' H'' ⟨rfl, g', g2', hgl, rfl⟩
      have lS : ∀ l : List Nat, l.length ≤ 3000 → (S l).length ≤ sizeLine := fun l h => by rw [S_len]; exact small (by omega)
      refine ⟨_, rfl, _, (S L).length, rfl, ⟨lS _ (by omega), rfl⟩, _, rfl, _, (S (List.replicate g' 32)).length, rfl, ⟨lS _ (by simp; omega), rfl⟩, _, _, rfl, rfl, _, rfl, _, t.length, rfl, ⟨by rw [cd_len]; exact small (by omega), rfl⟩, _, _, rfl, rfl, _, _, rfl, rfl, _, rfl, ite2 (fun z => ?_) fun z => ?_⟩
      · have z1 : L.length + g' + (cd t).length ≤ 996 := by
          have := of_decide_eq_true z
          rw [S_len, S_len, cd_len, List.length_replicate] at this
          omega
        refine ⟨_, rfl, _, xs.length, rfl, .inl ⟨xs, SqL.of hp4, rfl⟩, _, _, rfl, rfl, _, rfl, ite2 (fun z => ?_) fun z => ?_⟩
        · have z2 : rows.length < 200 := by have := of_decide_eq_true z; omega
          refine ⟨_, rfl, _, rfl, _, _, rfl, rfl, by rw [S_len, S_len]; simp; exact small (by omega), ?_⟩
          rw [S_app]
          refine ⟨_, rfl, .inl ⟨rfl, _, SqL.of hp4⟩, _, rfl, _, rfl, _, (S (L ++ List.replicate g' 32)).length, rfl, ⟨lS _ (by simp; omega), rfl⟩, by show 2 ≤ sizeLine; decide, fun pt hpt => ?_⟩
          have npt : p ≠ pt := ne_of_none hp4 hpt
          rw [S_len, List.length_append, List.length_replicate]
          refine ⟨p, xs, _, rfl, rfl, by rw [upd_ne npt]; exact hp4, small' (by omega), ?_⟩
          refine ⟨_, rfl, _, rfl, _, _, rfl, rfl, by rw [S_len, cd_len]; simp; exact small (by omega), ?_⟩
          have eB : Ext [] H'' (upd H'' pt (.tup [.str t, .int ((L.length + g' : Nat) : Int)])) := .new hpt
          have ep : Ext [p] (upd H'' pt (.tup [.str t, .int ((L.length + g' : Nat) : Int)])) (upd (upd H'' pt (.tup [.str t, .int ((L.length + g' : Nat) : Int)])) p (.lst (xs ++ [.ref pt]))) := (Ext.refl _ _).set (by simp)
          have hpB : (upd H'' pt (.tup [.str t, .int ((L.length + g' : Nat) : Int)])) p = some (.lst xs) := by rw [upd_ne npt]; exact hp4
          have hdB : Dr (upd H'' pt (.tup [.str t, .int ((L.length + g' : Nat) : Int)])) d := hd3.ex eB (by simp)
          have hp0 : H p = none := by
            cases h : H p with
            | none => rfl
            | some o => rw [e1 _ _ h (by simpa using np)] at hp; cases hp
          refine ⟨((pe.trans e4).trans eB.nil).own hp0, hdB.ex ep (by simpa using Ne.symm np), ?_, ?_, L ++ List.replicate g' 32 ++ cd t, rows ++ [(t, L.length + g')], xs ++ [.ref pt], some (.str t), some (.str (S (List.replicate g' 32))), upd_same, ?_, ?_, ?_, ?_, ?_, ?_, ?_⟩
          · rw [upd_ne (Ne.symm npr), eB _ _ (e4 _ _ hr3 (by simpa using nr)) (by simp)]
          · exact (((pp.trans (e4.mono (by simp))).trans (eB.mono (by simp))).set (by simp))
          · rw [List.map_append]
            refine RpL.snoc ((rl4.ex0 eB).ext ep (.lst hpB .nil)) ⟨pt, _, rfl, SqT.of ?_, _, _, rfl, rfl, _, _, rfl, rfl, rfl⟩
            rw [upd_ne (Ne.symm npt), upd_same]
          · intro rr hrr
            rcases List.mem_append.mp hrr with h | h
            · exact rt rr h
            · rw [List.mem_singleton.mp h]; exact tt
          · simp; omega
          · simp; omega
          · simp; omega
          · intro hlen
            have hlen' : rows.length = i := by simp at hlen; exact hlen
            obtain ⟨ps, k, eL, hk, h1, h2, h3⟩ := hps hlen'
            refine ⟨ps ++ [(k + g', t)], 0, ?_, fun _ => rfl, ?_, ?_, Lx_snoc h3 tt fun q a e g0 => ?_⟩
            · rw [lay_snoc, eL, rep_add]
              simp
            · rw [List.map_append, h1, take_snoc ht]; rfl
            · rw [List.map_append, h2, take_snoc ht]; rfl
            · have hg' : g' = 0 := by omega
              have := hgl hg' q a (by rw [h2, ← h1]; exact e)
              intro c2 r2 e2
              rw [ec] at e2
              rw [← (List.cons.inj e2).1]
              exact this
          · show [_, _, some (V.str (S (L ++ List.replicate g' 32) ++ t)), _, _, _] = _
            rw [show S (L ++ List.replicate g' 32) ++ t = S (L ++ List.replicate g' 32 ++ cd t) by rw [← S_app (L ++ List.replicate g' 32), S_cd]]
        · refine ⟨pe.trans e4, hd3, e4 _ _ hr3 (by simpa using nr), pp.trans (e4.mono (by simp)), L, rows, xs, _, _, hp4, rl4, rt, lL, by omega, l2, fun h => by omega, rfl⟩
      · refine iteF ⟨pe.trans e4, hd3, e4 _ _ hr3 (by simpa using nr), pp.trans (e4.mono (by simp)), L, rows, xs, _, _, hp4, rl4, rt, lL, by omega, l2, fun h => by omega, rfl⟩
  · obtain ⟨pe, hd2, hr3, pp, L, rows, xs, x4, x5, hp3, rl, rt, lL, li, l2, hps, rfl⟩ := pv
    have lx : xs.length = rows.length := by have := rl.length; rw [List.length_map] at this; exact this.symm
    refine ⟨_, rfl, _, rfl, d, 3, rfl, hd2, by decide, fun k2 H3 e3 hd3 hk2 => ?_⟩
    obtain ⟨mo, em⟩ := mul_sp (n := k2) (by omega)
    refine ⟨_, _, rfl, rfl, mo, ?_⟩
    rw [em]
    refine ⟨_, _, rfl, rfl, by rw [S_len, S_len]; simp; exact small (by omega), _, rfl, by show 2 ≤ sizeLine; decide, fun pt hpt => ?_⟩
    rw [S_app]
    have eB : Ext [] H3 (upd H3 pt (.tup [.str (S (L ++ List.replicate k2 32)), .ref p])) := .new hpt
    have hp4 := e3 _ _ hp3 (by simpa using np)
    refine q pt p _ _ xs ((pe.trans e3).trans eB.nil) (hd3.ex eB (by simp)) (SqT.of upd_same) (eB _ _ hp4 (by simp)) (by simp; omega) (by omega) fun hle => ?_
    have li' : rows.length ≤ ts.length := by rw [List.length_map] at li; exact li
    obtain ⟨ps, k, eL, hk, h1, h2, h3⟩ := hps (by rw [List.length_map]; omega)
    rw [List.length_map] at h1
    refine ⟨ps, k + k2, ?_, by rw [h1, List.take_length], h3⟩
    rw [eL, rep_add, List.append_assoc]
end
end K13

/-! L4: the law's equal -/
namespace K13
open PySem PySem.Spec PyProof.Rows L2
mutual
def dD : D → Nat
  | .int _ => 1
  | .bl _ => 1
  | .str _ => 1
  | .tup ds => 1 + max ds.length (dDs ds)
def dDs : List D → Nat
  | [] => 0
  | d :: r => max (dD d) (dDs r)
end
theorem dD_mem : ∀ {ds : List D} {d : D}, d ∈ ds → dD d ≤ dDs ds
  | x :: r, d, h => by
    rw [dDs]
    rcases List.mem_cons.mp h with e | h
    · subst e; exact Nat.le_max_left _ _
    · exact Nat.le_trans (dD_mem h) (Nat.le_max_right _ _)
def D.ty : D → Value
  | .int _ => .type "int"
  | .bl _ => .type "bool"
  | .str _ => .type "str"
  | .tup _ => .type "tuple"
theorem ty_sq {K : PySem.W.Frag} {H : Hp} {a : Addr} {xs : List V} (h : SqT K H a xs) : TyX K H (.ref a) (.type "tuple") := by
  rcases h with (h | ⟨ob, h⟩) | ⟨o, its, n, h1, h2, _⟩
  · exact .base (.tup h)
  · exact .fTuple h
  · exact .kTuple h1 h2
theorem ty_D {K : PySem.W.Frag} {H : Hp} : ∀ {d : D} {v : V}, Rp K H d v → TyX K H v d.ty
  | .int i, v, h => by cases (show v = .int i from h); exact .base (.int i)
  | .bl i, v, h => by cases (show v = .bl i from h); exact .base (.bl i)
  | .str i, v, h => by cases (show v = .str i from h); exact .base (.str i)
  | .tup ds, v, ⟨a, xs, e, h, _⟩ => by subst e; exact ty_sq h
theorem isi_ {K : PySem.W.Frag} {H : Hp} {Q : VK} {d : D} {v : V} {n : String} {b : Bool} (r : Rp K H d v) (k : PySem.W.kitOne K d.ty (.type n) = some b) (q : Q (.bl b) H) : rIsi K [v, .ty n] H Q :=
  ⟨v, .ty n, d.ty, .type n, b, rfl, .ty n, ty_D r, k, q⟩
section
variable {P : Program} {w : World} {K : PySem.W.Frag} {mg : Str → Option Value} {base : Heap}
def sp_equal (K : PySem.W.Frag) (n : Nat) : Sp := fun vs H Q _ => ∃ (d : D) (v u : V), vs = [v, u] ∧ Rp K H d v ∧ Rp K H d u ∧ dD d ≤ n ∧ dD d ≤ 1000 ∧ Q (.bl true) H
theorem sc_law_equal : FnScope ["_law_actual", "_law_expected", "_law_k"] ["_law_actual", "_law_expected"] (defScope s_law_equal) := ⟨rfl, rfl, rfl, by decide +kernel, rfl, by decide +kernel, by decide +kernel⟩
theorem ok_law_equal (T : Tx w K mg) : ∀ n, Cal P w K mg base "_law_equal" (n + 1) ["_law_actual", "_law_expected"] (sp_equal K n)
  | 0 => by
    refine Cal.none_ T.f_law_equal T.g__law_equal (fun _ _ _ _ _ _ us hl => match us, hl with | [_, _], _ => rfl) ?_
    rintro vs H Q E ⟨d, v, u, _, _, _, h, _⟩
    cases d <;> simp [dD] at h
  | n + 1 => by
    have C_law_equal := ok_law_equal T n
    refine Cal.of T.f_law_equal T.g__law_equal sc_law_equal (fun _ _ _ _ _ _ us hl => match us, hl with | [_, _], _ => rfl) (fun vs H Q E h => ?_) (fun f cdv A outer s H vs Q E hr h => ?_)
    · obtain ⟨d, v, u, rfl, _⟩ := h; rfl
    obtain ⟨d, v, u, rfl, rv, ru, dn, dk, q⟩ := h
    refine ⟨_, pss_cons (ps_if (pt_cmpR op_isN (pv 1) (pe_non) (nomark _))
    (pss_one (ps_ret (pe_cmpR op_isN (pv 0) (pe_non) (nomark _))))
    (pss_nil))
    (pss_cons (ps_if (pt_val (pe_callB call_isi (by rfl) T.n_isinstance (by decide +kernel) (pa_cons (pv 1) (pa_cons (pe_bltn (v := .ty "bool") rfl T.n_bool (by rfl) rfl) pa_nil))))
    (pss_one (ps_ret ((pe_and (pe_callB call_isi (by rfl) T.n_isinstance (by decide +kernel) (pa_cons (pv 0) (pa_cons (pe_bltn (v := .ty "bool") rfl T.n_bool (by rfl) rfl) pa_nil))) (pe_one (pe_cmpR op_eq (pv 0) (pv 1) (nomark _)))))))
    (pss_nil))
    (pss_cons (ps_if (pt_val (pe_callB call_isi (by rfl) T.n_isinstance (by decide +kernel) (pa_cons (pv 1) (pa_cons (pe_bltn (v := .ty "int") rfl T.n_int (by rfl) rfl) pa_nil))))
    (pss_one (ps_ret ((pe_and (pe_callB call_isi (by rfl) T.n_isinstance (by decide +kernel) (pa_cons (pv 0) (pa_cons (pe_bltn (v := .ty "int") rfl T.n_int (by rfl) rfl) pa_nil))) (pe_and (pe_not (pe_callB call_isi (by rfl) T.n_isinstance (by decide +kernel) (pa_cons (pv 0) (pa_cons (pe_bltn (v := .ty "bool") rfl T.n_bool (by rfl) rfl) pa_nil)))) (pe_one (pe_cmpR op_eq (pv 0) (pv 1) (nomark _))))))))
    (pss_nil))
    (pss_cons (ps_if (pt_val (pe_callB call_isi (by rfl) T.n_isinstance (by decide +kernel) (pa_cons (pv 1) (pa_cons (pe_bltn (v := .ty "str") rfl T.n_str (by rfl) rfl) pa_nil))))
    (pss_one (ps_ret ((pe_and (pe_callB call_isi (by rfl) T.n_isinstance (by decide +kernel) (pa_cons (pv 0) (pa_cons (pe_bltn (v := .ty "str") rfl T.n_str (by rfl) rfl) pa_nil))) (pe_one (pe_cmpR op_eq (pv 0) (pv 1) (nomark _)))))))
    (pss_nil))
    (pss_cons (ps_if (PW.pt (pw_and (pt_val (pe_callB call_isi (by rfl) T.n_isinstance (by decide +kernel) (pa_cons (pv 1) (pa_cons (pe_bltn (v := .ty "tuple") rfl T.n_tuple (by rfl) rfl) pa_nil)))) (pw_and1 (pt_not (pt_val (pe_callB call_isi (by rfl) T.n_isinstance (by decide +kernel) (pa_cons (pv 0) (pa_cons (pe_bltn (v := .ty "tuple") rfl T.n_tuple (by rfl) rfl) pa_nil))))))))
    (pss_one (ps_ret (pe_bl)))
    (pss_nil))
    (pss_cons (ps_if (PW.pt (pw_and (pt_val (pe_callB call_isi (by rfl) T.n_isinstance (by decide +kernel) (pa_cons (pv 1) (pa_cons (pe_bltn (v := .ty "list") rfl T.n_list (by rfl) rfl) pa_nil)))) (pw_and1 (pt_not (pt_val (pe_callB call_isi (by rfl) T.n_isinstance (by decide +kernel) (pa_cons (pv 0) (pa_cons (pe_bltn (v := .ty "list") rfl T.n_list (by rfl) rfl) pa_nil))))))))
    (pss_one (ps_ret (pe_bl)))
    (pss_nil))
    (pss_cons (ps_if (pt_cmpR op_ne (pe_callB call_len (by rfl) T.n_len (by decide +kernel) (pa_cons (pv 0) pa_nil)) (pe_callB call_len (by rfl) T.n_len (by decide +kernel) (pa_cons (pv 1) pa_nil)) (nomark _))
    (pss_one (ps_ret (pe_bl)))
    (pss_nil))
    (pss_cons (ps_for PassesOwn.never rfl (pi_range1 rfl T.n_range (pa_cons (pe_callB call_len (by rfl) T.n_len (by decide +kernel) (pa_cons (pv 1) pa_nil)) pa_nil)) (pg_name (i := 2) sc_law_equal.nd rfl (Or.inl rfl))
    (pss_one (ps_if (pt_not (pt_val (pe_cal C_law_equal (hr.mono (by omega)) rfl (pa_cons (pe_ix ix_seq (pv 0) (pv 2) (fun _ _ => rfl)) (pa_cons (pe_ix ix_seq (pv 1) (pv 2) (fun _ _ => rfl)) pa_nil)))))
      (pss_one (ps_ret (pe_bl)))
      (pss_nil))))
    (pss_one (ps_ret (pe_bl)))))))))), ?_⟩
    refine ⟨_, rfl, rfl, _, rfl, ?_⟩
    rw [decide_eq_false (show ¬ u = .non from fun z => by
      subst z
      cases d with
      | tup ds => obtain ⟨a, xs, e, _⟩ := ru; cases e
      | _ => cases ru)]
    refine iteF ?_
    cases d with
    | int i =>
      refine ⟨_, rfl, _, _, _, _, false, rfl, .ty _, ty_D ru, rfl, _, rfl, iteF ?_⟩
      refine ⟨_, rfl, _, _, _, _, true, rfl, .ty _, ty_D ru, rfl, _, rfl, iteT ?_⟩
      refine ⟨_, rfl, _, _, _, _, true, rfl, .ty _, ty_D rv, rfl, _, rfl, iteT ?_⟩
      refine ⟨_, rfl, _, _, _, _, false, rfl, .ty _, ty_D rv, rfl, _, rfl, _, rfl, iteT ?_⟩
      cases (show v = .int i from rv)
      cases (show u = .int i from ru)
      refine ⟨_, rfl, _, rfl, rfl, ?_⟩
      rw [decide_eq_true rfl]
      exact q
    | bl i =>
      refine ⟨_, rfl, _, _, _, _, true, rfl, .ty _, ty_D ru, rfl, _, rfl, iteT ?_⟩
      refine ⟨_, rfl, _, _, _, _, true, rfl, .ty _, ty_D rv, rfl, _, rfl, iteT ?_⟩
      cases (show v = .bl i from rv)
      cases (show u = .bl i from ru)
      refine ⟨_, rfl, _, rfl, rfl, ?_⟩
      rw [decide_eq_true rfl]
      exact q
    | str i =>
      refine ⟨_, rfl, _, _, _, _, false, rfl, .ty _, ty_D ru, rfl, _, rfl, iteF ?_⟩
      refine ⟨_, rfl, _, _, _, _, false, rfl, .ty _, ty_D ru, rfl, _, rfl, iteF ?_⟩
      refine ⟨_, rfl, _, _, _, _, true, rfl, .ty _, ty_D ru, rfl, _, rfl, iteT ?_⟩
      refine ⟨_, rfl, _, _, _, _, true, rfl, .ty _, ty_D rv, rfl, _, rfl, iteT ?_⟩
      cases (show v = .str i from rv)
      cases (show u = .str i from ru)
      refine ⟨_, rfl, _, rfl, rfl, ?_⟩
      rw [decide_eq_true rfl]
      exact q
    | tup ds =>
      refine ⟨_, rfl, _, _, _, _, false, rfl, .ty _, ty_D ru, rfl, _, rfl, iteF ?_⟩
      refine ⟨_, rfl, _, _, _, _, false, rfl, .ty _, ty_D ru, rfl, _, rfl, iteF ?_⟩
      refine ⟨_, rfl, _, _, _, _, false, rfl, .ty _, ty_D ru, rfl, _, rfl, iteF ?_⟩
      refine ⟨_, rfl, _, _, _, _, true, rfl, .ty _, ty_D ru, rfl, _, rfl, iteT ?_⟩
      refine ⟨_, rfl, _, _, _, _, true, rfl, .ty _, ty_D rv, rfl, _, rfl, iteF ?_⟩
      refine ⟨_, rfl, _, _, _, _, false, rfl, .ty _, ty_D ru, rfl, _, rfl, iteF (iteF ?_)⟩
      obtain ⟨a, xs, rfl, sa, la⟩ := rv
      obtain ⟨b, ys, rfl, sb, lb⟩ := ru
      have lx : xs.length = ds.length := la.length.symm
      have ly : ys.length = ds.length := lb.length.symm
      refine ⟨_, rfl, _, xs.length, rfl, .inr ⟨xs, sa, rfl⟩, _, rfl, _, ys.length, rfl, .inr ⟨ys, sb, rfl⟩, rfl, _, rfl, ?_⟩
      rw [show decide (V.int (xs.length : Int) = V.int (ys.length : Int)) = true from decide_eq_true (by rw [lx, ly])]
      refine iteF ⟨_, rfl, _, ys.length, rfl, .inr ⟨ys, sb, rfl⟩, (ys.length : Int), rfl, by omega, ?_, ?_⟩
      · rw [dD] at dk; omega
      · rw [show ((ys.length : Int)).toNat = ys.length by omega]
        refine for_range (fun j σ H' => H' = H ∧ ∃ x, σ = [some (.ref a), some (.ref b), x]) ⟨rfl, none, rfl⟩ (fun j σ H' lj pv => ?_) (fun σ H' pv => ?_)
        · obtain ⟨rfl, x, rfl⟩ := pv
          have hj := List.getElem?_eq_getElem (show j < ds.length by omega)
          obtain ⟨x1, hx, rx⟩ := la.get hj
          obtain ⟨y1, hy, ry⟩ := lb.get hj
          rw [show (0 + (j : Int)) = (j : Int) by omega]
          refine ⟨_, rfl, _, rfl, .inr (.inl ⟨_, _, _, _, rfl, rfl, sa, atI_nat hx, ?_⟩)⟩
          refine ⟨_, rfl, _, rfl, .inr (.inl ⟨_, _, _, _, rfl, rfl, sb, atI_nat hy, ?_⟩)⟩
          refine ⟨_, x1, y1, rfl, rx, ry, ?_, ?_, _, rfl, iteF ⟨rfl, _, rfl⟩⟩
          · have := dD_mem (List.mem_of_getElem? hj)
            rw [dD] at dn
            omega
          · have := dD_mem (List.mem_of_getElem? hj)
            rw [dD] at dk
            omega
        · obtain ⟨rfl, x, rfl⟩ := pv
          exact q
end
end K13

/-! L5: the law's world; atoms -/
namespace K13
open PySem PySem.Spec PyProof.Rows L2
/-! ### number of heads -/
mutual
def nd : Tm → Nat
  | .mk _ _ cs => 1 + nds cs
def nds : List Tm → Nat
  | [] => 0
  | t :: r => nd t + nds r
end
theorem nds_map : ∀ cs : List Tm, nds cs = (cs.map nd).sum
  | [] => rfl
  | t :: r => by rw [nds, nds_map r, List.map_cons, List.sum_cons]
theorem nd_mk (p : Nat) (h : Hd) (cs : List Tm) : nd (.mk p h cs) = 1 + (cs.map nd).sum := by rw [nd, nds_map]
/-- how many heads a term of n levels has at most -/
def B : Nat → Nat
  | 0 => 0
  | n + 1 => 1 + 8 * B n
theorem sum_le : ∀ {l : List Nat} {b : Nat}, (∀ x ∈ l, x ≤ b) → l.sum ≤ l.length * b
  | [], b, _ => by simp
  | x :: r, b, h => by
    rw [List.sum_cons, List.length_cons, Nat.succ_mul]
    have := h x (by simp)
    have := sum_le (l := r) (b := b) fun y hy => h y (by simp [hy])
    omega
theorem nd_le {p : Nat} {h : Hd} {cs : List Tm} {n : Nat} (l : cs.length ≤ 8) (hc : ∀ c ∈ cs, nd c ≤ B n) : nd (.mk p h cs) ≤ B (n + 1) := by
  rw [nd_mk, B]
  have := sum_le (l := cs.map nd) (b := B n) fun x hx => by
    obtain ⟨c, h1, rfl⟩ := List.mem_map.mp hx
    exact hc c h1
  rw [List.length_map] at this
  have := Nat.mul_le_mul_right (B n) l
  omega
theorem B_pos (n : Nat) : 1 ≤ B (n + 1) := by rw [B]; omega
/-- what is made: n levels, the names bound, the functions known -/
structure Gen (n : Nat) (bound : List Str) (known : List (Str × Int)) (t : Tm) : Prop where
  wf : Wf t
  us : Us bound known t
  dep : K13.dep t ≤ n
  nd : K13.nd t ≤ B n
theorem Gen.leaf {n : Nat} {bound : List Str} {known : List (Str × Int)} {h : Hd} (n1 : 1 ≤ n) (w : h.Wf 0) (u : h.uses 0 bound known) : Gen n bound known (.mk 0 h []) := by
  obtain ⟨n, rfl⟩ : ∃ m, n = m + 1 := ⟨n - 1, by omega⟩
  exact ⟨⟨w, trivial⟩, ⟨u, trivial⟩, by rw [dep_mk]; simp [maxl], by rw [nd_mk]; have := B_pos n; simp; omega⟩
theorem Gen.node {n : Nat} {bound : List Str} {known : List (Str × Int)} {h : Hd} {cs : List Tm} (w : h.Wf cs.length) (u : h.uses cs.length bound known) (l8 : cs.length ≤ 8) (hc : ∀ i c, cs[i]? = some c → Gen n (bound ++ h.bnd i) known c) : Gen (n + 1) bound known (.mk 0 h cs) := by
  have hm : ∀ c ∈ cs, ∃ b, Gen n b known c := fun c hc' => by
    obtain ⟨i, hi⟩ := List.mem_iff_getElem?.mp hc'
    exact ⟨_, hc i c hi⟩
  refine ⟨⟨w, wfs_iff.mpr fun c h => (hm c h).elim fun _ g => g.wf⟩, ⟨u, uss_iff.mpr fun j c e => by rw [Nat.zero_add]; exact (hc j c e).us⟩, ?_, nd_le l8 fun c h => (hm c h).elim fun _ g => g.nd⟩
  rw [dep_mk]
  have : maxl (cs.map K13.dep) ≤ n := maxl_le fun x hx => by
    obtain ⟨c, h1, rfl⟩ := List.mem_map.mp hx
    exact (hm c h1).elim fun _ g => g.dep
  omega
/-! ### the world -/
def kD (p : Str × Int) : D := .tup [.str p.1, .int p.2]
structure Wd (K : PySem.W.Frag) (H : Hp) (d w0 nl kl : Addr) (names : List Str) (known : List (Str × Int)) : Prop where
  dr : Dr H d
  wl : ∃ room : Int, H w0 = some (.lst [.int room, .int 0, .ref nl, .ref kl])
  nm : H nl = some (.lst (names.map V.str))
  kn : ∃ ks, H kl = some (.lst ks) ∧ RpL K H (known.map kD) ks
  ap : d ≠ w0 ∧ nl ≠ d ∧ nl ≠ w0 ∧ kl ≠ d ∧ kl ≠ w0
/-- what the names and the functions are -/
structure WdP (names : List Str) (known : List (Str × Int)) : Prop where
  n4 : names.length = 4
  nm : ∀ n ∈ names, Name n
  k14 : 14 ≤ known.length
  k20 : known.length ≤ 20
  kn : ∀ p ∈ known, (Name p.1 ∨ p.1 ∈ fnames) ∧ 0 ≤ p.2 ∧ p.2 ≤ 4 ∧ known.lookup p.1 = some p.2
section
variable {K : PySem.W.Frag} {H H' : Hp} {d w0 nl kl : Addr} {names : List Str} {known : List (Str × Int)}
theorem Wd.not (h : Wd K H d w0 nl kl names known) : NoT H [d, w0] := by
  obtain ⟨xs, hd⟩ := h.dr
  obtain ⟨room, hw⟩ := h.wl
  exact .lst hd (.lst hw .nil)
theorem Wd.ext {ms : List Addr} (h : Wd K H d w0 nl kl names known) (e : Ext ms H H') (n : NoT H ms) (hd : Dr H' d) (hw : w0 ∉ ms) (hn : nl ∉ ms) (hk : kl ∉ ms) : Wd K H' d w0 nl kl names known := by
  obtain ⟨room, h1⟩ := h.wl
  obtain ⟨ks, h2, h3⟩ := h.kn
  exact ⟨hd, ⟨room, e _ _ h1 hw⟩, e _ _ h.nm hn, ⟨ks, e _ _ h2 hk, h3.ext e n⟩, h.ap⟩
theorem Wd.ex0 (h : Wd K H d w0 nl kl names known) (e : Ext [] H H') : Wd K H' d w0 nl kl names known := h.ext e .nil (h.dr.ex e (by simp)) (by simp) (by simp) (by simp)
theorem Wd.draw (h : Wd K H d w0 nl kl names known) (e : Ext [d] H H') (hd : Dr H' d) : Wd K H' d w0 nl kl names known := h.ext e h.dr.not hd (by simpa using Ne.symm h.ap.1) (by simpa using h.ap.2.1) (by simpa using h.ap.2.2.2.1)
theorem Wd.put {D : Addr} {o : HO} (h : Wd K H d w0 nl kl names known) (n : NoT H [D]) (n1 : D ≠ d) (n2 : D ≠ w0) (n3 : D ≠ nl) (n4 : D ≠ kl) : Wd K (upd H D o) d w0 nl kl names known := by
  have e : Ext [D] H (upd H D o) := (Ext.refl _ _).set (by simp)
  exact h.ext e n (h.dr.ex e (by simpa using Ne.symm n1)) (by simpa using Ne.symm n2) (by simpa using Ne.symm n3) (by simpa using Ne.symm n4)
theorem Wd.room (h : Wd K H d w0 nl kl names known) (i : Int) : Wd K (upd H w0 (.lst [.int i, .int 0, .ref nl, .ref kl])) d w0 nl kl names known := by
  have e : Ext [w0] H (upd H w0 (.lst [.int i, .int 0, .ref nl, .ref kl])) := (Ext.refl _ _).set (by simp)
  obtain ⟨room, hw⟩ := h.wl
  obtain ⟨ks, h2, h3⟩ := h.kn
  obtain ⟨a1, a2, a3, a4, a5⟩ := h.ap
  exact ⟨h.dr.ex e (by simpa using a1), ⟨i, upd_same⟩, e _ _ h.nm (by simpa using a3), ⟨ks, e _ _ h2 (by simpa using a5), h3.ext e (.lst hw .nil)⟩, h.ap⟩
theorem Wd.off {D : Addr} (h : Wd K H d w0 nl kl names known) (n : H D = none) : D ≠ d ∧ D ≠ w0 ∧ D ≠ nl ∧ D ≠ kl := by
  obtain ⟨xs, hd⟩ := h.dr
  obtain ⟨room, hw⟩ := h.wl
  obtain ⟨ks, h2, _⟩ := h.kn
  have hn := h.nm
  refine ⟨fun z => ?_, fun z => ?_, fun z => ?_, fun z => ?_⟩ <;> (subst z; simp_all)
end
theorem Ext.dw {d w0 : Addr} {H H' : Hp} (e : Ext [d] H H') : Ext [d, w0] H H' := e.mono (by simp)
/-- the list of the names bound -/
structure Bd (H : Hp) (d w0 b : Addr) (bound : List Str) : Prop where
  at_ : H b = some (.lst (bound.map V.str))
  nd : b ≠ d
  nw : b ≠ w0
theorem Bd.ext {H H' : Hp} {d w0 b : Addr} {bound : List Str} (h : Bd H d w0 b bound) (e : Ext [d, w0] H H') : Bd H' d w0 b bound := ⟨e _ _ h.at_ (by simp [h.nd, h.nw]), h.nd, h.nw⟩
theorem Bd.ex0 {H H' : Hp} {d w0 b : Addr} {bound : List Str} (h : Bd H d w0 b bound) (e : Ext [] H H') : Bd H' d w0 b bound := ⟨e _ _ h.at_ (by simp), h.nd, h.nw⟩
section
variable {P : Program} {w : World} {K : PySem.W.Frag} {mg : Str → Option Value} {base : Heap}
/-- what comes of a making -/
def Made (K : PySem.W.Frag) (H : Hp) (d w0 nl kl : Addr) (names : List Str) (known : List (Str × Int)) (G : Tm → Prop) (Q : VK) : Prop :=
  ∀ r H' t, Ext [d, w0] H H' → Wd K H' d w0 nl kl names known → Rp K H' (enc t) r → G t → Q r H'
def sp_atom (K : PySem.W.Frag) : Sp := fun vs H Q _ => ∃ (d w0 nl kl b : Addr) (names bound : List Str) (known : List (Str × Int)), vs = [.ref d, .ref w0, .ref b] ∧ Wd K H d w0 nl kl names known ∧ WdP names known ∧ Bd H d w0 b bound ∧ (∀ v ∈ bound, Name v) ∧ Made K H d w0 nl kl names known (Gen 1 bound known) Q
theorem sc_law_atom : FnScope ["_law_draws", "_law_world_here", "_law_bound", "_law_choice", "_law_numbers_here"] ["_law_draws", "_law_world_here", "_law_bound"] (defScope s_law_atom) := ⟨rfl, rfl, rfl, by decide +kernel, rfl, by decide +kernel, by decide +kernel⟩
theorem fact_at {i : Nat} (h : i < 10) : ∃ v, atI (tu_RESERVED.map V.str) (i : Int) = some (.str v) ∧ v ∈ tu_FACTS := by
  have h0 : (tu_RESERVED.take 10) = tu_FACTS := by decide +kernel
  have hl : i < tu_RESERVED.length := by have : tu_RESERVED.length = 42 := by decide +kernel
                                         omega
  have e := List.getElem?_eq_getElem hl
  refine ⟨tu_RESERVED[i], atI_nat (by rw [List.getElem?_map, e]; rfl), ?_⟩
  rw [← h0]
  exact List.mem_of_getElem? (i := i) (by rw [List.getElem?_take, if_pos h, e])
theorem ok_law_atom (T : Tx w K mg) : Cal P w K mg base "_law_atom" 3 ["_law_draws", "_law_world_here", "_law_bound"] (sp_atom K) := by
  have C_law_draw := ok_law_draw T (P := P) (base := base)
  have C_law_big := ok_law_big T (P := P) (base := base)
  have C_law_pick := ok_law_pick T (P := P) (base := base)
  have C_law_reserved := ok_law_reserved T (P := P) (base := base)
  refine Cal.of T.f_law_atom T.g__law_atom sc_law_atom (fun _ _ _ _ _ _ us hl => match us, hl with | [_, _, _], _ => rfl) (fun vs H Q E h => ?_) (fun f cdv A outer s H vs Q E hr h => ?_)
  · obtain ⟨d, w0, nl, kl, b, names, bound, known, rfl, _⟩ := h; rfl
  obtain ⟨d, w0, nl, kl, b, names, bound, known, rfl, wd, wp, bd, nb, q⟩ := h
  refine ⟨_, pss_cons (ps_set (i := 3) sc_law_atom.nd rfl (Or.inl rfl) (pe_cal C_law_draw (hr.mono (by omega)) rfl (pa_cons (pv 0) (pa_cons (pe_int) pa_nil))))
    (pss_cons (ps_if (pt_cmpR op_lt (pv 3) (pe_int) (nomark _))
    (pss_cons (ps_set (i := 4) sc_law_atom.nd rfl (Or.inl rfl) (pe_lst (pa_cons (pe_cal C_law_draw (hr.mono (by omega)) rfl (pa_cons (pv 0) (pa_cons (pe_int) pa_nil))) (pa_cons (pe_op op_mod (pe_callTy call_int1 (by rfl) T.n_int (by decide +kernel) (pa_cons (pe_cal C_law_big (hr.mono (by omega)) rfl (pa_cons (pv 0) pa_nil)) pa_nil)) (pe_op op_add (pe_op op_pow (pe_int) (pe_int)) (pe_int))) (pa_cons (pe_op op_pow (pe_int) (pe_int)) pa_nil)))))
      (pss_one (ps_ret (pe_tup (pa_cons (pe_str) (pa_cons (pe_cal C_law_pick (hr.mono (by omega)) rfl (pa_cons (pv 0) (pa_cons (pv 4) pa_nil))) pa_nil))))))
    (pss_nil))
    (pss_cons (ps_if (pt_cmpR op_eq (pv 3) (pe_int) (nomark _))
    (pss_one (ps_ret (pe_tup (pa_cons (pe_str) (pa_cons (pe_cmpR op_eq (pe_cal C_law_draw (hr.mono (by omega)) rfl (pa_cons (pv 0) (pa_cons (pe_int) pa_nil))) (pe_int) (nomark _)) pa_nil)))))
    (pss_nil))
    (pss_cons (ps_if (pt_cmpR op_eq (pv 3) (pe_int) (nomark _))
    (pss_one (ps_ret (pe_tup (pa_cons (pe_str) (pa_cons (pe_ix ix_list (pe_cal0 C_law_reserved (hr.mono (by omega)) rfl) (pe_cal C_law_draw (hr.mono (by omega)) rfl (pa_cons (pv 0) (pa_cons (pe_int) pa_nil))) (fun _ _ => rfl)) pa_nil)))))
    (pss_nil))
    (pss_cons (ps_if (pt_cmpR op_eq (pv 3) (pe_int) (nomark _))
    (pss_one (ps_ret (pe_tup (pa_cons (pe_str) pa_nil))))
    (pss_nil))
    (pss_cons (ps_if (PW.pt (pw_and (pt_cmpR op_gt (pe_ix ix_list (pv 1) (pe_int) (fun _ _ => rfl)) (pe_int) (nomark _)) (pw_and1 (pt_cmpR op_eq (pe_cal C_law_draw (hr.mono (by omega)) rfl (pa_cons (pv 0) (pa_cons (pe_int) pa_nil))) (pe_int) (nomark _)))))
    (pss_never)
    (pss_nil))
    (pss_cons (ps_if (pt_cmpR op_eq (pe_callB call_len (by rfl) T.n_len (by decide +kernel) (pa_cons (pv 2) pa_nil)) (pe_int) (nomark _))
    (pss_one (ps_ret (pe_tup (pa_cons (pe_str) (pa_cons (pe_cal C_law_draw (hr.mono (by omega)) rfl (pa_cons (pv 0) (pa_cons (pe_int) pa_nil))) pa_nil)))))
    (pss_nil))
    (pss_one (ps_ret (pe_tup (pa_cons (pe_str) (pa_cons (pe_cal C_law_pick (hr.mono (by omega)) rfl (pa_cons (pv 0) (pa_cons (pv 2) pa_nil))) pa_nil))))))))))), ?_⟩
  -- a leaf is laid
  have lay1 : ∀ (h : Hd) (v : V) (H1 : Hp), h.more = [D.int 0] ∨ True → Ext [d, w0] H H1 → Wd K H1 d w0 nl kl names known → RpL K H1 h.more [v] → h.nested = false → h.Wf 0 → h.uses 0 bound known → ∀ pt, H1 pt = none → Q (.ref pt) (upd H1 pt (.tup [.str h.tag, v])) := by
    intro h v H1 _ e1 w1 rl hn hw hu pt hpt
    have e2 : Ext [] H1 (upd H1 pt (.tup [.str h.tag, v])) := .new hpt
    refine q _ _ (.mk 0 h []) (e1.trans e2.nil) (w1.ex0 e2) ?_ (Gen.leaf (Nat.le_refl _) hw hu)
    rw [enc_mk, hn]
    refine ⟨pt, _, rfl, SqT.of upd_same, _, _, rfl, rfl, ?_⟩
    simp only [Bool.false_eq_true, if_false, List.map_nil, List.append_nil]
    exact rl.ex0 e2
  refine ⟨_, rfl, d, 8, rfl, wd.dr, by decide, fun c H1 e1 hd1 hc => ?_⟩
  have w1 := wd.draw e1 hd1
  have x1 : Ext [d, w0] H H1 := e1.dw
  refine ⟨_, rfl, _, _, rfl, rfl, _, rfl, ite2 (fun _ => ?_) fun _ => ?_⟩
  · -- numbers
    refine ⟨_, rfl, d, 10, rfl, hd1, by decide, fun n1 H2 e2 hd2 hn1 => ?_⟩
    refine ⟨_, rfl, d, rfl, hd2, fun n2 H3 e3 hd3 => .inl ⟨_, rfl, _, _, rfl, rfl, ⟨by decide, by decide, by decide⟩, _, _, rfl, rfl, _, _, rfl, rfl, by show (0 : Int) < 10 ^ 15 + 1; decide, _, _, rfl, rfl, ⟨by decide, by decide, by decide⟩, ?_⟩⟩
    refine ⟨by show 3 ≤ sizeLine; decide, fun l hl => ?_⟩
    have hm : ∃ m : Nat, (n2 : Int) % (10 ^ (Int.toNat 15) + 1) = (m : Int) ∧ m ≤ 1000000000000000 := ⟨n2 % 1000000000000001, by
      show (n2 : Int) % (1000000000000001 : Int) = _
      omega, by omega⟩
    obtain ⟨m, em, lm⟩ := hm
    have w3 := (w1.draw e2 hd2).draw e3 hd3
    have x3 := (x1.trans e2.dw).trans e3.dw
    refine ⟨_, rfl, _, rfl, d, .ref l, rfl, hd3.ex (.new (ms := []) hl) (by simp), .inl ⟨l, _, rfl, hd3.off hl, upd_same, by show 0 < 3; decide, fun i v H4 hv e4 hd4 => ?_⟩⟩
    refine ⟨by show 2 ≤ sizeLine; decide, fun pt hpt => ?_⟩
    have e4' : Ext [] H3 _ := .new (o := .lst [.int (n1 : Int), .int ((n2 : Int) % (10 ^ (Int.toNat 15) + 1)), .int (10 ^ (Int.toNat 15))]) hl
    have hv2 : ∃ k : Int, v = .int k ∧ 0 ≤ k ∧ k ≤ 1000000000000000 := by
      have hv : [V.int (n1 : Int), V.int ((n2 : Int) % (10 ^ (Int.toNat 15) + 1)), V.int (10 ^ (Int.toNat 15))][i]? = some v := hv
      rw [em] at hv
      match i, hv with
      | 0, hv => exact ⟨_, (Option.some.inj hv).symm, by omega, by omega⟩
      | 1, hv => exact ⟨_, (Option.some.inj hv).symm, by omega, by omega⟩
      | 2, hv => exact ⟨_, (Option.some.inj hv).symm, by decide, by decide⟩
      | i + 3, hv => simp at hv
    obtain ⟨k, rfl, k0, k1⟩ := hv2
    exact lay1 (.num k) _ H4 (.inr trivial) ((x3.trans e4'.nil).trans e4.dw) ((w3.ex0 e4').draw e4 hd4) ⟨_, _, rfl, rfl, rfl⟩ rfl ⟨rfl, k0, k1⟩ trivial pt hpt
  · refine ⟨_, rfl, rfl, _, rfl, ite2 (fun _ => ?_) fun _ => ?_⟩
    · refine ⟨_, rfl, d, 2, rfl, hd1, by decide, fun n1 H2 e2 hd2 hn1 => ⟨rfl, ?_⟩⟩
      refine ⟨by show 2 ≤ sizeLine; decide, fun pt hpt => ?_⟩
      exact lay1 (.tru _) _ H2 (.inr trivial) (x1.trans e2.dw) (w1.draw e2 hd2) ⟨_, _, rfl, rfl, rfl⟩ rfl rfl trivial pt hpt
    refine ⟨_, rfl, rfl, _, rfl, ite2 (fun _ => ?_) fun _ => ?_⟩
    · refine ⟨rfl, fun l H2 e2 hl hl2 => ?_⟩
      refine ⟨_, rfl, d, 10, rfl, hd1.ex e2 (by simp), by decide, fun n1 H3 e3 hd3 hn1 => ?_⟩
      obtain ⟨v, hv, vf⟩ := fact_at (i := n1) (by omega)
      have nl1 : l ≠ d := hd1.off hl
      refine ⟨l, _, _, _, rfl, rfl, SqL.of (e3 _ _ hl2 (by simpa using nl1)), hv, ?_⟩
      refine ⟨by show 2 ≤ sizeLine; decide, fun pt hpt => ?_⟩
      exact lay1 (.fact v) _ H3 (.inr trivial) ((x1.trans e2.nil).trans e3.dw) ((w1.ex0 e2).draw e3 hd3) ⟨_, _, rfl, rfl, rfl⟩ rfl ⟨rfl, vf⟩ trivial pt hpt
    refine ⟨_, rfl, rfl, _, rfl, ite2 (fun _ => ?_) fun _ => ?_⟩
    · refine ⟨by show 1 ≤ sizeLine; decide, fun pt hpt => ?_⟩
      have e2 : Ext [] H1 (upd H1 pt (.tup [.str (Hd.tag .fail)])) := .new hpt
      refine q _ _ (.mk 0 .fail []) (x1.trans e2.nil) (w1.ex0 e2) ?_ (Gen.leaf (Nat.le_refl _) rfl trivial)
      rw [enc_mk]
      exact ⟨pt, _, rfl, SqT.of upd_same, _, _, rfl, rfl, rfl⟩
    obtain ⟨room, hw⟩ := w1.wl
    refine ⟨_, rfl, w0, _, _, _, rfl, rfl, SqL.of hw, a1, _, _, rfl, rfl, _, rfl, iteF (iteF ?_)⟩
    have bd1 := bd.ext x1
    refine ⟨_, rfl, _, (bound.map V.str).length, rfl, .inl ⟨_, SqL.of bd1.at_, rfl⟩, rfl, _, rfl, ite2 (fun z => ?_) fun z => ?_⟩
    · refine ⟨_, rfl, d, 1000, rfl, hd1, by decide, fun n1 H2 e2 hd2 hn1 => ?_⟩
      refine ⟨by show 2 ≤ sizeLine; decide, fun pt hpt => ?_⟩
      exact lay1 (.num n1) _ H2 (.inr trivial) (x1.trans e2.dw) (w1.draw e2 hd2) ⟨_, _, rfl, rfl, rfl⟩ rfl ⟨rfl, by omega, by omega⟩ trivial pt hpt
    · have lb : 0 < (bound.map V.str).length := by
        rcases Nat.eq_zero_or_pos (bound.map V.str).length with h | h
        · exact absurd (decide_eq_true (by rw [h]; rfl)) z
        · exact h
      refine ⟨_, rfl, _, rfl, d, .ref b, rfl, hd1, .inl ⟨b, _, rfl, bd.nd, bd1.at_, lb, fun i v H2 hv e2 hd2 => ?_⟩⟩
      rw [List.getElem?_map] at hv
      obtain ⟨v, hv2, rfl⟩ := Option.map_eq_some_iff.mp hv
      refine ⟨by show 2 ≤ sizeLine; decide, fun pt hpt => ?_⟩
      exact lay1 (.var v) _ H2 (.inr trivial) (x1.trans e2.dw) (w1.draw e2 hd2) ⟨_, _, rfl, rfl, rfl⟩ rfl ⟨rfl, nb v (mem_at hv2)⟩ (mem_at hv2) pt hpt
end
end K13

/-! L6: calls and binders -/
namespace K13
open PySem PySem.Spec PyProof.Rows L2
/-- terms made one by one into the list at D -/
structure Mks (K : PySem.W.Frag) (H0 H : Hp) (d w0 nl kl : Addr) (names : List Str) (known : List (Str × Int)) (G : Tm → Prop) (D : Addr) (i : Nat) : Prop where
  ext : Ext [d, w0] H0 H
  wd : Wd K H d w0 nl kl names known
  ts : ∃ (ts : List Tm) (vs : List V), H D = some (.lst vs) ∧ RpL K H (ts.map enc) vs ∧ ts.length = i ∧ ∀ t ∈ ts, G t
section
variable {K : PySem.W.Frag} {H0 H H' : Hp} {d w0 nl kl D : Addr} {names : List Str} {known : List (Str × Int)} {G : Tm → Prop} {i : Nat}
theorem Mks.start (h : Wd K H0 d w0 nl kl names known) (f : H0 D = none) : Mks K H0 (upd H0 D (.lst [])) d w0 nl kl names known G D 0 :=
  ⟨(Ext.new (ms := []) f).nil, h.ex0 (.new f), [], [], upd_same, rfl, rfl, by simp⟩
theorem Mks.step (m : Mks K H0 H d w0 nl kl names known G D i) (f : H0 D = none) (w : Wd K H0 d w0 nl kl names known) (li : i ≤ 100) (e : Ext [d, w0] H H') (w2 : Wd K H' d w0 nl kl names known) {t : Tm} {v : V} (r : Rp K H' (enc t) v) (g : G t) :
    ∃ acc, H' D = some (.lst acc) ∧ acc.length < sizeLine ∧ Mks K H0 (upd H' D (.lst (acc ++ [v]))) d w0 nl kl names known G D (i + 1) := by
  obtain ⟨ts, vs, h1, h2, h3, h4⟩ := m.ts
  obtain ⟨n1, n2, n3, n4⟩ := w.off f
  have hD : H' D = some (.lst vs) := e _ _ h1 (by simp [n1, n2])
  have nt : NoT H' [D] := .lst hD .nil
  have ed : Ext [D] H' (upd H' D (.lst (vs ++ [v]))) := (Ext.refl _ _).set (by simp)
  have lv : vs.length = i := by have := h2.length; rw [List.length_map] at this; omega
  refine ⟨vs, hD, small' (by omega), (m.ext.trans e).own f, w2.put nt n1 n2 n3 n4, ts ++ [t], vs ++ [v], upd_same, ?_, by simp [h3], fun x hx => ?_⟩
  · rw [List.map_append]
    exact ((h2.ext e m.wd.not).ext ed nt).snoc (r.ext ed nt)
  · rcases List.mem_append.mp hx with h | h
    · exact h4 x h
    · rw [List.mem_singleton.mp h]; exact g
theorem RpL.mem {α : Type} {f : α → K13.D} : ∀ {cs : List α} {vs : List V} {x : V}, RpL K H (cs.map f) vs → x ∈ vs → ∃ c ∈ cs, Rp K H (f c) x := by
  intro cs vs x h hx
  obtain ⟨i, hi⟩ := List.mem_iff_getElem?.mp hx
  obtain ⟨c, hc, r⟩ := h.at_ hi
  exact ⟨c, mem_at hc, r⟩
theorem kD_elim {p : Str × Int} {v : V} (h : Rp K H (kD p) v) : ∃ a, v = .ref a ∧ SqT K H a [.str p.1, .int p.2] := by
  obtain ⟨a, xs, rfl, sq, y1, r1, rfl, h1, y2, r2, rfl, h2, rfl⟩ := h
  cases (show y1 = .str p.1 from h1)
  cases (show y2 = .int p.2 from h2)
  exact ⟨a, rfl, sq⟩
end
section
variable {P : Program} {w : World} {K : PySem.W.Frag} {mg : Str → Option Value} {base : Heap}
def sp_make (K : PySem.W.Frag) (n : Nat) : Sp := fun vs H Q _ => ∃ (d w0 nl kl b : Addr) (lv : Int) (names bound : List Str) (known : List (Str × Int)), vs = [.ref d, .ref w0, .int lv, .ref b] ∧ lv = (n : Int) ∧ 1 ≤ n ∧ Wd K H d w0 nl kl names known ∧ WdP names known ∧ Bd H d w0 b bound ∧ (∀ v ∈ bound, Name v) ∧ bound.length + 2 * n ≤ 100 ∧ Made K H d w0 nl kl names known (Gen n bound known) Q
def sp_over (K : PySem.W.Frag) (n : Nat) : Sp := fun vs H Q _ => ∃ (d w0 nl kl b : Addr) (lv : Int) (names bound : List Str) (known : List (Str × Int)), vs = [.ref d, .ref w0, .int lv, .ref b] ∧ lv = (n : Int) ∧ 1 ≤ n ∧ Wd K H d w0 nl kl names known ∧ WdP names known ∧ Bd H d w0 b bound ∧ (∀ v ∈ bound, Name v) ∧ bound.length + 2 * n + 2 ≤ 100 ∧ Made K H d w0 nl kl names known (Gen (n + 1) bound known) Q
theorem sc_law_call : FnScope ["_law_draws", "_law_world_here", "_law_levels", "_law_bound", "_law_name_here", "_law_many", "_law_k"] ["_law_draws", "_law_world_here", "_law_levels", "_law_bound"] (defScope s_law_call) := ⟨rfl, rfl, rfl, by decide +kernel, rfl, by decide +kernel, by decide +kernel⟩
theorem ok_law_call (T : Tx w K mg) {n j : Nat} (j3 : 3 ≤ j) (C_law_make : Cal P w K mg base "_law_make" j ["_law_draws", "_law_world_here", "_law_levels", "_law_bound"] (sp_make K n)) : Cal P w K mg base "_law_call" (j + 1) ["_law_draws", "_law_world_here", "_law_levels", "_law_bound"] (sp_over K n) := by
  have C_law_draw := ok_law_draw T (P := P) (base := base)
  have C_law_pick := ok_law_pick T (P := P) (base := base)
  refine Cal.of T.f_law_call T.g__law_call sc_law_call (fun _ _ _ _ _ _ us hl => match us, hl with | [_, _, _, _], _ => rfl) (fun vs H Q E h => ?_) (fun f cdv A outer s H vs Q E hr h => ?_)
  · obtain ⟨d, w0, nl, kl, b, lv, names, bound, known, rfl, _⟩ := h; rfl
  obtain ⟨d, w0, nl, kl, b, lv, names, bound, known, rfl, hlv, n1, wd, wp, bd, nb, lb, q⟩ := h
  refine ⟨_, pss_cons (ps_asg (pe_cal C_law_pick (hr.mono (by omega)) rfl (pa_cons (pv 0) (pa_cons (pe_ix ix_list (pv 1) (pe_int) (fun _ _ => rfl)) pa_nil))) (pg_tup (by rfl) (pgs_cons (pg_name (i := 4) sc_law_call.nd rfl (Or.inl rfl)) (pgs_cons (pg_name (i := 5) sc_law_call.nd rfl (Or.inl rfl)) pgs_nil))))
    (C8.pss_cut (ps_if (pt_cmpR op_eq (pe_cal C_law_draw (hr.mono (by omega)) rfl (pa_cons (pv 0) (pa_cons (pe_int) pa_nil))) (pe_int) (nomark _))
    (pss_one (ps_asg (pe_cal C_law_pick (hr.mono (by omega)) rfl (pa_cons (pv 0) (pa_cons (pe_op op_cat (pe_slice sl_list (pe_ix ix_list (pv 1) (pe_int) (fun _ _ => rfl)) (po_some (pe_int)) po_none) (pe_lst (pa_cons (pe_ix ix_list (pe_ix ix_list (pv 1) (pe_int) (fun _ _ => rfl)) (pe_cal C_law_draw (hr.mono (by omega)) rfl (pa_cons (pv 0) (pa_cons (pe_int) pa_nil))) (fun _ _ => rfl)) pa_nil))) pa_nil))) (pg_tup (by rfl) (pgs_cons (pg_name (i := 4) sc_law_call.nd rfl (Or.inl rfl)) (pgs_cons (pg_name (i := 5) sc_law_call.nd rfl (Or.inl rfl)) pgs_nil)))))
    (pss_nil))
    (pss_cons (ps_if (PW.pt (pw_and (pt_cmpR op_gt (pe_ix ix_list (pv 1) (pe_int) (fun _ _ => rfl)) (pe_int) (nomark _)) (pw_and1 (pt_cmpR op_eq (pe_cal C_law_draw (hr.mono (by omega)) rfl (pa_cons (pv 0) (pa_cons (pe_int) pa_nil))) (pe_int) (nomark _)))))
    (pss_never)
    (pss_nil))
    (pss_one (ps_ret (pe_tup (pa_cons (pe_str) (pa_cons (pv 4) (pa_cons (pe_callTy call_tuple_of (by rfl) T.n_tuple (by decide +kernel) (pa_cons (pe_lc (own := [("_law_k", 6)]) (g := gName 6) rfl sc_law_call.nd (pi_range1 rfl T.n_range (pa_cons (pv 5) pa_nil)) (blkOk_by (N := ["_law_draws", "_law_world_here", "_law_levels", "_law_bound", "_law_name_here", "_law_many", "_law_k"]) (own := [("_law_k", 6)]) (sc := defScope s_law_call) (by decide +kernel)) (fun _ _ _ _ _ => pg_name (i := 6) sc_law_call.nd rfl (Or.inl rfl)) (fun _ _ _ _ _ => pts_nil) (fun _ _ _ _ _ => (pe_cal C_law_make (hr.mono (by omega)) rfl (pa_cons (pv 0) (pa_cons (pv 1) (pa_cons (pv 2) (pa_cons (pv 3) pa_nil))))))) pa_nil)) pa_nil)))))))), ?_⟩
  obtain ⟨room, hw⟩ := wd.wl
  obtain ⟨ks, hk, rk⟩ := wd.kn
  obtain ⟨a1', a2', a3', a4', a5'⟩ := wd.ap
  have lk : ks.length = known.length := by have := rk.length; rw [List.length_map] at this; exact this.symm
  have l14 := wp.k14
  have l20 := wp.k20
  refine ⟨_, rfl, _, rfl, w0, _, _, _, rfl, rfl, SqL.of hw, a3, d, .ref kl, rfl, wd.dr, .inl ⟨kl, ks, rfl, a4', hk, by omega, fun i v H1 hv e1 hd1 => ?_⟩⟩
  obtain ⟨p, hp, rp⟩ := rk.mem (mem_at hv)
  obtain ⟨ka, rfl, sq⟩ := kD_elim rp
  have w1 := wd.draw e1 hd1
  refine ⟨ka, _, rfl, e1.tup wd.dr.not sq, rfl, _, _, rfl, _, _, rfl, rfl, ?_⟩
  refine ⟨fun σ' H5 => ∃ p ∈ known, Ext [d, w0] H H5 ∧ Wd K H5 d w0 nl kl names known ∧ σ' = [some (.ref d), some (.ref w0), some (.int lv), some (.ref b), some (.str p.1), some (.int p.2), none], ?_, ?_⟩
  · refine ⟨_, rfl, d, 2, rfl, hd1, by decide, fun c H2 e2 hd2 hc => ⟨rfl, _, rfl, ite2 (fun _ => ?_) fun _ => ?_⟩⟩
    · have w2 := w1.draw e2 hd2
      have x2 : Ext [d, w0] H H2 := e1.dw.trans e2.dw
      obtain ⟨room2, hw2⟩ := w2.wl
      obtain ⟨ks2, hk2, rk2⟩ := w2.kn
      have lk2 : ks2.length = known.length := by have := rk2.length; rw [List.length_map] at this; exact this.symm
      refine ⟨_, rfl, _, rfl, w0, _, _, _, rfl, rfl, SqL.of hw2, a3, _, rfl, kl, _, rfl, SqL.of hk2, fun p1 hp1 => ?_⟩
      have eA : Ext [] H2 (upd H2 p1 (.lst (cutV ks2 (some 14) none))) := .new hp1
      have wA := w2.ex0 eA
      have hwA := eA _ _ hw2 (by simp)
      have hkA := eA _ _ hk2 (by simp)
      have nA := w2.off hp1
      refine ⟨_, rfl, w0, _, _, _, rfl, rfl, SqL.of hwA, a3, _, rfl, d, 14, rfl, wA.dr, by decide, fun i2 H3 e3 hd3 hi2 => ?_⟩
      have w3 := wA.draw e3 hd3
      have hk3 := e3 _ _ hkA (by simpa using a4')
      have hi3 := List.getElem?_eq_getElem (l := ks2) (i := i2) (by omega)
      refine ⟨kl, _, _, _, rfl, rfl, SqL.of hk3, atI_nat hi3, by show 1 ≤ sizeLine; decide, fun p2 hp2 => ?_⟩
      have eB : Ext [] H3 (upd H3 p2 (.lst [ks2[i2]])) := .new hp2
      have hp13 : H3 p1 = some (.lst (cutV ks2 (some 14) none)) := e3 _ _ upd_same (by simpa using nA.1)
      have wB := w3.ex0 eB
      have ec : cutV ks2 (some 14) none = ks2.drop 14 := cut_from (k := 14) (by omega)
      refine ⟨p1, p2, _, _, rfl, rfl, eB _ _ hp13 (by simp), upd_same, ?_, fun p3 hp3 => ?_⟩
      · rw [ec, List.length_drop]; exact small (by simp; omega)
      have eC : Ext [] (upd H3 p2 (.lst [ks2[i2]])) (upd (upd H3 p2 (.lst [ks2[i2]])) p3 (.lst (cutV ks2 (some 14) none ++ [ks2[i2]]))) := .new hp3
      have wC := wB.ex0 eC
      have nC := wB.off hp3
      refine ⟨d, .ref p3, rfl, wC.dr, .inl ⟨p3, _, rfl, nC.1, upd_same, by simp, fun i4 v H4 hv4 e4 hd4 => ?_⟩⟩
      have hv5 : v ∈ ks2 := by
        rcases List.mem_append.mp (List.mem_of_getElem? hv4) with h | h
        · rw [ec] at h; exact List.mem_of_mem_drop h
        · rw [List.mem_singleton.mp h]; exact List.mem_of_getElem? hi3
      obtain ⟨p', hp', rp'⟩ := rk2.mem hv5
      obtain ⟨ka', rfl, sq'⟩ := kD_elim rp'
      refine ⟨ka', _, rfl, ?_, rfl, _, _, rfl, _, _, rfl, rfl, p', hp', ?_, wC.draw e4 hd4, rfl⟩
      · exact e4.tup wC.dr.not (eC.tup .nil (eB.tup .nil (e3.tup wA.dr.not (eA.tup .nil sq'))))
      · exact (((x2.trans eA.nil).trans e3.dw).trans (eB.nil.trans eC.nil)).trans e4.dw
    · exact ⟨p, hp, e1.dw.trans e2.dw, w1.draw e2 hd2, rfl⟩
  · rintro σ' H5 ⟨p, hp, x5, w5, rfl⟩
    obtain ⟨room5, hw5⟩ := w5.wl
    obtain ⟨pn, p0, p4, pl⟩ := wp.kn p hp
    obtain ⟨m, em⟩ : ∃ m : Nat, p.2 = (m : Int) := ⟨p.2.toNat, by omega⟩
    refine ⟨_, rfl, w0, _, _, _, rfl, rfl, SqL.of hw5, a1, _, _, rfl, rfl, _, rfl, iteF (iteF ?_)⟩
    refine ⟨_, rfl, _, rfl, p.2, rfl, by omega, by omega, fun D hD => ?_⟩
    rw [show p.2.toNat = m by omega]
    refine lc_range (fun i H' => Mks K H5 H' d w0 nl kl names known (Gen n bound known) D i) (Mks.start w5 hD) (fun i H' hi mk => ?_) (fun H' mk => ?_)
    · refine ⟨rfl, yes_ (iteT ?_)⟩
      refine ⟨_, rfl, _, rfl, _, rfl, _, rfl, d, w0, nl, kl, b, lv, names, bound, known, rfl, hlv, n1, mk.wd, wp, bd.ext (x5.trans mk.ext), nb, by omega, fun r H6 t e6 w6 r6 g6 => ?_⟩
      exact mk.step hD w5 (by omega) e6 w6 r6 g6
    · obtain ⟨ts, vs, h1, h2, h3, h4⟩ := mk.ts
      refine ⟨D, vs, rfl, .inl ⟨.of h1, fun l hl => ?_⟩⟩
      have eA : Ext [] H' (upd H' l (.tup vs)) := .new hl
      refine ⟨by show 3 ≤ sizeLine; decide, fun pt hpt => ?_⟩
      have eB : Ext [] (upd H' l (.tup vs)) (upd (upd H' l (.tup vs)) pt (.tup [.str (K13.o "call"), .str p.1, .ref l])) := .new hpt
      refine q _ _ (.mk 0 (.call p.1) ts) ((x5.trans mk.ext).trans (eA.trans eB).nil) (mk.wd.ex0 (eA.trans eB)) ?_ (Gen.node ?_ ?_ (by omega) fun i c hc => ?_)
      · rw [enc_mk]
        exact ⟨pt, _, rfl, SqT.of upd_same, _, _, rfl, rfl, _, _, rfl, rfl, _, _, rfl, ⟨l, vs, rfl, eB.tup .nil (SqT.of upd_same), h2.ex0 (eA.trans eB)⟩, rfl⟩
      · exact ⟨by omega, pn⟩
      · show known.lookup p.1 = _
        rw [pl, em, h3]
      · rw [show bound ++ (Hd.call p.1).bnd i = bound from List.append_nil _]
        exact h4 c (mem_at hc)
/-! ### binders -/
theorem zz_at {v : Str} : ∃ z, atI [V.str (o "zz"), V.str (o "yy")] (if decide (V.str v = V.str (o "zz")) = true then 1 else 0) = some (.str z) ∧ z ≠ v ∧ Name z := by
  have nz : ∀ s ∈ ([o "zz", o "yy"] : List Str), wordB s = true ∧ decide (s ∈ tu_RESERVED) = false := by decide +kernel
  have hz : ∀ s ∈ ([o "zz", o "yy"] : List Str), Name s := fun s hs => ⟨wordB_ok (nz s hs).1, of_decide_eq_false (nz s hs).2⟩
  by_cases h : v = o "zz"
  · rw [decide_eq_true (congrArg V.str h)]
    exact ⟨o "yy", rfl, by rw [h]; decide +kernel, hz _ (by simp)⟩
  · rw [decide_eq_false fun z => h (V.str.inj z)]
    exact ⟨o "zz", rfl, fun z => h z.symm, hz _ (by simp)⟩
theorem sc_law_binder : FnScope ["_law_draws", "_law_world_here", "_law_levels", "_law_bound", "_law_first", "_law_value", "_law_second", "_law_row", "_law_start", "_law_name_here"] ["_law_draws", "_law_world_here", "_law_levels", "_law_bound"] (defScope s_law_binder) := ⟨rfl, rfl, rfl, by decide +kernel, rfl, by decide +kernel, by decide +kernel⟩
theorem ok_law_binder (T : Tx w K mg) {n j : Nat} (j3 : 3 ≤ j) (C_law_make : Cal P w K mg base "_law_make" j ["_law_draws", "_law_world_here", "_law_levels", "_law_bound"] (sp_make K n)) : Cal P w K mg base "_law_binder" (j + 1) ["_law_draws", "_law_world_here", "_law_levels", "_law_bound"] (sp_over K n) := by
  have C_law_draw := ok_law_draw T (P := P) (base := base)
  have C_law_pick := ok_law_pick T (P := P) (base := base)
  refine Cal.of T.f_law_binder T.g__law_binder sc_law_binder (fun _ _ _ _ _ _ us hl => match us, hl with | [_, _, _, _], _ => rfl) (fun vs H Q E h => ?_) (fun f cdv A outer s H vs Q E hr h => ?_)
  · obtain ⟨d, w0, nl, kl, b, lv, names, bound, known, rfl, _⟩ := h; rfl
  obtain ⟨d, w0, nl, kl, b, lv, names, bound, known, rfl, hlv, n1, wd, wp, bd, nb, lb, q⟩ := h
  refine ⟨_, pss_cons (ps_set (i := 4) sc_law_binder.nd rfl (Or.inr rfl) (pe_cal C_law_pick (hr.mono (by omega)) rfl (pa_cons (pv 0) (pa_cons (pe_ix ix_list (pv 1) (pe_int) (fun _ _ => rfl)) pa_nil))))
    (pss_cons (ps_if (pt_cmpR op_eq (pe_cal C_law_draw (hr.mono (by omega)) rfl (pa_cons (pv 0) (pa_cons (pe_int) pa_nil))) (pe_int) (nomark _))
    (pss_cons (ps_set (i := 5) sc_law_binder.nd rfl (Or.inl rfl) (pe_cal C_law_make (hr.mono (by omega)) rfl (pa_cons (pv 0) (pa_cons (pv 1) (pa_cons (pv 2) (pa_cons (pv 3) pa_nil))))))
      (pss_one (ps_ret (pe_tup (pa_cons (pe_str) (pa_cons (pv 4) (pa_cons (pv 5) (pa_cons (pe_cal C_law_make (hr.mono (by omega)) rfl (pa_cons (pv 0) (pa_cons (pv 1) (pa_cons (pv 2) (pa_cons (pe_op op_cat (pv 3) (pe_lst (pa_cons (pv 4) pa_nil))) pa_nil))))) pa_nil))))))))
    (pss_nil))
    (pss_cons (ps_set (i := 6) sc_law_binder.nd rfl (Or.inl rfl) (pe_cal C_law_pick (hr.mono (by omega)) rfl (pa_cons (pv 0) (pa_cons (pe_op op_cat (pe_lc (own := [("_law_name_here", 9)]) (g := gName 9) rfl sc_law_binder.nd (pi_list (pe_ix ix_list (pv 1) (pe_int) (fun _ _ => rfl))) (blkOk_by (N := ["_law_draws", "_law_world_here", "_law_levels", "_law_bound", "_law_first", "_law_value", "_law_second", "_law_row", "_law_start", "_law_name_here"]) (own := [("_law_name_here", 9)]) (sc := defScope s_law_binder) (by decide +kernel)) (fun _ _ _ _ _ => pg_name (i := 9) sc_law_binder.nd rfl (Or.inl rfl)) (fun _ _ _ _ _ => pts_one (pt_cmpR op_ne (pv 9) (pv 4) (nomark _))) (fun _ _ _ _ _ => (pv 9))) (pe_lst (pa_cons (pe_ix ix_list (pe_lst (pa_cons (pe_str) (pa_cons (pe_str) pa_nil))) (pe_callTy call_int1 (by rfl) T.n_int (by decide +kernel) (pa_cons (pe_cmpR op_eq (pv 4) (pe_str) (nomark _)) pa_nil)) (fun _ _ => rfl)) pa_nil))) pa_nil))))
    (pss_cons (ps_if (PW.pt (pw_and (pt_cmpR op_gt (pe_ix ix_list (pv 1) (pe_int) (fun _ _ => rfl)) (pe_int) (nomark _)) (pw_and1 (pt_cmpR op_eq (pe_cal C_law_draw (hr.mono (by omega)) rfl (pa_cons (pv 0) (pa_cons (pe_int) pa_nil))) (pe_int) (nomark _)))))
    (pss_never)
    (pss_nil))
    (pss_cons (ps_set (i := 7) sc_law_binder.nd rfl (Or.inl rfl) (pe_cal C_law_make (hr.mono (by omega)) rfl (pa_cons (pv 0) (pa_cons (pv 1) (pa_cons (pv 2) (pa_cons (pv 3) pa_nil))))))
    (pss_cons (ps_set (i := 8) sc_law_binder.nd rfl (Or.inl rfl) (pe_cal C_law_make (hr.mono (by omega)) rfl (pa_cons (pv 0) (pa_cons (pv 1) (pa_cons (pv 2) (pa_cons (pv 3) pa_nil))))))
    (pss_one (ps_ret (pe_tup (pa_cons (pe_str) (pa_cons (pv 4) (pa_cons (pv 6) (pa_cons (pv 7) (pa_cons (pv 8) (pa_cons (pe_cal C_law_make (hr.mono (by omega)) rfl (pa_cons (pv 0) (pa_cons (pv 1) (pa_cons (pv 2) (pa_cons (pe_op op_cat (pv 3) (pe_lst (pa_cons (pv 4) (pa_cons (pv 6) pa_nil)))) pa_nil))))) pa_nil)))))))))))))), ?_⟩
  obtain ⟨room, hw⟩ := wd.wl
  have hn := wd.nm
  obtain ⟨a1', a2', a3', a4', a5'⟩ := wd.ap
  have ln := wp.n4
  refine ⟨_, rfl, _, rfl, w0, _, _, _, rfl, rfl, SqL.of hw, a2, d, .ref nl, rfl, wd.dr, .inl ⟨nl, _, rfl, a2', hn, by rw [List.length_map]; omega, fun i v H1 hv e1 hd1 => ?_⟩⟩
  rw [List.getElem?_map] at hv
  obtain ⟨fst, hv2, rfl⟩ := Option.map_eq_some_iff.mp hv
  have nf : Name fst := wp.nm fst (mem_at hv2)
  have w1 := wd.draw e1 hd1
  have bd1 := bd.ext e1.dw
  refine ⟨_, rfl, d, 2, rfl, hd1, by decide, fun c H2 e2 hd2 hc => ⟨rfl, _, rfl, ite2 (fun _ => ?_) fun _ => ?_⟩⟩
  · have w2 := w1.draw e2 hd2
    have x2 : Ext [d, w0] H H2 := e1.dw.trans e2.dw
    refine ⟨_, rfl, _, rfl, _, rfl, _, rfl, d, w0, nl, kl, b, lv, names, bound, known, rfl, hlv, n1, w2, wp, bd.ext x2, nb, by omega, fun r3 H3 t3 e3 w3 q3 g3 => ?_⟩
    refine ⟨_, rfl, _, rfl, _, rfl, _, rfl, _, rfl, _, rfl, _, rfl, by show 1 ≤ sizeLine; decide, fun p1 hp1 => ?_⟩
    have eA : Ext [] H3 (upd H3 p1 (.lst [.str fst])) := .new hp1
    have bd3 := bd.ext (x2.trans e3)
    refine ⟨b, p1, _, _, rfl, rfl, eA _ _ bd3.at_ (by simp), upd_same, by rw [List.length_map]; exact small (by simp; omega), fun p2 hp2 => ?_⟩
    have eB : Ext [] (upd H3 p1 (.lst [.str fst])) (upd (upd H3 p1 (.lst [.str fst])) p2 (.lst (bound.map V.str ++ [.str fst]))) := .new hp2
    have wA := w3.ex0 eA
    have nB := wA.off hp2
    have wB := wA.ex0 eB
    refine ⟨d, w0, nl, kl, p2, lv, names, bound ++ [fst], known, rfl, hlv, n1, wB, wp, ⟨by rw [upd_same, List.map_append]; rfl, nB.1, nB.2.1⟩, fun v hv => ?_, by rw [List.length_append]; simp; omega, fun r4 H4 t4 e4 w4 q4 g4 => ?_⟩
    · rcases List.mem_append.mp hv with h | h
      · exact nb v h
      · rw [List.mem_singleton.mp h]; exact nf
    refine ⟨by show 4 ≤ sizeLine; decide, fun pt hpt => ?_⟩
    have eC : Ext [] H4 (upd H4 pt (.tup [.str (K13.o "let"), .str fst, r3, r4])) := .new hpt
    refine q _ _ (.mk 0 (.let_ fst) [t3, t4]) (((x2.trans e3).trans (eA.trans eB).nil).trans (e4.trans eC.nil)) (w4.ex0 eC) ?_ (Gen.node ⟨rfl, nf⟩ trivial (by simp) fun i c hc => ?_)
    · rw [enc_mk]
      refine ⟨pt, _, rfl, SqT.of upd_same, _, _, rfl, rfl, _, _, rfl, rfl, _, _, rfl, ?_, _, _, rfl, q4.ex0 eC, rfl⟩
      exact (((q3.ex0 eA).ex0 eB).ext e4 wB.not).ex0 eC
    · match i, hc with
      | 0, hc =>
        cases Option.some.inj hc
        rw [show bound ++ (Hd.let_ fst).bnd 0 = bound from List.append_nil _]
        exact g3
      | 1, hc => cases Option.some.inj hc; exact g4
      | i + 2, hc => simp at hc
  · have w2 := w1.draw e2 hd2
    have x2 : Ext [d, w0] H H2 := e1.dw.trans e2.dw
    obtain ⟨room2, hw2⟩ := w2.wl
    refine ⟨_, rfl, _, rfl, w0, _, _, _, rfl, rfl, SqL.of hw2, a2, nl, rfl, ⟨_, SqL.of w2.nm⟩, fun D hD => ?_⟩
    have nD := w2.off hD
    refine lc_list (xs := names.map V.str) (fun i H' => Ext [] H2 H' ∧ H' D = some (.lst (((names.take i).filter fun z => !decide (z = fst)).map V.str))) ⟨(Ext.refl _ _).own hD, upd_same⟩ (fun i H' _ pv => pv.1.sqL (.of w2.nm)) (fun i x H' hx pv => ?_) (fun H' pv => ?_)
    · rw [List.getElem?_map] at hx
      obtain ⟨z, hz, rfl⟩ := Option.map_eq_some_iff.mp hx
      have hlen : (((names.take i).filter fun z => !decide (z = fst)).map V.str).length ≤ 4 := by
        rw [List.length_map]
        have h1 := List.length_filter_le (fun z => !decide (z = fst)) (names.take i)
        rw [List.length_take] at h1
        omega
      refine ⟨rfl, _, rfl, _, rfl, rfl, _, rfl, ?_⟩
      by_cases e : z = fst
      · rw [decide_eq_true (show V.str z = V.str fst from congrArg V.str e)]
        refine iteF ⟨pv.1, ?_⟩
        rw [take_snoc hz, List.filter_append, List.map_append, pv.2]
        simp [e]
      · rw [decide_eq_false (show ¬ V.str z = V.str fst from fun y => e (V.str.inj y))]
        refine iteT ⟨_, rfl, _, pv.2, small' (by omega), pv.1.own hD, ?_⟩
        rw [upd_same, take_snoc hz, List.filter_append, List.map_append]
        simp [e]
    · obtain ⟨pe, pl⟩ := pv
      rw [List.length_map, List.take_length] at pl
      generalize hfs : (names.filter fun z => !decide (z = fst)) = fs at pl
      have lfs : fs.length ≤ 4 := by
        rw [← hfs]
        have h1 := List.length_filter_le (fun z => !decide (z = fst)) names
        omega
      have w3 := w2.ex0 pe
      refine ⟨by show 2 ≤ sizeLine; decide, fun p1 hp1 => ?_⟩
      have eA : Ext [] H' (upd H' p1 (.lst [.str (K13.o "zz"), .str (K13.o "yy")])) := .new hp1
      obtain ⟨z, hz, zn, nz⟩ := zz_at (v := fst)
      refine ⟨_, rfl, rfl, .inr ⟨_, rfl, p1, _, _, _, rfl, rfl, SqL.of upd_same, hz, by show 1 ≤ sizeLine; decide, fun p2 hp2 => ?_⟩⟩
      have eB : Ext [] (upd H' p1 (.lst [.str (K13.o "zz"), .str (K13.o "yy")])) (upd (upd H' p1 (.lst [.str (K13.o "zz"), .str (K13.o "yy")])) p2 (.lst [.str z])) := .new hp2
      refine ⟨D, p2, _, _, rfl, rfl, (eA.trans eB) _ _ pl (by simp), upd_same, by rw [List.length_map]; exact small (by simp; omega), fun p3 hp3 => ?_⟩
      have eC := Ext.new (ms := []) (o := .lst (fs.map V.str ++ [.str z])) hp3
      have wB := (w3.ex0 eA).ex0 eB
      have nC := wB.off hp3
      have wC := wB.ex0 eC
      refine ⟨d, .ref p3, rfl, wC.dr, .inl ⟨p3, _, rfl, nC.1, upd_same, by simp, fun i4 v H4 hv4 e4 hd4 => ?_⟩⟩
      obtain ⟨sec, rfl, sn, sne⟩ : ∃ s, v = .str s ∧ Name s ∧ fst ≠ s := by
        rcases List.mem_append.mp (List.mem_of_getElem? hv4) with h | h
        · obtain ⟨s, hs, rfl⟩ := List.mem_map.mp h
          rw [← hfs] at hs
          obtain ⟨h1, h2⟩ := List.mem_filter.mp hs
          exact ⟨s, rfl, wp.nm s h1, fun y => by simp [y] at h2⟩
        · exact ⟨z, List.mem_singleton.mp h, nz, fun y => zn y.symm⟩
      have w4 := wC.draw e4 hd4
      have x4 : Ext [d, w0] H H4 := ((x2.trans pe.nil).trans ((eA.trans eB).trans eC).nil).trans e4.dw
      obtain ⟨room4, hw4⟩ := w4.wl
      refine ⟨_, rfl, w0, _, _, _, rfl, rfl, SqL.of hw4, a1, _, _, rfl, rfl, _, rfl, iteF (iteF ?_)⟩
      refine ⟨_, rfl, _, rfl, _, rfl, _, rfl, d, w0, nl, kl, b, lv, names, bound, known, rfl, hlv, n1, w4, wp, bd.ext x4, nb, by omega, fun r5 H5 t5 e5 w5 q5 g5 => ?_⟩
      have x5 := x4.trans e5
      refine ⟨_, rfl, _, rfl, _, rfl, _, rfl, d, w0, nl, kl, b, lv, names, bound, known, rfl, hlv, n1, w5, wp, bd.ext x5, nb, by omega, fun r6 H6 t6 e6 w6 q6 g6 => ?_⟩
      have x6 := x5.trans e6
      refine ⟨_, rfl, _, rfl, _, rfl, _, rfl, _, rfl, _, rfl, _, rfl, _, rfl, _, rfl, _, rfl, by show 2 ≤ sizeLine; decide, fun p7 hp7 => ?_⟩
      have eD : Ext [] H6 (upd H6 p7 (.lst [.str fst, .str sec])) := .new hp7
      have bd6 := bd.ext x6
      refine ⟨b, p7, _, _, rfl, rfl, eD _ _ bd6.at_ (by simp), upd_same, by rw [List.length_map]; exact small (by simp; omega), fun p8 hp8 => ?_⟩
      have eE : Ext [] (upd H6 p7 (.lst [.str fst, .str sec])) (upd (upd H6 p7 (.lst [.str fst, .str sec])) p8 (.lst (bound.map V.str ++ [.str fst, .str sec]))) := .new hp8
      have wD := w6.ex0 eD
      have nE := wD.off hp8
      have wE := wD.ex0 eE
      refine ⟨d, w0, nl, kl, p8, lv, names, bound ++ [fst, sec], known, rfl, hlv, n1, wE, wp, ⟨by rw [upd_same, List.map_append]; rfl, nE.1, nE.2.1⟩, fun v hv => ?_, by rw [List.length_append]; simp; omega, fun r9 H9 t9 e9 w9 q9 g9 => ?_⟩
      · rcases List.mem_append.mp hv with h | h
        · exact nb v h
        · rcases List.mem_cons.mp h with h | h
          · rw [h]; exact nf
          · rw [List.mem_singleton.mp h]; exact sn
      refine ⟨by show 6 ≤ sizeLine; decide, fun pt hpt => ?_⟩
      have eF : Ext [] H9 (upd H9 pt (.tup [.str (K13.o "fold"), .str fst, .str sec, r5, r6, r9])) := .new hpt
      refine q _ _ (.mk 0 (.fold fst sec) [t5, t6, t9]) ((x6.trans (eD.trans eE).nil).trans (e9.trans eF.nil)) (w9.ex0 eF) ?_ (Gen.node ⟨rfl, nf, sn⟩ sne (by simp) fun i c hc => ?_)
      · rw [enc_mk]
        refine ⟨pt, _, rfl, SqT.of upd_same, _, _, rfl, rfl, _, _, rfl, rfl, _, _, rfl, rfl, _, _, rfl, ?_, _, _, rfl, ?_, _, _, rfl, q9.ex0 eF, rfl⟩
        · exact ((((q5.ext e6 w5.not).ex0 eD).ex0 eE).ext e9 wE.not).ex0 eF
        · exact (((q6.ex0 eD).ex0 eE).ext e9 wE.not).ex0 eF
      · match i, hc with
        | 0, hc =>
          cases Option.some.inj hc
          rw [show bound ++ (Hd.fold fst sec).bnd 0 = bound from List.append_nil _]
          exact g5
        | 1, hc =>
          cases Option.some.inj hc
          rw [show bound ++ (Hd.fold fst sec).bnd 1 = bound from List.append_nil _]
          exact g6
        | 2, hc => cases Option.some.inj hc; exact g9
        | i + 3, hc => simp at hc
end
end K13

/-! L7: make -/
namespace K13
open PySem PySem.Spec PyProof.Rows L2
theorem Gen.up {n : Nat} {bound : List Str} {known : List (Str × Int)} {t : Tm} (g : Gen 1 bound known t) (h : 1 ≤ n) : Gen n bound known t := by
  obtain ⟨n, rfl⟩ : ∃ m, n = m + 1 := ⟨n - 1, by omega⟩
  exact ⟨g.wf, g.us, by have := g.dep; omega, Nat.le_trans g.nd (B_pos n)⟩
theorem many_at : ∀ {c : Nat}, 3 ≤ c → c < 12 → ∃ m : Nat, atI [V.int 1, V.int 1, V.int 2, V.int 2, V.int 2, V.int 2, V.int 2, V.int 2, V.int 3] ((c : Int) - 3) = some (.int (m : Int)) ∧ (m = 1 ∧ c ≤ 4 ∨ m = 2 ∧ 5 ≤ c ∧ c ≤ 10 ∨ m = 3 ∧ c = 11)
  | 3, _, _ => ⟨1, rfl, by omega⟩
  | 4, _, _ => ⟨1, rfl, by omega⟩
  | 5, _, _ => ⟨2, rfl, by omega⟩
  | 6, _, _ => ⟨2, rfl, by omega⟩
  | 7, _, _ => ⟨2, rfl, by omega⟩
  | 8, _, _ => ⟨2, rfl, by omega⟩
  | 9, _, _ => ⟨2, rfl, by omega⟩
  | 10, _, _ => ⟨2, rfl, by omega⟩
  | 11, _, _ => ⟨3, rfl, by omega⟩
  | 0, h, _ => absurd h (by omega)
  | 1, h, _ => absurd h (by omega)
  | 2, h, _ => absurd h (by omega)
  | c + 12, _, h => absurd h (by omega)
theorem un_at {c : Nat} (h3 : 3 ≤ c) (h4 : c ≤ 4) : ∃ h : Hd, atI [V.str (o "minus"), V.str (o "not")] ((c : Int) - 3) = some (.str h.tag) ∧ (h = .minus ∨ h = .not_) := by
  by_cases e : c = 3
  · subst e; exact ⟨.minus, rfl, .inl rfl⟩
  · obtain rfl : c = 4 := by omega
    exact ⟨.not_, rfl, .inr rfl⟩
theorem bi_at {c : Nat} (h3 : 9 ≤ c) (h4 : c ≤ 10) : ∃ h : Hd, atI [V.str (o "pair"), V.str (o "note")] ((c : Int) - 9) = some (.str h.tag) ∧ (h = .pair ∨ h = .note) := by
  by_cases e : c = 9
  · subst e; exact ⟨.pair, rfl, .inl rfl⟩
  · obtain rfl : c = 10 := by omega
    exact ⟨.note, rfl, .inr rfl⟩
theorem sign_at : ∀ {c : Nat}, c < 10 → ∃ s, atI [V.str (o "+"), V.str (o "-"), V.str (o "*"), V.str (o "div"), V.str (o "mod"), V.str (o "=="), V.str (o "<"), V.str (o "<="), V.str (o "and"), V.str (o "or")] (c : Int) = some (.str s) ∧ s ∈ signs
  | 0, _ => ⟨_, rfl, by decide +kernel⟩
  | 1, _ => ⟨_, rfl, by decide +kernel⟩
  | 2, _ => ⟨_, rfl, by decide +kernel⟩
  | 3, _ => ⟨_, rfl, by decide +kernel⟩
  | 4, _ => ⟨_, rfl, by decide +kernel⟩
  | 5, _ => ⟨_, rfl, by decide +kernel⟩
  | 6, _ => ⟨_, rfl, by decide +kernel⟩
  | 7, _ => ⟨_, rfl, by decide +kernel⟩
  | 8, _ => ⟨_, rfl, by decide +kernel⟩
  | 9, _ => ⟨_, rfl, by decide +kernel⟩
  | c + 10, h => absurd h (by omega)
section
variable {P : Program} {w : World} {K : PySem.W.Frag} {mg : Str → Option Value} {base : Heap}
theorem sc_law_make : FnScope ["_law_draws", "_law_world_here", "_law_levels", "_law_bound", "_law_choice", "_law_many", "_law_pieces", "_law_signs", "_law_k"] ["_law_draws", "_law_world_here", "_law_levels", "_law_bound"] (defScope s_law_make) := ⟨rfl, rfl, rfl, by decide +kernel, rfl, by decide +kernel, by decide +kernel⟩
theorem ok_law_make (T : Tx w K mg) : ∀ n, Cal P w K mg base "_law_make" (2 * n + 4) ["_law_draws", "_law_world_here", "_law_levels", "_law_bound"] (sp_make K n)
  | 0 => by
    refine Cal.none_ T.f_law_make T.g__law_make (fun _ _ _ _ _ _ us hl => match us, hl with | [_, _, _, _], _ => rfl) ?_
    rintro vs H Q E ⟨d, w0, nl, kl, b, lv, names, bound, known, _, _, h, _⟩
    omega
  | n + 1 => by
    have C_law_make := ok_law_make T n
    have C_law_draw := ok_law_draw T (P := P) (base := base)
    have C_law_atom := ok_law_atom T (P := P) (base := base)
    have C_law_call := ok_law_call T (by omega) C_law_make
    have C_law_binder := ok_law_binder T (by omega) C_law_make
    refine Cal.of T.f_law_make T.g__law_make sc_law_make (fun _ _ _ _ _ _ us hl => match us, hl with | [_, _, _, _], _ => rfl) (fun vs H Q E h => ?_) (fun f cdv A outer s H vs Q E hr h => ?_)
    · obtain ⟨d, w0, nl, kl, b, lv, names, bound, known, rfl, _⟩ := h; rfl
    obtain ⟨d, w0, nl, kl, b, lv, names, bound, known, rfl, hlv, n1, wd, wp, bd, nb, lb, q⟩ := h
    refine ⟨_, pss_cons (ps_asg (pe_op op_sub (pe_ix ix_list (pv 1) (pe_int) (fun _ _ => rfl)) (pe_int)) (pg_sub (pv 1) (pe_int) set_list))
    (pss_cons (ps_set (i := 4) sc_law_make.nd rfl (Or.inl rfl) (pe_cal C_law_draw (hr.mono (by omega)) rfl (pa_cons (pv 0) (pa_cons (pe_int) pa_nil))))
    (pss_cons (ps_if (PW.pt (pw_or (pt_cmpR op_le (pv 2) (pe_int) (nomark _)) (pw_or (pt_cmpR op_le (pe_ix ix_list (pv 1) (pe_int) (fun _ _ => rfl)) (pe_int) (nomark _)) (pw_or1 (pt_cmpR op_lt (pv 4) (pe_int) (nomark _))))))
    (pss_one (ps_ret (pe_cal C_law_atom (hr.mono (by omega)) rfl (pa_cons (pv 0) (pa_cons (pv 1) (pa_cons (pv 3) pa_nil))))))
    (pss_nil))
    (pss_cons (ps_if (pt_cmpR op_ge (pv 4) (pe_int) (nomark _))
    (pss_one (ps_ret (pe_cal C_law_binder (hr.mono (by omega)) rfl (pa_cons (pv 0) (pa_cons (pv 1) (pa_cons (pe_op op_sub (pv 2) (pe_int)) (pa_cons (pv 3) pa_nil)))))))
    (pss_nil))
    (pss_cons (ps_if (pt_cmpR op_ge (pv 4) (pe_int) (nomark _))
    (pss_one (ps_ret (pe_cal C_law_call (hr.mono (by omega)) rfl (pa_cons (pv 0) (pa_cons (pv 1) (pa_cons (pe_op op_sub (pv 2) (pe_int)) (pa_cons (pv 3) pa_nil)))))))
    (pss_nil))
    (pss_cons (ps_if (pt_cmpR op_eq (pv 4) (pe_int) (nomark _))
    (pss_cons (ps_set (i := 5) sc_law_make.nd rfl (Or.inl rfl) (pe_cal C_law_draw (hr.mono (by omega)) rfl (pa_cons (pv 0) (pa_cons (pe_int) pa_nil))))
      (pss_one (ps_ret (pe_tup (pa_cons (pe_str) (pa_cons (pe_callTy call_tuple_of (by rfl) T.n_tuple (by decide +kernel) (pa_cons (pe_lc (own := [("_law_k", 8)]) (g := gName 8) rfl sc_law_make.nd (pi_range1 rfl T.n_range (pa_cons (pv 5) pa_nil)) (blkOk_by (N := ["_law_draws", "_law_world_here", "_law_levels", "_law_bound", "_law_choice", "_law_many", "_law_pieces", "_law_signs", "_law_k"]) (own := [("_law_k", 8)]) (sc := defScope s_law_make) (by decide +kernel)) (fun _ _ _ _ _ => pg_name (i := 8) sc_law_make.nd rfl (Or.inl rfl)) (fun _ _ _ _ _ => pts_nil) (fun _ _ _ _ _ => (pe_cal C_law_make (hr.mono (by omega)) rfl (pa_cons (pv 0) (pa_cons (pv 1) (pa_cons (pe_op op_sub (pv 2) (pe_int)) (pa_cons (pv 3) pa_nil))))))) pa_nil)) pa_nil))))))
    (pss_nil))
    (pss_cons (ps_set (i := 5) sc_law_make.nd rfl (Or.inl rfl) (pe_ix ix_list (pe_lst (pa_cons (pe_int) (pa_cons (pe_int) (pa_cons (pe_int) (pa_cons (pe_int) (pa_cons (pe_int) (pa_cons (pe_int) (pa_cons (pe_int) (pa_cons (pe_int) (pa_cons (pe_int) pa_nil)))))))))) (pe_op op_sub (pv 4) (pe_int)) (fun _ _ => rfl)))
    (pss_cons (ps_setLc (i := 6) (own := [("_law_k", 8)]) (g := gName 8) rfl sc_law_make.nd rfl rfl (sw_true rfl rfl rfl (by decide +kernel)) (pi_range1 rfl T.n_range (pa_cons (pv 5) pa_nil)) (blkOk_by (N := ["_law_draws", "_law_world_here", "_law_levels", "_law_bound", "_law_choice", "_law_many", "_law_pieces", "_law_signs", "_law_k"]) (own := [("_law_k", 8)]) (sc := defScope s_law_make) (by decide +kernel)) (fun _ _ _ _ _ => pg_name (i := 8) sc_law_make.nd rfl (Or.inl rfl)) (fun _ _ _ _ _ => pts_nil) (fun _ _ _ _ _ => (pe_cal C_law_make (hr.mono (by omega)) rfl (pa_cons (pv 0) (pa_cons (pv 1) (pa_cons (pe_op op_sub (pv 2) (pe_int)) (pa_cons (pv 3) pa_nil)))))))
    (pss_cons (ps_if (pt_cmpR op_eq (pv 5) (pe_int) (nomark _))
    (pss_one (ps_ret (pe_tup (pa_cons (pe_ix ix_list (pe_lst (pa_cons (pe_str) (pa_cons (pe_str) pa_nil))) (pe_op op_sub (pv 4) (pe_int)) (fun _ _ => rfl)) (pa_cons (pe_ix ix_list (pv 6) (pe_int) (fun _ _ => rfl)) pa_nil)))))
    (pss_nil))
    (pss_cons (ps_if (pt_cmpR op_eq (pv 5) (pe_int) (nomark _))
    (pss_one (ps_ret (pe_tup (pa_cons (pe_str) (pa_cons (pe_ix ix_list (pv 6) (pe_int) (fun _ _ => rfl)) (pa_cons (pe_ix ix_list (pv 6) (pe_int) (fun _ _ => rfl)) (pa_cons (pe_ix ix_list (pv 6) (pe_int) (fun _ _ => rfl)) pa_nil)))))))
    (pss_nil))
    (pss_cons (ps_if (pt_cmpR op_lt (pv 4) (pe_int) (nomark _))
    (pss_cons (ps_set (i := 7) sc_law_make.nd rfl (Or.inl rfl) (pe_lst (pa_cons (pe_str) (pa_cons (pe_str) (pa_cons (pe_str) (pa_cons (pe_str) (pa_cons (pe_str) (pa_cons (pe_str) (pa_cons (pe_str) (pa_cons (pe_str) (pa_cons (pe_str) (pa_cons (pe_str) pa_nil))))))))))))
      (pss_one (ps_ret (pe_tup (pa_cons (pe_str) (pa_cons (pe_ix ix_list (pv 7) (pe_cal C_law_draw (hr.mono (by omega)) rfl (pa_cons (pv 0) (pa_cons (pe_int) pa_nil))) (fun _ _ => rfl)) (pa_cons (pe_ix ix_list (pv 6) (pe_int) (fun _ _ => rfl)) (pa_cons (pe_ix ix_list (pv 6) (pe_int) (fun _ _ => rfl)) pa_nil))))))))
    (pss_nil))
    (pss_one (ps_ret (pe_tup (pa_cons (pe_ix ix_list (pe_lst (pa_cons (pe_str) (pa_cons (pe_str) pa_nil))) (pe_op op_sub (pv 4) (pe_int)) (fun _ _ => rfl)) (pa_cons (pe_ix ix_list (pv 6) (pe_int) (fun _ _ => rfl)) (pa_cons (pe_ix ix_list (pv 6) (pe_int) (fun _ _ => rfl)) pa_nil)))))))))))))))), ?_⟩
    obtain ⟨room, hw⟩ := wd.wl
    refine ⟨_, rfl, w0, _, _, _, rfl, rfl, SqL.of hw, a0, _, _, rfl, rfl, _, rfl, w0, _, _, 0, rfl, rfl, hw, rfl, ?_⟩
    have e0 : Ext [d, w0] H (upd H w0 (.lst [.int (room - 1), .int 0, .ref nl, .ref kl])) := (Ext.refl _ _).set (by simp)
    have wr := wd.room (room - 1)
    have hH0 : upd H w0 (.lst ([V.int room, .int 0, .ref nl, .ref kl].set 0 (.int (room - 1)))) = upd H w0 (.lst [.int (room - 1), .int 0, .ref nl, .ref kl]) := rfl
    refine ⟨_, rfl, d, 20, rfl, wr.dr, by decide, fun c H1 e1 hd1 hc => ?_⟩
    have w1 := wr.draw e1 hd1
    have x1 : Ext [d, w0] H H1 := e0.trans e1.dw
    have bd1 := bd.ext x1
    obtain ⟨room1, hw1⟩ := w1.wl
    have atom : ∀ x4 : V, tRet (tCal (sp_atom K) (tCons (tVar 0) (tCons (tVar 1) (tCons (tVar 3) tNil)))) { nx := fun _ H' => Q .non H', rt := Q } [some (.ref d), some (.ref w0), some (.int lv), some (.ref b), some x4, none, none, none, none] H1 := fun x4 =>
      ⟨_, rfl, _, rfl, _, rfl, d, w0, nl, kl, b, names, bound, known, rfl, w1, wp, bd1, nb, fun r H' t e' w' r' g' => q r H' t (x1.trans e') w' r' (g'.up n1)⟩
    refine ⟨_, rfl, _, _, rfl, rfl, _, rfl, ite2 (fun _ => iteT (atom _)) fun z1 => ?_⟩
    refine ⟨_, rfl, w0, _, _, _, rfl, rfl, SqL.of hw1, a0, _, _, rfl, rfl, _, rfl, ite2 (fun _ => iteT (atom _)) fun z2 => ?_⟩
    refine ⟨_, rfl, _, _, rfl, rfl, _, rfl, ite2 (fun _ => atom _) fun z3 => ?_⟩
    have n2 : 1 ≤ n := by
      have : ¬ lv ≤ 1 := fun h => z1 (decide_eq_true h)
      omega
    have c3 : 3 ≤ c := by
      have : ¬ (c : Int) < 3 := fun h => z3 (decide_eq_true h)
      omega
    have lvn : lv - 1 = (n : Int) := by omega
    refine ⟨_, rfl, _, _, rfl, rfl, _, rfl, ite2 (fun _ => ?_) fun z4 => ?_⟩
    · exact ⟨_, rfl, _, rfl, _, rfl, _, _, rfl, rfl, _, rfl, d, w0, nl, kl, b, _, names, bound, known, rfl, lvn, n2, w1, wp, bd1, nb, by omega, fun r H' t e' w' r' g' => q r H' t (x1.trans e') w' r' g'⟩
    refine ⟨_, rfl, _, _, rfl, rfl, _, rfl, ite2 (fun _ => ?_) fun z5 => ?_⟩
    · exact ⟨_, rfl, _, rfl, _, rfl, _, _, rfl, rfl, _, rfl, d, w0, nl, kl, b, _, names, bound, known, rfl, lvn, n2, w1, wp, bd1, nb, by omega, fun r H' t e' w' r' g' => q r H' t (x1.trans e') w' r' g'⟩
    refine ⟨_, rfl, rfl, _, rfl, ite2 (fun _ => ?_) fun z6 => ?_⟩
    · refine ⟨_, rfl, d, 9, rfl, hd1, by decide, fun m H2 e2 hd2 hm => ?_⟩
      have w2 := w1.draw e2 hd2
      have x2 := x1.trans e2.dw
      refine ⟨_, rfl, (m : Int), rfl, by omega, by omega, fun D hD => ?_⟩
      rw [show ((m : Int)).toNat = m by omega]
      refine lc_range (fun i H' => Mks K H2 H' d w0 nl kl names known (Gen n bound known) D i) (Mks.start w2 hD) (fun i H' hi mk => ?_) (fun H' mk => ?_)
      · refine ⟨rfl, yes_ (iteT ?_)⟩
        refine ⟨_, rfl, _, rfl, _, rfl, _, _, rfl, rfl, _, rfl, d, w0, nl, kl, b, _, names, bound, known, rfl, lvn, n2, mk.wd, wp, bd.ext (x2.trans mk.ext), nb, by omega, fun r H6 t e6 w6 r6 g6 => ?_⟩
        exact mk.step hD w2 (by omega) e6 w6 r6 g6
      · obtain ⟨ts, vs, h1, h2, h3, h4⟩ := mk.ts
        refine ⟨D, vs, rfl, .inl ⟨.of h1, fun l hl => ?_⟩⟩
        have eA : Ext [] H' (upd H' l (.tup vs)) := .new hl
        refine ⟨by show 2 ≤ sizeLine; decide, fun pt hpt => ?_⟩
        have eB : Ext [] (upd H' l (.tup vs)) (upd (upd H' l (.tup vs)) pt (.tup [.str (K13.o "list"), .ref l])) := .new hpt
        refine q _ _ (.mk 0 .list ts) ((x2.trans mk.ext).trans (eA.trans eB).nil) (mk.wd.ex0 (eA.trans eB)) ?_ (Gen.node (show ts.length ≤ 8 by omega) trivial (by omega) fun i c hc => ?_)
        · rw [enc_mk]
          exact ⟨pt, _, rfl, SqT.of upd_same, _, _, rfl, rfl, _, _, rfl, ⟨l, vs, rfl, eB.tup .nil (SqT.of upd_same), h2.ex0 (eA.trans eB)⟩, rfl⟩
        · rw [show bound ++ Hd.list.bnd i = bound from List.append_nil _]
          exact h4 c (mem_at hc)
    have c12 : c < 12 := by
      have h4 : ¬ (16 : Int) ≤ (c : Int) := fun h => z4 (decide_eq_true h)
      have h5 : ¬ (13 : Int) ≤ (c : Int) := fun h => z5 (decide_eq_true h)
      have h6 : ¬ V.int (c : Int) = V.int 12 := fun h => z6 (decide_eq_true h)
      have : c ≠ 12 := fun h => h6 (by rw [h]; rfl)
      omega
    obtain ⟨m, hm, mc⟩ := many_at c3 c12
    refine ⟨by show 9 ≤ sizeLine; decide, fun p1 hp1 => ?_⟩
    have eA := Ext.new (ms := []) (o := .lst [.int 1, .int 1, .int 2, .int 2, .int 2, .int 2, .int 2, .int 2, .int 3]) hp1
    have w2 := w1.ex0 eA
    have x2 := x1.trans eA.nil
    refine ⟨_, rfl, _, _, rfl, rfl, p1, _, _, _, rfl, rfl, SqL.of upd_same, hm, ?_⟩
    refine ⟨_, rfl, (m : Int), rfl, by omega, by omega, fun D hD => ?_⟩
    rw [show ((m : Int)).toNat = m by omega]
    refine lc_range (fun i H' => Mks K _ H' d w0 nl kl names known (Gen n bound known) D i) (Mks.start w2 hD) (fun i H' hi mk => ?_) (fun H2 mk => ?_)
    · refine ⟨rfl, yes_ (iteT ?_)⟩
      refine ⟨_, rfl, _, rfl, _, rfl, _, _, rfl, rfl, _, rfl, d, w0, nl, kl, b, _, names, bound, known, rfl, lvn, n2, mk.wd, wp, bd.ext (x2.trans mk.ext), nb, by omega, fun r H6 t e6 w6 r6 g6 => ?_⟩
      exact mk.step hD w2 (by omega) e6 w6 r6 g6
    obtain ⟨ts, vs, h1, h2, h3, h4⟩ := mk.ts
    have lv2 : vs.length = ts.length := by have := h2.length; rw [List.length_map] at this; exact this.symm
    have x3 := x2.trans mk.ext
    have kids : ∀ (h : Hd), (∀ i, h.bnd i = []) → ∀ i c, ts[i]? = some c → Gen n (bound ++ h.bnd i) known c := fun h hb i c hc => by
      rw [hb i, List.append_nil]
      exact h4 c (mem_at hc)
    refine ⟨_, rfl, rfl, _, rfl, ite2 (fun y1 => ?_) fun y1 => ?_⟩
    · have m1 : m = 1 := by have := V.int.inj (of_decide_eq_true y1); omega
      obtain ⟨t1, rfl⟩ := len1 (h3.trans m1)
      obtain ⟨v1, rfl⟩ := len1 lv2
      obtain ⟨h, hh, hu⟩ := un_at c3 (by omega)
      refine ⟨by show 2 ≤ sizeLine; decide, fun p2 hp2 => ?_⟩
      have eB := Ext.new (ms := []) (o := .lst [.str (K13.o "minus"), .str (K13.o "not")]) hp2
      refine ⟨_, rfl, _, _, rfl, rfl, p2, _, _, _, rfl, rfl, SqL.of upd_same, hh, _, rfl, D, _, _, _, rfl, rfl, SqL.of (eB _ _ h1 (by simp)), a0, by show 2 ≤ sizeLine; decide, fun pt hpt => ?_⟩
      have eC := Ext.new (ms := []) (o := .tup [.str h.tag, v1]) hpt
      have rr := (h2.ex0 eB).ex0 eC
      refine q _ _ (.mk 0 h [t1]) (x3.trans (eB.trans eC).nil) ((mk.wd.ex0 eB).ex0 eC) ?_ (Gen.node ?_ ?_ (by simp) (kids h ?_))
      · rw [enc_mk]
        rcases hu with rfl | rfl <;> exact ⟨pt, _, rfl, SqT.of upd_same, _, _, rfl, rfl, rr⟩
      · rcases hu with rfl | rfl <;> rfl
      · rcases hu with rfl | rfl <;> trivial
      · rcases hu with rfl | rfl <;> exact fun _ => rfl
    refine ⟨_, rfl, rfl, _, rfl, ite2 (fun y2 => ?_) fun y2 => ?_⟩
    · have m3 : m = 3 := by have := V.int.inj (of_decide_eq_true y2); omega
      obtain ⟨t1, t2, t3, rfl⟩ := len3 (h3.trans m3)
      obtain ⟨v1, v2, v3, rfl⟩ := len3 lv2
      refine ⟨_, rfl, D, _, _, _, rfl, rfl, SqL.of h1, a0, _, rfl, D, _, _, _, rfl, rfl, SqL.of h1, a1, _, rfl, D, _, _, _, rfl, rfl, SqL.of h1, a2, by show 4 ≤ sizeLine; decide, fun pt hpt => ?_⟩
      have eC := Ext.new (ms := []) (o := .tup [.str (K13.o "if"), v1, v2, v3]) hpt
      have rr := h2.ex0 eC
      refine q _ _ (.mk 0 .ite_ [t1, t2, t3]) (x3.trans eC.nil) (mk.wd.ex0 eC) ?_ (Gen.node rfl trivial (by simp) (kids .ite_ fun _ => rfl))
      rw [enc_mk]
      exact ⟨pt, _, rfl, SqT.of upd_same, _, _, rfl, rfl, rr⟩
    have m2 : m = 2 := by
      have h5 : m ≠ 1 := fun h => y1 (decide_eq_true (by rw [h]; rfl))
      have h6 : m ≠ 3 := fun h => y2 (decide_eq_true (by rw [h]; rfl))
      omega
    obtain ⟨t1, t2, rfl⟩ := len2 (h3.trans m2)
    obtain ⟨v1, v2, rfl⟩ := len2 lv2
    refine ⟨_, rfl, _, _, rfl, rfl, _, rfl, ite2 (fun y3 => ?_) fun y3 => ?_⟩
    · refine ⟨by show 10 ≤ sizeLine; decide, fun p2 hp2 => ?_⟩
      have eB := Ext.new (ms := []) (o := .lst [.str (K13.o "+"), .str (K13.o "-"), .str (K13.o "*"), .str (K13.o "div"), .str (K13.o "mod"), .str (K13.o "=="), .str (K13.o "<"), .str (K13.o "<="), .str (K13.o "and"), .str (K13.o "or")]) hp2
      have wB := mk.wd.ex0 eB
      have nB := mk.wd.off hp2
      refine ⟨_, rfl, _, rfl, d, 10, rfl, wB.dr, by decide, fun si H3 e3 hd3 hsi => ?_⟩
      obtain ⟨sg, hsg, sgm⟩ := sign_at (c := si) (by omega)
      have hD3 : H3 D = some (.lst [v1, v2]) := e3 _ _ (eB _ _ h1 (by simp)) (by
        obtain ⟨n1, n2, _⟩ := w2.off hD
        simpa using n1)
      refine ⟨p2, _, _, _, rfl, rfl, SqL.of (e3 _ _ upd_same (by simpa using nB.1)), hsg, _, rfl, D, _, _, _, rfl, rfl, SqL.of hD3, a0, _, rfl, D, _, _, _, rfl, rfl, SqL.of hD3, a1, by show 4 ≤ sizeLine; decide, fun pt hpt => ?_⟩
      have eC := Ext.new (ms := []) (o := .tup [.str (K13.o "binary"), .str sg, v1, v2]) hpt
      have rr := ((h2.ex0 eB).ext e3 wB.dr.not).ex0 eC
      refine q _ _ (.mk 0 (.bin sg) [t1, t2]) ((x3.trans eB.nil).trans (e3.dw.trans eC.nil)) ((wB.draw e3 hd3).ex0 eC) ?_ (Gen.node ⟨rfl, sgm⟩ trivial (by simp) (kids (.bin sg) fun _ => rfl))
      rw [enc_mk]
      exact ⟨pt, _, rfl, SqT.of upd_same, _, _, rfl, rfl, _, _, rfl, rfl, rr⟩
    · have c9 : 9 ≤ c := by
        have : ¬ (c : Int) < 9 := fun h => y3 (decide_eq_true h)
        omega
      obtain ⟨h, hh, hu⟩ := bi_at c9 (by omega)
      refine ⟨by show 2 ≤ sizeLine; decide, fun p2 hp2 => ?_⟩
      have eB := Ext.new (ms := []) (o := .lst [.str (K13.o "pair"), .str (K13.o "note")]) hp2
      have hD3 := eB _ _ h1 (by simp)
      refine ⟨_, rfl, _, _, rfl, rfl, p2, _, _, _, rfl, rfl, SqL.of upd_same, hh, _, rfl, D, _, _, _, rfl, rfl, SqL.of hD3, a0, _, rfl, D, _, _, _, rfl, rfl, SqL.of hD3, a1, by show 3 ≤ sizeLine; decide, fun pt hpt => ?_⟩
      have eC := Ext.new (ms := []) (o := .tup [.str h.tag, v1, v2]) hpt
      have rr := (h2.ex0 eB).ex0 eC
      refine q _ _ (.mk 0 h [t1, t2]) (x3.trans (eB.trans eC).nil) ((mk.wd.ex0 eB).ex0 eC) ?_ (Gen.node ?_ ?_ (by simp) (kids h ?_))
      · rw [enc_mk]
        rcases hu with rfl | rfl <;> exact ⟨pt, _, rfl, SqT.of upd_same, _, _, rfl, rfl, rr⟩
      · rcases hu with rfl | rfl <;> rfl
      · rcases hu with rfl | rfl <;> trivial
      · rcases hu with rfl | rfl <;> exact fun _ => rfl
end
end K13

/-! L8: the law's world -/
namespace K13
open PySem PySem.Spec PyProof.Rows L2
theorem cutS_to (l : List Nat) (k : Nat) : cutS (S l) none (some (k : Int)) = S (l.take k) := by
  have := cut_S l 0 k
  simp only [Int.ofNat_eq_natCast, List.drop_zero, Nat.sub_zero] at this
  rw [← this]
  rfl
theorem RpL.kd1 {K : PySem.W.Frag} {H : Hp} {l : List (Str × Int)} {xs : List V} (h : RpL K H (l.map kD) xs) {t : Addr} (n : H t = none) (p : Str × Int) : RpL K (upd H t (.tup [.str p.1, .int p.2])) ((l ++ [p]).map kD) (xs ++ [.ref t]) := by
  rw [List.map_append]
  exact (h.ex0 (.new n)).snoc ⟨t, _, rfl, SqT.of upd_same, _, _, rfl, rfl, _, _, rfl, rfl, rfl⟩
theorem fix_name {t : Str} (h : Word t) : Name (t ++ cutS (o "qq") none (some (2 * if decide (t ∈ tu_RESERVED) = true then 1 else 0))) := by
  have e0 : cutS (o "qq") none (some 0) = o "" := by decide +kernel
  have e2 : cutS (o "qq") none (some 2) = o "qq" := by decide +kernel
  by_cases hm : t ∈ tu_RESERVED
  · rw [decide_eq_true hm, if_pos rfl, show (2 : Int) * 1 = 2 by decide, e2]
    have h0 : ∀ s ∈ tu_RESERVED, wordB (s ++ o "qq") = true ∧ decide (s ++ o "qq" ∈ tu_RESERVED) = false := by decide +kernel
    obtain ⟨h1, h2⟩ := h0 t hm
    exact ⟨wordB_ok h1, of_decide_eq_false h2⟩
  · rw [decide_eq_false hm, if_neg Bool.false_ne_true, show (2 : Int) * 0 = 0 by decide, e0]
    have : t ++ o "" = t := by
      rw [← S_cd t, ← S_cd (o ""), S_app, show cd (o "") = [] by decide +kernel, List.append_nil]
    rw [this]
    exact ⟨h, hm⟩
theorem Word.take {t : Str} (h : Word t) : Word (S ((cd t).take 11)) := S_word (fun z => h.pos (by
  cases e : cd t with
  | nil => rfl
  | cons c r => rw [e] at z; simp at z)) (by rw [List.length_take]; omega) fun c hc => h.all c (List.mem_of_mem_take hc)
theorem cutS_to2 (t : Str) (k : Nat) : cutS t none (some (k : Int)) = S ((cd t).take k) := by
  have := cutS_to (cd t) k
  rwa [S_cd] at this
theorem cutS_from (l : List Nat) (k : Nat) : cutS (S l) (some (k : Int)) none = S (l.drop k) := by
  unfold cutS
  rw [HT.sIx_nat, S_len]
  have h : (S l).cps.toList = l := cd_S l
  rw [h]
  show S _ = S _
  congr 1
  rw [show HT.sIx l.length l.length none = l.length from rfl]
  by_cases hk : k ≤ l.length
  · rw [Nat.min_eq_left hk, List.take_of_length_le (by rw [List.length_drop]; omega)]
  · rw [List.drop_eq_nil_of_le (show l.length ≤ k by omega), List.drop_eq_nil_of_le (by omega), List.take_nil]
section
variable {P : Program} {w : World} {K : PySem.W.Frag} {mg : Str → Option Value} {base : Heap}
def sp_world (K : PySem.W.Frag) : Sp := fun vs H Q _ => ∃ (d : Addr), vs = [.ref d, .int 26, .int 0] ∧ Dr H d ∧ ∀ w0 nl kl names H', Ext [d] H H' → Wd K H' d w0 nl kl names kv_FUNCTIONS → WdP names kv_FUNCTIONS → nl ≠ kl → Q (.ref w0) H'
theorem sc_law_world : FnScope ["_law_draws", "_law_room", "_law_wild", "_law_known", "_law_names", "_law_at", "_law_name_here"] ["_law_draws", "_law_room", "_law_wild"] (defScope s_law_world) := ⟨rfl, rfl, rfl, by decide +kernel, rfl, by decide +kernel, by decide +kernel⟩
theorem funs_ok {names : List Str} (h4 : names.length = 4) (hn : ∀ n ∈ names, Name n) : WdP names kv_FUNCTIONS := by
  have h0 : ∀ p ∈ kv_FUNCTIONS, (decide (p.1 ∈ fnames) && decide (0 ≤ p.2) && decide (p.2 ≤ 4) && decide (kv_FUNCTIONS.lookup p.1 = some p.2)) = true := by decide +kernel
  refine ⟨h4, hn, by decide +kernel, by decide +kernel, fun p hp => ?_⟩
  have := h0 p hp
  simp only [Bool.and_eq_true, decide_eq_true_eq] at this
  exact ⟨.inr this.1.1.1, this.1.1.2, this.1.2, this.2⟩
theorem ok_law_world (T : Tx w K mg) : Cal P w K mg base "_law_world" 4 ["_law_draws", "_law_room", "_law_wild"] (sp_world K) := by
  have C_law_draw := ok_law_draw T (P := P) (base := base)
  have C_law_pick := ok_law_pick T (P := P) (base := base)
  have C_law_name := ok_law_name T (P := P) (base := base)
  have C_law_reserved := ok_law_reserved T (P := P) (base := base)
  refine Cal.of T.f_law_world T.g__law_world sc_law_world (fun _ _ _ _ _ _ us hl => match us, hl with | [_, _, _], _ => rfl) (fun vs H Q E h => ?_) (fun f cdv A outer s H vs Q E hr h => ?_)
  · obtain ⟨d, rfl, _⟩ := h; rfl
  obtain ⟨d, rfl, hd, q⟩ := h
  refine ⟨_, pss_cons (ps_set (i := 3) sc_law_world.nd rfl (Or.inl rfl) (pe_lst (pa_cons (pe_tup (pa_cons (pe_str) (pa_cons (pe_int) pa_nil))) (pa_cons (pe_tup (pa_cons (pe_str) (pa_cons (pe_int) pa_nil))) (pa_cons (pe_tup (pa_cons (pe_str) (pa_cons (pe_int) pa_nil))) (pa_cons (pe_tup (pa_cons (pe_str) (pa_cons (pe_int) pa_nil))) (pa_cons (pe_tup (pa_cons (pe_str) (pa_cons (pe_int) pa_nil))) (pa_cons (pe_tup (pa_cons (pe_str) (pa_cons (pe_int) pa_nil))) (pa_cons (pe_tup (pa_cons (pe_str) (pa_cons (pe_int) pa_nil))) pa_nil)))))))))
    (pss_cons (ps_set (i := 3) sc_law_world.nd rfl (Or.inl rfl) (pe_op op_cat (pv 3) (pe_lst (pa_cons (pe_tup (pa_cons (pe_str) (pa_cons (pe_int) pa_nil))) (pa_cons (pe_tup (pa_cons (pe_str) (pa_cons (pe_int) pa_nil))) (pa_cons (pe_tup (pa_cons (pe_str) (pa_cons (pe_int) pa_nil))) (pa_cons (pe_tup (pa_cons (pe_str) (pa_cons (pe_int) pa_nil))) (pa_cons (pe_tup (pa_cons (pe_str) (pa_cons (pe_int) pa_nil))) (pa_cons (pe_tup (pa_cons (pe_str) (pa_cons (pe_int) pa_nil))) (pa_cons (pe_tup (pa_cons (pe_str) (pa_cons (pe_int) pa_nil))) pa_nil))))))))))
    (pss_cons (ps_set (i := 4) sc_law_world.nd rfl (Or.inl rfl) (pe_lst (pa_cons (pe_slice sl_str (pe_cal C_law_name (hr.mono (by omega)) rfl (pa_cons (pv 0) pa_nil)) po_none (po_some (pe_int))) (pa_cons (pe_slice sl_str (pe_cal C_law_name (hr.mono (by omega)) rfl (pa_cons (pv 0) pa_nil)) po_none (po_some (pe_int))) pa_nil))))
    (pss_cons (ps_set (i := 5) sc_law_world.nd rfl (Or.inl rfl) (pe_op op_mod (pe_callTy call_int1 (by rfl) T.n_int (by decide +kernel) (pa_cons (pe_cal C_law_draw (hr.mono (by omega)) rfl (pa_cons (pv 0) (pa_cons (pe_int) pa_nil))) pa_nil)) (pe_callB call_len (by rfl) T.n_len (by decide +kernel) (pa_cons (pe_ix ix_list (pv 4) (pe_int) (fun _ _ => rfl)) pa_nil))))
    (pss_cons (ps_expr (pe_bm PySem.F.plainAttrs_list PySem.F.slot_list_append PySem.F.type_list_append mt_append (pv 4) (pa_cons (pe_op op_add_str (pe_op op_add_str (pe_slice sl_str (pe_ix ix_list (pv 4) (pe_int) (fun _ _ => rfl)) po_none (po_some (pv 5))) (pe_cal C_law_pick (hr.mono (by omega)) rfl (pa_cons (pv 0) (pa_cons (pe_str) pa_nil)))) (pe_slice sl_str (pe_ix ix_list (pv 4) (pe_int) (fun _ _ => rfl)) (po_some (pe_op op_add (pv 5) (pe_int))) po_none)) pa_nil)))
    (pss_cons (ps_expr (pe_bm PySem.F.plainAttrs_list PySem.F.slot_list_append PySem.F.type_list_append mt_append (pv 4) (pa_cons (pe_op op_add_str (pe_ix ix_list (pv 4) (pe_int) (fun _ _ => rfl)) (pe_cal C_law_pick (hr.mono (by omega)) rfl (pa_cons (pv 0) (pa_cons (pe_str) pa_nil)))) pa_nil)))
    (pss_cons (ps_setLc (i := 4) (own := [("_law_name_here", 6)]) (g := gName 6) rfl sc_law_world.nd rfl rfl (sw_true rfl rfl rfl (by decide +kernel)) (pi_list (pv 4)) (blkOk_by (N := ["_law_draws", "_law_room", "_law_wild", "_law_known", "_law_names", "_law_at", "_law_name_here"]) (own := [("_law_name_here", 6)]) (sc := defScope s_law_world) (by decide +kernel)) (fun _ _ _ _ _ => pg_name (i := 6) sc_law_world.nd rfl (Or.inl rfl)) (fun _ _ _ _ _ => pts_nil) (fun _ _ _ _ _ => (pe_op op_add_str (pv 6) (pe_slice sl_str (pe_str) po_none (po_some (pe_op op_mul (pe_int) (pe_callTy call_int1 (by rfl) T.n_int (by decide +kernel) (pa_cons (pe_cmpR (r := rIn K false) op_in_seq (pv 6) (pe_cal0 C_law_reserved (hr.mono (by omega)) rfl) rfl) pa_nil))))))))
    (pss_one (ps_ret (pe_lst (pa_cons (pv 1) (pa_cons (pv 2) (pa_cons (pv 4) (pa_cons (pv 3) pa_nil))))))))))))), ?_⟩
  -- the functions
  refine ⟨by show 2 ≤ sizeLine; decide, fun t1 h1 => ⟨by show 2 ≤ sizeLine; decide, fun t2 h2 => ⟨by show 2 ≤ sizeLine; decide, fun t3 h3 => ⟨by show 2 ≤ sizeLine; decide, fun t4 h4 => ⟨by show 2 ≤ sizeLine; decide, fun t5 h5 => ⟨by show 2 ≤ sizeLine; decide, fun t6 h6 => ⟨by show 2 ≤ sizeLine; decide, fun t7 h7 => ⟨by show 7 ≤ sizeLine; decide, fun l1 hl1 => ?_⟩⟩⟩⟩⟩⟩⟩⟩
  have r7 := ((((((RpL.kd1 (K := K) (H := H) (l := []) (xs := []) rfl h1 (K13.o "first", 1)).kd1 h2 (K13.o "second", 1)).kd1 h3 (K13.o "count", 1)).kd1 h4 (K13.o "head", 1)).kd1 h5 (K13.o "tail", 1)).kd1 h6 (K13.o "item", 2)).kd1 h7 (K13.o "coin", 1)
  have e7 := ((((((Ext.new (ms := []) (o := .tup [.str (K13.o "first"), .int 1]) h1).news (o := .tup [.str (K13.o "second"), .int 1]) h2).news (o := .tup [.str (K13.o "count"), .int 1]) h3).news (o := .tup [.str (K13.o "head"), .int 1]) h4).news (o := .tup [.str (K13.o "tail"), .int 1]) h5).news (o := .tup [.str (K13.o "item"), .int 2]) h6).news (o := .tup [.str (K13.o "coin"), .int 1]) h7
  have e8 := e7.news (o := .lst [.ref t1, .ref t2, .ref t3, .ref t4, .ref t5, .ref t6, .ref t7]) hl1
  have r8 := r7.ex0 (.new (o := .lst [.ref t1, .ref t2, .ref t3, .ref t4, .ref t5, .ref t6, .ref t7]) hl1)
  generalize hHa : upd _ l1 (HO.lst [.ref t1, .ref t2, .ref t3, .ref t4, .ref t5, .ref t6, .ref t7]) = Ha at e8 r8 ⊢
  have hl1a : Ha l1 = some (.lst [.ref t1, .ref t2, .ref t3, .ref t4, .ref t5, .ref t6, .ref t7]) := by rw [← hHa]; exact upd_same
  refine ⟨_, rfl, by show 2 ≤ sizeLine; decide, fun u1 g1 => ⟨by show 2 ≤ sizeLine; decide, fun u2 g2 => ⟨by show 2 ≤ sizeLine; decide, fun u3 g3 => ⟨by show 2 ≤ sizeLine; decide, fun u4 g4 => ⟨by show 2 ≤ sizeLine; decide, fun u5 g5 => ⟨by show 2 ≤ sizeLine; decide, fun u6 g6 => ⟨by show 2 ≤ sizeLine; decide, fun u7 g7 => ⟨by show 7 ≤ sizeLine; decide, fun l2 hl2 => ?_⟩⟩⟩⟩⟩⟩⟩⟩
  have s7 := ((((((r8.kd1 g1 (K13.o "held", 2)).kd1 g2 (K13.o "data", 1)).kd1 g3 (K13.o "keyed", 2)).kd1 g4 (K13.o "homed", 1)).kd1 g5 (K13.o "minted", 1)).kd1 g6 (K13.o "signed", 1)).kd1 g7 (K13.o "spends", 2)
  have f7 := ((((((Ext.new (ms := []) (o := .tup [.str (K13.o "held"), .int 2]) g1).news (o := .tup [.str (K13.o "data"), .int 1]) g2).news (o := .tup [.str (K13.o "keyed"), .int 2]) g3).news (o := .tup [.str (K13.o "homed"), .int 1]) g4).news (o := .tup [.str (K13.o "minted"), .int 1]) g5).news (o := .tup [.str (K13.o "signed"), .int 1]) g6).news (o := .tup [.str (K13.o "spends"), .int 2]) g7
  have f8 := f7.news (o := .lst [.ref u1, .ref u2, .ref u3, .ref u4, .ref u5, .ref u6, .ref u7]) hl2
  have s8 := s7.ex0 (.new (o := .lst [.ref u1, .ref u2, .ref u3, .ref u4, .ref u5, .ref u6, .ref u7]) hl2)
  generalize hHb : upd _ l2 (HO.lst [.ref u1, .ref u2, .ref u3, .ref u4, .ref u5, .ref u6, .ref u7]) = Hb at f8 s8 ⊢
  have hl2b : Hb l2 = some (.lst [.ref u1, .ref u2, .ref u3, .ref u4, .ref u5, .ref u6, .ref u7]) := by rw [← hHb]; exact upd_same
  refine ⟨l1, l2, _, _, rfl, rfl, f8 _ _ hl1a (by simp), hl2b, by show 14 ≤ sizeLine; decide, fun kl hkl => ?_⟩
  have f9 := Ext.new (ms := []) (o := .lst ([.ref t1, .ref t2, .ref t3, .ref t4, .ref t5, .ref t6, .ref t7] ++ [.ref u1, .ref u2, .ref u3, .ref u4, .ref u5, .ref u6, .ref u7])) hkl
  have s9 := s8.ex0 f9
  have hkl9 : upd Hb kl (HO.lst ([.ref t1, .ref t2, .ref t3, .ref t4, .ref t5, .ref t6, .ref t7] ++ [.ref u1, .ref u2, .ref u3, .ref u4, .ref u5, .ref u6, .ref u7])) kl = some (.lst ([.ref t1, .ref t2, .ref t3, .ref t4, .ref t5, .ref t6, .ref t7] ++ [.ref u1, .ref u2, .ref u3, .ref u4, .ref u5, .ref u6, .ref u7])) := upd_same
  have xc : Ext [] H _ := (e8.trans f8).trans f9
  have hdc := hd.ex xc (by simp)
  have nkl : kl ≠ d := (hd.ex (e8.trans f8) (by simp)).off hkl
  generalize upd Hb kl _ = Hc at xc hdc hkl9 s9 ⊢
  have s9 : RpL K Hc (kv_FUNCTIONS.map kD) [.ref t1, .ref t2, .ref t3, .ref t4, .ref t5, .ref t6, .ref t7, .ref u1, .ref u2, .ref u3, .ref u4, .ref u5, .ref u6, .ref u7] := s9
  -- the names
  refine ⟨_, rfl, d, rfl, hdc, fun a H1 x1 hd1 na => ?_⟩
  have la := na.toWord.len
  refine ⟨_, rfl, a, rfl, by rw [cd_len]; exact small (by omega), ?_⟩
  obtain ⟨la1, ea, wa, la11⟩ : ∃ l, cutS a none (some 11) = S l ∧ Word (S l) ∧ l.length ≤ 11 := ⟨_, cutS_to2 a 11, na.toWord.take, by rw [List.length_take]; omega⟩
  refine ⟨_, rfl, d, rfl, hd1, fun b H2 x2 hd2 nb => ?_⟩
  have lb := nb.toWord.len
  refine ⟨_, rfl, b, rfl, by rw [cd_len]; exact small (by omega), ?_⟩
  obtain ⟨lb1, eb, wb, lb11⟩ : ∃ l, cutS b none (some 11) = S l ∧ Word (S l) ∧ l.length ≤ 11 := ⟨_, cutS_to2 b 11, nb.toWord.take, by rw [List.length_take]; omega⟩
  have la0 : 0 < la1.length := List.length_pos_iff.mpr (by have := wa.pos; rwa [cd_S] at this)
  have aL : ∀ c ∈ la1, isL c = true := by have := wa.all; rwa [cd_S] at this
  have bL : ∀ c ∈ lb1, isL c = true := by have := wb.all; rwa [cd_S] at this
  refine ⟨by show 2 ≤ sizeLine; decide, fun nl0 hn0 => ?_⟩
  have x3 := Ext.new (ms := []) (o := .lst [.str (cutS a none (some 11)), .str (cutS b none (some 11))]) hn0
  have hN : (upd H2 nl0 (.lst [.str (cutS a none (some 11)), .str (cutS b none (some 11))])) nl0 = some (.lst [.str (S la1), .str (S lb1)]) := by rw [upd_same, ea, eb]
  have hd3 := hd2.ex x3 (by simp)
  have nn0 : nl0 ≠ d := hd2.off hn0
  have n0H : Hc nl0 = none := by
    cases h : Hc nl0 with
    | none => rfl
    | some u => rw [x2 _ _ (x1 _ _ h (by simpa using nn0)) (by simpa using nn0)] at hn0; cases hn0
  have xx : Ext [d] Hc _ := (x1.trans x2).trans x3.nil
  generalize upd H2 nl0 _ = H3 at x3 hN hd3 xx ⊢
  refine ⟨_, rfl, d, 1000, rfl, hd3, by decide, fun k0 H4 x4 hd4 _ => .inl ⟨_, rfl, ?_⟩⟩
  have hN4 := x4 _ _ hN (by simpa using nn0)
  have lS : ∀ l : List Nat, l.length ≤ 100 → (S l).length ≤ sizeLine := fun l h => by rw [S_len]; exact small (by omega)
  refine ⟨_, rfl, nl0, _, _, _, rfl, rfl, SqL.of hN4, a0, _, (S la1).length, rfl, ⟨lS _ (by omega), rfl⟩, _, _, rfl, rfl, by show (0 : Int) < ((S la1).length : Int); rw [S_len]; omega, ?_⟩
  obtain ⟨k, ek, lk⟩ : ∃ k : Nat, (k0 : Int) % ((S la1).length : Int) = (k : Int) ∧ k < la1.length := ⟨k0 % la1.length, by rw [S_len]; omega, Nat.mod_lt _ la0⟩
  refine ⟨_, rfl, .inl ⟨rfl, _, SqL.of hN4⟩, _, rfl, nl0, _, _, _, rfl, rfl, SqL.of hN4, a0, _, rfl, _, rfl, S la1, rfl, lS _ (by omega), ?_⟩
  refine ⟨_, rfl, d, _, rfl, hd4, .inr ⟨_, rfl, by decide +kernel, by decide +kernel, fun c H5 hc x5 hd5 => ?_⟩⟩
  have lc : isL c = true := (letters_mem c).mp hc
  have hN5 := x5 _ _ hN4 (by simpa using nn0)
  have e1 : cutS (S la1) none (some ((k0 : Int) % ((S la1).length : Int))) = S (la1.take k) := by rw [ek, cutS_to]
  have e2 : cutS (S la1) (some ((k0 : Int) % ((S la1).length : Int) + 1)) none = S (la1.drop (k + 1)) := by
    rw [ek, show (k : Int) + 1 = ((k + 1 : Nat) : Int) by omega, cutS_from]
  refine ⟨_, _, rfl, rfl, by rw [e1, S_len, S_len]; exact small (by simp; omega), ?_⟩
  refine ⟨_, rfl, nl0, _, _, _, rfl, rfl, SqL.of hN5, a0, _, rfl, _, _, rfl, rfl, _, rfl, S la1, rfl, lS _ (by omega), ?_⟩
  refine ⟨_, _, rfl, rfl, ?_, ?_⟩
  · show (cutS (S la1) none (some ((k0 : Int) % ((S la1).length : Int))) ++ S [c]).length + (cutS (S la1) (some ((k0 : Int) % ((S la1).length : Int) + 1)) none).length ≤ _
    rw [e1, e2, S_app, S_len, S_len]
    exact small (by simp; omega)
  refine ⟨nl0, _, _, rfl, rfl, hN5, by show 2 < sizeLine; decide, ?_⟩
  have e3 : cutS (S la1) none (some ((k0 : Int) % ((S la1).length : Int))) ++ S [c] ++ cutS (S la1) (some ((k0 : Int) % ((S la1).length : Int) + 1)) none = S (la1.take k ++ [c] ++ la1.drop (k + 1)) := by rw [e1, e2, S_app, S_app]
  have w3 : Word (S (la1.take k ++ [c] ++ la1.drop (k + 1))) := S_word (by simp) (by simp; omega) fun c' hc' => by
    rcases List.mem_append.mp hc' with h | h
    · rcases List.mem_append.mp h with h | h
      · exact aL c' (List.mem_of_mem_take h)
      · rw [List.mem_singleton.mp h]; exact lc
    · exact aL c' (List.mem_of_mem_drop h)
  have x6 : Ext [nl0] H5 (upd H5 nl0 (.lst ([V.str (S la1), V.str (S lb1)] ++ [V.str (cutS (S la1) none (some ((k0 : Int) % ((S la1).length : Int))) ++ S [c] ++ cutS (S la1) (some ((k0 : Int) % ((S la1).length : Int) + 1)) none)]))) := (Ext.refl _ _).set (by simp)
  have hN6 : upd H5 nl0 (.lst ([V.str (S la1), V.str (S lb1)] ++ [V.str (cutS (S la1) none (some ((k0 : Int) % ((S la1).length : Int))) ++ S [c] ++ cutS (S la1) (some ((k0 : Int) % ((S la1).length : Int) + 1)) none)])) nl0 = some (.lst [.str (S la1), .str (S lb1), .str (S (la1.take k ++ [c] ++ la1.drop (k + 1)))]) := by rw [upd_same, e3]; rfl
  have hd6 := hd5.ex x6 (by simpa using Ne.symm nn0)
  have xy : Ext [d] Hc (upd H5 nl0 (.lst ([V.str (S la1), V.str (S lb1)] ++ [V.str (cutS (S la1) none (some ((k0 : Int) % ((S la1).length : Int))) ++ S [c] ++ cutS (S la1) (some ((k0 : Int) % ((S la1).length : Int) + 1)) none)]))) := ((xx.trans x4).trans x5).own n0H
  generalize upd H5 nl0 _ = H6 at x6 hN6 hd6 xy ⊢
  refine ⟨_, rfl, .inl ⟨rfl, _, SqL.of hN6⟩, _, rfl, nl0, _, _, _, rfl, rfl, SqL.of hN6, a1, _, rfl, d, _, rfl, hd6, .inr ⟨_, rfl, by decide +kernel, by decide +kernel, fun c2 H7 hc2 x7 hd7 => ?_⟩⟩
  have lc2 : isL c2 = true := (letters_mem c2).mp hc2
  have hN7 := x7 _ _ hN6 (by simpa using nn0)
  refine ⟨_, _, rfl, rfl, by rw [S_len, S_len]; exact small (by simp; omega), ?_⟩
  refine ⟨nl0, _, _, rfl, rfl, hN7, by show 3 < sizeLine; decide, ?_⟩
  have w4 : Word (S (lb1 ++ [c2])) := S_word (by simp) (by simp; omega) fun c' hc' => by
    rcases List.mem_append.mp hc' with h | h
    · exact bL c' h
    · rw [List.mem_singleton.mp h]; exact lc2
  have hN8 : upd H7 nl0 (.lst ([V.str (S la1), V.str (S lb1), V.str (S (la1.take k ++ [c] ++ la1.drop (k + 1)))] ++ [V.str (S lb1 ++ S [c2])])) nl0 = some (.lst (([S la1, S lb1, S (la1.take k ++ [c] ++ la1.drop (k + 1)), S (lb1 ++ [c2])] : List Str).map V.str)) := by rw [upd_same, S_app]; rfl
  have hd8 := hd7.ex (H' := upd H7 nl0 (.lst ([V.str (S la1), V.str (S lb1), V.str (S (la1.take k ++ [c] ++ la1.drop (k + 1)))] ++ [V.str (S lb1 ++ S [c2])]))) ((Ext.refl [nl0] _).set (by simp)) (by simpa using Ne.symm nn0)
  have xz : Ext [d] Hc (upd H7 nl0 (.lst ([V.str (S la1), V.str (S lb1), V.str (S (la1.take k ++ [c] ++ la1.drop (k + 1)))] ++ [V.str (S lb1 ++ S [c2])]))) := (xy.trans x7).own n0H
  generalize upd H7 nl0 _ = H8 at hN8 hd8 xz ⊢
  have wAll : ∀ z ∈ ([S la1, S lb1, S (la1.take k ++ [c] ++ la1.drop (k + 1)), S (lb1 ++ [c2])] : List Str), Word z := by
    intro z hz
    simp only [List.mem_cons, List.not_mem_nil, or_false] at hz
    rcases hz with rfl | rfl | rfl | rfl
    · exact wa
    · exact wb
    · exact w3
    · exact w4
  generalize hws : ([S la1, S lb1, S (la1.take k ++ [c] ++ la1.drop (k + 1)), S (lb1 ++ [c2])] : List Str) = ws at hN8 wAll
  have lws : ws.length = 4 := by rw [← hws]; rfl
  -- made unlike the reserved ones
  refine ⟨_, rfl, nl0, rfl, ⟨_, SqL.of hN8⟩, fun D hD => ?_⟩
  refine lc_list (xs := ws.map V.str) (fun i H' => Ext [] H8 H' ∧ ∃ ns : List Str, H' D = some (.lst (ns.map V.str)) ∧ ns.length = i ∧ ∀ n ∈ ns, Name n) ⟨(Ext.refl _ _).own hD, [], upd_same, rfl, by simp⟩ (fun i H' _ pv => pv.1.sqL (.of hN8)) (fun i x H' hx pv => ?_) (fun H' pv => ?_)
  · obtain ⟨pe, ns, hns, lns, al⟩ := pv
    rw [List.getElem?_map] at hx
    obtain ⟨z, hz, rfl⟩ := Option.map_eq_some_iff.mp hx
    have hi : i < ws.length := (List.getElem?_eq_some_iff.mp hz).1
    have wz := wAll z (mem_at hz)
    refine ⟨rfl, yes_ (iteT ?_)⟩
    refine ⟨_, rfl, _, rfl, rfl, fun l H9 x9 hl hl9 => ?_⟩
    refine ⟨l, _, rfl, .inl (SqL.of hl9), rfl, flat_str _, .inr ⟨_, rfl, _, _, rfl, rfl, .inl ⟨by decide, by decide⟩, _, rfl, _, rfl, by rw [cd_len]; exact small (by decide +kernel), _, _, rfl, rfl, ?_, ?_⟩⟩
    · have h1 := wz.len
      have h2 : (cutS (K13.o "qq") none (some (2 * if (if false = true then !inV (V.str z) (List.map V.str tu_RESERVED) else inV (V.str z) (List.map V.str tu_RESERVED)) = true then 1 else 0))).length ≤ 2 := by
        unfold cutS
        rw [cd_len]
        show (cd (S _)).length ≤ 2
        rw [cd_S, List.length_take, List.length_drop]
        have : (K13.o "qq").cps.toList.length = 2 := by decide +kernel
        omega
      have h3 := Nat.add_le_add (Nat.le_of_eq (cd_len z)) h2
      exact Nat.le_trans h3 (small (by omega))
    · refine ⟨_, x9 _ _ hns (by simp), small' (by rw [List.length_map]; omega), (pe.trans x9).own hD, ns ++ [z ++ cutS (K13.o "qq") none (some (2 * if decide (z ∈ tu_RESERVED) = true then 1 else 0))], ?_, by simp [lns], fun n hn => ?_⟩
      · rw [upd_same, List.map_append]
        rw [if_neg Bool.false_ne_true, inV_str]
        rfl
      · rcases List.mem_append.mp hn with h | h
        · exact al n h
        · rw [List.mem_singleton.mp h]; exact fix_name wz
  · obtain ⟨pe, ns, hns, lns, al⟩ := pv
    refine ⟨_, rfl, _, rfl, _, rfl, _, rfl, by show 4 ≤ sizeLine; decide, fun w0 hw0 => ?_⟩
    have xe := Ext.new (ms := []) (o := .lst [.int 26, .int 0, .ref D, .ref kl]) hw0
    have x10 : Ext [d] Hc _ := (xz.trans pe.nil).trans xe.nil
    have hdF := (hd8.ex pe (by simp)).ex xe (by simp)
    have nD : D ≠ d := hd8.off hD
    have hkF := x10 _ _ hkl9 (by simpa using nkl)
    have DkL : D ≠ kl := fun z => by
      subst z
      rw [xz _ _ hkl9 (by simpa using nkl)] at hD; cases hD
    refine q w0 D kl ns _ ((xc.nil).trans x10) ⟨hdF, ⟨26, upd_same⟩, xe _ _ hns (by simp), ⟨_, hkF, s9.ext x10 hdc.not⟩, ?_⟩ (funs_ok (by rw [lns, List.length_map]; exact lws) al) DkL
    have nw : w0 ≠ d := (hd8.ex pe (by simp)).off hw0
    refine ⟨Ne.symm nw, nD, fun z => ?_, nkl, fun z => ?_⟩
    · subst z; rw [hns] at hw0; cases hw0
    · subst z
      have := (xz.trans pe.nil) _ _ hkl9 (by simpa using nkl)
      rw [this] at hw0; cases hw0
end
end K13

/-! L9: the law's script -/
namespace K13
open PySem PySem.Spec PyProof.Rows L2
theorem UsD_snoc : ∀ {k : List (Str × Int)} {ds : List Df} {d : Df}, UsD k ds → (k ++ ds.map Df.kv).lookup d.name = none → d.pars.Nodup → Us d.pars (k ++ ds.map Df.kv) d.term → UsD k (ds ++ [d])
  | k, [], d, _, h1, h2, h3 => by
    rw [List.map_nil, List.append_nil] at h1 h3
    exact ⟨h1, h2, h3, trivial⟩
  | k, e :: r, d, ⟨a1, a2, a3, a4⟩, h1, h2, h3 => by
    rw [List.map_cons, show k ++ e.kv :: r.map Df.kv = (k ++ [e.kv]) ++ r.map Df.kv by simp] at h1 h3
    exact ⟨a1, a2, a3, UsD_snoc a4 h1 h2 h3⟩
theorem lookup_none {l : List (Str × Int)} {z : Str} (h : ∀ p ∈ l, p.1 ≠ z) : l.lookup z = none := by
  have := lookup_some (l := l) (v := z)
  rw [decide_eq_false (fun m => by obtain ⟨p, hp, e⟩ := List.mem_map.mp m; exact h p hp e)] at this
  cases e : l.lookup z with
  | none => rfl
  | some i => rw [e] at this; cases this
theorem lookup_app {a b : List (Str × Int)} {z : Str} {i : Int} (h : a.lookup z = some i) : (a ++ b).lookup z = some i := by
  induction a with
  | nil => cases h
  | cons x r ih =>
    obtain ⟨y, j⟩ := x
    rw [List.lookup_cons] at h
    rw [List.cons_append, List.lookup_cons]
    cases e : (z == y) with
    | true => rw [e] at h; exact h
    | false => rw [e] at h; exact ih h
theorem abc_at : ∀ {k : Nat}, k < 6 → atI (o "abcdef").cps.toList ((0 : Int) + (k : Int)) = some (97 + k)
  | 0, _ => by decide +kernel
  | 1, _ => by decide +kernel
  | 2, _ => by decide +kernel
  | 3, _ => by decide +kernel
  | 4, _ => by decide +kernel
  | 5, _ => by decide +kernel
  | k + 6, h => absurd h (by omega)
theorem dd_name : ∀ {k : Nat}, k < 6 → Name (o "dd" ++ S [97 + k]) := by
  have h0 : ∀ k < 6, wordB (o "dd" ++ S [97 + k]) = true ∧ decide (o "dd" ++ S [97 + k] ∈ tu_RESERVED) = false := by decide +kernel
  exact fun {k} hk => ⟨wordB_ok (h0 k hk).1, of_decide_eq_false (h0 k hk).2⟩
/-- what a drawn script is -/
structure GenS (n : Nat) (s : Sc) : Prop where
  wf : WfS s
  us : UsS s
  dep : s.dep ≤ n
  nd : ∀ t ∈ s.terms, K13.nd t ≤ B 6
/-- what the definitions drawn so far are -/
structure GenD (ds : List Df) : Prop where
  wf : ∀ d ∈ ds, WfD d ∧ K13.dep d.term ≤ 6 ∧ K13.nd d.term ≤ B 6
  us : UsD kv_FUNCTIONS ds
  last : ∀ i d, ds[i]? = some d → ∃ l, cd d.name = l ++ [97 + i]
theorem GenD.fresh {ds : List Df} (g : GenD ds) {z : Str} {l : List Nat} (hz : Name z) (e : cd z = l ++ [97 + ds.length]) : (kv_FUNCTIONS ++ ds.map Df.kv).lookup z = none := by
  refine lookup_none fun p hp y => ?_
  rcases List.mem_append.mp hp with h | h
  · exact name_fn hz (by rw [← y]; exact List.mem_map_of_mem h)
  · obtain ⟨d, hd, rfl⟩ := List.mem_map.mp h
    obtain ⟨i, hi⟩ := List.mem_iff_getElem?.mp hd
    obtain ⟨l', el⟩ := g.last i d hi
    have y : d.name = z := y
    rw [y, e] at el
    have := (List.append_inj' el rfl).2
    have h1 := (List.cons.inj this).1
    have := (List.getElem?_eq_some_iff.mp hi).1
    omega
theorem GenD.snoc {ds : List Df} (g : GenD ds) {d : Df} {l : List Nat} (wd : WfD d) (h6 : K13.dep d.term ≤ 6) (hn : K13.nd d.term ≤ B 6) (nd : d.pars.Nodup) (us : Us d.pars (kv_FUNCTIONS ++ ds.map Df.kv) d.term) (e : cd d.name = l ++ [97 + ds.length]) : GenD (ds ++ [d]) := by
  refine ⟨fun x hx => ?_, UsD_snoc g.us (g.fresh wd.name e) nd us, fun i x hx => ?_⟩
  · rcases List.mem_append.mp hx with h | h
    · exact g.wf x h
    · rw [List.mem_singleton.mp h]; exact ⟨wd, h6, hn⟩
  · by_cases hi : i < ds.length
    · rw [List.getElem?_append_left hi] at hx
      exact g.last i x hx
    · rw [List.getElem?_append_right (by omega)] at hx
      have h0 : i - ds.length = 0 := by
        cases h : i - ds.length with
        | zero => rfl
        | succ j => rw [h] at hx; simp at hx
      rw [h0] at hx
      have : d = x := by simpa using hx
      subst this
      have : i = ds.length := by omega
      subst this
      exact ⟨l, e⟩
theorem WdP.snoc {names : List Str} {ds : List Df} (w : WdP names (kv_FUNCTIONS ++ ds.map Df.kv)) (g : GenD ds) {d : Df} {l : List Nat} (wd : WfD d) (e : cd d.name = l ++ [97 + ds.length]) (h6 : ds.length < 6) : WdP names (kv_FUNCTIONS ++ (ds ++ [d]).map Df.kv) := by
  have h14 : kv_FUNCTIONS.length = 14 := by decide +kernel
  refine ⟨w.n4, w.nm, by rw [List.length_append]; omega, by rw [List.length_append, List.length_map, List.length_append]; simp; omega, fun p hp => ?_⟩
  rw [List.map_append, ← List.append_assoc] at hp ⊢
  rcases List.mem_append.mp hp with h | h
  · obtain ⟨a, b, c, f⟩ := w.kn p h
    exact ⟨a, b, c, lookup_app f⟩
  · have : p = d.kv := List.mem_singleton.mp h
    subst this
    have := wd.few
    refine ⟨.inl wd.name, by show (0 : Int) ≤ (d.pars.length : Int); omega, by show (d.pars.length : Int) ≤ 4; omega, ?_⟩
    have hl : (kv_FUNCTIONS ++ ds.map Df.kv ++ [(d.name, (d.pars.length : Int))]).lookup d.name = some (d.pars.length : Int) := by
      rw [look_app (g.fresh wd.name e), List.lookup_cons, beq_self_eq_true]
    exact hl
theorem dwk {d w0 kl : Addr} : ∀ m ∈ [d, w0], m ∈ [d, w0, kl] := fun m hm => by
  rcases List.mem_cons.mp hm with h | h
  · simp [h]
  · simp [List.mem_singleton.mp h]
section
variable {P : Program} {w : World} {K : PySem.W.Frag} {mg : Str → Option Value} {base : Heap}
def sp_drawn (K : PySem.W.Frag) : Sp := fun vs H Q _ => ∃ (d w0 nl kl : Addr) (many : Nat) (names : List Str), vs = [.ref d, .ref w0, .int (many : Int), .int 6] ∧ many ≤ 6 ∧ Wd K H d w0 nl kl names kv_FUNCTIONS ∧ WdP names kv_FUNCTIONS ∧ nl ≠ kl ∧
  ∀ r H' s known, Ext [d, w0, kl] H H' → Wd K H' d w0 nl kl names known → Rp K H' s.enc r → GenS 6 s → Q r H'
theorem sc_law_drawn_script : FnScope ["_law_draws", "_law_world_here", "_law_many", "_law_levels", "_law_definitions", "_law_k", "_law_name_here", "_law_parameters", "_law_turn", "_law_parameter"] ["_law_draws", "_law_world_here", "_law_many", "_law_levels"] (defScope s_law_drawn_script) := ⟨rfl, rfl, rfl, by decide +kernel, rfl, by decide +kernel, by decide +kernel⟩
theorem ok_law_drawn_script (T : Tx w K mg) : Cal P w K mg base "_law_drawn_script" 17 ["_law_draws", "_law_world_here", "_law_many", "_law_levels"] (sp_drawn K) := by
  have C_law_draw := ok_law_draw T (P := P) (base := base)
  have C_law_pick := ok_law_pick T (P := P) (base := base)
  have C_law_reserved := ok_law_reserved T (P := P) (base := base)
  have C_law_make := ok_law_make T (P := P) (base := base) 6
  refine Cal.of T.f_law_drawn_script T.g__law_drawn_script sc_law_drawn_script (fun _ _ _ _ _ _ us hl => match us, hl with | [_, _, _, _], _ => rfl) (fun vs H Q E h => ?_) (fun f cdv A outer s H vs Q E hr h => ?_)
  · obtain ⟨d, w0, nl, kl, many, names, rfl, _⟩ := h; rfl
  obtain ⟨d, w0, nl, kl, many, names, rfl, m6, wd, wp, nk, q⟩ := h
  refine ⟨_, pss_cons (ps_set (i := 4) sc_law_drawn_script.nd rfl (Or.inl rfl) (pe_lst pa_nil))
    (pss_cons (ps_for PassesOwn.never rfl (pi_range1 rfl T.n_range (pa_cons (pv 2) pa_nil)) (pg_name (i := 5) sc_law_drawn_script.nd rfl (Or.inl rfl))
    (pss_cons (ps_set (i := 6) sc_law_drawn_script.nd rfl (Or.inl rfl) (pe_op op_add_str (pe_cal C_law_pick (hr.mono (by omega)) rfl (pa_cons (pv 0) (pa_cons (pe_ix ix_list (pv 1) (pe_int) (fun _ _ => rfl)) pa_nil))) (pe_ix ix_str (pe_str) (pv 5) (fun _ _ => rfl))))
      (C8.pss_cut (ps_if (PW.pt (pw_or (pt_cmpR op_in_seq (pv 6) (pe_cal0 C_law_reserved (hr.mono (by omega)) rfl) rfl) (pw_or1 (pt_cmpR op_gt (pe_callB call_len (by rfl) T.n_len (by decide +kernel) (pa_cons (pv 6) pa_nil)) (pe_int) (nomark _)))))
      (pss_one (ps_set (i := 6) sc_law_drawn_script.nd rfl (Or.inl rfl) (pe_op op_add_str (pe_str) (pe_ix ix_str (pe_str) (pv 5) (fun _ _ => rfl)))))
      (pss_nil))
      (pss_cons (ps_if (PW.pt (pw_and (pt_cmpR op_gt (pe_ix ix_list (pv 1) (pe_int) (fun _ _ => rfl)) (pe_int) (nomark _)) (pw_and (pt_cmpR op_gt (pv 5) (pe_int) (nomark _)) (pw_and1 (pt_cmpR op_eq (pe_cal C_law_draw (hr.mono (by omega)) rfl (pa_cons (pv 0) (pa_cons (pe_int) pa_nil))) (pe_int) (nomark _))))))
      (pss_never)
      (pss_nil))
      (pss_cons (ps_set (i := 7) sc_law_drawn_script.nd rfl (Or.inl rfl) (pe_lst pa_nil))
      (pss_cons (ps_for PassesOwn.never rfl (pi_range1 rfl T.n_range (pa_cons (pe_cal C_law_draw (hr.mono (by omega)) rfl (pa_cons (pv 0) (pa_cons (pe_int) pa_nil))) pa_nil)) (pg_name (i := 8) sc_law_drawn_script.nd rfl (Or.inl rfl))
      (pss_cons (ps_set (i := 9) sc_law_drawn_script.nd rfl (Or.inl rfl) (pe_cal C_law_pick (hr.mono (by omega)) rfl (pa_cons (pv 0) (pa_cons (pe_ix ix_list (pv 1) (pe_int) (fun _ _ => rfl)) pa_nil))))
        (pss_one (ps_if (pt_cmpR op_notIn_seq (pv 9) (pv 7) rfl)
        (pss_one (ps_expr (pe_bm PySem.F.plainAttrs_list PySem.F.slot_list_append PySem.F.type_list_append mt_append (pv 7) (pa_cons (pv 9) pa_nil))))
        (pss_one (ps_if (pt_cmpR op_gt (pe_ix ix_list (pv 1) (pe_int) (fun _ _ => rfl)) (pe_int) (nomark _))
          (pss_never)
          (pss_nil)))))))
      (pss_cons (ps_expr (pe_bm PySem.F.plainAttrs_list PySem.F.slot_list_append PySem.F.type_list_append mt_append (pv 4) (pa_cons (pe_tup (pa_cons (pv 6) (pa_cons (pe_callTy call_tuple_of (by rfl) T.n_tuple (by decide +kernel) (pa_cons (pv 7) pa_nil)) (pa_cons (pe_cal C_law_make (hr.mono (by omega)) rfl (pa_cons (pv 0) (pa_cons (pv 1) (pa_cons (pv 3) (pa_cons (pv 7) pa_nil))))) pa_nil)))) pa_nil)))
      (pss_one (ps_expr (pe_bm PySem.F.plainAttrs_list PySem.F.slot_list_append PySem.F.type_list_append mt_append (pe_ix ix_list (pv 1) (pe_int) (fun _ _ => rfl)) (pa_cons (pe_tup (pa_cons (pv 6) (pa_cons (pe_callB call_len (by rfl) T.n_len (by decide +kernel) (pa_cons (pv 7) pa_nil)) pa_nil))) pa_nil)))))))))))
    (pss_one (ps_ret (pe_tup (pa_cons (pe_callTy call_tuple_of (by rfl) T.n_tuple (by decide +kernel) (pa_cons (pv 4) pa_nil)) (pa_cons (pe_cal C_law_make (hr.mono (by omega)) rfl (pa_cons (pv 0) (pa_cons (pv 1) (pa_cons (pv 3) (pa_cons (pe_lst pa_nil) pa_nil))))) pa_nil)))))), ?_⟩
  obtain ⟨a1', a2', a3', a4', a5'⟩ := wd.ap
  refine ⟨Nat.zero_le _, fun f0 hf0 => ?_⟩
  obtain ⟨fd, fw, fn, fk⟩ := wd.off hf0
  have eI := Ext.new (ms := []) (o := .lst []) hf0
  refine ⟨_, rfl, (many : Int), rfl, by omega, by omega, ?_⟩
  rw [show ((many : Int)).toNat = many by omega]
  refine for_range (fun k σ H' => Ext [d, w0, kl] H H' ∧ ∃ (ds : List Df) (xs : List V) (x5 x6 x7 x8 x9 : Option V), Wd K H' d w0 nl kl names (kv_FUNCTIONS ++ ds.map Df.kv) ∧ WdP names (kv_FUNCTIONS ++ ds.map Df.kv) ∧ GenD ds ∧ ds.length = k ∧ H' f0 = some (.lst xs) ∧ RpL K H' (ds.map Df.enc) xs ∧ σ = [some (.ref d), some (.ref w0), some (.int (many : Int)), some (.int 6), some (.ref f0), x5, x6, x7, x8, x9])
    ⟨eI.nil, [], [], none, none, none, none, none, by rw [List.map_nil, List.append_nil]; exact wd.ex0 eI, by rw [List.map_nil, List.append_nil]; exact wp, ⟨by simp, trivial, by simp⟩, rfl, upd_same, rfl, rfl⟩ (fun k σ H' lk pv => ?_) (fun σ H' pv => ?_)
  · obtain ⟨pe, ds, xs, x5, x6, x7, x8, x9, w1, p1, g1, lds, hf, rl, rfl⟩ := pv
    have k6 : k < 6 := by omega
    have lxs : xs.length = k := by have := rl.length; rw [List.length_map] at this; omega
    obtain ⟨room, hw1⟩ := w1.wl
    -- the name
    refine ⟨_, rfl, _, rfl, w0, _, _, _, rfl, rfl, SqL.of hw1, a2, d, .ref nl, rfl, w1.dr, .inl ⟨nl, _, rfl, a2', w1.nm, by rw [List.length_map, p1.n4]; decide, fun i v H2 hv e2 hd2 => ?_⟩⟩
    rw [List.getElem?_map] at hv
    obtain ⟨nm, hnm, rfl⟩ := Option.map_eq_some_iff.mp hv
    have nn : Name nm := p1.nm nm (mem_at hnm)
    have ln := nn.toWord.len
    have w2 := w1.draw e2 hd2
    refine ⟨_, rfl, _, _, 97 + k, rfl, rfl, by rw [cd_len]; exact small (by decide +kernel), abc_at k6, _, _, rfl, rfl, ?_, ?_⟩
    · rw [sone, S_len, cd_len]; exact small (by simp; omega)
    refine ⟨fun σ' H3 => Ext [] H2 H3 ∧ ∃ z l, Name z ∧ cd z = l ++ [97 + k] ∧ σ' = [some (.ref d), some (.ref w0), some (.int (many : Int)), some (.int 6), some (.ref f0), some (.int (0 + (k : Int))), some (.str z), x7, x8, x9], ?_, ?_⟩
    · refine ⟨_, rfl, rfl, fun l H3 e3 hl hl3 => ⟨l, _, rfl, .inl (SqL.of hl3), rfl, flat_str _, _, rfl, ?_⟩⟩
      rw [if_neg Bool.false_ne_true, inV_str]
      have dd : tAsg (tOp (fun x y H Q => ∃ i j, x = .str i ∧ y = .str j ∧ i.length + j.length ≤ sizeLine ∧ Q (.str (i ++ j)) H) (tC (.str (K13.o "dd"))) (tOp rIxS (tC (.str (K13.o "abcdef"))) (tVar 5))) (gName 6) { nx := fun σ' H3 => Ext [] H2 H3 ∧ ∃ z l, Name z ∧ cd z = l ++ [97 + k] ∧ σ' = [some (.ref d), some (.ref w0), some (.int (many : Int)), some (.int 6), some (.ref f0), some (.int (0 + (k : Int))), some (.str z), x7, x8, x9], rt := fun _ _ => True } [some (.ref d), some (.ref w0), some (.int (many : Int)), some (.int 6), some (.ref f0), some (.int (0 + (k : Int))), some (.str (nm ++ ⟨#[97 + k]⟩)), x7, x8, x9] H3 := by
        refine ⟨_, rfl, _, _, 97 + k, rfl, rfl, by rw [cd_len]; exact small (by decide +kernel), abc_at k6, _, _, rfl, rfl, ?_, ?_⟩
        · rw [sone, S_len, cd_len]; exact small (by show 2 + 1 ≤ 16000000; omega)
        · exact ⟨e3, _, cd (K13.o "dd"), dd_name k6, by rw [cd_app, cd_S], rfl⟩
      refine ite2 (fun _ => iteT dd) fun hres => ?_
      refine ⟨_, rfl, _, (nm ++ ⟨#[97 + k]⟩ : Str).length, rfl, ⟨?_, rfl⟩, _, _, rfl, rfl, _, rfl, ite2 (fun _ => dd) fun hlen => ?_⟩
      · rw [cd_len, cd_app, sone, cd_S]; exact small (by simp; omega)
      · have hl2 : (cd (nm ++ ⟨#[97 + k]⟩)).length ≤ 12 := by
          have : ¬ (12 : Int) < ((nm ++ ⟨#[97 + k]⟩ : Str).length : Int) := fun h => hlen (decide_eq_true h)
          rw [cd_len] at this
          omega
        refine ⟨e3, _, cd nm, ⟨⟨by rw [cd_app, sone, cd_S]; simp, hl2, fun c hc => ?_⟩, fun m => hres (decide_eq_true m)⟩, by rw [cd_app, sone, cd_S], rfl⟩
        rw [cd_app, sone, cd_S] at hc
        rcases List.mem_append.mp hc with h | h
        · exact nn.toWord.all c h
        · rw [List.mem_singleton.mp h]
          unfold isL
          exact decide_eq_true (by omega)
    · rintro σ' H3 ⟨e3, z, l, nz, ez, rfl⟩
      have w3 := w2.ex0 e3
      obtain ⟨room3, hw3⟩ := w3.wl
      have x3 : Ext [d] H' H3 := e2.trans e3.nil
      refine ⟨_, rfl, w0, _, _, _, rfl, rfl, SqL.of hw3, a1, _, _, rfl, rfl, _, rfl, iteF (iteF ?_)⟩
      -- the parameters
      refine ⟨Nat.zero_le _, fun pl hpl => ?_⟩
      obtain ⟨pd, pw, pn, pk⟩ := w3.off hpl
      have e4 := Ext.new (ms := []) (o := .lst []) hpl
      have w4 := w3.ex0 e4
      have pf : pl ≠ f0 := fun y => by
        subst y
        rw [x3 _ _ hf (by simpa using fd)] at hpl; cases hpl
      refine ⟨_, rfl, d, 5, rfl, w4.dr, by decide, fun m5 H5 e5 hd5 hm5 => ?_⟩
      refine ⟨(m5 : Int), rfl, by omega, by omega, ?_⟩
      rw [show ((m5 : Int)).toNat = m5 by omega]
      have w5 := w4.draw e5 hd5
      refine for_range (fun j σ H6 => Ext [d] H3 H6 ∧ ∃ (ps : List Str) (y8 y9 : Option V), Wd K H6 d w0 nl kl names (kv_FUNCTIONS ++ ds.map Df.kv) ∧ H6 pl = some (.lst (ps.map V.str)) ∧ ps.Nodup ∧ (∀ p ∈ ps, Name p) ∧ ps.length ≤ j ∧ σ = [some (.ref d), some (.ref w0), some (.int (many : Int)), some (.int 6), some (.ref f0), some (.int (0 + (k : Int))), some (.str z), some (.ref pl), y8, y9])
        ⟨e4.nil.trans e5, [], x8, x9, w5, e5 _ _ upd_same (by simpa using pd), List.nodup_nil, by simp, Nat.zero_le _, rfl⟩ (fun j σ H6 lj pv => ?_) (fun σ H6 pv => ?_)
      · obtain ⟨x6, ps, y8, y9, w6, hp6, nd6, np6, lp6, rfl⟩ := pv
        obtain ⟨room6, hw6⟩ := w6.wl
        refine ⟨_, rfl, _, rfl, w0, _, _, _, rfl, rfl, SqL.of hw6, a2, d, .ref nl, rfl, w6.dr, .inl ⟨nl, _, rfl, a2', w6.nm, by rw [List.length_map, p1.n4]; decide, fun i v H7 hv e7 hd7 => ?_⟩⟩
        rw [List.getElem?_map] at hv
        obtain ⟨pm, hpm, rfl⟩ := Option.map_eq_some_iff.mp hv
        have npm : Name pm := p1.nm pm (mem_at hpm)
        have w7 := w6.draw e7 hd7
        have hp7 := e7 _ _ hp6 (by simpa using pd)
        obtain ⟨room7, hw7⟩ := w7.wl
        refine ⟨_, rfl, _, rfl, pl, _, rfl, .inl (SqL.of hp7), rfl, flat_str _, _, rfl, ?_⟩
        rw [if_pos rfl, inV_str]
        by_cases hm : pm ∈ ps
        · rw [decide_eq_true hm]
          refine iteF ⟨_, rfl, w0, _, _, _, rfl, rfl, SqL.of hw7, a1, _, _, rfl, rfl, _, rfl, iteF ?_⟩
          exact ⟨x6.trans e7, ps, _, _, w7, hp7, nd6, np6, by omega, rfl⟩
        · rw [decide_eq_false hm]
          refine iteT ⟨_, rfl, .inl ⟨rfl, _, SqL.of hp7⟩, _, rfl, pl, _, _, rfl, rfl, hp7, small' (by rw [List.length_map]; omega), ?_⟩
          refine ⟨(x6.trans e7).own hpl, ps ++ [pm], _, _, w7.put (.lst hp7 .nil) pd pw pn pk, ?_, ?_, fun p hp => ?_, by rw [List.length_append]; simp; omega, rfl⟩
          · rw [upd_same, List.map_append]; rfl
          · exact List.nodup_append.mpr ⟨nd6, by simp, fun a ha b hb => by rw [List.mem_singleton.mp hb]; exact fun y => hm (y ▸ ha)⟩
          · rcases List.mem_append.mp hp with h | h
            · exact np6 p h
            · rw [List.mem_singleton.mp h]; exact npm
      · obtain ⟨x6, ps, y8, y9, w6, hp6, nd6, np6, lp6, rfl⟩ := pv
        have lp4 : ps.length ≤ 4 := by omega
        have hf6 : H6 f0 = some (.lst xs) := x6 _ _ (x3 _ _ hf (by simpa using fd)) (by simpa using fd)
        have xA : Ext [d] H' H6 := x3.trans x6
        refine ⟨_, rfl, .inl ⟨rfl, _, SqL.of hf6⟩, _, rfl, _, rfl, pl, _, rfl, .inl ⟨.of hp6, fun tl htl => ?_⟩⟩
        have eT := Ext.new (ms := []) (o := .tup (ps.map V.str)) htl
        have w7 := w6.ex0 eT
        refine ⟨_, rfl, _, rfl, _, rfl, _, rfl, d, w0, nl, kl, pl, 6, names, ps, _, rfl, rfl, by omega, w7, p1, ⟨eT _ _ hp6 (by simp), pd, pw⟩, np6, by omega, fun r8 H8 t e8 w8 q8 g8 => ?_⟩
        refine ⟨by show 3 ≤ sizeLine; decide, fun pt hpt => ?_⟩
        have eP := Ext.new (ms := []) (o := .tup [.str z, .ref tl, r8]) hpt
        have hf9 : (upd H8 pt (.tup [.str z, .ref tl, r8])) f0 = some (.lst xs) := eP _ _ (e8 _ _ (eT _ _ hf6 (by simp)) (by simp [fd, fw])) (by simp)
        have hp9 : (upd H8 pt (.tup [.str z, .ref tl, r8])) pl = some (.lst (ps.map V.str)) := eP _ _ (e8 _ _ (eT _ _ hp6 (by simp)) (by simp [pd, pw])) (by simp)
        have w9 := w8.ex0 eP
        have xB : Ext [d, w0] H' (upd H8 pt (.tup [.str z, .ref tl, r8])) := ((xA.dw.trans eT.nil).trans e8).trans eP.nil
        have wdf : WfD ⟨z, ps, t⟩ := ⟨nz, lp4, np6, g8.wf⟩
        have rd9 : Rp K (upd H8 pt (.tup [.str z, .ref tl, r8])) (Df.enc ⟨z, ps, t⟩) (.ref pt) := by
          refine Df.mk_ (SqT.of upd_same) (eP.tup .nil (e8.tup w7.not (SqT.of upd_same))) (q8.ex0 eP)
        have rl9 := rl.ext xB w1.not
        generalize upd H8 pt (HO.tup [.str z, .ref tl, r8]) = H9 at hf9 hp9 w9 xB rd9 rl9 ⊢
        refine ⟨f0, xs, _, rfl, rfl, hf9, small' (by omega), ?_⟩
        have eF : Ext [f0] H9 (upd H9 f0 (.lst (xs ++ [.ref pt]))) := (Ext.refl _ _).set (by simp)
        have ntF : NoT H9 [f0] := .lst hf9 .nil
        have wF := w9.put (o := .lst (xs ++ [.ref pt])) ntF fd fw fn fk
        have rlF := (rl9.snoc rd9).ext eF ntF
        have hpF := eF _ _ hp9 (by simpa using pf)
        have hfF : (upd H9 f0 (.lst (xs ++ [.ref pt]))) f0 = some (.lst (xs ++ [.ref pt])) := upd_same
        have xF : Ext [d, w0, kl] H (upd H9 f0 (.lst (xs ++ [.ref pt]))) := (pe.trans (xB.mono dwk)).own hf0
        generalize upd H9 f0 (HO.lst (xs ++ [.ref pt])) = HF at eF wF rlF hpF hfF xF ⊢
        obtain ⟨roomF, hwF⟩ := wF.wl
        obtain ⟨ks, hkF, rkF⟩ := wF.kn
        have lks : ks.length ≤ 20 := by have := rkF.length; rw [List.length_map] at this; have := p1.k20; omega
        refine ⟨_, rfl, w0, _, _, _, rfl, rfl, SqL.of hwF, a3, .inl ⟨rfl, _, SqL.of hkF⟩, _, rfl, _, rfl, _, (ps.map V.str).length, rfl, .inl ⟨_, SqL.of hpF, rfl⟩, by show 2 ≤ sizeLine; decide, fun pt2 hpt2 => ?_⟩
        rw [List.length_map]
        have eG := Ext.new (ms := []) (o := .tup [.str z, .int (ps.length : Int)]) hpt2
        have wG := wF.ex0 eG
        have rG := rkF.kd1 hpt2 (z, (ps.length : Int))
        have hkG := eG _ _ hkF (by simp)
        have rlG := rlF.ex0 eG
        have hfG := eG _ _ hfF (by simp)
        have xG := xF.trans eG.nil
        obtain ⟨roomG, hwG⟩ := wG.wl
        have hnG := wG.nm
        have hdG := wG.dr
        generalize upd HF pt2 (HO.tup [.str z, .int (ps.length : Int)]) = HG at eG wG rG hkG rlG hfG xG hwG hnG hdG ⊢
        refine ⟨kl, ks, _, rfl, rfl, hkG, small' (by omega), ?_⟩
        have eK : Ext [kl] HG (upd HG kl (.lst (ks ++ [.ref pt2]))) := (Ext.refl _ _).set (by simp)
        have ntK : NoT HG [kl] := .lst hkG .nil
        refine ⟨xG.trans (eK.mono (by simp)), ds ++ [⟨z, ps, t⟩], xs ++ [.ref pt], _, _, _, _, _, ⟨hdG.ex eK (by simpa using Ne.symm a4'), ⟨roomG, eK _ _ hwG (by simpa using Ne.symm a5')⟩, eK _ _ hnG (by simpa using nk), ⟨_, upd_same, ?_⟩, wG.ap⟩, p1.snoc g1 wdf (by rw [lds]; exact ez) (by omega), g1.snoc wdf g8.dep g8.nd nd6 g8.us (by rw [lds]; exact ez), by simp [lds], eK _ _ hfG (by simpa using fk), ?_, rfl⟩
        · rw [List.map_append (f := Df.kv), ← List.append_assoc]
          exact rG.ext eK ntK
        · rw [List.map_append]
          exact rlG.ext eK ntK
  · obtain ⟨pe, ds, xs, x5, x6, x7, x8, x9, w1, p1, g1, lds, hf, rl, rfl⟩ := pv
    refine ⟨_, rfl, f0, xs, rfl, .inl ⟨.of hf, fun tl htl => ?_⟩⟩
    have eT := Ext.new (ms := []) (o := .tup xs) htl
    have w2 := w1.ex0 eT
    refine ⟨_, rfl, _, rfl, _, rfl, Nat.zero_le _, fun bl hbl => ?_⟩
    have eB := Ext.new (ms := []) (o := .lst []) hbl
    have w3 := w2.ex0 eB
    obtain ⟨bd, bw, _, _⟩ := w2.off hbl
    refine ⟨d, w0, nl, kl, bl, 6, names, [], _, rfl, rfl, by omega, w3, p1, ⟨upd_same, bd, bw⟩, by simp, by decide, fun r8 H8 t e8 w8 q8 g8 => ?_⟩
    refine ⟨by show 2 ≤ sizeLine; decide, fun pt hpt => ?_⟩
    have eP := Ext.new (ms := []) (o := .tup [.ref tl, r8]) hpt
    refine q _ _ ⟨ds, t⟩ _ ((pe.trans (eT.trans eB).nil).trans ((e8.mono dwk).trans eP.nil)) (w8.ex0 eP) ?_ ⟨⟨by show ds.length ≤ 6; omega, fun d hd => (g1.wf d hd).1, g8.wf⟩, ⟨g1.us, g8.us⟩, ?_, fun x hx => ?_⟩
    · exact Sc.mk_ (SqT.of upd_same) (eP.tup .nil (e8.tup w3.not (eB.tup .nil (SqT.of upd_same)))) (((rl.ex0 (eT.trans eB)).ext e8 w3.not).ex0 eP) (q8.ex0 eP)
    · refine maxl_le fun x hx => ?_
      obtain ⟨y, hy, rfl⟩ := List.mem_map.mp hx
      rcases List.mem_append.mp hy with h | h
      · obtain ⟨d, hd, rfl⟩ := List.mem_map.mp h
        exact (g1.wf d hd).2.1
      · rw [List.mem_singleton.mp h]; exact g8.dep
    · rcases List.mem_append.mp hx with h | h
      · obtain ⟨d, hd, rfl⟩ := List.mem_map.mp h
        exact (g1.wf d hd).2.2
      · rw [List.mem_singleton.mp h]; exact g8.nd
end
end K13

/-! L10: the law's tower -/
namespace K13
open PySem PySem.Spec PyProof.Rows L2
/-- a tower of k steps -/
structure Twr (k : Nat) (t : Tm) : Prop where
  wf : Wf t
  us : ∀ vars known, Us vars known t
  dep : K13.dep t ≤ k + 1
  nd : K13.nd t ≤ 2 * k + 1
theorem Twr.num {n : Nat} (h : n ≤ 1000) (k : Nat) : Twr k (.mk 0 (.num n) []) :=
  ⟨⟨⟨rfl, by omega, by omega⟩, trivial⟩, fun _ _ => ⟨trivial, trivial⟩, by rw [dep_mk]; simp [maxl], by rw [nd_mk]; simp⟩
theorem Twr.un {k : Nat} {h : Hd} {t : Tm} (g : Twr k t) (w : h.Wf 1) (u : ∀ vars known, h.uses 1 vars known) : Twr (k + 1) (.mk 0 h [t]) :=
  ⟨⟨w, g.wf, trivial⟩, fun v n => ⟨u v n, g.us _ _, trivial⟩, by rw [dep_mk]; have := g.dep; simp [maxl]; omega, by rw [nd_mk]; have := g.nd; simp; omega⟩
theorem Twr.bi {k : Nat} {h : Hd} {t s : Tm} (g : Twr k t) (f : Twr 0 s) (w : h.Wf 2) (u : ∀ vars known, h.uses 2 vars known) : Twr (k + 1) (.mk 0 h [t, s]) ∧ Twr (k + 1) (.mk 0 h [s, t]) := by
  have := g.dep
  have := g.nd
  have := f.dep
  have := f.nd
  exact ⟨⟨⟨w, g.wf, f.wf, trivial⟩, fun v n => ⟨u v n, g.us _ _, f.us _ _, trivial⟩, by rw [dep_mk]; simp [maxl]; omega, by rw [nd_mk]; simp; omega⟩,
    ⟨⟨w, f.wf, g.wf, trivial⟩, fun v n => ⟨u v n, f.us _ _, g.us _ _, trivial⟩, by rw [dep_mk]; simp [maxl]; omega, by rw [nd_mk]; simp; omega⟩⟩
section
variable {P : Program} {w : World} {K : PySem.W.Frag} {mg : Str → Option Value} {base : Heap}
def sp_tower (K : PySem.W.Frag) : Sp := fun vs H Q _ => ∃ (d w0 nl kl : Addr) (many : Nat) (names : List Str) (known : List (Str × Int)), vs = [.ref d, .ref w0, .int (many : Int)] ∧ many ≤ 15 ∧ Wd K H d w0 nl kl names known ∧ names.length = 4 ∧ (∀ n ∈ names, Name n) ∧
  ∀ r H' t, Ext [d] H H' → Dr H' d → Rp K H' (enc t) r → Twr many t → Q r H'
theorem sc_law_tower : FnScope ["_law_draws", "_law_world_here", "_law_many", "_law_term", "_law_opens", "_law_k", "_law_choice", "_law_atom_here", "_law_wrapped"] ["_law_draws", "_law_world_here", "_law_many"] (defScope s_law_tower) := ⟨rfl, rfl, rfl, by decide +kernel, rfl, by decide +kernel, by decide +kernel⟩
theorem ok_law_tower (T : Tx w K mg) : Cal P w K mg base "_law_tower" 2 ["_law_draws", "_law_world_here", "_law_many"] (sp_tower K) := by
  have C_law_draw := ok_law_draw T (P := P) (base := base)
  refine Cal.of T.f_law_tower T.g__law_tower sc_law_tower (fun _ _ _ _ _ _ us hl => match us, hl with | [_, _, _], _ => rfl) (fun vs H Q E h => ?_) (fun f cdv A outer s H vs Q E hr h => ?_)
  · obtain ⟨d, w0, nl, kl, many, names, known, rfl, _⟩ := h; rfl
  obtain ⟨d, w0, nl, kl, many, names, known, rfl, m15, wd, n4, nn, q⟩ := h
  refine ⟨_, pss_cons (ps_set (i := 3) sc_law_tower.nd rfl (Or.inl rfl) (pe_tup (pa_cons (pe_str) (pa_cons (pe_cal C_law_draw (hr.mono (by omega)) rfl (pa_cons (pv 0) (pa_cons (pe_int) pa_nil))) pa_nil))))
    (pss_cons (ps_set (i := 4) sc_law_tower.nd rfl (Or.inl rfl) (pe_int))
    (pss_cons (ps_for PassesOwn.never rfl (pi_range1 rfl T.n_range (pa_cons (pv 2) pa_nil)) (pg_name (i := 5) sc_law_tower.nd rfl (Or.inl rfl))
    (pss_cons (ps_set (i := 6) sc_law_tower.nd rfl (Or.inl rfl) (pe_cal C_law_draw (hr.mono (by omega)) rfl (pa_cons (pv 0) (pa_cons (pe_int) pa_nil))))
      (pss_cons (ps_set (i := 7) sc_law_tower.nd rfl (Or.inl rfl) (pe_tup (pa_cons (pe_str) (pa_cons (pe_cal C_law_draw (hr.mono (by omega)) rfl (pa_cons (pv 0) (pa_cons (pe_int) pa_nil))) pa_nil))))
      (pss_one (ps_if (PW.pt (pw_or (pt_cmpR op_lt (pv 6) (pe_int) (nomark _)) (pw_or1 (pt_cmpR op_ge (pv 4) (pe_int) (nomark _)))))
      (pss_one (ps_set (i := 3) sc_law_tower.nd rfl (Or.inl rfl) (pe_tup (pa_cons (pe_str) (pa_cons (pe_ix ix_list (pe_lst (pa_cons (pe_str) (pa_cons (pe_str) pa_nil))) (pe_cal C_law_draw (hr.mono (by omega)) rfl (pa_cons (pv 0) (pa_cons (pe_int) pa_nil))) (fun _ _ => rfl)) (pa_cons (pv 3) (pa_cons (pv 7) pa_nil)))))))
      (pss_cons (ps_set (i := 4) sc_law_tower.nd rfl (Or.inl rfl) (pe_op op_add (pv 4) (pe_int)))
        (pss_cons (ps_set (i := 8) sc_law_tower.nd rfl (Or.inl rfl) (pe_lst (pa_cons (pe_tup (pa_cons (pe_str) (pa_cons (pv 3) pa_nil))) (pa_cons (pe_tup (pa_cons (pe_str) (pa_cons (pv 7) (pa_cons (pv 3) pa_nil)))) (pa_cons (pe_tup (pa_cons (pe_str) (pa_cons (pe_tup (pa_cons (pv 7) (pa_cons (pv 3) pa_nil))) pa_nil))) (pa_cons (pe_tup (pa_cons (pe_str) (pa_cons (pe_ix ix_list (pe_ix ix_list (pv 1) (pe_int) (fun _ _ => rfl)) (pe_int) (fun _ _ => rfl)) (pa_cons (pv 3) (pa_cons (pv 7) pa_nil))))) pa_nil))))))
        (pss_one (ps_set (i := 3) sc_law_tower.nd rfl (Or.inl rfl) (pe_ix ix_list (pv 8) (pe_op op_sub (pv 6) (pe_int)) (fun _ _ => rfl)))))))))))
    (pss_one (ps_ret (pv 3))))), ?_⟩
  refine ⟨_, rfl, d, 10, rfl, wd.dr, by decide, fun n1 H1 e1 hd1 hn1 => ⟨by show 2 ≤ sizeLine; decide, fun t1 ht1 => ?_⟩⟩
  have eA := Ext.new (ms := []) (o := .tup [.str (K13.o "number"), .int (n1 : Int)]) ht1
  refine ⟨_, rfl, (many : Int), rfl, by omega, by omega, ?_⟩
  rw [show ((many : Int)).toNat = many by omega]
  refine for_range (fun k σ H' => Ext [d] H H' ∧ Wd K H' d w0 nl kl names known ∧ ∃ (t : Tm) (r : V) (op : Int) (x5 x6 x7 x8 : Option V), Rp K H' (enc t) r ∧ Twr k t ∧ σ = [some (.ref d), some (.ref w0), some (.int (many : Int)), some r, some (.int op), x5, x6, x7, x8])
    ⟨e1.trans eA.nil, (wd.draw e1 hd1).ex0 eA, .mk 0 (.num n1) [], _, 0, none, none, none, none, ⟨t1, _, rfl, SqT.of upd_same, _, _, rfl, rfl, _, _, rfl, rfl, rfl⟩, Twr.num (by omega) 0, rfl⟩ (fun k σ H' lk pv => ?_) (fun σ H' pv => ?_)
  · obtain ⟨pe, w1, t, r, op, x5, x6, x7, x8, rr, g, rfl⟩ := pv
    refine ⟨_, rfl, d, 9, rfl, w1.dr, by decide, fun c H2 e2 hd2 hc => ?_⟩
    have w2 := w1.draw e2 hd2
    refine ⟨_, rfl, d, 1000, rfl, w2.dr, by decide, fun n3 H3 e3 hd3 hn3 => ⟨by show 2 ≤ sizeLine; decide, fun t3 ht3 => ?_⟩⟩
    have w3 := w2.draw e3 hd3
    have eB := Ext.new (ms := []) (o := .tup [.str (K13.o "number"), .int (n3 : Int)]) ht3
    have w4 := w3.ex0 eB
    have x4 : Ext [d] H' (upd H3 t3 (.tup [.str (K13.o "number"), .int (n3 : Int)])) := (e2.trans e3).trans eB.nil
    have r4 := rr.ext x4 w1.dr.not
    have a4 : Rp K (upd H3 t3 (.tup [.str (K13.o "number"), .int (n3 : Int)])) (enc (.mk 0 (.num n3) [])) (.ref t3) := ⟨t3, _, rfl, SqT.of upd_same, _, _, rfl, rfl, _, _, rfl, rfl, rfl⟩
    have ga : Twr 0 (.mk 0 (.num (n3 : Int)) []) := Twr.num (by omega) 0
    generalize upd H3 t3 (HO.tup [.str (K13.o "number"), .int (n3 : Int)]) = H4 at w4 x4 r4 a4 ⊢
    have chain : ∀ y6 y7 y8 : Option V, tAsg (tTup (tCons (tC (.str (K13.o "binary"))) (tCons (tOp (rIxL K) (tLst (tCons (tC (.str (K13.o "+"))) (tCons (tC (.str (K13.o "-"))) tNil))) (tCal sp_draw (tCons (tVar 0) (tCons (tC (.int 2)) tNil)))) (tCons (tVar 3) (tCons (tVar 7) tNil))))) (gName 3) { nx := fun σ H' => Ext [d] H H' ∧ Wd K H' d w0 nl kl names known ∧ ∃ (t : Tm) (r : V) (op : Int) (x5 x6 x7 x8 : Option V), Rp K H' (enc t) r ∧ Twr (k + 1) t ∧ σ = [some (.ref d), some (.ref w0), some (.int (many : Int)), some r, some (.int op), x5, x6, x7, x8], rt := fun _ _ => True } [some (.ref d), some (.ref w0), some (.int (many : Int)), some r, some (.int op), y6, y7, some (.ref t3), y8] H4 := by
      intro y6 y7 y8
      refine ⟨by show 2 ≤ sizeLine; decide, fun l5 hl5 => ?_⟩
      have e5 := Ext.new (ms := []) (o := .lst [.str (K13.o "+"), .str (K13.o "-")]) hl5
      have w5 := w4.ex0 e5
      obtain ⟨n5, _⟩ := w4.off hl5
      refine ⟨_, rfl, d, 2, rfl, w5.dr, by decide, fun i6 H6 e6 hd6 hi6 => ?_⟩
      obtain ⟨sg, hsg, hm⟩ : ∃ s, atI [V.str (K13.o "+"), V.str (K13.o "-")] (i6 : Int) = some (.str s) ∧ s ∈ signs := by
        match i6, hi6 with
        | 0, _ => exact ⟨_, rfl, by decide +kernel⟩
        | 1, _ => exact ⟨_, rfl, by decide +kernel⟩
        | i + 2, h => omega
      have w6 := w5.draw e6 hd6
      refine ⟨l5, _, _, _, rfl, rfl, SqL.of (e6 _ _ upd_same (by simpa using n5)), hsg, _, rfl, _, rfl, by show 4 ≤ sizeLine; decide, fun pt hpt => ?_⟩
      have e7 := Ext.new (ms := []) (o := .tup [.str (K13.o "binary"), .str sg, r, .ref t3]) hpt
      refine ⟨((pe.trans x4).trans e5.nil).trans (e6.trans e7.nil), w6.ex0 e7, .mk 0 (.bin sg) [t, .mk 0 (.num n3) []], .ref pt, op, _, _, _, _, ?_, (g.bi (h := .bin sg) ga ⟨rfl, hm⟩ fun _ _ => trivial).1, rfl⟩
      exact ⟨pt, _, rfl, SqT.of upd_same, _, _, rfl, rfl, _, _, rfl, rfl, _, _, rfl, ((r4.ex0 e5).ext e6 w5.dr.not).ex0 e7, _, _, rfl, ((a4.ex0 e5).ext e6 w5.dr.not).ex0 e7, rfl⟩
    refine ⟨_, rfl, _, _, rfl, rfl, _, rfl, ite2 (fun _ => iteT (chain _ _ _)) fun z1 => ?_⟩
    refine ⟨_, rfl, _, _, rfl, rfl, _, rfl, ite2 (fun _ => chain _ _ _) fun z2 => ?_⟩
    have c5 : 5 ≤ c := by
      have : ¬ (c : Int) < 5 := fun h => z1 (decide_eq_true h)
      omega
    refine ⟨_, rfl, _, _, rfl, rfl, ?_⟩
    refine ⟨_, rfl, by show 2 ≤ sizeLine; decide, fun p1 hp1 => ?_⟩
    have f1 := Ext.new (ms := []) (o := .tup [.str (K13.o "minus"), r]) hp1
    refine ⟨_, rfl, _, rfl, by show 3 ≤ sizeLine; decide, fun p2 hp2 => ?_⟩
    have f2 := Ext.new (ms := []) (o := .tup [.str (K13.o "pair"), .ref t3, r]) hp2
    refine ⟨_, rfl, _, rfl, by show 2 ≤ sizeLine; decide, fun p3 hp3 => ?_⟩
    have f3 := Ext.new (ms := []) (o := .tup [.ref t3, r]) hp3
    refine ⟨by show 2 ≤ sizeLine; decide, fun p4 hp4 => ?_⟩
    have f4 := Ext.new (ms := []) (o := .tup [.str (K13.o "list"), .ref p3]) hp4
    have w5 := (((w4.ex0 f1).ex0 f2).ex0 f3).ex0 f4
    obtain ⟨room, hw5⟩ := w5.wl
    obtain ⟨nm, hnm⟩ : ∃ v, names[0]? = some v := ⟨_, List.getElem?_eq_getElem (by omega)⟩
    have hnv : atI (names.map V.str) 0 = some (.str nm) := atI_nat (j := 0) (by rw [List.getElem?_map, hnm]; rfl)
    refine ⟨_, rfl, w0, _, _, _, rfl, rfl, SqL.of hw5, a2, nl, _, _, _, rfl, rfl, SqL.of w5.nm, hnv, _, rfl, _, rfl, by show 4 ≤ sizeLine; decide, fun p5 hp5 => ?_⟩
    have f5 := Ext.new (ms := []) (o := .tup [.str (K13.o "let"), .str nm, r, .ref t3]) hp5
    refine ⟨by show 4 ≤ sizeLine; decide, fun p6 hp6 => ?_⟩
    have f6 := Ext.new (ms := []) (o := .lst [.ref p1, .ref p2, .ref p4, .ref p5]) hp6
    have q1 := (f2.trans (f3.trans (f4.trans (f5.trans f6)))).tup (K := K) .nil (SqT.of (K := K) (H := upd H4 p1 (.tup [.str (K13.o "minus"), r])) upd_same)
    have q2 := (f3.trans (f4.trans (f5.trans f6))).tup (K := K) .nil (SqT.of (K := K) (H := upd (upd H4 p1 (.tup [.str (K13.o "minus"), r])) p2 (.tup [.str (K13.o "pair"), .ref t3, r])) upd_same)
    have q3 := (f4.trans (f5.trans f6)).tup (K := K) .nil (SqT.of (K := K) (H := upd (upd (upd H4 p1 (.tup [.str (K13.o "minus"), r])) p2 (.tup [.str (K13.o "pair"), .ref t3, r])) p3 (.tup [.ref t3, r])) upd_same)
    have q4 := (f5.trans f6).tup (K := K) .nil (SqT.of (K := K) (H := upd (upd (upd (upd H4 p1 (.tup [.str (K13.o "minus"), r])) p2 (.tup [.str (K13.o "pair"), .ref t3, r])) p3 (.tup [.ref t3, r])) p4 (.tup [.str (K13.o "list"), .ref p3])) upd_same)
    have q5 := f6.tup (K := K) .nil (SqT.of (K := K) (H := upd (upd (upd (upd (upd H4 p1 (.tup [.str (K13.o "minus"), r])) p2 (.tup [.str (K13.o "pair"), .ref t3, r])) p3 (.tup [.ref t3, r])) p4 (.tup [.str (K13.o "list"), .ref p3])) p5 (.tup [.str (K13.o "let"), .str nm, r, .ref t3])) upd_same)
    have ff := ((((f1.trans f2).trans f3).trans f4).trans f5).trans f6
    have r9 := r4.ex0 ff
    have a9 := a4.ex0 ff
    have w9 := w4.ex0 ff
    have hl6 := SqL.of (K := K) (a := p6) (xs := [.ref p1, .ref p2, .ref p4, .ref p5]) (H := upd (upd (upd (upd (upd (upd H4 p1 (.tup [.str (K13.o "minus"), r])) p2 (.tup [.str (K13.o "pair"), .ref t3, r])) p3 (.tup [.ref t3, r])) p4 (.tup [.str (K13.o "list"), .ref p3])) p5 (.tup [.str (K13.o "let"), .str nm, r, .ref t3])) p6 (.lst [.ref p1, .ref p2, .ref p4, .ref p5])) upd_same
    generalize upd _ p6 (HO.lst [.ref p1, .ref p2, .ref p4, .ref p5]) = HF at q1 q2 q3 q4 q5 ff r9 a9 w9 hl6 ⊢
    obtain ⟨v, t', hv, rv, gv⟩ : ∃ v t', atI [V.ref p1, V.ref p2, V.ref p4, V.ref p5] ((c : Int) - 5) = some v ∧ Rp K HF (enc t') v ∧ Twr (k + 1) t' := by
      have cc : c = 5 ∨ c = 6 ∨ c = 7 ∨ c = 8 := by omega
      rcases cc with rfl | rfl | rfl | rfl
      · exact ⟨.ref p1, .mk 0 .minus [t], rfl, ⟨p1, _, rfl, q1, _, _, rfl, rfl, _, _, rfl, r9, rfl⟩, g.un (h := .minus) rfl fun _ _ => trivial⟩
      · exact ⟨.ref p2, .mk 0 .pair [.mk 0 (.num n3) [], t], rfl, ⟨p2, _, rfl, q2, _, _, rfl, rfl, _, _, rfl, a9, _, _, rfl, r9, rfl⟩, (g.bi (h := .pair) ga rfl fun _ _ => trivial).2⟩
      · exact ⟨.ref p4, .mk 0 .list [.mk 0 (.num n3) [], t], rfl, ⟨p4, _, rfl, q4, _, _, rfl, rfl, _, _, rfl, ⟨p3, _, rfl, q3, _, _, rfl, a9, _, _, rfl, r9, rfl⟩, rfl⟩, (g.bi (h := .list) ga (show 2 ≤ 8 by omega) fun _ _ => trivial).2⟩
      · exact ⟨.ref p5, .mk 0 (.let_ nm) [t, .mk 0 (.num n3) []], rfl, ⟨p5, _, rfl, q5, _, _, rfl, rfl, _, _, rfl, rfl, _, _, rfl, r9, _, _, rfl, a9, rfl⟩, (g.bi (h := .let_ nm) ga ⟨rfl, nn nm (mem_at hnm)⟩ fun _ _ => trivial).1⟩
    exact ⟨_, rfl, _, rfl, _, _, rfl, rfl, p6, _, _, v, rfl, rfl, hl6, hv, (pe.trans x4).trans ff.nil, w9, t', v, op + 1, _, _, _, _, rv, gv, rfl⟩
  · obtain ⟨pe, w1, t, r, op, x5, x6, x7, x8, rr, g, rfl⟩ := pv
    exact ⟨_, rfl, q r H' t pe w1.dr rr g⟩
end
end K13

/-! M4: a term with its brackets: those that are needed, and some more -/
namespace K13
open PySem L2
mutual
/-- e is t with the brackets that the least level asks for, and x more in all -/
def Dc : Nat → Nat → Tm → Tm → Prop
  | l, x, .mk _ h cs, e => ∃ p cs' y z, e = .mk p h cs' ∧ x = y + z ∧ p = (if h.lv < l then 1 else 0) + y ∧ Dcs h.least 0 z cs cs'
def Dcs : (Nat → Nat) → Nat → Nat → List Tm → List Tm → Prop
  | _, _, x, [], es => x = 0 ∧ es = []
  | f, i, x, c :: r, es => ∃ c' r' y z, es = c' :: r' ∧ x = y + z ∧ Dc (f i) y c c' ∧ Dcs f (i + 1) z r r'
end
theorem Dcs.length : ∀ {f : Nat → Nat} {i x : Nat} {cs es : List Tm}, Dcs f i x cs es → es.length = cs.length
  | f, i, x, [], es, h => by rw [Dcs] at h; rw [h.2]
  | f, i, x, c :: r, es, h => by
    rw [Dcs] at h
    obtain ⟨c', r', y, z, rfl, _, _, h⟩ := h
    simp [Dcs.length h]
/-- each part goes with its own -/
theorem Dcs.at_ : ∀ {f : Nat → Nat} {i x : Nat} {cs es : List Tm}, Dcs f i x cs es → ∀ j e, es[j]? = some e → ∃ c y, cs[j]? = some c ∧ y ≤ x ∧ Dc (f (i + j)) y c e
  | f, i, x, [], es, h, j, e, he => by rw [Dcs] at h; rw [h.2] at he; simp at he
  | f, i, x, c :: r, es, h, j, e, he => by
    rw [Dcs] at h
    obtain ⟨c', r', y, z, rfl, hx, h1, h2⟩ := h
    cases j with
    | zero =>
      have : c' = e := by simpa using he
      subst this
      exact ⟨c, y, rfl, by omega, h1⟩
    | succ j =>
      obtain ⟨c2, y2, a, b, d⟩ := h2.at_ j e (by simpa using he)
      exact ⟨c2, y2, by simpa using a, by omega, by rw [show i + (j + 1) = i + 1 + j by omega]; exact d⟩
/-- a sum over the parts -/
theorem Dcs.sum : ∀ {f : Nat → Nat} {i x : Nat} {cs es : List Tm} {F G : Tm → Nat}, Dcs f i x cs es → (∀ c ∈ cs, ∀ l y e, Dc l y c e → F e ≤ G c + 2 * y) → (es.map F).sum ≤ (cs.map G).sum + 2 * x
  | f, i, x, [], es, F, G, h, k => by rw [Dcs] at h; rw [h.2]; simp
  | f, i, x, c :: r, es, F, G, h, k => by
    rw [Dcs] at h
    obtain ⟨c', r', y, z, rfl, hx, h1, h2⟩ := h
    have a := k c (by simp) _ _ _ h1
    have b := h2.sum (F := F) (G := G) fun c hc => k c (by simp [hc])
    simp only [List.map_cons, List.sum_cons]
    omega
theorem Dcs.max : ∀ {f : Nat → Nat} {i x m : Nat} {cs es : List Tm} {F : Tm → Nat}, Dcs f i x cs es → (∀ j c, cs[j]? = some c → ∀ y e, Dc (f (i + j)) y c e → F e ≤ m + y) → maxl (es.map F) ≤ m + x
  | f, i, x, m, [], es, F, h, k => by rw [Dcs] at h; rw [h.2]; simp [maxl]
  | f, i, x, m, c :: r, es, F, h, k => by
    rw [Dcs] at h
    obtain ⟨c', r', y, z, rfl, hx, h1, h2⟩ := h
    have a := k 0 c (by simp) _ _ h1
    have b := h2.max (m := m) (F := F) fun j c hc y e he => k (j + 1) c (by simpa using hc) y e (by rw [show i + (j + 1) = i + 1 + j by omega]; exact he)
    simp only [List.map_cons, maxl]
    omega
theorem Dc.mk_ {l x p q y z : Nat} {h : Hd} {cs es : List Tm} (hx : x = y + z) (hp : p = (if h.lv < l then 1 else 0) + y) (hc : Dcs h.least 0 z cs es) : Dc l x (.mk q h cs) (.mk p h es) := by
  rw [Dc]
  exact ⟨p, es, y, z, rfl, hx, hp, hc⟩
theorem map_eq {α β : Type} {f : α → β} {g : α → β} : ∀ {as bs : List α}, as.length = bs.length → (∀ (j : Nat) a b, as[j]? = some a → bs[j]? = some b → f a = g b) → as.map f = bs.map g
  | [], [], _, _ => rfl
  | a :: r, b :: s, hl, k => by
    rw [List.map_cons, List.map_cons, k 0 a b rfl rfl, map_eq (as := r) (bs := s) (by simpa using hl) fun j a b h1 h2 => k (j + 1) a b (by simpa using h1) (by simpa using h2)]
theorem Dcs.pair {f : Nat → Nat} {i x : Nat} {cs es : List Tm} (d : Dcs f i x cs es) {j : Nat} {e c : Tm} (he : es[j]? = some e) (hc : cs[j]? = some c) : ∃ y, y ≤ x ∧ Dc (f (i + j)) y c e := by
  obtain ⟨c2, y, h1, h2, h3⟩ := d.at_ j e he
  rw [hc] at h1
  cases Option.some.inj h1
  exact ⟨y, h2, h3⟩
theorem Dc.enc : ∀ {t : Tm} {l x : Nat} {e : Tm}, Dc l x t e → K13.enc e = K13.enc t := by
  refine fun {t} => Tm.ind (P := fun t => ∀ {l x e}, Dc l x t e → K13.enc e = K13.enc t) (fun q h cs ih l x e d => ?_) t
  rw [Dc] at d
  obtain ⟨p, es, y, z, rfl, _, _, d⟩ := d
  rw [enc_mk, enc_mk, map_eq (f := K13.enc) (g := K13.enc) d.length fun j a b ha hb => ?_]
  obtain ⟨y, _, hd⟩ := d.pair ha hb
  exact ih b (mem_at hb) hd
theorem Dc.hd {t e : Tm} {l x : Nat} (d : Dc l x t e) : e.h = t.h := by
  obtain ⟨q, h, cs⟩ := t
  rw [Dc] at d
  obtain ⟨p, es, y, z, rfl, _⟩ := d
  rfl
theorem Dc.dep : ∀ {t : Tm} {l x : Nat} {e : Tm}, Dc l x t e → K13.dep e = K13.dep t := by
  refine fun {t} => Tm.ind (P := fun t => ∀ {l x e}, Dc l x t e → K13.dep e = K13.dep t) (fun q h cs ih l x e d => ?_) t
  rw [Dc] at d
  obtain ⟨p, es, y, z, rfl, _, _, d⟩ := d
  rw [dep_mk, dep_mk, map_eq (f := K13.dep) (g := K13.dep) d.length fun j a b ha hb => ?_]
  obtain ⟨y, _, hd⟩ := d.pair ha hb
  exact ih b (mem_at hb) hd
theorem Dc.wf : ∀ {t : Tm} {l x : Nat} {e : Tm}, Dc l x t e → Wf t → Wf e := by
  refine fun {t} => Tm.ind (P := fun t => ∀ {l x e}, Dc l x t e → Wf t → Wf e) (fun q h cs ih l x e d w => ?_) t
  rw [Dc] at d
  obtain ⟨p, es, y, z, rfl, _, _, d⟩ := d
  refine ⟨by rw [d.length]; exact w.1, wfs_iff.mpr fun c hc => ?_⟩
  obtain ⟨j, hj⟩ := List.mem_iff_getElem?.mp hc
  obtain ⟨c2, y, h1, _, h3⟩ := d.at_ j c hj
  exact ih c2 (mem_at h1) h3 (w.sub (mem_at h1))
theorem Dc.us : ∀ {t : Tm} {l x : Nat} {e : Tm} {vars : List Str} {known : List (Str × Int)}, Dc l x t e → Us vars known t → Us vars known e := by
  refine fun {t} => Tm.ind (P := fun t => ∀ {l x e vars known}, Dc l x t e → Us vars known t → Us vars known e) (fun q h cs ih l x e vars known d u => ?_) t
  rw [Dc] at d
  obtain ⟨p, es, y, z, rfl, _, _, d⟩ := d
  refine ⟨by rw [d.length]; exact u.1, uss_iff.mpr fun j c hc => ?_⟩
  obtain ⟨c2, y, h1, _, h3⟩ := d.at_ j c hc
  exact ih c2 (mem_at h1) h3 (uss_iff.mp u.2 j c2 h1)
theorem least7 (h : Hd) (i : Nat) : h.least i ≤ 7 := by
  cases h <;> simp only [Hd.least] <;> try omega
  rename_i s
  have := (lvS_pos s).2
  repeat' split
  all_goals omega
theorem Dc.ok : ∀ {t : Tm} {l x : Nat} {e : Tm}, Dc l x t e → l ≤ 7 → Okd e ∧ l ≤ e.el := by
  refine fun {t} => Tm.ind (P := fun t => ∀ {l x e}, Dc l x t e → l ≤ 7 → Okd e ∧ l ≤ e.el) (fun q h cs ih l x e d l7 => ?_) t
  rw [Dc] at d
  obtain ⟨p, es, y, z, rfl, _, hp, d⟩ := d
  refine ⟨?_, ?_⟩
  · rw [Okd]
    refine ⟨fun i c hc => ?_, okds_iff.mpr fun c hc => ?_⟩
    · obtain ⟨c2, y, h1, _, h3⟩ := d.at_ i c hc
      rw [Nat.zero_add] at h3
      exact (ih c2 (mem_at h1) h3 (least7 h i)).2
    · obtain ⟨j, hj⟩ := List.mem_iff_getElem?.mp hc
      obtain ⟨c2, y, h1, _, h3⟩ := d.at_ j c hj
      exact (ih c2 (mem_at h1) h3 (least7 h _)).1
  · show l ≤ if p = 0 then h.lv else 7
    split
    · rename_i hp0
      by_cases hl : h.lv < l
      · rw [if_pos hl] at hp; omega
      · omega
    · exact l7
/-! ### how many tokens -/
theorem sepc_len : ∀ rs : List (List Str), (sepc rs).length ≤ (rs.map fun r => r.length + 1).sum
  | [] => by simp [sepc]
  | [r] => by simp [sepc]
  | r :: s :: q => by
    have := sepc_len (s :: q)
    simp only [sepc, List.length_append, List.length_cons, List.map_cons, List.sum_cons] at this ⊢
    omega
theorem wrap_len : ∀ (p : Nat) (r : List Str), (wrap p r).length = r.length + 2 * p
  | 0, r => rfl
  | p + 1, r => by rw [wrap, List.length_cons, List.length_append, wrap_len p r]; simp; omega
theorem bare_len {h : Hd} {rs : List (List Str)} (w : h.Wf rs.length) : (h.bare rs).length ≤ 6 + (rs.map fun r => r.length + 1).sum := by
  have hs := sepc_len rs
  cases h <;> simp only [Hd.Wf] at w <;> simp only [Hd.bare, List.length_cons, List.length_append, List.length_nil]
  all_goals try omega
  · obtain ⟨a, rfl⟩ := len1 w; simp <;> omega
  · obtain ⟨a, rfl⟩ := len1 w; simp <;> omega
  · obtain ⟨a, b, rfl⟩ := len2 w.1; simp <;> omega
  · obtain ⟨a, b, rfl⟩ := len2 w.1; simp <;> omega
  · obtain ⟨a, b, c, rfl⟩ := len3 w; simp <;> omega
  · obtain ⟨a, b, c, rfl⟩ := len3 w.1; simp <;> omega
  · obtain ⟨a, b, rfl⟩ := len2 w; simp <;> omega
theorem Dc.len : ∀ {t : Tm} {l x : Nat} {e : Tm}, Dc l x t e → Wf t → (tk e).length + 1 ≤ 9 * K13.nd t + 2 * x := by
  refine fun {t} => Tm.ind (P := fun t => ∀ {l x e}, Dc l x t e → Wf t → (tk e).length + 1 ≤ 9 * K13.nd t + 2 * x) (fun q h cs ih l x e d w => ?_) t
  rw [Dc] at d
  obtain ⟨p, es, y, z, rfl, hx, hp, d⟩ := d
  have wb : h.Wf (es.map tk).length := by rw [List.length_map, d.length]; exact w.1
  have hb := bare_len wb
  have hs := d.sum (F := fun e => (tk e).length + 1) (G := fun c => 9 * K13.nd c) fun c hc l y e hd => ih c hc hd (w.sub hc)
  rw [tk_mk, wrap_len, nd_mk]
  rw [List.map_map] at hb
  have e1 : (es.map ((fun r : List Str => r.length + 1) ∘ tk)).sum = (es.map fun e => (tk e).length + 1).sum := rfl
  have e2 : (cs.map fun c => 9 * K13.nd c).sum = 9 * (cs.map K13.nd).sum := by
    clear ih hs hb wb d w e1
    induction cs with
    | nil => rfl
    | cons c r ih => simp only [List.map_cons, List.sum_cons]; rw [ih]; omega
  rw [e1] at hb
  rw [e2] at hs
  have : p ≤ 1 + y := by rw [hp]; split <;> omega
  omega
/-! ### how deep it opens -/
def Hd.want : Hd → Nat
  | .bin s => lvS s + 1
  | .minus => 6 | .not_ => 6
  | _ => 0
theorem least_want (h : Hd) (i : Nat) : h.least i ≤ h.want := by
  cases h <;> simp only [Hd.least, Hd.want] <;> try omega
  repeat' split
  all_goals omega
mutual
/-- how many constructs are open at once, as the law counts them -/
def opd : Nat → Tm → Nat
  | l, .mk _ h cs => (if h.lv < l then 1 else 0) + h.opn + opds h.want cs
def opds : Nat → List Tm → Nat
  | _, [] => 0
  | l, t :: r => max (opd l t) (opds l r)
end
theorem opds_map (l : Nat) : ∀ cs : List Tm, opds l cs = maxl (cs.map (opd l))
  | [] => by rw [opds]; rfl
  | t :: r => by rw [opds, opds_map l r, List.map_cons, maxl]
theorem opd_mk (l p : Nat) (h : Hd) (cs : List Tm) : opd l (.mk p h cs) = (if h.lv < l then 1 else 0) + h.opn + maxl (cs.map (opd h.want)) := by rw [opd, opds_map]
theorem opd_mono {l m : Nat} (h : l ≤ m) (t : Tm) : opd l t ≤ opd m t := by
  obtain ⟨p, hd, cs⟩ := t
  rw [opd_mk, opd_mk]
  have : (if hd.lv < l then 1 else 0) ≤ (if hd.lv < m then 1 else 0) := by split <;> split <;> omega
  omega
theorem Dc.nest : ∀ {t : Tm} {l x : Nat} {e : Tm}, Dc l x t e → K13.nest e ≤ opd l t + x := by
  refine fun {t} => Tm.ind (P := fun t => ∀ {l x e}, Dc l x t e → K13.nest e ≤ opd l t + x) (fun q h cs ih l x e d => ?_) t
  rw [Dc] at d
  obtain ⟨p, es, y, z, rfl, hx, hp, d⟩ := d
  have hm := d.max (m := maxl (cs.map (opd h.want))) (F := K13.nest) fun j c hc y e hd => by
    have := ih c (mem_at hc) hd
    have h2 := opd_mono (least_want h (0 + j)) c
    have h3 : opd h.want c ≤ maxl (cs.map (opd h.want)) := le_maxl (List.mem_map_of_mem (mem_at hc))
    omega
  rw [nest_mk, opd_mk]
  omega
/-! ### with no more brackets than needed -/
mutual
def mn : Nat → Tm → Tm
  | l, .mk _ h cs => .mk (if h.lv < l then 1 else 0) h (mns h.least 0 cs)
def mns : (Nat → Nat) → Nat → List Tm → List Tm
  | _, _, [] => []
  | f, i, c :: r => mn (f i) c :: mns f (i + 1) r
end
mutual
theorem Dc.least_ : ∀ {t : Tm} {l : Nat} {e : Tm}, Dc l 0 t e → e = mn l t
  | .mk q h cs, l, e, d => by
    rw [Dc] at d
    obtain ⟨p, es, y, z, rfl, hx, hp, d⟩ := d
    obtain ⟨rfl, rfl⟩ : y = 0 ∧ z = 0 := by omega
    rw [mn, hp, Dcs.least_ d]
    rfl
theorem Dcs.least_ : ∀ {cs : List Tm} {f : Nat → Nat} {i : Nat} {es : List Tm}, Dcs f i 0 cs es → es = mns f i cs
  | [], f, i, es, d => by rw [Dcs] at d; rw [d.2, mns]
  | c :: r, f, i, es, d => by
    rw [Dcs] at d
    obtain ⟨c', r', y, z, rfl, hx, h1, h2⟩ := d
    obtain ⟨rfl, rfl⟩ : y = 0 ∧ z = 0 := by omega
    rw [mns, Dc.least_ h1, Dcs.least_ h2]
end
mutual
theorem mn_Dc : ∀ (t : Tm) (l : Nat), Dc l 0 t (mn l t)
  | .mk q h cs, l => by
    rw [mn, Dc]
    exact ⟨_, _, 0, 0, rfl, rfl, rfl, mns_Dcs cs h.least 0⟩
theorem mns_Dcs : ∀ (cs : List Tm) (f : Nat → Nat) (i : Nat), Dcs f i 0 cs (mns f i cs)
  | [], f, i => by rw [mns, Dcs]; exact ⟨rfl, rfl⟩
  | c :: r, f, i => by
    rw [mns, Dcs]
    exact ⟨_, _, 0, 0, rfl, rfl, mn_Dc c (f i), mns_Dcs r f (i + 1)⟩
end
/-- x more pairs of brackets are 2x more tokens -/
theorem sepc_len2 : ∀ rs : List (List Str), (sepc rs).length + (if rs = [] then 0 else 1) = (rs.map fun r => r.length + 1).sum
  | [] => by simp [sepc]
  | [r] => by simp [sepc]
  | r :: s :: q => by
    have := sepc_len2 (s :: q)
    simp only [sepc, List.length_append, List.length_cons, List.map_cons, List.sum_cons, if_neg (List.cons_ne_nil _ _)] at this ⊢
    omega
theorem bare_grow {h : Hd} {as bs : List (List Str)} {x : Nat} (w : h.Wf as.length) (l : bs.length = as.length) (k : (bs.map fun r => r.length + 1).sum = (as.map fun r => r.length + 1).sum + 2 * x) : (h.bare bs).length = (h.bare as).length + 2 * x := by
  have s1 := sepc_len2 as
  have s2 := sepc_len2 bs
  have e0 : (bs = []) ↔ (as = []) := by
    rw [← List.length_eq_zero_iff, ← List.length_eq_zero_iff, l]
  have e1 : (if bs = [] then 0 else 1) = (if as = [] then 0 else 1) := by simp only [e0]
  rw [e1] at s2
  cases h <;> simp only [Hd.Wf] at w <;> simp only [Hd.bare, List.length_cons, List.length_append, List.length_nil]
  case pair => omega
  case list => omega
  case call => omega
  case minus => obtain ⟨a, rfl⟩ := len1 w; obtain ⟨b, rfl⟩ := len1 l; simp at k ⊢; omega
  case not_ => obtain ⟨a, rfl⟩ := len1 w; obtain ⟨b, rfl⟩ := len1 l; simp at k ⊢; omega
  case bin s => obtain ⟨a, b, rfl⟩ := len2 w.1; obtain ⟨c, d, rfl⟩ := len2 l; simp at k ⊢; omega
  case let_ v => obtain ⟨a, b, rfl⟩ := len2 w.1; obtain ⟨c, d, rfl⟩ := len2 l; simp at k ⊢; omega
  case ite_ => obtain ⟨a, b, c, rfl⟩ := len3 w; obtain ⟨d, e, f, rfl⟩ := len3 l; simp at k ⊢; omega
  case fold x s => obtain ⟨a, b, c, rfl⟩ := len3 w.1; obtain ⟨d, e, f, rfl⟩ := len3 l; simp at k ⊢; omega
  case note => obtain ⟨a, b, rfl⟩ := len2 w; obtain ⟨c, d, rfl⟩ := len2 l; simp at k ⊢; omega
  all_goals (first | (obtain rfl := List.eq_nil_of_length_eq_zero w) | (obtain rfl := List.eq_nil_of_length_eq_zero w.1))
  all_goals (obtain rfl := List.eq_nil_of_length_eq_zero l; simp at k; omega)
mutual
theorem Dc.grow : ∀ {t : Tm} {l x : Nat} {e : Tm}, Dc l x t e → Wf t → (tk e).length = (tk (mn l t)).length + 2 * x
  | .mk q h cs, l, x, e, d, w => by
    rw [Dc] at d
    obtain ⟨p, es, y, z, rfl, hx, hp, d⟩ := d
    have hs := Dcs.grow d fun c hc => w.sub hc
    have ls : (mns h.least 0 cs).length = cs.length := (mns_Dcs cs h.least 0).length
    have hb := bare_grow (h := h) (as := (mns h.least 0 cs).map tk) (bs := es.map tk) (x := z) (by rw [List.length_map, ls]; exact w.1) (by rw [List.length_map, List.length_map, ls, d.length]) (by rw [List.map_map, List.map_map]; exact hs)
    rw [mn, tk_mk, tk_mk, wrap_len, wrap_len, hb, hp, hx]
    omega
theorem Dcs.grow : ∀ {cs : List Tm} {f : Nat → Nat} {i x : Nat} {es : List Tm}, Dcs f i x cs es → (∀ c ∈ cs, Wf c) → (es.map fun e => (tk e).length + 1).sum = ((mns f i cs).map fun e => (tk e).length + 1).sum + 2 * x
  | [], f, i, x, es, d, w => by rw [Dcs] at d; rw [d.1, d.2, mns]; rfl
  | c :: r, f, i, x, es, d, w => by
    rw [Dcs] at d
    obtain ⟨c', r', y, z, rfl, hx, h1, h2⟩ := d
    have a := Dc.grow h1 (w c (by simp))
    have b := Dcs.grow h2 fun c hc => w c (by simp [hc])
    rw [mns, List.map_cons, List.map_cons, List.sum_cons, List.sum_cons, a, b, hx]
    omega
end
end K13

/-! L11: the law's level -/
namespace K13
open PySem PySem.Spec PyProof.Rows L2
theorem sign_ix {s : Str} (h : s ∈ signs) : ∃ j, (signs.map V.str)[j]? = some (V.str s) ∧ (∀ (m : Nat) (z : V), m < j → (signs.map V.str)[m]? = some z → eqV z (V.str s) = false) ∧ atI [V.int 1, V.int 2, V.int 3, V.int 3, V.int 3, V.int 4, V.int 4, V.int 5, V.int 5, V.int 5] (j : Int) = some (.int ((lvS s : Nat) : Int)) := by
  have h0 : ∀ s ∈ signs, ∃ j < 10, signs[j]? = some s ∧ ((signs.take j).all fun z => !(z == s)) = true ∧ ([1, 2, 3, 3, 3, 4, 4, 5, 5, 5] : List Nat)[j]? = some (lvS s) := by decide +kernel
  obtain ⟨j, hj, h1, h2, h3⟩ := h0 s h
  refine ⟨j, by rw [List.getElem?_map, h1]; rfl, fun m z hm hz => ?_, ?_⟩
  · rw [List.getElem?_map] at hz
    obtain ⟨y, hy, rfl⟩ := Option.map_eq_some_iff.mp hz
    have := List.all_eq_true.mp h2 y (List.mem_of_getElem? (i := m) (by rw [List.getElem?_take, if_pos hm, hy]))
    show (y == s) = false
    simpa using this
  · have e : [V.int 1, V.int 2, V.int 3, V.int 3, V.int 3, V.int 4, V.int 4, V.int 5, V.int 5, V.int 5] = ([1, 2, 3, 3, 3, 4, 4, 5, 5, 5] : List Nat).map fun n : Nat => V.int (n : Int) := rfl
    rw [e]
    exact atI_nat (by rw [List.getElem?_map, h3]; rfl)
section
variable {P : Program} {w : World} {K : PySem.W.Frag} {mg : Str → Option Value} {base : Heap}
def sp_lv (K : PySem.W.Frag) : Sp := fun vs H Q _ => ∃ (t : Tm) (v : V), vs = [v] ∧ Rp K H (enc t) v ∧ Wf t ∧ ∀ H', Ext [] H H' → Q (.int ((t.h.lv : Nat) : Int)) H'
theorem sc_law_level : FnScope ["_law_term", "_law_signs"] ["_law_term"] (defScope s_law_level) := ⟨rfl, rfl, rfl, by decide +kernel, rfl, by decide +kernel, by decide +kernel⟩
theorem ok_law_level (T : Tx w K mg) : Cal P w K mg base "_law_level" 1 ["_law_term"] (sp_lv K) := by
  refine Cal.of T.f_law_level T.g__law_level sc_law_level (fun _ _ _ _ _ _ us hl => match us, hl with | [_], _ => rfl) (fun vs H Q E h => ?_) (fun f cdv A outer s H vs Q E hr h => ?_)
  · obtain ⟨t, v, rfl, _⟩ := h; rfl
  obtain ⟨⟨p, h, cs⟩, v, rfl, r, wf, q⟩ := h
  refine ⟨_, pss_cons (ps_if (pt_cmpR op_eq (pe_ix ix_tup (pv 0) (pe_int) (fun _ _ => rfl)) (pe_str) (nomark _))
    (pss_cons (ps_set (i := 1) sc_law_level.nd rfl (Or.inl rfl) (pe_lst (pa_cons (pe_str) (pa_cons (pe_str) (pa_cons (pe_str) (pa_cons (pe_str) (pa_cons (pe_str) (pa_cons (pe_str) (pa_cons (pe_str) (pa_cons (pe_str) (pa_cons (pe_str) (pa_cons (pe_str) pa_nil))))))))))))
      (pss_one (ps_ret (pe_ix ix_list (pe_lst (pa_cons (pe_int) (pa_cons (pe_int) (pa_cons (pe_int) (pa_cons (pe_int) (pa_cons (pe_int) (pa_cons (pe_int) (pa_cons (pe_int) (pa_cons (pe_int) (pa_cons (pe_int) (pa_cons (pe_int) pa_nil))))))))))) (pe_bm PySem.F.plainAttrs_list PySem.F.slot_list_index PySem.F.type_list_index mt_index (pv 1) (pa_cons (pe_ix ix_tup (pv 0) (pe_int) (fun _ _ => rfl)) pa_nil)) (fun _ _ => rfl)))))
    (pss_nil))
    (pss_cons (ps_if (pt_cmpR op_in_seq (pe_ix ix_tup (pv 0) (pe_int) (fun _ _ => rfl)) (pe_lst (pa_cons (pe_str) (pa_cons (pe_str) (pa_cons (pe_str) (pa_cons (pe_str) pa_nil))))) rfl)
    (pss_one (ps_ret (pe_int)))
    (pss_nil))
    (pss_one (ps_ret (pe_op op_add (pe_int) (pe_callTy call_int1 (by rfl) T.n_int (by decide +kernel) (pa_cons ((pe_and (pe_cmpR op_ne (pe_ix ix_tup (pv 0) (pe_int) (fun _ _ => rfl)) (pe_str) (nomark _)) (pe_one (pe_cmpR op_ne (pe_ix ix_tup (pv 0) (pe_int) (fun _ _ => rfl)) (pe_str) (nomark _))))) pa_nil)))))), ?_⟩
  obtain ⟨a, vs, rfl, nd, rl, ln⟩ := node_of r
  obtain ⟨rest, hT⟩ := nd.head
  refine ⟨_, rfl, _, _, _, _, rfl, rfl, hT, a0, rfl, _, rfl, ite2 (fun c => ?_) fun c => ?_⟩
  · obtain ⟨sg, rfl⟩ := tag_bin (dec_eq c)
    obtain ⟨j, h1, h2, h3⟩ := sign_ix wf.hd.2
    refine ⟨by show 10 ≤ sizeLine; decide, fun l1 hl1 => ?_⟩
    have e1 := Ext.new (ms := []) (o := .lst (signs.map V.str)) hl1
    refine ⟨by show 10 ≤ sizeLine; decide, fun l2 hl2 => ?_⟩
    have e2 := Ext.new (ms := []) (o := .lst [.int 1, .int 2, .int 3, .int 3, .int 3, .int 4, .int 4, .int 5, .int 5, .int 5]) hl2
    have nd : SqT K H a (.str (o "binary") :: .str sg :: vs) := nd
    refine ⟨_, rfl, .inl ⟨rfl, _, SqL.of (e2 _ _ upd_same (by simp))⟩, _, rfl, _, _, _, _, rfl, rfl, (e1.trans e2).tup .nil nd, a1, l1, signs.map V.str, V.str sg, j, V.str sg, rfl, rfl, SqL.of (e2 _ _ upd_same (by simp)), rfl, by decide +kernel, h1, by show (sg == sg) = true; simp, h2, ?_⟩
    exact ⟨l2, _, _, _, rfl, rfl, SqL.of upd_same, h3, q _ (e1.trans e2)⟩
  · have nb := dec_ne c
    refine ⟨_, rfl, _, _, _, _, rfl, rfl, hT, a0, by show 4 ≤ sizeLine; decide, fun l1 hl1 => ?_⟩
    have e1 := Ext.new (ms := []) (o := .lst (([o "let", o "if", o "fold", o "note"] : List Str).map V.str)) hl1
    refine ⟨l1, _, rfl, .inl (SqL.of (xs := ([o "let", o "if", o "fold", o "note"] : List Str).map V.str) upd_same), rfl, flat_str _, _, rfl, ?_⟩
    rw [if_neg Bool.false_ne_true, inV_str]
    refine ite2 (fun c => ?_) fun c => ?_
    · have hm : h.tag ∈ ([o "let", o "if", o "fold", o "note"] : List Str) := of_decide_eq_true c
      have h0 : h.lv = 0 := by
        simp only [List.mem_cons, List.not_mem_nil, or_false] at hm
        rcases hm with e | e | e | e
        · obtain ⟨v, rfl⟩ := tag_let e; rfl
        · cases tag_if e; rfl
        · obtain ⟨x, s, rfl⟩ := tag_fold e; rfl
        · cases tag_note e; rfl
      have := q _ e1
      rw [show (Tm.mk p h cs).h.lv = 0 from h0] at this
      exact this
    · have hm : h.tag ∉ ([o "let", o "if", o "fold", o "note"] : List Str) := fun z => c (decide_eq_true z)
      have hT2 := e1.tup .nil hT
      refine ⟨_, rfl, _, _, _, _, rfl, rfl, hT2, a0, rfl, _, rfl, ?_⟩
      by_cases m1 : h.tag = o "minus"
      · cases tag_minus m1
        refine iteF (.inr ⟨_, rfl, _, _, rfl, rfl, ?_⟩)
        exact q _ e1
      · rw [show decide (V.str h.tag = V.str (Str.ofString "minus")) = false from decide_eq_false fun z => m1 (V.str.inj z)]
        refine iteT ⟨_, rfl, _, _, _, _, rfl, rfl, hT2, a0, rfl, .inr ⟨_, rfl, _, _, rfl, rfl, ?_⟩⟩
        by_cases m2 : h.tag = o "not"
        · cases tag_not m2
          exact q _ e1
        · rw [show decide (V.str h.tag = V.str (Str.ofString "not")) = false from decide_eq_false fun z => m2 (V.str.inj z)]
          have h7 : h.lv = 7 := by
            cases h <;> first | rfl | exact absurd rfl nb | exact absurd rfl m1 | exact absurd rfl m2 | exact absurd (by simp [Hd.tag]) hm
          have := q _ e1
          rw [show (Tm.mk p h cs).h.lv = 7 from h7] at this
          exact this
end
end K13

/-! L12: the law's tokens: series, simple -/
namespace K13
open PySem PySem.Spec PyProof.Rows L2
/-- the draws at d, and at q how many more brackets may come -/
structure Lo (H : Hp) (d q : Addr) (L : Nat) : Prop where
  dr : Dr H d
  lo : H q = some (.lst [.int (L : Int)])
  ne : d ≠ q
section
variable {K : PySem.W.Frag} {H H' : Hp} {d q l : Addr} {L : Nat}
theorem Lo.not (h : Lo H d q L) : NoT H [d, q] := by
  obtain ⟨xs, hd⟩ := h.dr
  exact .lst hd (.lst h.lo .nil)
theorem Lo.ex0 (h : Lo H d q L) (e : Ext [] H H') : Lo H' d q L := ⟨h.dr.ex e (by simp), e _ _ h.lo (by simp), h.ne⟩
theorem Lo.off (h : Lo H d q L) (n : H l = none) : l ≠ d ∧ l ≠ q := ⟨h.dr.off n, fun z => by subst z; rw [h.lo] at n; cases n⟩
theorem Lo.put {o : HO} (h : Lo H d q L) (n1 : l ≠ d) (n2 : l ≠ q) : Lo (upd H l o) d q L := ⟨h.dr.ex (ms := [l]) ((Ext.refl _ _).set (by simp)) (by simpa using Ne.symm n1), by rw [upd_ne (Ne.symm n2)]; exact h.lo, h.ne⟩
end
/-- a new list of tokens -/
def Toks (H : Hp) (d q : Addr) (L : Nat) (R : List Str → Nat → Prop) (Q : VK) : Prop :=
  ∀ r rows H' (L' : Nat), Ext [d, q] H H' → Lo H' d q L' → L' ≤ L → H r = none → H' r = some (.lst (rows.map V.str)) → R rows L' → Q (.ref r) H'
theorem lst_ {ts : List Str} {H : Hp} {Q : VK} (hl : ts.length ≤ 100) (q : ∀ l H', Ext [] H H' → H l = none → H' l = some (.lst (ts.map V.str)) → Q (.ref l) H') : (ts.map V.str).length ≤ sizeLine ∧ ∀ p, H p = none → Q (.ref p) (upd H p (.lst (ts.map V.str))) :=
  ⟨by rw [List.length_map]; exact small (by omega), fun p hp => q p _ (.new hp) hp upd_same⟩
theorem cat_ {as bs : List Str} {H : Hp} {Q : VK} {a b : Addr} (ha : H a = some (.lst (as.map V.str))) (hb : H b = some (.lst (bs.map V.str))) (hl : as.length + bs.length ≤ 16000000) (q : ∀ l H', Ext [] H H' → H l = none → H' l = some (.lst ((as ++ bs).map V.str)) → Q (.ref l) H') : rCat (.ref a) (.ref b) H Q :=
  ⟨a, b, _, _, rfl, rfl, ha, hb, by rw [List.length_map, List.length_map]; exact small hl, fun p hp => q p _ (.new hp) hp (by rw [upd_same, List.map_append])⟩
theorem tk_ne (t : Tm) : tk t ≠ [] := by
  obtain ⟨p, h, cs⟩ := t
  rw [tk_mk]
  cases p with
  | succ p => rw [wrap]; simp
  | zero => rw [wrap]; cases h <;> simp [Hd.bare]
theorem sepc_snoc : ∀ (rs : List (List Str)) (r : List Str), sepc (rs ++ [r]) = if rs = [] then r else sepc rs ++ o "," :: r
  | [], r => by simp [sepc]
  | [a], r => by simp [sepc]
  | a :: b :: q, r => by
    have := sepc_snoc (b :: q) r
    simp only [List.cons_append, sepc] at this ⊢
    rw [this]
    simp
theorem Dcs.snoc : ∀ {f : Nat → Nat} {i z y : Nat} {cs es : List Tm} {c e : Tm}, Dcs f i z cs es → Dc (f (i + cs.length)) y c e → Dcs f i (z + y) (cs ++ [c]) (es ++ [e])
  | f, i, z, y, [], es, c, e, d, h => by
    rw [Dcs] at d
    obtain ⟨rfl, rfl⟩ := d
    show Dcs f i (0 + y) [c] [e]
    rw [Dcs]
    refine ⟨e, [], y, 0, rfl, by omega, by simpa using h, ?_⟩
    rw [Dcs]
    exact ⟨rfl, rfl⟩
  | f, i, z, y, a :: r, es, c, e, d, h => by
    rw [Dcs] at d
    obtain ⟨c', r', y1, z1, rfl, hx, h1, h2⟩ := d
    show Dcs f i (z + y) (a :: (r ++ [c])) (c' :: (r' ++ [e]))
    rw [Dcs]
    exact ⟨c', r' ++ [e], y1, z1 + y, rfl, by omega, h1, h2.snoc (by rw [List.length_cons, show i + (r.length + 1) = i + 1 + r.length by omega] at h; exact h)⟩
theorem sum_snoc (l : List Nat) (x : Nat) : (l ++ [x]).sum = l.sum + x := by simp
/-- how long the tokens of parts are -/
theorem Dcs.slen {f : Nat → Nat} {i x : Nat} {cs es : List Tm} (d : Dcs f i x cs es) (w : ∀ c ∈ cs, Wf c) : (sepc (es.map tk)).length ≤ 9 * (cs.map nd).sum + 2 * x := by
  have h1 := sepc_len (es.map tk)
  have h2 := d.sum (F := fun e => (tk e).length + 1) (G := fun c => 9 * nd c) fun c hc l y e hd => hd.len (w c hc)
  rw [List.map_map] at h1
  have e1 : (es.map ((fun r : List Str => r.length + 1) ∘ tk)).sum = (es.map fun e => (tk e).length + 1).sum := rfl
  have e2 : ∀ cs : List Tm, (cs.map fun c => 9 * nd c).sum = 9 * (cs.map nd).sum := by
    intro cs
    induction cs with
    | nil => rfl
    | cons c r ih => simp only [List.map_cons, List.sum_cons]; rw [ih]; omega
  rw [e1] at h1
  rw [e2] at h2
  omega
section
variable {P : Program} {w : World} {K : PySem.W.Frag} {mg : Str → Option Value} {base : Heap} {n : Nat}
def sp_toks (K : PySem.W.Frag) (n : Nat) : Sp := fun vs H Q _ => ∃ (t : Tm) (v : V) (d q : Addr) (L : Nat) (least : Int) (lv : Nat), vs = [.ref d, .ref q, v, .int least] ∧ least = (lv : Int) ∧ Rp K H (enc t) v ∧ Wf t ∧ dep t ≤ n ∧ nd t ≤ 38000 ∧ Lo H d q L ∧ L ≤ 12 ∧
  Toks H d q L (fun rows L' => ∃ e x, Dc lv x t e ∧ L = L' + x ∧ rows = tk e) Q
def sp_sers (K : PySem.W.Frag) (n : Nat) : Sp := fun vs H Q _ => ∃ (cs : List Tm) (xs : List V) (a d q : Addr) (L : Nat), vs = [.ref d, .ref q, .ref a] ∧ SqT K H a xs ∧ RpL K H (cs.map enc) xs ∧ (∀ c ∈ cs, Wf c ∧ dep c ≤ n) ∧ (cs.map nd).sum ≤ 38000 ∧ Lo H d q L ∧ L ≤ 12 ∧
  Toks H d q L (fun rows L' => ∃ es z, Dcs (fun _ => 0) 0 z cs es ∧ L = L' + z ∧ rows = sepc (es.map tk)) Q
def sp_simp (K : PySem.W.Frag) (n : Nat) : Sp := fun vs H Q _ => ∃ (h : Hd) (cs : List Tm) (xs : List V) (a d q : Addr) (L : Nat), vs = [.ref d, .ref q, .ref a] ∧ Nd K H a h xs ∧ h.lv = 7 ∧ h.Wf cs.length ∧ RpL K H (cs.map enc) xs ∧ (∀ c ∈ cs, Wf c ∧ dep c ≤ n) ∧ (cs.map nd).sum ≤ 38000 ∧ Lo H d q L ∧ L ≤ 12 ∧
  Toks H d q L (fun rows L' => ∃ es z, Dcs h.least 0 z cs es ∧ L = L' + z ∧ rows = h.bare (es.map tk)) Q
theorem sc_law_series : FnScope ["_law_draws", "_law_loose", "_law_terms", "_law_rows", "_law_term"] ["_law_draws", "_law_loose", "_law_terms"] (defScope s_law_series) := ⟨rfl, rfl, rfl, by decide +kernel, rfl, by decide +kernel, by decide +kernel⟩
theorem ok_law_series (T : Tx w K mg) {j : Nat} (C_law_tokens : Cal P w K mg base "_law_tokens" j ["_law_draws", "_law_loose", "_law_term", "_law_least"] (sp_toks K n)) : Cal P w K mg base "_law_series" (j + 1) ["_law_draws", "_law_loose", "_law_terms"] (sp_sers K n) := by
  refine Cal.of T.f_law_series T.g__law_series sc_law_series (fun _ _ _ _ _ _ us hl => match us, hl with | [_, _, _], _ => rfl) (fun vs H Q E h => ?_) (fun f cdv A outer s H vs Q E hr h => ?_)
  · obtain ⟨cs, xs, a, d, q, L, rfl, _⟩ := h; rfl
  obtain ⟨cs, xs, a, d, q, L, rfl, sq, rl, wc, ns, lo, l12, Qk⟩ := h
  refine ⟨_, pss_cons (ps_set (i := 3) sc_law_series.nd rfl (Or.inl rfl) (pe_lst pa_nil))
    (pss_cons (ps_for PassesOwn.never rfl (pi_tup (pv 2)) (pg_name (i := 4) sc_law_series.nd rfl (Or.inl rfl))
    (C8.pss_cut (ps_if (pt_cmpR op_gt (pe_callB call_len (by rfl) T.n_len (by decide +kernel) (pa_cons (pv 3) pa_nil)) (pe_int) (nomark _))
      (pss_one (ps_expr (pe_bm PySem.F.plainAttrs_list PySem.F.slot_list_append PySem.F.type_list_append mt_append (pv 3) (pa_cons (pe_str) pa_nil))))
      (pss_nil))
      (pss_one (ps_set (i := 3) sc_law_series.nd rfl (Or.inl rfl) (pe_op op_cat (pv 3) (pe_cal C_law_tokens (hr.mono (by omega)) rfl (pa_cons (pv 0) (pa_cons (pv 1) (pa_cons (pv 4) (pa_cons (pe_int) pa_nil))))))))))
    (pss_one (ps_ret (pv 3)))), ?_⟩
  have lx : xs.length = cs.length := by have := rl.length; rw [List.length_map] at this; exact this.symm
  refine ⟨Nat.zero_le _, fun r0 hr0 => ?_⟩
  have e1 := Ext.new (ms := []) (o := .lst []) hr0
  have hr1 : upd H r0 (.lst []) r0 = some (.lst []) := upd_same
  refine ⟨_, rfl, a, rfl, ⟨_, e1.tup .nil sq⟩, ?_⟩
  refine for_tup (xs := xs) (fun i σ H' => ∃ (r : Addr) (es : List Tm) (z L' : Nat) (x4 : Option V), Ext [d, q] H H' ∧ Lo H' d q L' ∧ L' ≤ 12 ∧ H r = none ∧ H' r = some (.lst ((sepc (es.map tk)).map V.str)) ∧ Dcs (fun _ => 0) 0 z (cs.take i) es ∧ L = L' + z ∧ σ = [some (.ref d), some (.ref q), some (.ref a), some (.ref r), x4])
    ⟨r0, [], 0, L, none, e1.nil, lo.ex0 e1, l12, hr0, hr1, by rw [List.take_zero, Dcs]; exact ⟨rfl, rfl⟩, rfl, rfl⟩ (fun i σ H' _ pv => by obtain ⟨r, es, z, L', x4, e, _⟩ := pv; exact e.tup lo.not sq) (fun i x σ H' hx pv => ?_) (fun σ H' pv => ?_)
  · obtain ⟨r, es, z, L', x4, e, lo1, l1, fr, hr, dd, hL, rfl⟩ := pv
    obtain ⟨c, hc, rc⟩ := rl.at_ hx
    have hi : i < cs.length := (List.getElem?_eq_some_iff.mp hc).1
    obtain ⟨rd, rq⟩ := lo.off fr
    have lt : (cs.take i).length = i := by rw [List.length_take]; omega
    have le : es.length = i := by rw [dd.length, lt]
    have hs := dd.slen fun c hc => (wc c (List.mem_of_mem_take hc)).1
    have hsum : ((cs.take i).map nd).sum ≤ (cs.map nd).sum := by
      have h1 := congrArg (fun l => (l.map nd).sum) (List.take_append_drop i cs)
      simp only [List.map_append, List.sum_append] at h1
      omega
    refine ⟨fun σ' H5 => ∃ rows, Ext [d, q] H H5 ∧ Lo H5 d q L' ∧ H5 r = some (.lst (rows.map V.str)) ∧ rows = (if es = [] then [] else sepc (es.map tk) ++ [o ","]) ∧ σ' = [some (.ref d), some (.ref q), some (.ref a), some (.ref r), some x], ?_, ?_⟩
    · refine ⟨_, rfl, _, ((sepc (es.map tk)).map V.str).length, rfl, .inl ⟨_, SqL.of hr, rfl⟩, _, _, rfl, rfl, _, rfl, ?_⟩
      cases es with
      | nil =>
        refine iteF ⟨[], e, lo1, hr, rfl, rfl⟩
      | cons e0 er =>
        have hp : 0 < (sepc ((e0 :: er).map tk)).length := by
          have h1 := sepc_len2 ((e0 :: er).map tk)
          have h2 : 0 < (tk e0).length := List.length_pos_iff.mpr (tk_ne e0)
          rw [if_neg (by simp)] at h1
          rw [List.map_cons, List.map_cons, List.sum_cons] at h1
          rw [List.map_cons]
          omega
        show if decide ((0 : Int) < (((sepc ((e0 :: er).map tk)).map V.str).length : Int)) = true then _ else _
        rw [decide_eq_true (show (0 : Int) < (((sepc ((e0 :: er).map tk)).map V.str).length : Int) by rw [List.length_map]; omega)]
        refine iteT ⟨_, rfl, .inl ⟨rfl, _, SqL.of hr⟩, r, _, _, rfl, rfl, hr, small' (by rw [List.length_map]; omega), ?_⟩
        exact ⟨sepc ((e0 :: er).map tk) ++ [o ","], e.own fr, lo1.put rd rq, by rw [upd_same, List.map_append]; rfl, by rw [if_neg (by simp)], rfl⟩
    · rintro σ' H5 ⟨rows, e5, lo5, hr5, hrows, rfl⟩
      have hcn : nd c ≤ (cs.map nd).sum := mem_sum (List.mem_map_of_mem (mem_at hc))
      refine ⟨_, rfl, _, rfl, _, rfl, _, rfl, c, x, d, q, L', 0, 0, rfl, rfl, rc.ext e5 lo.not, (wc c (mem_at hc)).1, (wc c (mem_at hc)).2, by omega, lo5, l1, fun r2 rows2 H6 L2 e6 lo6 le6 fr2 hr6 ⟨e2, y, hd2, hL2, hrows2⟩ => ?_⟩
      have hlen2 := hd2.len (wc c (mem_at hc)).1
      have hrowsl : rows.length ≤ 9 * 38000 + 2 * 12 + 1 := by
        rw [hrows]
        split
        · simp
        · rw [List.length_append]; simp; omega
      refine cat_ (e6 _ _ hr5 (by simp [rd, rq])) hr6 (by rw [hrows2]; omega) fun r3 H7 e7 fr3 hr7 => ?_
      have fr3' : H r3 = none := by
        cases h : H r3 with
        | none => rfl
        | some u =>
          by_cases h1 : r3 = d
          · subst h1; exact absurd fr3 (by obtain ⟨zs, hz⟩ := lo6.dr; rw [hz]; simp)
          · by_cases h2 : r3 = q
            · subst h2; exact absurd fr3 (by rw [lo6.lo]; simp)
            · rw [e6 _ _ (e5 _ _ h (by simp [h1, h2])) (by simp [h1, h2])] at fr3; cases fr3
      refine ⟨r3, es ++ [e2], z + y, L2, _, (e5.trans e6).trans e7.nil, lo6.ex0 e7, by omega, fr3', ?_, ?_, by omega, rfl⟩
      · rw [hr7, List.map_append (f := tk), List.map_cons, List.map_nil, sepc_snoc, hrows, hrows2]
        cases es with
        | nil => rfl
        | cons e0 er =>
          rw [if_neg (by simp), if_neg (by simp)]
          simp
      · rw [take_snoc hc]
        exact dd.snoc hd2
  · obtain ⟨r, es, z, L', x4, e, lo1, l1, fr, hr, dd, hL, rfl⟩ := pv
    rw [lx, List.take_length] at dd
    exact ⟨_, rfl, Qk r _ H' L' e lo1 (by omega) fr hr ⟨es, z, dd, hL, rfl⟩⟩
end
end K13

/-! L13: the law's simple tokens -/
namespace K13
open PySem PySem.Spec PyProof.Rows L2
/-- new to H0, past what stands at d and q -/
theorem fresh_ {H0 H : Hp} {d q l : Addr} {L : Nat} (e : Ext [d, q] H0 H) (lo : Lo H d q L) (h : H l = none) : H0 l = none := by
  cases k : H0 l with
  | none => rfl
  | some u =>
    obtain ⟨h1, h2⟩ := lo.off h
    rw [e _ _ k (by simp [h1, h2])] at h; cases h
theorem dcs0 {f : Nat → Nat} {i : Nat} : Dcs f i 0 [] [] := by rw [Dcs]; exact ⟨rfl, rfl⟩
section
variable {P : Program} {w : World} {K : PySem.W.Frag} {mg : Str → Option Value} {base : Heap} {n : Nat}
theorem sc_law_simple : FnScope ["_law_draws", "_law_loose", "_law_term"] ["_law_draws", "_law_loose", "_law_term"] (defScope s_law_simple) := ⟨rfl, rfl, rfl, by decide +kernel, rfl, by decide +kernel, by decide +kernel⟩
theorem ok_law_simple (T : Tx w K mg) {j : Nat} (C_law_series : Cal P w K mg base "_law_series" j ["_law_draws", "_law_loose", "_law_terms"] (sp_sers K n)) : Cal P w K mg base "_law_simple" (j + 1) ["_law_draws", "_law_loose", "_law_term"] (sp_simp K n) := by
  refine Cal.of T.f_law_simple T.g__law_simple sc_law_simple (fun _ _ _ _ _ _ us hl => match us, hl with | [_, _, _], _ => rfl) (fun vs H Q E h => ?_) (fun f cdv A outer s H vs Q E hr h => ?_)
  · obtain ⟨h, cs, xs, a, d, q, L, rfl, _⟩ := h; rfl
  obtain ⟨h, cs, xs, a, d, q, L, rfl, sq, h7, hw, rl, wc, ns, lo, l12, Qk⟩ := h
  refine ⟨_, pss_cons (ps_if (pt_cmpR op_eq (pe_ix ix_tup (pv 2) (pe_int) (fun _ _ => rfl)) (pe_str) (nomark _))
    (pss_one (ps_ret (pe_lst (pa_cons (pe_callTy call_str_int (by rfl) T.n_str (by decide +kernel) (pa_cons (pe_ix ix_tup (pv 2) (pe_int) (fun _ _ => rfl)) pa_nil)) pa_nil))))
    (pss_nil))
    (pss_cons (ps_if (pt_cmpR op_eq (pe_ix ix_tup (pv 2) (pe_int) (fun _ _ => rfl)) (pe_str) (nomark _))
    (pss_one (ps_ret (pe_lst (pa_cons (pe_ix ix_list (pe_lst (pa_cons (pe_str) (pa_cons (pe_str) pa_nil))) (pe_callTy call_int1 (by rfl) T.n_int (by decide +kernel) (pa_cons (pe_ix ix_tup (pv 2) (pe_int) (fun _ _ => rfl)) pa_nil)) (fun _ _ => rfl)) pa_nil))))
    (pss_nil))
    (pss_cons (ps_if (pt_cmpR op_eq (pe_ix ix_tup (pv 2) (pe_int) (fun _ _ => rfl)) (pe_str) (nomark _))
    (pss_one (ps_ret (pe_op op_cat (pe_op op_cat (pe_lst (pa_cons (pe_ix ix_tup (pv 2) (pe_int) (fun _ _ => rfl)) (pa_cons (pe_str) pa_nil))) (pe_cal C_law_series (hr.mono (by omega)) rfl (pa_cons (pv 0) (pa_cons (pv 1) (pa_cons (pe_ix ix_tup (pv 2) (pe_int) (fun _ _ => rfl)) pa_nil))))) (pe_lst (pa_cons (pe_str) pa_nil)))))
    (pss_nil))
    (pss_cons (ps_if (pt_cmpR op_eq (pe_ix ix_tup (pv 2) (pe_int) (fun _ _ => rfl)) (pe_str) (nomark _))
    (pss_one (ps_ret (pe_op op_cat (pe_op op_cat (pe_lst (pa_cons (pe_str) pa_nil)) (pe_cal C_law_series (hr.mono (by omega)) rfl (pa_cons (pv 0) (pa_cons (pv 1) (pa_cons (pe_ix ix_tup (pv 2) (pe_int) (fun _ _ => rfl)) pa_nil))))) (pe_lst (pa_cons (pe_str) pa_nil)))))
    (pss_nil))
    (pss_cons (ps_if (pt_cmpR op_eq (pe_ix ix_tup (pv 2) (pe_int) (fun _ _ => rfl)) (pe_str) (nomark _))
    (pss_one (ps_ret (pe_op op_cat (pe_op op_cat (pe_lst (pa_cons (pe_str) pa_nil)) (pe_cal C_law_series (hr.mono (by omega)) rfl (pa_cons (pv 0) (pa_cons (pv 1) (pa_cons (pe_slice sl_tupA (pv 2) (po_some (pe_int)) po_none) pa_nil))))) (pe_lst (pa_cons (pe_str) pa_nil)))))
    (pss_nil))
    (pss_one (ps_ret (pe_lst (pa_cons (pe_ix ix_tup (pv 2) (pe_op op_sub (pe_callB call_len (by rfl) T.n_len (by decide +kernel) (pa_cons (pv 2) pa_nil)) (pe_int)) (fun _ _ => rfl)) pa_nil)))))))), ?_⟩
  have lx : xs.length = cs.length := by have := rl.length; rw [List.length_map] at this; exact this.symm
  -- one token
  have one : ∀ (s : Str), h.bare [] = [s] → cs = [] → ∀ p H1, Ext [] H H1 → H1 p = none → Q (.ref p) (upd H1 p (.lst [.str s])) := fun s hs hc p H1 e hp => by
    subst hc
    have e2 := Ext.new (ms := []) (o := .lst [.str s]) hp
    refine Qk p [s] _ L (e.trans e2).nil (lo.ex0 (e.trans e2)) (Nat.le_refl _) ?_ upd_same ⟨[], 0, dcs0, by omega, hs.symm⟩
    exact e.free hp
  -- head, parts, tail
  have ser : ∀ (pre : List Str) (post : Str) (b : Addr) (Hb : Hp), (∀ es : List Tm, h.bare (es.map tk) = pre ++ sepc (es.map tk) ++ [post]) → h.least = (fun _ => 0) → pre.length ≤ 2 → Ext [] H Hb → SqT K Hb b xs → ∀ l1, Hb l1 = some (.lst (pre.map V.str)) → H l1 = none →
      sp_sers K n [.ref d, .ref q, .ref b] Hb (fun y H2 => rCat (.ref l1) y H2 fun x H3 => (1 ≤ sizeLine ∧ ∀ p, H3 p = none → rCat x (.ref p) (upd H3 p (.lst [.str post])) Q)) E0 := by
    intro pre post b Hb hb hl hp e sb l1 h1 f1
    refine ⟨cs, xs, b, d, q, L, rfl, sb, rl.ex0 e, wc, ns, lo.ex0 e, l12, fun r2 rows H2 L2 e2 lo2 le2 fr2 hr2 ⟨es, z, dd, hL, hrows⟩ => ?_⟩
    have hlen := dd.slen fun c hc => (wc c hc).1
    obtain ⟨n1, n2⟩ := lo.off f1
    refine cat_ (e2 _ _ h1 (by simp [n1, n2])) hr2 (by rw [hrows]; omega) fun r3 H3 e3 fr3 hr3 => ?_
    refine ⟨by decide, fun p hp3 => ?_⟩
    have e4 := Ext.new (ms := []) (o := .lst [.str post]) hp3
    refine cat_ (bs := [post]) (e4 _ _ hr3 (by simp)) upd_same (by rw [hrows, List.length_append]; simp; omega) fun r5 H5 e5 fr5 hr5 => ?_
    have lo5 := ((lo2.ex0 e3).ex0 e4).ex0 e5
    have lo4 := (lo2.ex0 e3).ex0 e4
    have x4 : Ext [d, q] H (upd H3 p (.lst [.str post])) := (e.nil.trans e2).trans (e3.trans e4).nil
    refine Qk r5 _ H5 L2 (x4.trans e5.nil) lo5 le2 (fresh_ x4 lo4 fr5) hr5 ⟨es, z, by rw [hl]; exact dd, hL, by rw [hb, hrows]⟩
  cases h with
  | num k =>
    obtain ⟨w0, w1, w2⟩ := hw
    obtain rfl := List.eq_nil_of_length_eq_zero w0
    obtain rfl := List.eq_nil_of_length_eq_zero lx
    have sq : SqT K H a [.str (o "number"), .int k] := sq
    refine ⟨_, rfl, _, _, _, _, rfl, rfl, sq, a0, rfl, _, rfl, itY rfl ?_⟩
    exact ⟨_, rfl, _, _, _, _, rfl, rfl, sq, a1, k, rfl, log_small w1 w2, by show 1 ≤ sizeLine; decide, fun p hp => one _ rfl rfl p H (.refl _ _) hp⟩
  | tru b =>
    obtain rfl := List.eq_nil_of_length_eq_zero hw
    obtain rfl := List.eq_nil_of_length_eq_zero lx
    have sq : SqT K H a [.str (o "truth"), .bl b] := sq
    refine ⟨_, rfl, _, _, _, _, rfl, rfl, sq, a0, rfl, _, rfl, itN (by decide +kernel) ?_⟩
    refine ⟨_, rfl, _, _, _, _, rfl, rfl, sq, a0, rfl, _, rfl, itY rfl ?_⟩
    refine ⟨by show 2 ≤ sizeLine; decide, fun p1 hp1 => ?_⟩
    have e1 := Ext.new (ms := []) (o := .lst [.str (o "false"), .str (o "true")]) hp1
    have hat : atI [V.str (o "false"), V.str (o "true")] (if b = true then 1 else 0) = some (.str (if b then o "true" else o "false")) := by cases b <;> rfl
    exact ⟨_, rfl, _, _, _, _, rfl, rfl, e1.tup .nil sq, a1, .inr ⟨_, rfl, p1, _, _, _, rfl, rfl, SqL.of upd_same, hat, by show 1 ≤ sizeLine; decide, fun p hp => one _ rfl rfl p _ e1 hp⟩⟩
  | var v =>
    obtain rfl := List.eq_nil_of_length_eq_zero hw.1
    obtain rfl := List.eq_nil_of_length_eq_zero lx
    have sq : SqT K H a [.str (o "variable"), .str v] := sq
    refine ⟨_, rfl, _, _, _, _, rfl, rfl, sq, a0, rfl, _, rfl, itN (by decide +kernel) ?_⟩
    refine ⟨_, rfl, _, _, _, _, rfl, rfl, sq, a0, rfl, _, rfl, itN (by decide +kernel) ?_⟩
    refine ⟨_, rfl, _, _, _, _, rfl, rfl, sq, a0, rfl, _, rfl, itN (by decide +kernel) ?_⟩
    refine ⟨_, rfl, _, _, _, _, rfl, rfl, sq, a0, rfl, _, rfl, itN (by decide +kernel) ?_⟩
    refine ⟨_, rfl, _, _, _, _, rfl, rfl, sq, a0, rfl, _, rfl, itN (by decide +kernel) ?_⟩
    exact ⟨_, rfl, _, rfl, _, 2, rfl, .inr ⟨_, sq, rfl⟩, _, _, rfl, rfl, _, _, _, _, rfl, rfl, sq, a1, by show 1 ≤ sizeLine; decide, fun p hp => one _ rfl rfl p _ (.refl _ _) hp⟩
  | fact v =>
    obtain rfl := List.eq_nil_of_length_eq_zero hw.1
    obtain rfl := List.eq_nil_of_length_eq_zero lx
    have sq : SqT K H a [.str (o "fact"), .str v] := sq
    refine ⟨_, rfl, _, _, _, _, rfl, rfl, sq, a0, rfl, _, rfl, itN (by decide +kernel) ?_⟩
    refine ⟨_, rfl, _, _, _, _, rfl, rfl, sq, a0, rfl, _, rfl, itN (by decide +kernel) ?_⟩
    refine ⟨_, rfl, _, _, _, _, rfl, rfl, sq, a0, rfl, _, rfl, itN (by decide +kernel) ?_⟩
    refine ⟨_, rfl, _, _, _, _, rfl, rfl, sq, a0, rfl, _, rfl, itN (by decide +kernel) ?_⟩
    refine ⟨_, rfl, _, _, _, _, rfl, rfl, sq, a0, rfl, _, rfl, itN (by decide +kernel) ?_⟩
    exact ⟨_, rfl, _, rfl, _, 2, rfl, .inr ⟨_, sq, rfl⟩, _, _, rfl, rfl, _, _, _, _, rfl, rfl, sq, a1, by show 1 ≤ sizeLine; decide, fun p hp => one _ rfl rfl p _ (.refl _ _) hp⟩
  | fail =>
    obtain rfl := List.eq_nil_of_length_eq_zero hw
    obtain rfl := List.eq_nil_of_length_eq_zero lx
    have sq : SqT K H a [.str (o "fail")] := sq
    refine ⟨_, rfl, _, _, _, _, rfl, rfl, sq, a0, rfl, _, rfl, itN (by decide +kernel) ?_⟩
    refine ⟨_, rfl, _, _, _, _, rfl, rfl, sq, a0, rfl, _, rfl, itN (by decide +kernel) ?_⟩
    refine ⟨_, rfl, _, _, _, _, rfl, rfl, sq, a0, rfl, _, rfl, itN (by decide +kernel) ?_⟩
    refine ⟨_, rfl, _, _, _, _, rfl, rfl, sq, a0, rfl, _, rfl, itN (by decide +kernel) ?_⟩
    refine ⟨_, rfl, _, _, _, _, rfl, rfl, sq, a0, rfl, _, rfl, itN (by decide +kernel) ?_⟩
    exact ⟨_, rfl, _, rfl, _, 1, rfl, .inr ⟨_, sq, rfl⟩, _, _, rfl, rfl, _, _, _, _, rfl, rfl, sq, a0, by show 1 ≤ sizeLine; decide, fun p hp => one _ rfl rfl p _ (.refl _ _) hp⟩
  | pair =>
    have sq : SqT K H a (.str (o "pair") :: xs) := sq
    refine ⟨_, rfl, _, _, _, _, rfl, rfl, sq, a0, rfl, _, rfl, itN (by decide +kernel) ?_⟩
    refine ⟨_, rfl, _, _, _, _, rfl, rfl, sq, a0, rfl, _, rfl, itN (by decide +kernel) ?_⟩
    refine ⟨_, rfl, _, _, _, _, rfl, rfl, sq, a0, rfl, _, rfl, itN (by decide +kernel) ?_⟩
    refine ⟨_, rfl, _, _, _, _, rfl, rfl, sq, a0, rfl, _, rfl, itN (by decide +kernel) ?_⟩
    refine ⟨_, rfl, _, _, _, _, rfl, rfl, sq, a0, rfl, _, rfl, itY rfl ?_⟩
    refine ⟨by show 1 ≤ sizeLine; decide, fun l1 h1 => ?_⟩
    have e1 := Ext.new (ms := []) (o := .lst [.str (o "(")]) h1
    have sq1 := e1.tup .nil sq
    refine ⟨_, rfl, _, rfl, _, rfl, _, rfl, a, _, rfl, sq1, fun hh => ?_, fun _ b hb => ?_⟩
    · have := hh.1
      rw [show (some (1 : Int)) = some ((1 : Nat) : Int) from rfl, HT.sIx_nat] at this
      simp at this
    · have eb := Ext.new (ms := []) (o := .tup (cutV (V.str (o "pair") :: xs) (some 1) none)) hb
      have ec : cutV (V.str (o "pair") :: xs) (some 1) none = xs := cut_from (k := 1) (by simp)
      have sb : SqT K (upd (upd H l1 (.lst [.str (o "(")])) b (.tup (cutV (V.str (o "pair") :: xs) (some 1) none))) b xs := SqT.of (by rw [upd_same, ec])
      exact ser [o "("] (o ")") b _ (fun es => rfl) rfl (by simp) (e1.trans eb) sb l1 (eb _ _ upd_same (by simp)) h1
  | list =>
    obtain ⟨b, sq, sb⟩ := sq
    have sq : SqT K H a [.str (o "list"), .ref b] := sq
    refine ⟨_, rfl, _, _, _, _, rfl, rfl, sq, a0, rfl, _, rfl, itN (by decide +kernel) ?_⟩
    refine ⟨_, rfl, _, _, _, _, rfl, rfl, sq, a0, rfl, _, rfl, itN (by decide +kernel) ?_⟩
    refine ⟨_, rfl, _, _, _, _, rfl, rfl, sq, a0, rfl, _, rfl, itN (by decide +kernel) ?_⟩
    refine ⟨_, rfl, _, _, _, _, rfl, rfl, sq, a0, rfl, _, rfl, itY rfl ?_⟩
    refine ⟨by show 1 ≤ sizeLine; decide, fun l1 h1 => ?_⟩
    have e1 := Ext.new (ms := []) (o := .lst [.str (o "[")]) h1
    have sq1 := e1.tup .nil sq
    refine ⟨_, rfl, _, rfl, _, rfl, _, _, _, _, rfl, rfl, sq1, a1, ?_⟩
    exact ser [o "["] (o "]") b _ (fun es => rfl) rfl (by simp) e1 (e1.tup .nil sb) l1 upd_same h1
  | call g =>
    obtain ⟨b, sq, sb⟩ := sq
    have sq : SqT K H a [.str (o "call"), .str g, .ref b] := sq
    refine ⟨_, rfl, _, _, _, _, rfl, rfl, sq, a0, rfl, _, rfl, itN (by decide +kernel) ?_⟩
    refine ⟨_, rfl, _, _, _, _, rfl, rfl, sq, a0, rfl, _, rfl, itN (by decide +kernel) ?_⟩
    refine ⟨_, rfl, _, _, _, _, rfl, rfl, sq, a0, rfl, _, rfl, itY rfl ?_⟩
    refine ⟨_, rfl, _, _, _, _, rfl, rfl, sq, a1, by show 2 ≤ sizeLine; decide, fun l1 h1 => ?_⟩
    have e1 := Ext.new (ms := []) (o := .lst [.str g, .str (o "c(")]) h1
    have sq1 := e1.tup .nil sq
    refine ⟨_, rfl, _, rfl, _, rfl, _, _, _, _, rfl, rfl, sq1, a2, ?_⟩
    exact ser [g, o "c("] (o ")") b _ (fun es => rfl) rfl (by simp) e1 (e1.tup .nil sb) l1 upd_same h1
  | minus => cases h7
  | not_ => cases h7
  | bin s => exact absurd h7 (by have := (lvS_pos s).2; show ¬ lvS s = 7; omega)
  | let_ v => cases h7
  | ite_ => cases h7
  | fold x s => cases h7
  | note => cases h7
end
end K13

/-! L14: the law's tokens -/
namespace K13
open PySem PySem.Spec PyProof.Rows L2
theorem dcs1 {f : Nat → Nat} {i x : Nat} {a e : Tm} (h : Dc (f i) x a e) : Dcs f i x [a] [e] := by
  rw [Dcs]
  exact ⟨e, [], x, 0, rfl, rfl, h, dcs0⟩
theorem dcs2 {f : Nat → Nat} {i x y : Nat} {a b e g : Tm} (h : Dc (f i) x a e) (k : Dc (f (i + 1)) y b g) : Dcs f i (x + y) [a, b] [e, g] := by
  rw [Dcs]
  exact ⟨e, [g], x, y, rfl, rfl, h, dcs1 k⟩
theorem dcs3 {f : Nat → Nat} {i x y z : Nat} {a b c e g u : Tm} (h : Dc (f i) x a e) (k : Dc (f (i + 1)) y b g) (m : Dc (f (i + 1 + 1)) z c u) : Dcs f i (x + (y + z)) [a, b, c] [e, g, u] := by
  rw [Dcs]
  exact ⟨e, [g, u], x, y + z, rfl, rfl, h, dcs2 k m⟩
/-- one more token behind -/
theorem lit_ {as : List Str} {s : Str} {l : Addr} {H : Hp} {Q : VK} (h : H l = some (.lst (as.map V.str))) (hl : as.length ≤ 15000000) (k : ∀ r H', Ext [] H H' → H r = none → H' r = some (.lst ((as ++ [s]).map V.str)) → Q (.ref r) H') :
    1 ≤ sizeLine ∧ ∀ p, H p = none → rCat (.ref l) (.ref p) (upd H p (.lst [.str s])) Q := by
  refine ⟨by decide, fun p hp => ?_⟩
  have e := Ext.new (ms := []) (o := .lst [.str s]) hp
  exact cat_ (bs := [s]) (e _ _ h (by simp)) upd_same (by simp; omega) fun r H' e2 fr hr => k r H' (e.trans e2) (e.free fr) hr
section
variable {P : Program} {w : World} {K : PySem.W.Frag} {mg : Str → Option Value} {base : Heap} {n : Nat}
def sp_bare (K : PySem.W.Frag) (n : Nat) : Sp := fun vs H Q _ => ∃ (h : Hd) (cs : List Tm) (a d q : Addr) (xs : List V) (L : Nat), vs = [.ref d, .ref q, .ref a] ∧ Nd K H a h xs ∧ h.Wf cs.length ∧ RpL K H (cs.map enc) xs ∧ (∀ c ∈ cs, Wf c ∧ dep c ≤ n) ∧ (cs.map nd).sum ≤ 38000 ∧ Rp K H (enc (.mk 0 h cs)) (.ref a) ∧ Lo H d q L ∧ L ≤ 12 ∧
  Toks H d q L (fun rows L' => ∃ es z, Dcs h.least 0 z cs es ∧ L = L' + z ∧ rows = h.bare (es.map tk)) Q
theorem sc_law_bare : FnScope ["_law_draws", "_law_loose", "_law_term", "_law_least", "_law_left", "_law_rows"] ["_law_draws", "_law_loose", "_law_term"] (defScope s_law_bare) := ⟨rfl, rfl, rfl, by decide +kernel, rfl, by decide +kernel, by decide +kernel⟩
theorem ok_law_bare (T : Tx w K mg) {j : Nat} (j1 : 1 ≤ j) (C_law_tokens : Cal P w K mg base "_law_tokens" j ["_law_draws", "_law_loose", "_law_term", "_law_least"] (sp_toks K n)) : Cal P w K mg base "_law_bare" (j + 3) ["_law_draws", "_law_loose", "_law_term"] (sp_bare K n) := by
  have C_law_level := ok_law_level T (P := P) (base := base)
  have C_law_simple := ok_law_simple T (ok_law_series T C_law_tokens)
  refine Cal.of T.f_law_bare T.g__law_bare sc_law_bare (fun _ _ _ _ _ _ us hl => match us, hl with | [_, _, _], _ => rfl) (fun vs H Q E h => ?_) (fun f cdv A outer s H vs Q E hr h => ?_)
  · obtain ⟨h, cs, a, d, q, xs, L, rfl, _⟩ := h; rfl
  obtain ⟨h, cs, a, d, q, xs, L, rfl, sq, hw, rl, wc, ns, ra, lo, l12, Qk⟩ := h
  refine ⟨_, pss_cons (ps_if (pt_cmpR op_eq (pe_ix ix_tup (pv 2) (pe_int) (fun _ _ => rfl)) (pe_str) (nomark _))
    (pss_cons (ps_set (i := 3) sc_law_bare.nd rfl (Or.inl rfl) (pe_cal C_law_level (hr.mono (by omega)) rfl (pa_cons (pv 2) pa_nil)))
      (pss_cons (ps_set (i := 4) sc_law_bare.nd rfl (Or.inl rfl) (pe_cal C_law_tokens (hr.mono (by omega)) rfl (pa_cons (pv 0) (pa_cons (pv 1) (pa_cons (pe_ix ix_tup (pv 2) (pe_int) (fun _ _ => rfl)) (pa_cons (pe_op op_add (pv 3) (pe_callTy call_int1 (by rfl) T.n_int (by decide +kernel) (pa_cons (pe_cmpR op_eq (pv 3) (pe_int) (nomark _)) pa_nil))) pa_nil))))))
      (pss_one (ps_ret (pe_op op_cat (pe_op op_cat (pv 4) (pe_lst (pa_cons (pe_ix ix_tup (pv 2) (pe_int) (fun _ _ => rfl)) pa_nil))) (pe_cal C_law_tokens (hr.mono (by omega)) rfl (pa_cons (pv 0) (pa_cons (pv 1) (pa_cons (pe_ix ix_tup (pv 2) (pe_int) (fun _ _ => rfl)) (pa_cons (pe_op op_add (pv 3) (pe_int)) pa_nil))))))))))
    (pss_nil))
    (pss_cons (ps_if (pt_cmpR op_eq (pe_ix ix_tup (pv 2) (pe_int) (fun _ _ => rfl)) (pe_str) (nomark _))
    (pss_one (ps_ret (pe_op op_cat (pe_lst (pa_cons (pe_str) pa_nil)) (pe_cal C_law_tokens (hr.mono (by omega)) rfl (pa_cons (pv 0) (pa_cons (pv 1) (pa_cons (pe_ix ix_tup (pv 2) (pe_int) (fun _ _ => rfl)) (pa_cons (pe_int) pa_nil))))))))
    (pss_nil))
    (pss_cons (ps_if (pt_cmpR op_eq (pe_ix ix_tup (pv 2) (pe_int) (fun _ _ => rfl)) (pe_str) (nomark _))
    (pss_one (ps_ret (pe_op op_cat (pe_lst (pa_cons (pe_str) pa_nil)) (pe_cal C_law_tokens (hr.mono (by omega)) rfl (pa_cons (pv 0) (pa_cons (pv 1) (pa_cons (pe_ix ix_tup (pv 2) (pe_int) (fun _ _ => rfl)) (pa_cons (pe_int) pa_nil))))))))
    (pss_nil))
    (pss_cons (ps_if (pt_cmpR op_eq (pe_ix ix_tup (pv 2) (pe_int) (fun _ _ => rfl)) (pe_str) (nomark _))
    (pss_cons (ps_set (i := 5) sc_law_bare.nd rfl (Or.inl rfl) (pe_op op_cat (pe_lst (pa_cons (pe_str) (pa_cons (pe_ix ix_tup (pv 2) (pe_int) (fun _ _ => rfl)) (pa_cons (pe_str) pa_nil)))) (pe_cal C_law_tokens (hr.mono (by omega)) rfl (pa_cons (pv 0) (pa_cons (pv 1) (pa_cons (pe_ix ix_tup (pv 2) (pe_int) (fun _ _ => rfl)) (pa_cons (pe_int) pa_nil)))))))
      (pss_one (ps_ret (pe_op op_cat (pe_op op_cat (pv 5) (pe_lst (pa_cons (pe_str) pa_nil))) (pe_cal C_law_tokens (hr.mono (by omega)) rfl (pa_cons (pv 0) (pa_cons (pv 1) (pa_cons (pe_ix ix_tup (pv 2) (pe_int) (fun _ _ => rfl)) (pa_cons (pe_int) pa_nil)))))))))
    (pss_nil))
    (pss_cons (ps_if (pt_cmpR op_eq (pe_ix ix_tup (pv 2) (pe_int) (fun _ _ => rfl)) (pe_str) (nomark _))
    (pss_cons (ps_set (i := 5) sc_law_bare.nd rfl (Or.inl rfl) (pe_op op_cat (pe_lst (pa_cons (pe_str) pa_nil)) (pe_cal C_law_tokens (hr.mono (by omega)) rfl (pa_cons (pv 0) (pa_cons (pv 1) (pa_cons (pe_ix ix_tup (pv 2) (pe_int) (fun _ _ => rfl)) (pa_cons (pe_int) pa_nil)))))))
      (pss_one (ps_ret (pe_op op_cat (pe_op op_cat (pv 5) (pe_lst (pa_cons (pe_str) pa_nil))) (pe_cal C_law_tokens (hr.mono (by omega)) rfl (pa_cons (pv 0) (pa_cons (pv 1) (pa_cons (pe_ix ix_tup (pv 2) (pe_int) (fun _ _ => rfl)) (pa_cons (pe_int) pa_nil)))))))))
    (pss_nil))
    (pss_cons (ps_if (pt_cmpR op_eq (pe_ix ix_tup (pv 2) (pe_int) (fun _ _ => rfl)) (pe_str) (nomark _))
    (pss_cons (ps_set (i := 5) sc_law_bare.nd rfl (Or.inl rfl) (pe_op op_cat (pe_op op_cat (pe_op op_cat (pe_lst (pa_cons (pe_str) pa_nil)) (pe_cal C_law_tokens (hr.mono (by omega)) rfl (pa_cons (pv 0) (pa_cons (pv 1) (pa_cons (pe_ix ix_tup (pv 2) (pe_int) (fun _ _ => rfl)) (pa_cons (pe_int) pa_nil)))))) (pe_lst (pa_cons (pe_str) pa_nil))) (pe_cal C_law_tokens (hr.mono (by omega)) rfl (pa_cons (pv 0) (pa_cons (pv 1) (pa_cons (pe_ix ix_tup (pv 2) (pe_int) (fun _ _ => rfl)) (pa_cons (pe_int) pa_nil)))))))
      (pss_one (ps_ret (pe_op op_cat (pe_op op_cat (pv 5) (pe_lst (pa_cons (pe_str) pa_nil))) (pe_cal C_law_tokens (hr.mono (by omega)) rfl (pa_cons (pv 0) (pa_cons (pv 1) (pa_cons (pe_ix ix_tup (pv 2) (pe_int) (fun _ _ => rfl)) (pa_cons (pe_int) pa_nil)))))))))
    (pss_nil))
    (pss_cons (ps_if (pt_cmpR op_eq (pe_ix ix_tup (pv 2) (pe_int) (fun _ _ => rfl)) (pe_str) (nomark _))
    (pss_cons (ps_set (i := 5) sc_law_bare.nd rfl (Or.inl rfl) (pe_op op_cat (pe_op op_cat (pe_lst (pa_cons (pe_str) (pa_cons (pe_ix ix_tup (pv 2) (pe_int) (fun _ _ => rfl)) (pa_cons (pe_ix ix_tup (pv 2) (pe_int) (fun _ _ => rfl)) (pa_cons (pe_str) pa_nil))))) (pe_cal C_law_tokens (hr.mono (by omega)) rfl (pa_cons (pv 0) (pa_cons (pv 1) (pa_cons (pe_ix ix_tup (pv 2) (pe_int) (fun _ _ => rfl)) (pa_cons (pe_int) pa_nil)))))) (pe_lst (pa_cons (pe_str) pa_nil))))
      (pss_one (ps_ret (pe_op op_cat (pe_op op_cat (pe_op op_cat (pv 5) (pe_cal C_law_tokens (hr.mono (by omega)) rfl (pa_cons (pv 0) (pa_cons (pv 1) (pa_cons (pe_ix ix_tup (pv 2) (pe_int) (fun _ _ => rfl)) (pa_cons (pe_int) pa_nil)))))) (pe_lst (pa_cons (pe_str) pa_nil))) (pe_cal C_law_tokens (hr.mono (by omega)) rfl (pa_cons (pv 0) (pa_cons (pv 1) (pa_cons (pe_ix ix_tup (pv 2) (pe_int) (fun _ _ => rfl)) (pa_cons (pe_int) pa_nil)))))))))
    (pss_nil))
    (pss_one (ps_ret (pe_cal C_law_simple (hr.mono (by omega)) rfl (pa_cons (pv 0) (pa_cons (pv 1) (pa_cons (pv 2) pa_nil)))))))))))), ?_⟩
  have lx : xs.length = cs.length := by have := rl.length; rw [List.length_map] at this; exact this.symm
  -- the tokens of a part
  have part : ∀ (i : Nat) (c : Tm) (v : V) (Hc : Hp) (Lc lv : Nat) (lI : Int) (Q' : VK), cs[i]? = some c → xs[i]? = some v → lI = (lv : Int) → Ext [d, q] H Hc → Lo Hc d q Lc → Lc ≤ 12 →
      (∀ r H' L' e x, Ext [d, q] Hc H' → Lo H' d q L' → Lc = L' + x → Dc lv x c e → Hc r = none → H' r = some (.lst ((tk e).map V.str)) → (tk e).length ≤ 400000 → Q' (.ref r) H') → sp_toks K n [.ref d, .ref q, v, .int lI] Hc Q' E0 := by
    intro i c v Hc Lc lv lI Q' hc hv hI ec lc l1 k
    obtain ⟨v', hv', rv⟩ := rl.get (i := i) (d := enc c) (by rw [List.getElem?_map, hc]; rfl)
    rw [hv] at hv'
    cases Option.some.inj hv'
    have hn : nd c ≤ (cs.map nd).sum := mem_sum (List.mem_map_of_mem (mem_at hc))
    refine ⟨c, v, d, q, Lc, lI, lv, rfl, hI, rv.ext ec lo.not, (wc c (mem_at hc)).1, (wc c (mem_at hc)).2, by omega, lc, l1, fun r rows H' L' e' lo' le' fr hr' ⟨e, x, hd, hL, hrows⟩ => ?_⟩
    have hlen := hd.len (wc c (mem_at hc)).1
    rw [hrows] at hr'
    exact k r H' L' e x e' lo' hL hd fr hr' (by omega)
  have step : ∀ (as : List Str) (l : Addr) (i : Nat) (c : Tm) (v : V) (Hc : Hp) (Lc lv : Nat) (lI : Int) (Q' : VK), as.length ≤ 5000000 → Hc l = some (.lst (as.map V.str)) → l ≠ d → l ≠ q → cs[i]? = some c → xs[i]? = some v → lI = (lv : Int) → Ext [d, q] H Hc → Lo Hc d q Lc → Lc ≤ 12 →
      (∀ r H' L' e x, Ext [d, q] Hc H' → Lo H' d q L' → Lc = L' + x → Dc lv x c e → Hc r = none → H' r = some (.lst ((as ++ tk e).map V.str)) → (tk e).length ≤ 400000 → Q' (.ref r) H') → sp_toks K n [.ref d, .ref q, v, .int lI] Hc (fun y H2 => rCat (.ref l) y H2 Q') E0 := by
    intro as l i c v Hc Lc lv lI Q' ha hl n1 n2 hc hv hI ec lc l1 k
    refine part i c v Hc Lc lv lI _ hc hv hI ec lc l1 fun r H' L' e x e' lo' hL hd fr hr hlen => ?_
    refine cat_ (e' _ _ hl (by simp [n1, n2])) hr (by omega) fun r2 H2 e2 fr2 hr2 => ?_
    exact k r2 H2 L' e x (e'.trans e2.nil) (lo'.ex0 e2) hL hd (fresh_ e' lo' fr2) hr2 hlen
  by_cases h7 : h.lv = 7
  · -- the simple ones
    have nn : ∀ t : Str, t ∈ ([o "binary", o "minus", o "not", o "let", o "note", o "if", o "fold"] : List Str) → h.tag ≠ t := by
      intro t ht z
      have hb : ∀ h : Hd, h.lv = 7 → h.tag ∉ ([o "binary", o "minus", o "not", o "let", o "note", o "if", o "fold"] : List Str) := by
        intro h h7
        cases h <;> first | (simp only [Hd.tag]; decide +kernel) | cases h7 | skip
        rename_i s
        exact absurd h7 (by have := (lvS_pos s).2; show ¬ lvS s = 7; omega)
      exact hb h h7 (z ▸ ht)
    obtain ⟨rest, hT⟩ := sq.head
    refine ⟨_, rfl, _, _, _, _, rfl, rfl, hT, a0, rfl, _, rfl, itN (nn _ (by simp)) ?_⟩
    refine ⟨_, rfl, _, _, _, _, rfl, rfl, hT, a0, rfl, _, rfl, itN (nn _ (by simp)) ?_⟩
    refine ⟨_, rfl, _, _, _, _, rfl, rfl, hT, a0, rfl, _, rfl, itN (nn _ (by simp)) ?_⟩
    refine ⟨_, rfl, _, _, _, _, rfl, rfl, hT, a0, rfl, _, rfl, itN (nn _ (by simp)) ?_⟩
    refine ⟨_, rfl, _, _, _, _, rfl, rfl, hT, a0, rfl, _, rfl, itN (nn _ (by simp)) ?_⟩
    refine ⟨_, rfl, _, _, _, _, rfl, rfl, hT, a0, rfl, _, rfl, itN (nn _ (by simp)) ?_⟩
    refine ⟨_, rfl, _, _, _, _, rfl, rfl, hT, a0, rfl, _, rfl, itN (nn _ (by simp)) ?_⟩
    exact ⟨_, rfl, _, rfl, _, rfl, h, cs, xs, a, d, q, L, rfl, sq, h7, hw, rl, wc, ns, lo, l12, Qk⟩
  cases h with
  | num k => exact absurd rfl h7
  | tru k => exact absurd rfl h7
  | var k => exact absurd rfl h7
  | fact k => exact absurd rfl h7
  | fail => exact absurd rfl h7
  | pair => exact absurd rfl h7
  | list => exact absurd rfl h7
  | call g => exact absurd rfl h7
  | bin s =>
    obtain ⟨x, y, rfl⟩ := len2 hw.1
    obtain ⟨vx, vy, rfl⟩ := len2 lx
    have sq : SqT K H a [.str (o "binary"), .str s, vx, vy] := sq
    have wt : Wf (.mk 0 (.bin s) [x, y]) := ⟨hw, wfs_iff.mpr fun c hc => (wc c hc).1⟩
    refine ⟨_, rfl, _, _, _, _, rfl, rfl, sq, a0, rfl, _, rfl, itY rfl ?_⟩
    refine ⟨_, rfl, _, _, rfl, ra, wt, fun H1 e1 => ?_⟩
    have l0 : ((lvS s : Nat) : Int) + (if decide (V.int ((lvS s : Nat) : Int) = V.int 3) = true then 1 else 0) = (((Hd.bin s).least 0 : Nat) : Int) := by
      show _ = (((if lvS s = 3 then 4 else lvS s : Nat)) : Int)
      by_cases h3 : lvS s = 3
      · rw [if_pos h3, h3]; rfl
      · rw [if_neg h3, decide_eq_false (fun z => h3 (by have := V.int.inj z; omega)), if_neg Bool.false_ne_true]; omega
    refine ⟨_, rfl, _, rfl, _, rfl, _, _, _, _, rfl, rfl, e1.tup .nil sq, a2, _, rfl, _, rfl, rfl, .inr ⟨_, rfl, _, _, rfl, rfl, ?_⟩⟩
    refine part 0 x vx H1 L _ _ _ rfl rfl l0 e1.nil (lo.ex0 e1) l12 fun r2 H2 L2 e2 x2 ex2 lo2 hL2 hd2 fr2 hr2 hl2 => ?_
    have E2 : Ext [d, q] H H2 := e1.nil.trans ex2
    obtain ⟨m1, m2⟩ := (lo.ex0 e1).off fr2
    refine ⟨_, rfl, _, rfl, _, _, _, _, rfl, rfl, E2.tup lo.not sq, a1, ?_⟩
    refine lit_ hr2 (by omega) fun r3 H3 e3 fr3 hr3 => ?_
    have E3 := E2.trans e3.nil
    obtain ⟨p1, p2⟩ := lo2.off fr3
    refine ⟨_, rfl, _, rfl, _, rfl, _, _, _, _, rfl, rfl, E3.tup lo.not sq, a3, _, rfl, _, _, rfl, rfl, ?_⟩
    refine step _ r3 1 y vy H3 L2 (lvS s + 1) _ _ (by simp; omega) hr3 p1 p2 rfl rfl (by show ((lvS s : Nat) : Int) + 1 = _; omega) E3 (lo2.ex0 e3) (by omega) fun r4 H4 L4 e4 x4 ex4 lo4 hL4 hd4 fr4 hr4 hl4 => ?_
    refine Qk r4 _ H4 L4 (E3.trans ex4) lo4 (by omega) (fresh_ E3 (lo2.ex0 e3) fr4) hr4 ⟨[e2, e4], x2 + x4, dcs2 hd2 hd4, by omega, ?_⟩
    simp [Hd.bare]
  | minus =>
    obtain ⟨x, rfl⟩ := len1 hw
    obtain ⟨vx, rfl⟩ := len1 lx
    have sq : SqT K H a [.str (o "minus"), vx] := sq
    refine ⟨_, rfl, _, _, _, _, rfl, rfl, sq, a0, rfl, _, rfl, itN (by decide +kernel) ?_⟩
    refine ⟨_, rfl, _, _, _, _, rfl, rfl, sq, a0, rfl, _, rfl, itY rfl ?_⟩
    refine ⟨by show 1 ≤ sizeLine; decide, fun l1 h1 => ?_⟩
    have e1 := Ext.new (ms := []) (o := .lst [.str (o "u-")]) h1
    obtain ⟨n1, n2⟩ := lo.off h1
    refine ⟨_, rfl, _, rfl, _, rfl, _, _, _, _, rfl, rfl, e1.tup .nil sq, a1, ?_⟩
    refine step [o "u-"] l1 0 x vx _ L 6 _ _ (by simp) upd_same n1 n2 rfl rfl rfl e1.nil (lo.ex0 e1) l12 fun r2 H2 L2 e2 x2 ex2 lo2 hL2 hd2 fr2 hr2 hl2 => ?_
    exact Qk r2 _ H2 L2 (e1.nil.trans ex2) lo2 (by omega) (e1.free fr2) hr2 ⟨[e2], x2, dcs1 hd2, by omega, rfl⟩
  | not_ =>
    obtain ⟨x, rfl⟩ := len1 hw
    obtain ⟨vx, rfl⟩ := len1 lx
    have sq : SqT K H a [.str (o "not"), vx] := sq
    refine ⟨_, rfl, _, _, _, _, rfl, rfl, sq, a0, rfl, _, rfl, itN (by decide +kernel) ?_⟩
    refine ⟨_, rfl, _, _, _, _, rfl, rfl, sq, a0, rfl, _, rfl, itN (by decide +kernel) ?_⟩
    refine ⟨_, rfl, _, _, _, _, rfl, rfl, sq, a0, rfl, _, rfl, itY rfl ?_⟩
    refine ⟨by show 1 ≤ sizeLine; decide, fun l1 h1 => ?_⟩
    have e1 := Ext.new (ms := []) (o := .lst [.str (o "not")]) h1
    obtain ⟨n1, n2⟩ := lo.off h1
    refine ⟨_, rfl, _, rfl, _, rfl, _, _, _, _, rfl, rfl, e1.tup .nil sq, a1, ?_⟩
    refine step [o "not"] l1 0 x vx _ L 6 _ _ (by simp) upd_same n1 n2 rfl rfl rfl e1.nil (lo.ex0 e1) l12 fun r2 H2 L2 e2 x2 ex2 lo2 hL2 hd2 fr2 hr2 hl2 => ?_
    exact Qk r2 _ H2 L2 (e1.nil.trans ex2) lo2 (by omega) (e1.free fr2) hr2 ⟨[e2], x2, dcs1 hd2, by omega, rfl⟩
  | let_ u =>
    obtain ⟨x, y, rfl⟩ := len2 hw.1
    obtain ⟨vx, vy, rfl⟩ := len2 lx
    have sq : SqT K H a [.str (o "let"), .str u, vx, vy] := sq
    refine ⟨_, rfl, _, _, _, _, rfl, rfl, sq, a0, rfl, _, rfl, itN (by decide +kernel) ?_⟩
    refine ⟨_, rfl, _, _, _, _, rfl, rfl, sq, a0, rfl, _, rfl, itN (by decide +kernel) ?_⟩
    refine ⟨_, rfl, _, _, _, _, rfl, rfl, sq, a0, rfl, _, rfl, itN (by decide +kernel) ?_⟩
    refine ⟨_, rfl, _, _, _, _, rfl, rfl, sq, a0, rfl, _, rfl, itY rfl ?_⟩
    refine ⟨_, rfl, _, _, _, _, rfl, rfl, sq, a1, by show 3 ≤ sizeLine; decide, fun l1 h1 => ?_⟩
    have e1 := Ext.new (ms := []) (o := .lst [.str (o "let"), .str u, .str (o "=")]) h1
    obtain ⟨n1, n2⟩ := lo.off h1
    refine ⟨_, rfl, _, rfl, _, rfl, _, _, _, _, rfl, rfl, e1.tup .nil sq, a2, ?_⟩
    refine step [o "let", u, o "="] l1 0 x vx _ L 0 _ _ (by simp) upd_same n1 n2 rfl rfl rfl e1.nil (lo.ex0 e1) l12 fun r2 H2 L2 e2 x2 ex2 lo2 hL2 hd2 fr2 hr2 hl2 => ?_
    have E2 : Ext [d, q] H H2 := e1.nil.trans ex2
    refine ⟨_, rfl, ?_⟩
    refine lit_ hr2 (by simp; omega) fun r3 H3 e3 fr3 hr3 => ?_
    have E3 := E2.trans e3.nil
    obtain ⟨p1, p2⟩ := lo2.off fr3
    refine ⟨_, rfl, _, rfl, _, rfl, _, _, _, _, rfl, rfl, E3.tup lo.not sq, a3, ?_⟩
    refine step _ r3 1 y vy H3 L2 0 _ _ (by simp; omega) hr3 p1 p2 rfl rfl rfl E3 (lo2.ex0 e3) (by omega) fun r4 H4 L4 e4 x4 ex4 lo4 hL4 hd4 fr4 hr4 hl4 => ?_
    refine Qk r4 _ H4 L4 (E3.trans ex4) lo4 (by omega) (fresh_ E3 (lo2.ex0 e3) fr4) hr4 ⟨[e2, e4], x2 + x4, dcs2 hd2 hd4, by omega, ?_⟩
    simp [Hd.bare]
  | note =>
    obtain ⟨x, y, rfl⟩ := len2 hw
    obtain ⟨vx, vy, rfl⟩ := len2 lx
    have sq : SqT K H a [.str (o "note"), vx, vy] := sq
    refine ⟨_, rfl, _, _, _, _, rfl, rfl, sq, a0, rfl, _, rfl, itN (by decide +kernel) ?_⟩
    refine ⟨_, rfl, _, _, _, _, rfl, rfl, sq, a0, rfl, _, rfl, itN (by decide +kernel) ?_⟩
    refine ⟨_, rfl, _, _, _, _, rfl, rfl, sq, a0, rfl, _, rfl, itN (by decide +kernel) ?_⟩
    refine ⟨_, rfl, _, _, _, _, rfl, rfl, sq, a0, rfl, _, rfl, itN (by decide +kernel) ?_⟩
    refine ⟨_, rfl, _, _, _, _, rfl, rfl, sq, a0, rfl, _, rfl, itY rfl ?_⟩
    refine ⟨by show 1 ≤ sizeLine; decide, fun l1 h1 => ?_⟩
    have e1 := Ext.new (ms := []) (o := .lst [.str (o "note")]) h1
    obtain ⟨n1, n2⟩ := lo.off h1
    refine ⟨_, rfl, _, rfl, _, rfl, _, _, _, _, rfl, rfl, e1.tup .nil sq, a1, ?_⟩
    refine step [o "note"] l1 0 x vx _ L 0 _ _ (by simp) upd_same n1 n2 rfl rfl rfl e1.nil (lo.ex0 e1) l12 fun r2 H2 L2 e2 x2 ex2 lo2 hL2 hd2 fr2 hr2 hl2 => ?_
    have E2 : Ext [d, q] H H2 := e1.nil.trans ex2
    refine ⟨_, rfl, ?_⟩
    refine lit_ hr2 (by simp; omega) fun r3 H3 e3 fr3 hr3 => ?_
    have E3 := E2.trans e3.nil
    obtain ⟨p1, p2⟩ := lo2.off fr3
    refine ⟨_, rfl, _, rfl, _, rfl, _, _, _, _, rfl, rfl, E3.tup lo.not sq, a2, ?_⟩
    refine step _ r3 1 y vy H3 L2 0 _ _ (by simp; omega) hr3 p1 p2 rfl rfl rfl E3 (lo2.ex0 e3) (by omega) fun r4 H4 L4 e4 x4 ex4 lo4 hL4 hd4 fr4 hr4 hl4 => ?_
    refine Qk r4 _ H4 L4 (E3.trans ex4) lo4 (by omega) (fresh_ E3 (lo2.ex0 e3) fr4) hr4 ⟨[e2, e4], x2 + x4, dcs2 hd2 hd4, by omega, ?_⟩
    simp [Hd.bare]
  | ite_ =>
    obtain ⟨x, y, z, rfl⟩ := len3 hw
    obtain ⟨vx, vy, vz, rfl⟩ := len3 lx
    have sq : SqT K H a [.str (o "if"), vx, vy, vz] := sq
    refine ⟨_, rfl, _, _, _, _, rfl, rfl, sq, a0, rfl, _, rfl, itN (by decide +kernel) ?_⟩
    refine ⟨_, rfl, _, _, _, _, rfl, rfl, sq, a0, rfl, _, rfl, itN (by decide +kernel) ?_⟩
    refine ⟨_, rfl, _, _, _, _, rfl, rfl, sq, a0, rfl, _, rfl, itN (by decide +kernel) ?_⟩
    refine ⟨_, rfl, _, _, _, _, rfl, rfl, sq, a0, rfl, _, rfl, itN (by decide +kernel) ?_⟩
    refine ⟨_, rfl, _, _, _, _, rfl, rfl, sq, a0, rfl, _, rfl, itN (by decide +kernel) ?_⟩
    refine ⟨_, rfl, _, _, _, _, rfl, rfl, sq, a0, rfl, _, rfl, itY rfl ?_⟩
    refine ⟨by show 1 ≤ sizeLine; decide, fun l1 h1 => ?_⟩
    have e1 := Ext.new (ms := []) (o := .lst [.str (o "if")]) h1
    obtain ⟨n1, n2⟩ := lo.off h1
    refine ⟨_, rfl, _, rfl, _, rfl, _, _, _, _, rfl, rfl, e1.tup .nil sq, a1, ?_⟩
    refine step [o "if"] l1 0 x vx _ L 0 _ _ (by simp) upd_same n1 n2 rfl rfl rfl e1.nil (lo.ex0 e1) l12 fun r2 H2 L2 e2 x2 ex2 lo2 hL2 hd2 fr2 hr2 hl2 => ?_
    have E2 : Ext [d, q] H H2 := e1.nil.trans ex2
    refine lit_ hr2 (by simp; omega) fun r3 H3 e3 fr3 hr3 => ?_
    have E3 := E2.trans e3.nil
    obtain ⟨p1, p2⟩ := lo2.off fr3
    refine ⟨_, rfl, _, rfl, _, rfl, _, _, _, _, rfl, rfl, E3.tup lo.not sq, a2, ?_⟩
    refine step _ r3 1 y vy H3 L2 0 _ _ (by simp; omega) hr3 p1 p2 rfl rfl rfl E3 (lo2.ex0 e3) (by omega) fun r4 H4 L4 e4 x4 ex4 lo4 hL4 hd4 fr4 hr4 hl4 => ?_
    have E4 := E3.trans ex4
    refine ⟨_, rfl, ?_⟩
    refine lit_ hr4 (by simp; omega) fun r5 H5 e5 fr5 hr5 => ?_
    have E5 := E4.trans e5.nil
    obtain ⟨s1, s2⟩ := lo4.off fr5
    refine ⟨_, rfl, _, rfl, _, rfl, _, _, _, _, rfl, rfl, E5.tup lo.not sq, a3, ?_⟩
    refine step _ r5 2 z vz H5 L4 0 _ _ (by simp; omega) hr5 s1 s2 rfl rfl rfl E5 (lo4.ex0 e5) (by omega) fun r6 H6 L6 e6 x6 ex6 lo6 hL6 hd6 fr6 hr6 hl6 => ?_
    refine Qk r6 _ H6 L6 (E5.trans ex6) lo6 (by omega) (fresh_ E5 (lo4.ex0 e5) fr6) hr6 ⟨[e2, e4, e6], x2 + (x4 + x6), dcs3 hd2 hd4 hd6, by omega, ?_⟩
    simp [Hd.bare]
  | fold u g =>
    obtain ⟨x, y, z, rfl⟩ := len3 hw.1
    obtain ⟨vx, vy, vz, rfl⟩ := len3 lx
    have sq : SqT K H a [.str (o "fold"), .str u, .str g, vx, vy, vz] := sq
    have a4 : atI [V.str (o "fold"), .str u, .str g, vx, vy, vz] 4 = some vy := rfl
    have a5 : atI [V.str (o "fold"), .str u, .str g, vx, vy, vz] 5 = some vz := rfl
    refine ⟨_, rfl, _, _, _, _, rfl, rfl, sq, a0, rfl, _, rfl, itN (by decide +kernel) ?_⟩
    refine ⟨_, rfl, _, _, _, _, rfl, rfl, sq, a0, rfl, _, rfl, itN (by decide +kernel) ?_⟩
    refine ⟨_, rfl, _, _, _, _, rfl, rfl, sq, a0, rfl, _, rfl, itN (by decide +kernel) ?_⟩
    refine ⟨_, rfl, _, _, _, _, rfl, rfl, sq, a0, rfl, _, rfl, itN (by decide +kernel) ?_⟩
    refine ⟨_, rfl, _, _, _, _, rfl, rfl, sq, a0, rfl, _, rfl, itN (by decide +kernel) ?_⟩
    refine ⟨_, rfl, _, _, _, _, rfl, rfl, sq, a0, rfl, _, rfl, itN (by decide +kernel) ?_⟩
    refine ⟨_, rfl, _, _, _, _, rfl, rfl, sq, a0, rfl, _, rfl, itY rfl ?_⟩
    refine ⟨_, rfl, _, _, _, _, rfl, rfl, sq, a1, _, rfl, _, _, _, _, rfl, rfl, sq, a2, by show 4 ≤ sizeLine; decide, fun l1 h1 => ?_⟩
    have e1 := Ext.new (ms := []) (o := .lst [.str (o "fold"), .str u, .str g, .str (o "in")]) h1
    obtain ⟨n1, n2⟩ := lo.off h1
    refine ⟨_, rfl, _, rfl, _, rfl, _, _, _, _, rfl, rfl, e1.tup .nil sq, a3, ?_⟩
    refine step [o "fold", u, g, o "in"] l1 0 x vx _ L 0 _ _ (by simp) upd_same n1 n2 rfl rfl rfl e1.nil (lo.ex0 e1) l12 fun r2 H2 L2 e2 x2 ex2 lo2 hL2 hd2 fr2 hr2 hl2 => ?_
    have E2 : Ext [d, q] H H2 := e1.nil.trans ex2
    refine lit_ hr2 (by simp; omega) fun r3 H3 e3 fr3 hr3 => ?_
    have E3 := E2.trans e3.nil
    obtain ⟨p1, p2⟩ := lo2.off fr3
    refine ⟨_, rfl, _, rfl, _, rfl, _, rfl, _, _, _, _, rfl, rfl, E3.tup lo.not sq, a4, ?_⟩
    refine step _ r3 1 y vy H3 L2 0 _ _ (by simp; omega) hr3 p1 p2 rfl rfl rfl E3 (lo2.ex0 e3) (by omega) fun r4 H4 L4 e4 x4 ex4 lo4 hL4 hd4 fr4 hr4 hl4 => ?_
    have E4 := E3.trans ex4
    refine lit_ hr4 (by simp; omega) fun r5 H5 e5 fr5 hr5 => ?_
    have E5 := E4.trans e5.nil
    obtain ⟨s1, s2⟩ := lo4.off fr5
    refine ⟨_, rfl, _, rfl, _, rfl, _, _, _, _, rfl, rfl, E5.tup lo.not sq, a5, ?_⟩
    refine step _ r5 2 z vz H5 L4 0 _ _ (by simp; omega) hr5 s1 s2 rfl rfl rfl E5 (lo4.ex0 e5) (by omega) fun r6 H6 L6 e6 x6 ex6 lo6 hL6 hd6 fr6 hr6 hl6 => ?_
    refine Qk r6 _ H6 L6 (E5.trans ex6) lo6 (by omega) (fresh_ E5 (lo4.ex0 e5) fr6) hr6 ⟨[e2, e4, e6], x2 + (x4 + x6), dcs3 hd2 hd4 hd6, by omega, ?_⟩
    simp [Hd.bare]
end
end K13

/-! L15: the law's tokens of a term -/
namespace K13
open PySem PySem.Spec PyProof.Rows L2
section
variable {P : Program} {w : World} {K : PySem.W.Frag} {mg : Str → Option Value} {base : Heap} {n : Nat}
theorem sc_law_tokens : FnScope ["_law_draws", "_law_loose", "_law_term", "_law_least", "_law_rows"] ["_law_draws", "_law_loose", "_law_term", "_law_least"] (defScope s_law_tokens) := ⟨rfl, rfl, rfl, by decide +kernel, rfl, by decide +kernel, by decide +kernel⟩
theorem ok_law_tokens (T : Tx w K mg) : ∀ n, Cal P w K mg base "_law_tokens" (4 * n + 2) ["_law_draws", "_law_loose", "_law_term", "_law_least"] (sp_toks K n)
  | 0 => by
    refine Cal.none_ T.f_law_tokens T.g__law_tokens (fun _ _ _ _ _ _ us hl => match us, hl with | [_, _, _, _], _ => rfl) ?_
    rintro vs H Q E ⟨t, v, d, q, L, least, lv, _, _, _, _, h, _⟩
    have := dep_pos t
    omega
  | n + 1 => by
    have C_law_bare := ok_law_bare T (by omega) (ok_law_tokens T n)
    have C_law_level := ok_law_level T (P := P) (base := base)
    have C_law_draw := ok_law_draw T (P := P) (base := base)
    refine Cal.of T.f_law_tokens T.g__law_tokens sc_law_tokens (fun _ _ _ _ _ _ us hl => match us, hl with | [_, _, _, _], _ => rfl) (fun vs H Q E h => ?_) (fun f cdv A outer s H vs Q E hr h => ?_)
    · obtain ⟨t, v, d, q, L, least, lv, rfl, _⟩ := h; rfl
    obtain ⟨⟨p0, h, cs⟩, v, d, q, L, least, lv, rfl, hlv, rp, wf, dn, nn, lo, l12, Qk⟩ := h
    refine ⟨_, pss_cons (ps_set (i := 4) sc_law_tokens.nd rfl (Or.inl rfl) (pe_cal C_law_bare (hr.mono (by omega)) rfl (pa_cons (pv 0) (pa_cons (pv 1) (pa_cons (pv 2) pa_nil)))))
    (C8.pss_cut (ps_if (pt_cmpR op_lt (pe_cal C_law_level (hr.mono (by omega)) rfl (pa_cons (pv 2) pa_nil)) (pv 3) (nomark _))
    (pss_one (ps_set (i := 4) sc_law_tokens.nd rfl (Or.inl rfl) (pe_op op_cat (pe_op op_cat (pe_lst (pa_cons (pe_str) pa_nil)) (pv 4)) (pe_lst (pa_cons (pe_str) pa_nil)))))
    (pss_nil))
    (C8.pss_cut (ps_if (PW.pt (pw_and (pt_cmpR op_gt (pe_ix ix_list (pv 1) (pe_int) (fun _ _ => rfl)) (pe_int) (nomark _)) (pw_and1 (pt_cmpR op_eq (pe_cal C_law_draw (hr.mono (by omega)) rfl (pa_cons (pv 0) (pa_cons (pe_int) pa_nil))) (pe_int) (nomark _)))))
    (pss_cons (ps_asg (pe_op op_sub (pe_ix ix_list (pv 1) (pe_int) (fun _ _ => rfl)) (pe_int)) (pg_sub (pv 1) (pe_int) set_list))
      (pss_one (ps_set (i := 4) sc_law_tokens.nd rfl (Or.inl rfl) (pe_op op_cat (pe_op op_cat (pe_lst (pa_cons (pe_str) pa_nil)) (pv 4)) (pe_lst (pa_cons (pe_str) pa_nil))))))
    (pss_nil))
    (pss_one (ps_ret (pv 4))))), ?_⟩
    obtain ⟨a, xs, rfl, nda, rl, lx⟩ := node_of rp
    have dn' : maxl (cs.map dep) ≤ n := by rw [dep_mk] at dn; omega
    rw [nd_mk] at nn
    have wc : ∀ c ∈ cs, Wf c ∧ dep c ≤ n := fun c hc => ⟨wf.sub hc, Nat.le_trans (dep_mem hc) dn'⟩
    refine ⟨_, rfl, _, rfl, _, rfl, h, cs, a, d, q, xs, L, rfl, nda, wf.hd, rl, wc, by omega, by rw [enc_p 0 p0]; exact rp, lo, l12, fun r rows H1 L1 e1 lo1 le1 fr1 hr1 ⟨es, z, dd, hL, hrows⟩ => ?_⟩
    have hlen : rows.length ≤ 400000 := by
      have hb : h.Wf (es.map tk).length := by rw [List.length_map, dd.length]; exact wf.hd
      have h1 := bare_len hb
      have h2 := dd.sum (F := fun e => (tk e).length + 1) (G := fun c => 9 * nd c) fun c hc l y e hd => hd.len (wc c hc).1
      rw [List.map_map] at h1
      have e1 : (es.map ((fun r : List Str => r.length + 1) ∘ tk)).sum = (es.map fun e => (tk e).length + 1).sum := rfl
      have e2 : ∀ cs : List Tm, (cs.map fun c => 9 * nd c).sum = 9 * (cs.map nd).sum := by
        intro cs
        induction cs with
        | nil => rfl
        | cons c r ih => simp only [List.map_cons, List.sum_cons]; rw [ih]; omega
      rw [e1] at h1
      rw [e2] at h2
      rw [hrows]
      omega
    obtain ⟨r1, r2⟩ := lo.off fr1
    refine ⟨fun σ' H5 => ∃ rr, Ext [d, q] H H5 ∧ Lo H5 d q L1 ∧ H rr = none ∧ H5 rr = some (.lst ((wrap (if h.lv < lv then 1 else 0) rows).map V.str)) ∧ σ' = [some (.ref d), some (.ref q), some (.ref a), some (.int least), some (.ref rr)], ?_, ?_⟩
    · refine ⟨_, rfl, .mk p0 h cs, _, rfl, rp.ext e1 lo.not, wf, fun H2 e2 => ?_⟩
      have E2 := e1.trans e2.nil
      have lo2 := lo1.ex0 e2
      refine ⟨_, rfl, _, _, rfl, rfl, _, rfl, ite2 (fun c => ?_) fun c => ?_⟩
      · have c : h.lv < lv := by
          have : ((h.lv : Nat) : Int) < least := of_decide_eq_true c
          omega
        refine ⟨by show 1 ≤ sizeLine; decide, fun l1 h1 => ⟨_, rfl, ?_⟩⟩
        have e3 := Ext.new (ms := []) (o := .lst [.str (K13.o "(")]) h1
        refine cat_ (as := [K13.o "("]) upd_same (e3 _ _ (e2 _ _ hr1 (by simp)) (by simp)) (by simp; omega) fun r3 H4 e4 fr4 hr4 => ?_
        refine lit_ hr4 (by simp; omega) fun r5 H5 e5 fr5 hr5 => ?_
        have E4 := (E2.trans e3.nil).trans e4.nil
        refine ⟨r5, E4.trans e5.nil, ((lo2.ex0 e3).ex0 e4).ex0 e5, fresh_ E4 ((lo2.ex0 e3).ex0 e4) fr5, ?_, rfl⟩
        rw [hr5, if_pos c]
        rfl
      · have c : ¬ h.lv < lv := fun y => c (decide_eq_true (by show ((h.lv : Nat) : Int) < least; omega))
        exact ⟨r, E2, lo2, fr1, by rw [if_neg c]; exact e2 _ _ hr1 (by simp), rfl⟩
    · rintro σ' H5 ⟨rr, E5, lo5, frr, hrr, rfl⟩
      obtain ⟨q1, q2⟩ := lo.off frr
      have hl5 : (wrap (if h.lv < lv then 1 else 0) rows).length ≤ 400002 := by rw [wrap_len]; split <;> omega
      refine ⟨fun σ' H6 => ∃ rr y L2, Ext [d, q] H H6 ∧ Lo H6 d q L2 ∧ L1 = L2 + y ∧ H rr = none ∧ H6 rr = some (.lst ((wrap ((if h.lv < lv then 1 else 0) + y) rows).map V.str)) ∧ σ' = [some (.ref d), some (.ref q), some (.ref a), some (.int least), some (.ref rr)], ?_, ?_⟩
      · refine ⟨_, rfl, q, _, _, _, rfl, rfl, SqL.of lo5.lo, a0, _, _, rfl, rfl, _, rfl, ite2 (fun c => ?_) fun c => ?_⟩
        · have c : 0 < L1 := by
            have : (0 : Int) < (L1 : Int) := of_decide_eq_true c
            omega
          refine ⟨_, rfl, d, 4, rfl, lo5.dr, by decide, fun i H6 e6 hd6 hi => ⟨rfl, _, rfl, ite2 (fun _ => ?_) fun _ => ?_⟩⟩
          · have lo6 : Lo H6 d q L1 := ⟨hd6, e6 _ _ lo5.lo (by simpa using Ne.symm lo5.ne), lo5.ne⟩
            refine ⟨_, rfl, q, _, _, _, rfl, rfl, SqL.of lo6.lo, a0, _, _, rfl, rfl, _, rfl, q, _, _, 0, rfl, rfl, lo6.lo, rfl, ?_⟩
            have e7 : Ext [d, q] H6 (upd H6 q (.lst ([V.int (L1 : Int)].set 0 (.int ((L1 : Int) - 1))))) := (Ext.refl _ _).set (by simp)
            have lo7 : Lo (upd H6 q (.lst ([V.int (L1 : Int)].set 0 (.int ((L1 : Int) - 1))))) d q (L1 - 1) := by
              refine ⟨hd6.ex (ms := [q]) ((Ext.refl _ _).set (by simp)) (by simpa using lo5.ne), ?_, lo5.ne⟩
              rw [upd_same]
              show some (HO.lst [.int ((L1 : Int) - 1)]) = _
              rw [show (L1 : Int) - 1 = ((L1 - 1 : Nat) : Int) by omega]
            have E7 := (E5.trans e6.dw).trans e7
            have hrr7 := e7 _ _ (e6 _ _ hrr (by simpa using q1)) (by simp [q1, q2])
            refine ⟨by show 1 ≤ sizeLine; decide, fun l1 h1 => ⟨_, rfl, ?_⟩⟩
            have e8 := Ext.new (ms := []) (o := .lst [.str (K13.o "(")]) h1
            refine cat_ (as := [K13.o "("]) upd_same (e8 _ _ hrr7 (by simp)) (by simp; omega) fun r3 H9 e9 fr9 hr9 => ?_
            refine lit_ hr9 (by simp; omega) fun r5 HA eA frA hrA => ?_
            have E9 := (E7.trans e8.nil).trans e9.nil
            refine ⟨r5, 1, L1 - 1, E9.trans eA.nil, ((lo7.ex0 e8).ex0 e9).ex0 eA, by omega, fresh_ E9 ((lo7.ex0 e8).ex0 e9) frA, ?_, rfl⟩
            rw [hrA]
            rfl
          · exact ⟨rr, 0, L1, E5.trans e6.dw, ⟨hd6, e6 _ _ lo5.lo (by simpa using Ne.symm lo5.ne), lo5.ne⟩, rfl, frr, e6 _ _ hrr (by simpa using q1), rfl⟩
        · exact iteF ⟨rr, 0, L1, E5, lo5, rfl, frr, hrr, rfl⟩
      · rintro σ' H6 ⟨rr2, y, L2, E6, lo6, hL2, frr2, hrr2, rfl⟩
        refine ⟨_, rfl, Qk rr2 _ H6 L2 E6 lo6 (by omega) frr2 hrr2 ⟨.mk ((if h.lv < lv then 1 else 0) + y) h es, y + z, Dc.mk_ rfl rfl dd, by omega, ?_⟩⟩
        rw [tk_mk, hrows]
/-! ### plain -/
def LTok (t : Str) : Prop := t = o "u-" ∨ t = o "c(" ∨ Tokn t
theorem pl_cut {t : Str} (h : t = o "u-" ∨ t = o "c(") : cutS t (some 1) none = pl t ∧ t.length ≤ 100 := by
  rcases h with rfl | rfl <;> exact ⟨by decide +kernel, by decide +kernel⟩
theorem pl_keep {t : Str} (h : ¬ (t = o "u-" ∨ t = o "c(")) : pl t = t := pl_of (fun z => h (.inl z)) fun z => h (.inr z)
def sp_plain : Sp := fun vs H Q _ => ∃ (r : Addr) (rows : List Str), vs = [.ref r] ∧ H r = some (.lst (rows.map V.str)) ∧ rows.length ≤ 1000000 ∧ ∀ l H', Ext [] H H' → H l = none → H' l = some (.lst ((rows.map pl).map V.str)) → Q (.ref l) H'
theorem sc_law_plain : FnScope ["_law_rows", "_law_plain_here", "_law_token"] ["_law_rows"] (defScope s_law_plain) := ⟨rfl, rfl, rfl, by decide +kernel, rfl, by decide +kernel, by decide +kernel⟩
theorem ok_law_plain (T : Tx w K mg) : Cal P w K mg base "_law_plain" 1 ["_law_rows"] sp_plain := by
  refine Cal.of T.f_law_plain T.g__law_plain sc_law_plain (fun _ _ _ _ _ _ us hl => match us, hl with | [_], _ => rfl) (fun vs H Q E h => ?_) (fun f cdv A outer s H vs Q E hr h => ?_)
  · obtain ⟨r, rows, rfl, _⟩ := h; rfl
  obtain ⟨r, rows, rfl, hr0, lr, q⟩ := h
  refine ⟨_, pss_cons (ps_set (i := 1) sc_law_plain.nd rfl (Or.inl rfl) (pe_lst pa_nil))
    (pss_cons (ps_for PassesOwn.never rfl (pi_list (pv 0)) (pg_name (i := 2) sc_law_plain.nd rfl (Or.inl rfl))
    (C8.pss_cut (ps_if (PW.pt (pw_or (pt_cmpR op_eq (pv 2) (pe_str) (nomark _)) (pw_or1 (pt_cmpR op_eq (pv 2) (pe_str) (nomark _)))))
      (pss_one (ps_set (i := 2) sc_law_plain.nd rfl (Or.inl rfl) (pe_slice sl_str (pv 2) (po_some (pe_int)) po_none)))
      (pss_nil))
      (pss_one (ps_expr (pe_bm PySem.F.plainAttrs_list PySem.F.slot_list_append PySem.F.type_list_append mt_append (pv 1) (pa_cons (pv 2) pa_nil))))))
    (pss_one (ps_ret (pv 1)))), ?_⟩
  refine ⟨Nat.zero_le _, fun f0 hf0 => ?_⟩
  have e1 := Ext.new (ms := []) (o := .lst []) hf0
  have nf : r ≠ f0 := ne_of_none hr0 hf0
  refine ⟨_, rfl, r, rfl, ⟨_, SqL.of (e1 _ _ hr0 (by simp))⟩, ?_⟩
  refine for_list (xs := rows.map V.str) (fun i σ H' => Ext [] H H' ∧ H' f0 = some (.lst (((rows.take i).map pl).map V.str)) ∧ ∃ x2, σ = [some (.ref r), some (.ref f0), x2]) ⟨e1, upd_same, none, rfl⟩ (fun i σ H' _ pv => SqL.of (pv.1 _ _ hr0 (by simp))) (fun i x σ H' hx pv => ?_) (fun σ H' pv => ?_)
  · obtain ⟨pe, hf, x2, rfl⟩ := pv
    rw [List.getElem?_map] at hx
    obtain ⟨t, ht, rfl⟩ := Option.map_eq_some_iff.mp hx
    have hi : i < rows.length := (List.getElem?_eq_some_iff.mp ht).1
    refine ⟨fun σ' H5 => H5 = H' ∧ σ' = [some (.ref r), some (.ref f0), some (.str (pl t))], ?_, ?_⟩
    · have cut : (t = o "u-" ∨ t = o "c(") → tAsg (tSl rSlS (tVar 2) (tPart (tC (.int 1))) tNoPart) (gName 2) { nx := fun σ' H5 => H5 = H' ∧ σ' = [some (.ref r), some (.ref f0), some (.str (pl t))], rt := fun _ _ => True } [some (.ref r), some (.ref f0), some (.str t)] H' := fun h => by
        obtain ⟨c1, c2⟩ := pl_cut h
        exact ⟨_, rfl, _, rfl, t, rfl, small (by omega), rfl, by rw [c1]; rfl⟩
      refine ⟨_, rfl, rfl, _, rfl, ite2 (fun c => iteT (cut (.inl (dec_eq c)))) fun c => ?_⟩
      refine ⟨_, rfl, rfl, _, rfl, ite2 (fun c => cut (.inr (dec_eq c))) fun c2 => ?_⟩
      refine ⟨rfl, ?_⟩
      rw [pl_keep fun z => z.elim (dec_ne c) (dec_ne c2)]
      rfl
    · rintro σ' H5 ⟨rfl, rfl⟩
      refine ⟨_, rfl, .inl ⟨rfl, _, SqL.of hf⟩, _, rfl, f0, _, _, rfl, rfl, hf, small' (by rw [List.length_map, List.length_map, List.length_take]; omega), ?_⟩
      refine ⟨pe.own hf0, ?_, _, rfl⟩
      rw [upd_same, take_snoc ht, List.map_append, List.map_append]
      rfl
  · obtain ⟨pe, hf, x2, rfl⟩ := pv
    rw [List.length_map, List.take_length] at hf
    exact ⟨_, rfl, q f0 H' pe hf0 hf⟩
end
end K13

/-! L16: the law's joined text; the tokens of a script -/
namespace K13
open PySem PySem.Spec PyProof.Rows L2
def opnT (b : Str) : Bool := decide (b ∈ ([o "", o "(", o "c(", o "[", o "u-"] : List Str))
def clsT (t : Str) : Bool := decide (t ∈ ([o ")", o "]", o ",", o ";", o "c("] : List Str))
def spT (b t : Str) : List Nat := if (!opnT b && !clsT t) = true then [32] else []
/-- the joined text, behind the token b -/
def jn : Str → List Str → List Nat
  | _, [] => []
  | b, t :: r => spT b t ++ (cd (pl t) ++ jn t r)
def lastS : Str → List Str → Str
  | b, [] => b
  | _, t :: r => lastS t r
theorem jn_snoc : ∀ (b : Str) (xs : List Str) (t : Str), jn b (xs ++ [t]) = jn b xs ++ (spT (lastS b xs) t ++ cd (pl t))
  | b, [], t => by simp [jn, lastS]
  | b, x :: r, t => by simp only [List.cons_append, jn, lastS, jn_snoc x r t, List.append_assoc]
theorem lastS_snoc : ∀ (b : Str) (xs : List Str) (t : Str), lastS b (xs ++ [t]) = t
  | b, [], t => rfl
  | b, x :: r, t => lastS_snoc x r t
def wt (r : List Str) : Nat := (r.map fun t => (cd t).length + 1).sum
theorem pl_len (t : Str) : (cd (pl t)).length ≤ (cd t).length := by
  unfold pl
  split
  · rename_i h; subst h; decide +kernel
  · split
    · rename_i h; subst h; decide +kernel
    · exact Nat.le_refl _
theorem spT_len (b t : Str) : (spT b t).length ≤ 1 := by unfold spT; split <;> simp
theorem jn_len : ∀ (b : Str) (r : List Str), (jn b r).length ≤ wt r
  | b, [] => Nat.zero_le _
  | b, t :: r => by
    have h1 := jn_len t r
    have h2 := pl_len t
    have h3 := spT_len b t
    show (spT b t ++ (cd (pl t) ++ jn t r)).length ≤ ((cd t).length + 1) + wt r
    rw [List.length_append, List.length_append]
    omega
theorem wt_take (r : List Str) (i : Nat) : wt (r.take i) ≤ wt r := by
  have h1 := congrArg wt (List.take_append_drop i r)
  unfold wt at h1 ⊢
  rw [List.map_append, List.sum_append] at h1
  omega
section
variable {P : Program} {w : World} {K : PySem.W.Frag} {mg : Str → Option Value} {base : Heap} {n : Nat}
def sp_joined : Sp := fun vs H Q _ => ∃ (r : Addr) (rows : List Str), vs = [.ref r] ∧ H r = some (.lst (rows.map V.str)) ∧ wt rows ≤ 15000000 ∧ ∀ H', Ext [] H H' → Q (.str (S (jn (o "") rows))) H'
theorem sc_law_joined : FnScope ["_law_rows", "_law_text_here", "_law_before", "_law_token"] ["_law_rows"] (defScope s_law_joined) := ⟨rfl, rfl, rfl, by decide +kernel, rfl, by decide +kernel, by decide +kernel⟩
theorem ok_law_joined (T : Tx w K mg) : Cal P w K mg base "_law_joined" 2 ["_law_rows"] sp_joined := by
  have C_law_plain := ok_law_plain T (P := P) (base := base)
  refine Cal.of T.f_law_joined T.g__law_joined sc_law_joined (fun _ _ _ _ _ _ us hl => match us, hl with | [_], _ => rfl) (fun vs H Q E h => ?_) (fun f cdv A outer s H vs Q E hr h => ?_)
  · obtain ⟨r, rows, rfl, _⟩ := h; rfl
  obtain ⟨r, rows, rfl, hr0, lw, q⟩ := h
  refine ⟨_, pss_cons (ps_set (i := 1) sc_law_joined.nd rfl (Or.inl rfl) (pe_str))
    (pss_cons (ps_set (i := 2) sc_law_joined.nd rfl (Or.inl rfl) (pe_str))
    (pss_cons (ps_for PassesOwn.never rfl (pi_list (pv 0)) (pg_name (i := 3) sc_law_joined.nd rfl (Or.inl rfl))
    (C8.pss_cut (ps_if (PW.pt (pw_and (pt_cmpR op_notIn_seq (pv 2) (pe_lst (pa_cons (pe_str) (pa_cons (pe_str) (pa_cons (pe_str) (pa_cons (pe_str) (pa_cons (pe_str) pa_nil)))))) rfl) (pw_and1 (pt_cmpR op_notIn_seq (pv 3) (pe_lst (pa_cons (pe_str) (pa_cons (pe_str) (pa_cons (pe_str) (pa_cons (pe_str) (pa_cons (pe_str) pa_nil)))))) rfl))))
      (pss_one (ps_set (i := 1) sc_law_joined.nd rfl (Or.inl rfl) (pe_op op_add_str (pv 1) (pe_str))))
      (pss_nil))
      (pss_cons (ps_set (i := 1) sc_law_joined.nd rfl (Or.inl rfl) (pe_op op_add_str (pv 1) (pe_ix ix_list (pe_cal C_law_plain (hr.mono (by omega)) rfl (pa_cons (pe_lst (pa_cons (pv 3) pa_nil)) pa_nil)) (pe_int) (fun _ _ => rfl))))
      (pss_one (ps_set (i := 2) sc_law_joined.nd rfl (Or.inl rfl) (pv 3))))))
    (pss_one (ps_ret (pv 1))))), ?_⟩
  refine ⟨_, rfl, r, rfl, ⟨_, SqL.of hr0⟩, ?_⟩
  refine for_list (xs := rows.map V.str) (fun i σ H' => Ext [] H H' ∧ ∃ x3, σ = [some (.ref r), some (.str (S (jn (o "") (rows.take i)))), some (.str (lastS (o "") (rows.take i))), x3]) ⟨.refl _ _, none, by rw [List.take_zero]; show _ = [_, some (V.str (S [])), _, _]; rw [show S [] = Str.ofString "" by decide +kernel]; rfl⟩ (fun i σ H' _ pv => SqL.of (pv.1 _ _ hr0 (by simp))) (fun i x σ H' hx pv => ?_) (fun σ H' pv => ?_)
  · obtain ⟨pe, x3, rfl⟩ := pv
    rw [List.getElem?_map] at hx
    obtain ⟨t, ht, rfl⟩ := Option.map_eq_some_iff.mp hx
    have hw := wt_take rows (i + 1)
    rw [take_snoc ht] at hw
    have hw1 : wt (rows.take i ++ [t]) = wt (rows.take i) + ((cd t).length + 1) := by unfold wt; simp
    have hj := jn_len (o "") (rows.take i)
    generalize hb : lastS (o "") (rows.take i) = b
    generalize hz : jn (o "") (rows.take i) = z at hj
    refine ⟨fun σ' H5 => Ext [] H' H5 ∧ σ' = [some (.ref r), some (.str (S (z ++ spT b t))), some (.str b), some (.str t)], ?_, ?_⟩
    · refine ⟨_, rfl, by show 5 ≤ sizeLine; decide, fun l1 h1 => ?_⟩
      have e1 := Ext.new (ms := []) (o := .lst (([o "", o "(", o "c(", o "[", o "u-"] : List Str).map V.str)) h1
      refine ⟨l1, _, rfl, .inl (SqL.of (xs := ([o "", o "(", o "c(", o "[", o "u-"] : List Str).map V.str) upd_same), rfl, flat_str _, _, rfl, ?_⟩
      rw [if_pos rfl, inV_str]
      by_cases hb1 : b ∈ ([o "", o "(", o "c(", o "[", o "u-"] : List Str)
      · rw [decide_eq_true hb1]
        refine iteF (iteF ⟨e1, ?_⟩)
        have : spT b t = [] := by unfold spT opnT; rw [decide_eq_true hb1]; rfl
        rw [this, List.append_nil]
        rfl
      · rw [decide_eq_false hb1]
        refine iteT ⟨_, rfl, by show 5 ≤ sizeLine; decide, fun l2 h2 => ?_⟩
        have e2 := Ext.new (ms := []) (o := .lst (([o ")", o "]", o ",", o ";", o "c("] : List Str).map V.str)) h2
        refine ⟨l2, _, rfl, .inl (SqL.of (xs := ([o ")", o "]", o ",", o ";", o "c("] : List Str).map V.str) upd_same), rfl, flat_str _, _, rfl, ?_⟩
        rw [if_pos rfl, inV_str]
        by_cases ht1 : t ∈ ([o ")", o "]", o ",", o ";", o "c("] : List Str)
        · rw [decide_eq_true ht1]
          refine iteF ⟨e1.trans e2, ?_⟩
          have : spT b t = [] := by unfold spT clsT; rw [decide_eq_true ht1]; simp
          rw [this, List.append_nil]
          rfl
        · rw [decide_eq_false ht1]
          have hs : spT b t = [32] := by unfold spT opnT clsT; rw [decide_eq_false ht1, decide_eq_false hb1]; rfl
          refine iteT ⟨_, rfl, _, _, rfl, rfl, ?_, e1.trans e2, ?_⟩
          · rw [S_len]; exact small (by show z.length + 1 ≤ _; omega)
          · rw [hs, show Str.ofString " " = S [32] by decide +kernel, S_app]
            rfl
    · rintro σ' H5 ⟨e5, rfl⟩
      refine ⟨_, rfl, _, rfl, by show 1 ≤ sizeLine; decide, fun l1 h1 => ?_⟩
      have e6 := Ext.new (ms := []) (o := .lst [.str t]) h1
      refine ⟨l1, [t], rfl, upd_same, by simp, fun l2 H7 e7 fr7 h7 => ?_⟩
      have hs := spT_len b t
      have hp := pl_len t
      refine ⟨l2, _, _, _, rfl, rfl, SqL.of h7, a0, _, _, rfl, rfl, ?_, ?_⟩
      · rw [S_len, cd_len, List.length_append]; exact small (by omega)
      · refine ⟨_, rfl, ((pe.trans e5).trans e6).trans e7, some (.str t), ?_⟩
        rw [take_snoc ht, jn_snoc, lastS_snoc, hb, hz, show S (z ++ spT b t) ++ pl t = S (z ++ (spT b t ++ cd (pl t))) by rw [← List.append_assoc, ← S_app (z ++ spT b t), S_cd]]
        rfl
  · obtain ⟨pe, x3, rfl⟩ := pv
    have h2 := q H' pe
    rw [List.length_map, List.take_length]
    exact ⟨_, rfl, h2⟩
/-! ### the tokens of a script -/
def flatN : List Str → List Str
  | [] => []
  | v :: r => o "," :: v :: flatN r
def dtkL (d : Df) : List Str := [o "def", d.name, o "c("] ++ sepn d.pars ++ [o ")", o "="] ++ tk d.term ++ [o ";"]
def dtksL : List Df → List Str
  | [] => []
  | d :: r => dtkL d ++ dtksL r
def stkL (s : Sc) : List Str := dtksL s.defs ++ tk s.body
theorem dtksL_app : ∀ a b : List Df, dtksL (a ++ b) = dtksL a ++ dtksL b
  | [], _ => rfl
  | d :: r, b => by simp only [List.cons_append, dtksL, dtksL_app r b, List.append_assoc]
def DcDs : Nat → List Df → List Df → Prop
  | x, [], es => x = 0 ∧ es = []
  | x, d :: r, es => ∃ t' r' y z, es = ⟨d.name, d.pars, t'⟩ :: r' ∧ x = y + z ∧ Dc 0 y d.term t' ∧ DcDs z r r'
def DcS (x : Nat) (s s' : Sc) : Prop := ∃ y z, x = y + z ∧ DcDs y s.defs s'.defs ∧ Dc 0 z s.body s'.body
theorem DcDs.snoc : ∀ {x y : Nat} {ds es : List Df} {d : Df} {t' : Tm}, DcDs x ds es → Dc 0 y d.term t' → DcDs (x + y) (ds ++ [d]) (es ++ [⟨d.name, d.pars, t'⟩])
  | x, y, [], es, d, t', h, k => by
    obtain ⟨rfl, rfl⟩ := h
    exact ⟨t', [], y, 0, rfl, by omega, k, rfl, rfl⟩
  | x, y, a :: r, es, d, t', h, k => by
    obtain ⟨u, r', y1, z1, rfl, hx, h1, h2⟩ := h
    exact ⟨u, r' ++ [⟨d.name, d.pars, t'⟩], y1, z1 + y, rfl, by omega, h1, h2.snoc k⟩
theorem sepn_snoc : ∀ (ps : List Str) (v : Str), sepn (ps ++ [v]) = sepn ps ++ ((if ps = [] then [] else [o ","]) ++ [v])
  | [], v => rfl
  | a :: r, v => by
    have : ∀ (r : List Str), flatn (r ++ [v]) = flatn r ++ [o ",", v] := by
      intro r
      induction r with
      | nil => rfl
      | cons b q ih => simp only [List.cons_append, flatn, ih]
    simp only [List.cons_append, sepn, this, if_neg (List.cons_ne_nil a r)]
    rfl
theorem sepn_len : ∀ ps : List Str, (sepn ps).length ≤ 2 * ps.length
  | [] => Nat.zero_le _
  | a :: r => by
    have : ∀ r : List Str, (flatn r).length = 2 * r.length := by
      intro r
      induction r with
      | nil => rfl
      | cons b q ih => simp only [flatn, List.length_cons, ih]; omega
    simp only [sepn, List.length_cons, this]
    omega
end
end K13

/-! L17: the tokens of a script, walked -/
namespace K13
open PySem PySem.Spec PyProof.Rows L2
section
variable {P : Program} {w : World} {K : PySem.W.Frag} {mg : Str → Option Value} {base : Heap} {n : Nat}
def sp_stoks (K : PySem.W.Frag) : Sp := fun vs H Q _ => ∃ (s : Sc) (v : V) (d q : Addr) (L : Nat), vs = [.ref d, .ref q, v] ∧ Rp K H s.enc v ∧ WfS s ∧ s.dep ≤ 16 ∧ (∀ t ∈ s.terms, nd t ≤ 38000) ∧ Lo H d q L ∧ L ≤ 12 ∧
  Toks H d q L (fun rows L' => ∃ s' x, DcS x s s' ∧ L = L' + x ∧ rows = stkL s' ∧ rows.length ≤ 3000000) Q
theorem sc_law_script_tokens : FnScope ["_law_draws", "_law_loose", "_law_script", "_law_rows", "_law_name_here", "_law_parameters", "_law_term", "_law_k"] ["_law_draws", "_law_loose", "_law_script"] (defScope s_law_script_tokens) := ⟨rfl, rfl, rfl, by decide +kernel, rfl, by decide +kernel, by decide +kernel⟩
theorem ok_law_script_tokens (T : Tx w K mg) : Cal P w K mg base "_law_script_tokens" 67 ["_law_draws", "_law_loose", "_law_script"] (sp_stoks K) := by
  have C_law_tokens := ok_law_tokens T (P := P) (base := base) 16
  refine Cal.of T.f_law_script_tokens T.g__law_script_tokens sc_law_script_tokens (fun _ _ _ _ _ _ us hl => match us, hl with | [_, _, _], _ => rfl) (fun vs H Q E h => ?_) (fun f cdv A outer s H vs Q E hr h => ?_)
  · obtain ⟨s, v, d, q, L, rfl, _⟩ := h; rfl
  obtain ⟨s, v, d, q, L, rfl, rp, wf, d16, nn, lo, l12, Qk⟩ := h
  refine ⟨_, pss_cons (ps_set (i := 3) sc_law_script_tokens.nd rfl (Or.inl rfl) (pe_lst pa_nil))
    (pss_cons (ps_for PassesOwn.never rfl (pi_tup (pe_ix ix_tup (pv 2) (pe_int) (fun _ _ => rfl))) (pg_tup (by rfl) (pgs_cons (pg_name (i := 4) sc_law_script_tokens.nd rfl (Or.inl rfl)) (pgs_cons (pg_name (i := 5) sc_law_script_tokens.nd rfl (Or.inl rfl)) (pgs_cons (pg_name (i := 6) sc_law_script_tokens.nd rfl (Or.inl rfl)) pgs_nil))))
    (pss_cons (ps_set (i := 3) sc_law_script_tokens.nd rfl (Or.inl rfl) (pe_op op_cat (pv 3) (pe_lst (pa_cons (pe_str) (pa_cons (pv 4) (pa_cons (pe_str) pa_nil))))))
      (pss_cons (ps_for PassesOwn.never rfl (pi_range1 rfl T.n_range (pa_cons (pe_callB call_len (by rfl) T.n_len (by decide +kernel) (pa_cons (pv 5) pa_nil)) pa_nil)) (pg_name (i := 7) sc_law_script_tokens.nd rfl (Or.inl rfl))
      (pss_one (ps_set (i := 3) sc_law_script_tokens.nd rfl (Or.inl rfl) (pe_op op_cat (pe_op op_cat (pv 3) (pe_slice sl_list (pe_lst (pa_cons (pe_str) pa_nil)) po_none (po_some (pv 7)))) (pe_lst (pa_cons (pe_ix ix_tup (pv 5) (pv 7) (fun _ _ => rfl)) pa_nil))))))
      (pss_one (ps_set (i := 3) sc_law_script_tokens.nd rfl (Or.inl rfl) (pe_op op_cat (pe_op op_cat (pe_op op_cat (pv 3) (pe_lst (pa_cons (pe_str) (pa_cons (pe_str) pa_nil)))) (pe_cal C_law_tokens (hr.mono (by omega)) rfl (pa_cons (pv 0) (pa_cons (pv 1) (pa_cons (pv 6) (pa_cons (pe_int) pa_nil)))))) (pe_lst (pa_cons (pe_str) pa_nil))))))))
    (pss_one (ps_ret (pe_op op_cat (pv 3) (pe_cal C_law_tokens (hr.mono (by omega)) rfl (pa_cons (pv 0) (pa_cons (pv 1) (pa_cons (pe_ix ix_tup (pv 2) (pe_int) (fun _ _ => rfl)) (pa_cons (pe_int) pa_nil))))))))), ?_⟩
  obtain ⟨a, dl, ds, b, rfl, h1, h2, h3, h4⟩ := Sc.elim rp
  have ld : ds.length = s.defs.length := by have := h3.length; rw [List.length_map] at this; exact this.symm
  refine ⟨Nat.zero_le _, fun r0 hr0 => ?_⟩
  have e1 := Ext.new (ms := []) (o := .lst []) hr0
  refine ⟨_, rfl, _, _, _, _, rfl, rfl, e1.tup .nil h1, a0, dl, rfl, ⟨_, e1.tup .nil h2⟩, ?_⟩
  refine for_tup (xs := ds) (fun i σ H' => ∃ (r : Addr) (es : List Df) (z L' : Nat) (x4 x5 x6 x7 : Option V), Ext [d, q] H H' ∧ Lo H' d q L' ∧ L' ≤ 12 ∧ H r = none ∧ H' r = some (.lst ((dtksL es).map V.str)) ∧ DcDs z (s.defs.take i) es ∧ L = L' + z ∧ (dtksL es).length ≤ i * 400100 ∧ σ = [some (.ref d), some (.ref q), some (.ref a), some (.ref r), x4, x5, x6, x7])
    ⟨r0, [], 0, L, none, none, none, none, e1.nil, lo.ex0 e1, l12, hr0, upd_same, ⟨rfl, rfl⟩, rfl, Nat.zero_le _, rfl⟩ (fun i σ H' _ pv => by obtain ⟨r, es, z, L', x4, x5, x6, x7, e, _⟩ := pv; exact e.tup lo.not h2) (fun i x σ H' hx pv => ?_) (fun σ H' pv => ?_)
  · obtain ⟨r, es, z, L', x4, x5, x6, x7, e, lo1, lm, fr, hr, dd, hL, hlen, rfl⟩ := pv
    obtain ⟨c, hc, rc⟩ := h3.at_ hx
    have hi : i < s.defs.length := (List.getElem?_eq_some_iff.mp hc).1
    have i6 : i < 6 := by have := wf.few; omega
    have wd := wf.defs c (mem_at hc)
    obtain ⟨ad, ps, t, rfl, k1, k2, k3⟩ := Df.elim rc
    have hct : c.term ∈ s.terms := by unfold Sc.terms; exact List.mem_append_left _ (List.mem_map_of_mem (mem_at hc))
    have hlen1 : (dtksL es).length ≤ 2400000 := by omega
    refine ⟨ad, _, rfl, e.tup lo.not k1, rfl, _, _, rfl, _, _, rfl, _, _, rfl, rfl, ?_⟩
    refine ⟨_, rfl, _, rfl, by show 3 ≤ sizeLine; decide, fun l1 hl1 => ?_⟩
    have e2 := Ext.new (ms := []) (o := .lst [.str (o "def"), .str c.name, .str (o "c(")]) hl1
    refine cat_ (bs := [o "def", c.name, o "c("]) (e2 _ _ hr (by simp)) upd_same (by simp; omega) fun r2 H2 e3 fr2 hr2 => ?_
    have E2 : Ext [d, q] H H2 := e.trans (e2.trans e3).nil
    have lo2 := (lo1.ex0 e2).ex0 e3
    have fr2' : H r2 = none := fresh_ (e.trans e2.nil) (lo1.ex0 e2) fr2
    have lp : (c.pars.map V.str).length ≤ 4 := by rw [List.length_map]; exact wd.few
    refine ⟨_, rfl, _, (c.pars.map V.str).length, rfl, .inr ⟨_, E2.tup lo.not k2, rfl⟩, ((c.pars.map V.str).length : Int), rfl, by omega, by omega, ?_⟩
    rw [show (((c.pars.map V.str).length : Int)).toNat = c.pars.length by rw [List.length_map]; omega]
    refine for_range (fun j σ H' => ∃ (rr : Addr) (x7 : Option V), Ext [] H2 H' ∧ H rr = none ∧ H' rr = some (.lst ((dtksL es ++ [o "def", c.name, o "c("] ++ sepn (c.pars.take j)).map V.str)) ∧ σ = [some (.ref d), some (.ref q), some (.ref a), some (.ref rr), some (.str c.name), some (.ref ps), some t, x7])
      ⟨r2, x7, .refl _ _, fr2', by rw [List.take_zero]; simpa [sepn] using hr2, rfl⟩ (fun j σ H3 lj pv => ?_) (fun σ H3 pv => ?_)
    · obtain ⟨rr, y7, f3, frr, hrr, rfl⟩ := pv
      have lj : j < c.pars.length := lj
      have hj := List.getElem?_eq_getElem lj
      have ls : (sepn (c.pars.take j)).length ≤ 8 := by
        have := sepn_len (c.pars.take j)
        rw [List.length_take] at this
        have := wd.few
        omega
      refine ⟨_, rfl, by show 1 ≤ sizeLine; decide, fun l2 hl2 => ?_⟩
      have f4 := Ext.new (ms := []) (o := .lst [.str (o ",")]) hl2
      refine ⟨_, rfl, _, rfl, l2, _, rfl, SqL.of upd_same, fun l3 hl3 => ?_⟩
      have f5 := Ext.new (ms := []) (o := .lst (cutV [.str (o ",")] none (some (0 + (j : Int))))) hl3
      have ec : cutV [V.str (o ",")] none (some (0 + (j : Int))) = ((if c.pars.take j = [] then [] else [o ","]) : List Str).map V.str := by
        rw [show (0 + (j : Int)) = (j : Int) by omega, cut_to]
        cases j with
        | zero => simp
        | succ j =>
          rw [if_neg (by
            intro z
            have := congrArg List.length z
            rw [List.length_take, List.length_nil] at this
            omega)]
          simp
      refine cat_ (bs := if c.pars.take j = [] then [] else [o ","]) (f5 _ _ (f4 _ _ hrr (by simp)) (by simp)) (by rw [upd_same, ec]) (by split <;> simp <;> omega) fun l6 H6 f6 fr6 hl6 => ?_
      have F6 := (f3.trans (f4.trans f5)).trans f6
      have E6 := E2.trans F6.nil
      refine ⟨_, rfl, _, rfl, _, _, _, _, rfl, rfl, E6.tup lo.not k2, by rw [show (0 + (j : Int)) = (j : Int) by omega]; exact atI_nat (by rw [List.getElem?_map, hj]; rfl), ?_⟩
      refine lit_ hl6 (by split <;> simp <;> omega) fun l7 H7 f7 fr7 hl7 => ?_
      refine ⟨l7, some (.int (0 + (j : Int))), F6.trans f7, fresh_ E6 (lo2.ex0 F6) fr7, ?_, rfl⟩
      rw [hl7, take_snoc hj, sepn_snoc]
      simp
    · obtain ⟨rr, y7, f3, frr, hrr, rfl⟩ := pv
      rw [List.take_length] at hrr
      have ls : (sepn c.pars).length ≤ 8 := by
        have := sepn_len c.pars
        have := wd.few
        omega
      have E3 := E2.trans f3.nil
      have lo3 := lo2.ex0 f3
      refine ⟨_, rfl, by show 2 ≤ sizeLine; decide, fun l2 hl2 => ?_⟩
      have f4 := Ext.new (ms := []) (o := .lst [.str (o ")"), .str (o "=")]) hl2
      refine cat_ (bs := [o ")", o "="]) (f4 _ _ hrr (by simp)) upd_same (by simp; omega) fun l5 H5 f5 fr5 hl5 => ?_
      have E5 := E3.trans (f4.trans f5).nil
      have lo5 := (lo3.ex0 f4).ex0 f5
      obtain ⟨m1, m2⟩ := (lo3.ex0 f4).off fr5
      refine ⟨_, rfl, _, rfl, _, rfl, c.term, t, d, q, L', 0, 0, rfl, rfl, k3.ext E5 lo.not, wd.term, Nat.le_trans (Sc.dep_def (mem_at hc)) d16, nn _ hct, lo5, lm, fun r6 rows6 H6 L6 g6 lo6 le6 fr6 hr6 ⟨e', y, hd6, hL6, hrows6⟩ => ?_⟩
      have hl6 := hd6.len wd.term
      have hn6 := nn _ hct
      rw [hrows6] at hr6
      refine cat_ (g6 _ _ hl5 (by simp [m1, m2])) hr6 (by simp; omega) fun l7 H7 f7 fr7 hl7 => ?_
      refine lit_ hl7 (by simp; omega) fun l8 H8 f8 fr8 hl8 => ?_
      have E7 := (E5.trans g6).trans f7.nil
      have hout : dtksL (es ++ [⟨c.name, c.pars, e'⟩]) = dtksL es ++ [o "def", c.name, o "c("] ++ sepn c.pars ++ [o ")", o "="] ++ tk e' ++ [o ";"] := by
        rw [dtksL_app]
        simp [dtksL, dtkL]
      refine ⟨l8, es ++ [⟨c.name, c.pars, e'⟩], z + y, L6, _, _, _, _, E7.trans f8.nil, (lo6.ex0 f7).ex0 f8, by omega, fresh_ E7 (lo6.ex0 f7) fr8, ?_, ?_, by omega, ?_, rfl⟩
      · rw [hl8, hout]
      · rw [take_snoc hc]
        exact dd.snoc hd6
      · rw [hout]
        simp
        omega
  · obtain ⟨r, es, z, L', x4, x5, x6, x7, e, lo1, lm, fr, hr, dd, hL, hlen, rfl⟩ := pv
    rw [ld] at hlen
    rw [ld, List.take_length] at dd
    obtain ⟨m1, m2⟩ := lo.off fr
    have hbt : s.body ∈ s.terms := by unfold Sc.terms; simp
    refine ⟨_, rfl, _, rfl, _, rfl, _, rfl, _, _, _, _, rfl, rfl, e.tup lo.not h1, a1, s.body, b, d, q, L', 0, 0, rfl, rfl, h4.ext e lo.not, wf.body, Nat.le_trans s.dep_body d16, nn _ hbt, lo1, lm, fun r6 rows6 H6 L6 g6 lo6 le6 fr6 hr6 ⟨e', y, hd6, hL6, hrows6⟩ => ?_⟩
    have hl6 := hd6.len wf.body
    have hn6 := nn _ hbt
    have h6 := wf.few
    rw [hrows6] at hr6
    refine cat_ (g6 _ _ hr (by simp [m1, m2])) hr6 (by omega) fun l7 H7 f7 fr7 hl7 => ?_
    have E6 := e.trans g6
    exact Qk l7 _ H7 L6 (E6.trans f7.nil) (lo6.ex0 f7) (by omega) (fresh_ E6 lo6 fr7) hl7 ⟨⟨es, e'⟩, z + y, ⟨z, y, rfl, dd, hd6⟩, by omega, rfl, by rw [List.length_append]; omega⟩
end
end K13

/-! L18: the law's count of what is open -/
namespace K13
open PySem PySem.Spec PyProof.Rows L2
theorem own_ (h : Hd) : (if decide (h.tag ∈ ([o "let", o "if", o "fold", o "note", o "minus", o "not", o "pair"] : List Str)) = true then (1 : Int) else 0) + (if decide (h.tag ∈ ([o "list", o "call"] : List Str)) = true then 1 else 0) = ((h.opn : Nat) : Int) := by
  have h0 : ∀ p ∈ ([(o "number", 0), (o "truth", 0), (o "variable", 0), (o "fact", 0), (o "fail", 0), (o "minus", 1), (o "not", 1), (o "binary", 0), (o "pair", 1), (o "list", 1), (o "call", 1), (o "let", 1), (o "if", 1), (o "fold", 1), (o "note", 1)] : List (Str × Nat)),
      (if decide (p.1 ∈ ([o "let", o "if", o "fold", o "note", o "minus", o "not", o "pair"] : List Str)) = true then (1 : Int) else 0) + (if decide (p.1 ∈ ([o "list", o "call"] : List Str)) = true then 1 else 0) = ((p.2 : Nat) : Int) := by decide +kernel
  exact h0 (h.tag, h.opn) (by cases h <;> simp [Hd.tag, Hd.opn])
theorem mv_ty (h : Hd) : ∀ x ∈ h.mv, (∃ i, x = .int i) ∨ (∃ b, x = .bl b) ∨ ∃ s, x = .str s := by
  intro x hx
  cases h <;> simp only [Hd.mv, List.mem_cons, List.not_mem_nil, or_false] at hx
  all_goals first | exact hx.elim | skip
  · exact .inl ⟨_, hx⟩
  · exact .inr (.inl ⟨_, hx⟩)
  · exact .inr (.inr ⟨_, hx⟩)
  · exact .inr (.inr ⟨_, hx⟩)
  · exact .inr (.inr ⟨_, hx⟩)
  · exact .inr (.inr ⟨_, hx⟩)
  · exact .inr (.inr ⟨_, hx⟩)
  · rcases hx with hx | hx <;> exact .inr (.inr ⟨_, hx⟩)
/-- an item of a node, with the terms that it holds -/
def ItD (K : PySem.W.Frag) (H : Hp) (x : V) (ts : List Tm) : Prop :=
  (((∃ i, x = .int i) ∨ (∃ b, x = .bl b) ∨ ∃ s, x = .str s) ∧ ts = []) ∨ (∃ c, ts = [c] ∧ Rp K H (enc c) x) ∨ (∃ b vs, x = .ref b ∧ SqT K H b vs ∧ RpL K H (ts.map enc) vs)
theorem flat_take_snoc {α : Type} {l : List (List α)} {i : Nat} {x : List α} (h : l[i]? = some x) : (l.take (i + 1)).flatten = (l.take i).flatten ++ x := by
  rw [take_snoc h, List.flatten_append]; simp
theorem max_if (a b : Nat) : (if ((b : Int)) > (a : Int) then (b : Int) else (a : Int)) = ((max a b : Nat) : Int) := by
  split <;> omega
/-- the items of a node -/
theorem items_of {K : PySem.W.Frag} {H : Hp} {a : Addr} {h : Hd} {cs : List Tm} {vs : List V} (nd : Nd K H a h vs) (rl : RpL K H (cs.map enc) vs) : ∃ (xs : List V) (its : List (List Tm)), SqT K H a (.str h.tag :: xs) ∧ xs.length = its.length ∧ its.flatten = cs ∧ ∀ (j : Nat) x ts, xs[j]? = some x → its[j]? = some ts → ItD K H x ts := by
  have hm := mv_ty h
  have mvs : ∀ (j : Nat) x ts, h.mv[j]? = some x → (h.mv.map fun _ => ([] : List Tm))[j]? = some ts → ItD K H x ts := fun j x ts h1 h2 => by
    rw [List.getElem?_map, h1] at h2
    cases Option.some.inj h2
    exact .inl ⟨hm x (List.mem_of_getElem? h1), rfl⟩
  have fl : ∀ l : List V, (l.map fun _ => ([] : List Tm)).flatten = [] := fun l => by
    induction l with
    | nil => rfl
    | cons x r ih => simpa using ih
  unfold Nd at nd
  split at nd
  · obtain ⟨b, sq, sb⟩ := nd
    refine ⟨_, (h.mv.map fun _ => []) ++ [cs], sq, by simp, by rw [List.flatten_append, fl]; simp, fun j x ts h1 h2 => ?_⟩
    by_cases hj : j < h.mv.length
    · rw [List.getElem?_append_left hj] at h1
      rw [List.getElem?_append_left (by simpa using hj)] at h2
      exact mvs j x ts h1 h2
    · rw [List.getElem?_append_right (by omega)] at h1
      rw [List.getElem?_append_right (by simp; omega), List.length_map] at h2
      cases e : j - h.mv.length with
      | zero =>
        rw [e] at h1 h2
        cases Option.some.inj (show some (V.ref b) = some x from h1)
        cases Option.some.inj (show some cs = some ts from h2)
        exact .inr (.inr ⟨b, vs, rfl, sb, rl⟩)
      | succ k => rw [e] at h1; simp at h1
  · refine ⟨_, (h.mv.map fun _ => []) ++ cs.map fun c => [c], nd, by have := rl.length; rw [List.length_map] at this; simp [this], ?_, fun j x ts h1 h2 => ?_⟩
    · rw [List.flatten_append, fl]
      clear rl nd
      induction cs with
      | nil => rfl
      | cons c r ih => simpa using ih
    · by_cases hj : j < h.mv.length
      · rw [List.getElem?_append_left hj] at h1
        rw [List.getElem?_append_left (by simpa using hj)] at h2
        exact mvs j x ts h1 h2
      · rw [List.getElem?_append_right (by omega)] at h1
        rw [List.getElem?_append_right (by simp; omega), List.length_map, List.getElem?_map] at h2
        obtain ⟨c, hc, e⟩ := Option.map_eq_some_iff.mp h2
        obtain ⟨v', hv', rv⟩ := rl.get (i := j - h.mv.length) (d := enc c) (by rw [List.getElem?_map, hc]; rfl)
        rw [h1] at hv'
        cases Option.some.inj hv'
        exact .inr (.inl ⟨c, e.symm, rv⟩)
section
variable {P : Program} {w : World} {K : PySem.W.Frag} {mg : Str → Option Value} {base : Heap}
def sp_opened (K : PySem.W.Frag) (n : Nat) : Sp := fun vs H Q _ => ∃ (t : Tm) (v : V) (l : Nat) (lI : Int), vs = [v, .int lI] ∧ lI = (l : Int) ∧ Rp K H (enc t) v ∧ Wf t ∧ dep t ≤ n ∧ ∀ H', Ext [] H H' → Q (.int ((opd l t : Nat) : Int)) H'
theorem sc_law_opened : FnScope ["_law_term", "_law_least", "_law_own", "_law_deepest", "_law_item", "_law_pieces", "_law_piece", "_law_wanted"] ["_law_term", "_law_least"] (defScope s_law_opened) := ⟨rfl, rfl, rfl, by decide +kernel, rfl, by decide +kernel, by decide +kernel⟩
theorem ok_law_opened (T : Tx w K mg) : ∀ n, Cal P w K mg base "_law_opened" (n + 2) ["_law_term", "_law_least"] (sp_opened K n)
  | 0 => by
    refine Cal.none_ T.f_law_opened T.g__law_opened (fun _ _ _ _ _ _ us hl => match us, hl with | [_, _], _ => rfl) ?_
    rintro vs H Q E ⟨t, v, l, lI, _, _, _, _, h, _⟩
    have := dep_pos t
    omega
  | n + 1 => by
    have C_law_opened := ok_law_opened T n
    have C_law_level := ok_law_level T (P := P) (base := base)
    refine Cal.of T.f_law_opened T.g__law_opened sc_law_opened (fun _ _ _ _ _ _ us hl => match us, hl with | [_, _], _ => rfl) (fun vs H Q E h => ?_) (fun f cdv A outer s H vs Q E hr h => ?_)
    · obtain ⟨t, v, l, lI, rfl, _⟩ := h; rfl
    obtain ⟨⟨p0, h, cs⟩, v, l, lI, rfl, hl, rp, wf, dn, q⟩ := h
    refine ⟨_, pss_cons (ps_set (i := 2) sc_law_opened.nd rfl (Or.inl rfl) (pe_op op_add (pe_callTy call_int1 (by rfl) T.n_int (by decide +kernel) (pa_cons (pe_cmpR op_lt (pe_cal C_law_level (hr.mono (by omega)) rfl (pa_cons (pv 0) pa_nil)) (pv 1) (nomark _)) pa_nil)) (pe_callTy call_int1 (by rfl) T.n_int (by decide +kernel) (pa_cons (pe_cmpR op_in_seq (pe_ix ix_tup (pv 0) (pe_int) (fun _ _ => rfl)) (pe_lst (pa_cons (pe_str) (pa_cons (pe_str) (pa_cons (pe_str) (pa_cons (pe_str) (pa_cons (pe_str) (pa_cons (pe_str) (pa_cons (pe_str) pa_nil)))))))) rfl) pa_nil))))
    (pss_cons (ps_set (i := 2) sc_law_opened.nd rfl (Or.inl rfl) (pe_op op_add (pv 2) (pe_callTy call_int1 (by rfl) T.n_int (by decide +kernel) (pa_cons (pe_cmpR op_in_seq (pe_ix ix_tup (pv 0) (pe_int) (fun _ _ => rfl)) (pe_lst (pa_cons (pe_str) (pa_cons (pe_str) pa_nil))) rfl) pa_nil))))
    (pss_cons (ps_set (i := 3) sc_law_opened.nd rfl (Or.inl rfl) (pe_int))
    (pss_cons (ps_for PassesOwn.never rfl (pi_tup (pe_slice sl_tupA (pv 0) (po_some (pe_int)) po_none)) (pg_name (i := 4) sc_law_opened.nd rfl (Or.inl rfl))
    (pss_one (ps_if (PW.pt (pw_and (pt_val (pe_callB call_isi (by rfl) T.n_isinstance (by decide +kernel) (pa_cons (pv 4) (pa_cons (pe_bltn (v := .ty "tuple") rfl T.n_tuple (by rfl) rfl) pa_nil)))) (pw_and1 (pt_cmpR op_gt (pe_callB call_len (by rfl) T.n_len (by decide +kernel) (pa_cons (pv 4) pa_nil)) (pe_int) (nomark _)))))
      (pss_cons (ps_set (i := 5) sc_law_opened.nd rfl (Or.inl rfl) (pe_callTy call_list_of (by rfl) T.n_list (by decide +kernel) (pa_cons (pv 4) pa_nil)))
        (C8.pss_cut (ps_if (pt_val (pe_callB call_isi (by rfl) T.n_isinstance (by decide +kernel) (pa_cons (pe_ix ix_seq (pv 4) (pe_int) (fun _ _ => rfl)) (pa_cons (pe_bltn (v := .ty "str") rfl T.n_str (by rfl) rfl) pa_nil))))
        (pss_one (ps_set (i := 5) sc_law_opened.nd rfl (Or.inl rfl) (pe_lst (pa_cons (pv 4) pa_nil))))
        (pss_nil))
        (pss_one (ps_for PassesOwn.never rfl (pi_list (pv 5)) (pg_name (i := 6) sc_law_opened.nd rfl (Or.inl rfl))
        (pss_cons (ps_set (i := 7) sc_law_opened.nd rfl (Or.inl rfl) (pe_int))
          (C8.pss_cut (ps_if (pt_cmpR op_eq (pe_ix ix_tup (pv 0) (pe_int) (fun _ _ => rfl)) (pe_str) (nomark _))
          (pss_one (ps_set (i := 7) sc_law_opened.nd rfl (Or.inl rfl) (pe_op op_add (pe_cal C_law_level (hr.mono (by omega)) rfl (pa_cons (pv 0) pa_nil)) (pe_int))))
          (pss_nil))
          (C8.pss_cut (ps_if (PW.pt (pw_or (pt_cmpR op_eq (pe_ix ix_tup (pv 0) (pe_int) (fun _ _ => rfl)) (pe_str) (nomark _)) (pw_or1 (pt_cmpR op_eq (pe_ix ix_tup (pv 0) (pe_int) (fun _ _ => rfl)) (pe_str) (nomark _)))))
          (pss_one (ps_set (i := 7) sc_law_opened.nd rfl (Or.inl rfl) (pe_int)))
          (pss_nil))
          (pss_one (ps_set (i := 3) sc_law_opened.nd rfl (Or.inl rfl) (pe_callB (call_max2 rfl) (by rfl) T.n_max (by decide +kernel) (pa_cons (pv 3) (pa_cons (pe_cal C_law_opened (hr.mono (by omega)) rfl (pa_cons (pv 6) (pa_cons (pv 7) pa_nil))) pa_nil))))))))))))
      (pss_nil))))
    (pss_one (ps_ret (pe_op op_add (pv 2) (pv 3))))))), ?_⟩
    obtain ⟨a, vs, rfl, nda, rl, lx⟩ := node_of rp
    obtain ⟨xs, its, sq, lits, hflat, hits⟩ := items_of nda rl
    have dn' : maxl (cs.map dep) ≤ n := by rw [dep_mk] at dn; omega
    have wc : ∀ c ∈ cs, Wf c ∧ dep c ≤ n := fun c hc => ⟨wf.sub hc, Nat.le_trans (dep_mem hc) dn'⟩
    -- own
    refine ⟨_, rfl, .mk p0 h cs, _, rfl, rp, wf, fun H1 e1 => ⟨_, rfl, _, _, rfl, rfl, .inr ⟨_, rfl, ?_⟩⟩⟩
    refine ⟨_, rfl, _, _, _, _, rfl, rfl, e1.tup .nil sq, a0, by show 7 ≤ sizeLine; decide, fun l1 h1 => ?_⟩
    have e2 := Ext.new (ms := []) (o := .lst (([o "let", o "if", o "fold", o "note", o "minus", o "not", o "pair"] : List Str).map V.str)) h1
    refine ⟨l1, _, rfl, .inl (SqL.of (xs := ([o "let", o "if", o "fold", o "note", o "minus", o "not", o "pair"] : List Str).map V.str) upd_same), rfl, flat_str _, .inr ⟨_, rfl, _, _, rfl, rfl, ?_⟩⟩
    refine ⟨_, rfl, _, rfl, _, _, _, _, rfl, rfl, (e1.trans e2).tup .nil sq, a0, by show 2 ≤ sizeLine; decide, fun l2 h2 => ?_⟩
    have e3 := Ext.new (ms := []) (o := .lst (([o "list", o "call"] : List Str).map V.str)) h2
    refine ⟨l2, _, rfl, .inl (SqL.of (xs := ([o "list", o "call"] : List Str).map V.str) upd_same), rfl, flat_str _, .inr ⟨_, rfl, _, _, rfl, rfl, ?_⟩⟩
    rw [if_neg Bool.false_ne_true, if_neg Bool.false_ne_true, inV_str, inV_str]
    have eo : ((if decide (((Tm.mk p0 h cs).h.lv : Int) < lI) = true then (1 : Int) else 0) + (if decide (h.tag ∈ ([o "let", o "if", o "fold", o "note", o "minus", o "not", o "pair"] : List Str)) = true then 1 else 0)) + (if decide (h.tag ∈ ([o "list", o "call"] : List Str)) = true then 1 else 0) = (((if h.lv < l then 1 else 0) + h.opn : Nat) : Int) := by
      have h0 := own_ h
      have h1 : (if decide (((Tm.mk p0 h cs).h.lv : Int) < lI) = true then (1 : Int) else 0) = ((if h.lv < l then 1 else 0 : Nat) : Int) := by
        show (if decide ((h.lv : Int) < lI) = true then (1 : Int) else 0) = _
        by_cases hlt : h.lv < l
        · rw [if_pos hlt, decide_eq_true (show (h.lv : Int) < lI by omega)]; rfl
        · rw [if_neg hlt, decide_eq_false (show ¬ (h.lv : Int) < lI by omega)]; rfl
      rw [h1]
      omega
    have E3 := (e1.trans e2).trans e3
    have sq3 := E3.tup .nil sq
    obtain ⟨ow, how⟩ : ∃ z : Int, z = (((if decide (((Tm.mk p0 h cs).h.lv : Int) < lI) = true then (1 : Int) else 0) + (if decide (h.tag ∈ ([o "let", o "if", o "fold", o "note", o "minus", o "not", o "pair"] : List Str)) = true then 1 else 0)) + (if decide (h.tag ∈ ([o "list", o "call"] : List Str)) = true then 1 else 0)) := ⟨_, rfl⟩
    rw [← how] at eo
    refine ⟨_, rfl, _, rfl, a, _, rfl, sq3, fun hh => ?_, fun _ sb hsb => ?_⟩
    · have := hh.1
      rw [show (some (1 : Int)) = some ((1 : Nat) : Int) from rfl, HT.sIx_nat] at this
      simp at this
    have e4 := Ext.new (ms := []) (o := .tup (cutV (V.str h.tag :: xs) (some 1) none)) hsb
    have ec : cutV (V.str h.tag :: xs) (some 1) none = xs := cut_from (k := 1) (by simp)
    have E4 := E3.trans e4
    generalize hH4 : upd _ sb (HO.tup (cutV (V.str h.tag :: xs) (some 1) none)) = H4 at e4 E4 ⊢
    have ssb : SqT K H4 sb xs := SqT.of (by rw [← hH4, upd_same, ec])
    refine ⟨sb, rfl, ⟨_, ssb⟩, ?_⟩
    have want_lit : ∀ t : Str, (t = o "minus" ∨ t = o "not") → h.tag = t → h.want = 6 := fun t ht e => by
      rcases ht with rfl | rfl
      · cases tag_minus e; rfl
      · cases tag_not e; rfl
    refine for_tup (xs := xs) (fun i σ H' => Ext [] H4 H' ∧ ∃ x4 x5 x6 x7, σ = [some (.ref a), some (.int lI), some (.int ow), some (.int ((maxl (((its.take i).flatten).map (opd h.want)) : Nat) : Int)), x4, x5, x6, x7]) ⟨.refl _ _, none, none, none, none, by rw [List.take_zero, how]; rfl⟩ (fun i σ H' _ pv => pv.1.tup .nil ssb) (fun i x σ H' hx pv => ?_) (fun σ H' pv => ?_)
    · obtain ⟨pe, x4, x5, x6, x7, rfl⟩ := pv
      have hi : i < its.length := by rw [← lits]; exact (List.getElem?_eq_some_iff.mp hx).1
      have hts := List.getElem?_eq_getElem hi
      generalize hT : its[i] = ts at hts
      have itd := hits i x ts hx hts
      have mem : ∀ c ∈ ts, c ∈ cs := fun c hc => by
        rw [← hflat]
        exact List.mem_flatten.mpr ⟨ts, List.mem_of_getElem? hts, hc⟩
      rw [flat_take_snoc hts, List.map_append, maxl_app]
      generalize maxl (((its.take i).flatten).map (opd h.want)) = D0
      have EH := E4.trans pe
      rcases itd with ⟨hx1, rfl⟩ | itd
      · have ty : ∃ t, TyX K H' x t ∧ PySem.W.kitOne K t (.type "tuple") = some false := by
          rcases hx1 with ⟨i, rfl⟩ | ⟨b, rfl⟩ | ⟨s, rfl⟩
          · exact ⟨_, .base (.int i), rfl⟩
          · exact ⟨_, .base (.bl b), rfl⟩
          · exact ⟨_, .base (.str s), rfl⟩
        obtain ⟨t, ty, kt⟩ := ty
        refine ⟨_, rfl, _, _, _, _, false, rfl, .ty _, ty, kt, _, rfl, iteF (iteF ⟨pe, some x, x5, x6, x7, ?_⟩)⟩
        rw [show max D0 (maxl (List.map (opd h.want) [])) = D0 from Nat.max_eq_left (Nat.zero_le _)]
        rfl
      · -- a tuple
        obtain ⟨b, ys, rfl, sb', hcase⟩ : ∃ b ys, x = .ref b ∧ SqT K H b ys ∧ ((∃ c rest, ts = [c] ∧ ys = .str c.h.tag :: rest ∧ Rp K H (enc c) (.ref b)) ∨ RpL K H (ts.map enc) ys) := by
          rcases itd with ⟨c, rfl, rc⟩ | ⟨b, ys, rfl, sb', rly⟩
          · obtain ⟨b, ws, rfl, ndc, _⟩ := node rc
            obtain ⟨rest, sqc⟩ := ndc.head
            exact ⟨b, _, rfl, sqc, .inl ⟨c, rest, rfl, rfl, rc⟩⟩
          · exact ⟨b, ys, rfl, sb', .inr rly⟩
        have sb5 := EH.tup .nil sb'
        refine ⟨_, rfl, _, _, _, _, true, rfl, .ty _, ty_sq sb5, rfl, _, rfl, iteT ?_⟩
        refine ⟨_, rfl, _, ys.length, rfl, .inr ⟨ys, sb5, rfl⟩, _, _, rfl, rfl, _, rfl, ?_⟩
        cases ys with
        | nil =>
          have ht : ts = [] := by
            rcases hcase with ⟨c, rest, _, h2, _⟩ | rly
            · cases h2
            · have := rly.length
              rw [List.length_map] at this
              exact List.eq_nil_of_length_eq_zero this
          subst ht
          refine iteF ⟨pe, some (.ref b), x5, x6, x7, ?_⟩
          rw [show max D0 (maxl (List.map (opd h.want) [])) = D0 from Nat.max_eq_left (Nat.zero_le _)]
          rfl
        | cons y0 yr =>
          show if decide ((0 : Int) < (((y0 :: yr).length : Nat) : Int)) = true then _ else _
          rw [decide_eq_true (show (0 : Int) < (((y0 :: yr).length : Nat) : Int) by simp <;> omega)]
          refine iteT ⟨_, rfl, b, _, rfl, .inr sb5, fun pl hpl => ?_⟩
          have f1 := Ext.new (ms := []) (o := .lst (y0 :: yr)) hpl
          have sb6 := f1.tup .nil sb5
          refine ⟨fun σ' H5 => ∃ pl us, Ext [] H' H5 ∧ H5 pl = some (.lst us) ∧ RpL K H5 (ts.map enc) us ∧ σ' = [some (.ref a), some (.int lI), some (.int ow), some (.int (D0 : Int)), some (.ref b), some (.ref pl), x6, x7], ?_, ?_⟩
          · rcases hcase with ⟨c, rest, rfl, h2, rc⟩ | rly
            · obtain ⟨rfl, rfl⟩ := List.cons.inj h2
              refine ⟨_, rfl, .inr (.inl ⟨_, _, _, _, rfl, rfl, sb6, a0, ?_⟩)⟩
              refine ⟨_, _, _, _, true, rfl, .ty _, .base (.str _), rfl, _, rfl, iteT ?_⟩
              refine ⟨_, rfl, by show 1 ≤ sizeLine; decide, fun pl2 hpl2 => ?_⟩
              have f2 := Ext.new (ms := []) (o := .lst [.ref b]) hpl2
              exact ⟨pl2, [.ref b], f1.trans f2, upd_same, ⟨_, _, rfl, rc.ex0 (EH.trans (f1.trans f2)), rfl⟩, rfl⟩
            · have ty : TyX K (upd H' pl (.lst (y0 :: yr))) y0 (.type "tuple") := by
                cases ts with
                | nil => cases (show (y0 :: yr) = [] from rly)
                | cons c r =>
                  obtain ⟨z, zr, ez, rz, _⟩ := rly
                  obtain ⟨rfl, rfl⟩ := List.cons.inj ez
                  obtain ⟨bb, ws, rfl, ndc, _⟩ := node rz
                  obtain ⟨rest, sqc⟩ := ndc.head
                  exact ty_sq ((EH.trans f1).tup .nil sqc)
              refine ⟨_, rfl, .inr (.inl ⟨_, _, _, _, rfl, rfl, sb6, a0, ?_⟩)⟩
              refine ⟨_, _, _, _, false, rfl, .ty _, ty, rfl, _, rfl, iteF ?_⟩
              exact ⟨pl, _, f1, upd_same, rly.ex0 (EH.trans f1), rfl⟩
          · rintro σ' H5 ⟨pl, us, f5, hpl5, rl5, rfl⟩
            have lu : us.length = ts.length := by have := rl5.length; rw [List.length_map] at this; exact this.symm
            refine ⟨_, rfl, pl, rfl, ⟨_, SqL.of hpl5⟩, ?_⟩
            refine for_list (xs := us) (fun j σ H6 => Ext [] H5 H6 ∧ ∃ x6 x7, σ = [some (.ref a), some (.int lI), some (.int ow), some (.int ((max D0 (maxl ((ts.take j).map (opd h.want))) : Nat) : Int)), some (.ref b), some (.ref pl), x6, x7]) ⟨.refl _ _, x6, x7, by rw [List.take_zero, show max D0 (maxl (List.map (opd h.want) [])) = D0 from Nat.max_eq_left (Nat.zero_le _)]⟩ (fun j σ H6 _ pv => pv.1.sqL (.of hpl5)) (fun j u σ H6 hu pv => ?_) (fun σ H6 pv => ?_)
            · obtain ⟨g6, y6, y7, rfl⟩ := pv
              obtain ⟨c, hc, rc⟩ := rl5.at_ hu
              have E6 := EH.trans (f5.trans g6)
              have sq6 := E6.tup .nil sq
              refine ⟨fun σ' H7 => Ext [] H6 H7 ∧ ∃ w1 : Int, (∀ s, h = .bin s → w1 = ((lvS s : Nat) : Int) + 1) ∧ ((∀ s, h ≠ .bin s) → w1 = 0) ∧ σ' = [some (.ref a), some (.int lI), some (.int ow), some (.int ((max D0 (maxl ((ts.take j).map (opd h.want))) : Nat) : Int)), some (.ref b), some (.ref pl), some u, some (.int w1)], ?_, ?_⟩
              · refine ⟨_, rfl, _, _, _, _, rfl, rfl, sq6, a0, rfl, _, rfl, ite2 (fun z => ?_) fun z => ?_⟩
                · obtain ⟨sg, rfl⟩ := tag_bin (dec_eq z)
                  refine ⟨_, rfl, .mk p0 (.bin sg) cs, _, rfl, rp.ex0 E6, wf, fun H7 g7 => ⟨_, _, rfl, rfl, g7, _, fun s e => by cases e; rfl, fun e => absurd rfl (e sg), rfl⟩⟩
                · exact ⟨.refl _ _, 0, fun s e => absurd (by rw [e]; rfl) (dec_ne z), fun _ => rfl, rfl⟩
              · rintro σ' H7 ⟨g7, w1, hw1, hw2, rfl⟩
                have E7 := E6.trans g7
                have sq7 := E7.tup .nil sq
                refine ⟨fun σ' H8 => H8 = H7 ∧ σ' = [some (.ref a), some (.int lI), some (.int ow), some (.int ((max D0 (maxl ((ts.take j).map (opd h.want))) : Nat) : Int)), some (.ref b), some (.ref pl), some u, some (.int (h.want : Int))], ?_, ?_⟩
                · refine ⟨_, rfl, _, _, _, _, rfl, rfl, sq7, a0, rfl, _, rfl, ite2 (fun z => iteT ?_) fun z => ?_⟩
                  · have := want_lit _ (.inl rfl) (dec_eq z)
                    refine ⟨rfl, ?_⟩
                    rw [this]; rfl
                  · refine ⟨_, rfl, _, _, _, _, rfl, rfl, sq7, a0, rfl, _, rfl, ite2 (fun z2 => ?_) fun z2 => ?_⟩
                    · have := want_lit _ (.inr rfl) (dec_eq z2)
                      refine ⟨rfl, ?_⟩
                      rw [this]; rfl
                    · refine ⟨rfl, ?_⟩
                      have hw : w1 = (h.want : Int) := by
                        by_cases hb : ∃ s, h = .bin s
                        · obtain ⟨s, rfl⟩ := hb
                          rw [hw1 s rfl]
                          show ((lvS s : Nat) : Int) + 1 = ((lvS s + 1 : Nat) : Int)
                          omega
                        · have hb : ∀ s, h ≠ .bin s := fun s e => hb ⟨s, e⟩
                          rw [hw2 hb]
                          have : h.want = 0 := by
                            cases h <;> first | rfl | exact absurd rfl (hb _) | exact absurd rfl (dec_ne z) | exact absurd rfl (dec_ne z2)
                          rw [this]; rfl
                      rw [hw]
                · rintro σ' H8 ⟨rfl, rfl⟩
                  have hcm := mem c (mem_at hc)
                  refine ⟨_, rfl, _, rfl, _, rfl, c, u, h.want, _, rfl, rfl, rc.ex0 (g6.trans g7), (wc c hcm).1, (wc c hcm).2, fun H9 g9 => ?_⟩
                  refine ⟨_, _, rfl, (g6.trans g7).trans g9, some u, some (.int (h.want : Int)), ?_⟩
                  rw [take_snoc hc, List.map_append, maxl_app, max_if]
                  rw [show max (max D0 (maxl ((ts.take j).map (opd h.want)))) (opd h.want c) = max D0 (max (maxl ((ts.take j).map (opd h.want))) (maxl ([c].map (opd h.want)))) by simp only [List.map_cons, List.map_nil, maxl] <;> omega]
                  rfl
            · obtain ⟨g6, y6, y7, rfl⟩ := pv
              rw [lu, List.take_length]
              exact ⟨(pe.trans f5).trans g6, _, _, _, _, rfl⟩
    · obtain ⟨pe, x4, x5, x6, x7, rfl⟩ := pv
      rw [lits, List.take_length, hflat]
      refine ⟨_, rfl, _, rfl, _, _, rfl, rfl, ?_⟩
      have := q _ (E4.trans pe)
      rw [opd_mk] at this
      show Q (.int (ow + ((maxl (cs.map (opd h.want)) : Nat) : Int))) H'
      rw [eo, show ((((if h.lv < l then 1 else 0) + h.opn : Nat) : Int) + ((maxl (cs.map (opd h.want)) : Nat) : Int)) = (((if h.lv < l then 1 else 0) + h.opn + maxl (cs.map (opd h.want)) : Nat) : Int) by omega]
      exact this
end
end K13

/-! M5: the law's text is the program's: plain Lean -/
namespace K13
open PySem L2
/-! ### how long the joined text is -/
theorem wt_nil : wt [] = 0 := rfl
theorem wt_cons (t : Str) (r : List Str) : wt (t :: r) = ((cd t).length + 1) + wt r := rfl
theorem wt_app (a b : List Str) : wt (a ++ b) = wt a + wt b := by unfold wt; rw [List.map_append, List.sum_append]
theorem sign_len {s : Str} (h : s ∈ signs) : (cd s).length ≤ 3 := (by decide +kernel : ∀ s ∈ signs, (cd s).length ≤ 3) s h
theorem num_len {n : Int} (h0 : 0 ≤ n) (h1 : n ≤ 1000000000000000) : (cd (o (toString n))).length ≤ 16 := by
  obtain ⟨k, rfl⟩ : ∃ k : Nat, n = (k : Int) := ⟨n.toNat, by omega⟩
  exact (NumTok.shape (t := o (toString (k : Int))) ⟨k, by omega, TL.tl_num k⟩).choose_spec.choose_spec.choose_spec.2.2.2.2.2
theorem lits_len : (cd (o "u-")).length = 2 ∧ (cd (o "not")).length = 3 ∧ (cd (o "(")).length = 1 ∧ (cd (o ")")).length = 1 ∧ (cd (o "[")).length = 1 ∧ (cd (o "]")).length = 1 ∧ (cd (o ",")).length = 1 ∧ (cd (o "c(")).length = 2 ∧ (cd (o "let")).length = 3 ∧ (cd (o "=")).length = 1 ∧ (cd (o "in")).length = 2 ∧
    (cd (o "if")).length = 2 ∧ (cd (o "then")).length = 4 ∧ (cd (o "else")).length = 4 ∧ (cd (o "fold")).length = 4 ∧ (cd (o "from")).length = 4 ∧ (cd (o "do")).length = 2 ∧ (cd (o "note")).length = 4 ∧ (cd (o "true")).length = 4 ∧ (cd (o "false")).length = 5 ∧ (cd (o "fail")).length = 4 ∧ (cd (o "def")).length = 3 ∧ (cd (o ";")).length = 1 := by decide +kernel
theorem sepc_wt : ∀ rs : List (List Str), wt (sepc rs) ≤ (rs.map fun r => wt r + 2).sum
  | [] => Nat.zero_le _
  | [r] => by simp [sepc]
  | r :: s :: q => by
    have := sepc_wt (s :: q)
    have h := lits_len.2.2.2.2.2.2.1
    simp only [sepc, wt_app, wt_cons, List.map_cons, List.sum_cons] at this ⊢
    omega
theorem wrap_wt : ∀ (p : Nat) (r : List Str), wt (wrap p r) = wt r + 4 * p
  | 0, r => rfl
  | p + 1, r => by
    rw [wrap, wt_cons, wt_app, wt_cons, wt_nil, wrap_wt p r, lits_len.2.2.1, lits_len.2.2.2.1]; omega
theorem bare_wt {h : Hd} {rs : List (List Str)} (w : h.Wf rs.length) : wt (h.bare rs) ≤ 42 + (rs.map fun r => wt r + 2).sum := by
  have hs := sepc_wt rs
  obtain ⟨k1, k2, k3, k4, k5, k6, k7, k8, k9, k10, k11, k12, k13, k14, k15, k16, k17, k18, k19, k20, k21, k22, k23⟩ := lits_len
  cases h <;> simp only [Hd.Wf] at w <;> simp only [Hd.bare, wt_cons, wt_app, wt_nil]
  case num n => have := num_len w.2.1 w.2.2; omega
  case tru b => cases b <;> simp [k19, k20] <;> omega
  case var v => have := w.2.toWord.len; omega
  case fact v => have := (fact_word w.2).len; omega
  case fail => omega
  case minus => obtain ⟨a, rfl⟩ := len1 w; simp; omega
  case not_ => obtain ⟨a, rfl⟩ := len1 w; simp; omega
  case bin s => obtain ⟨a, b, rfl⟩ := len2 w.1; have := sign_len w.2; simp; omega
  case pair => omega
  case list => omega
  case call f => have := (call_word w.2).len; omega
  case let_ v => obtain ⟨a, b, rfl⟩ := len2 w.1; have := w.2.toWord.len; simp; omega
  case ite_ => obtain ⟨a, b, c, rfl⟩ := len3 w; simp; omega
  case fold x s => obtain ⟨a, b, c, rfl⟩ := len3 w.1; have := w.2.1.toWord.len; have := w.2.2.toWord.len; simp; omega
  case note => obtain ⟨a, b, rfl⟩ := len2 w; simp; omega
mutual
theorem mn_wt : ∀ (t : Tm) (l : Nat), Wf t → wt (tk (mn l t)) + 2 ≤ 48 * nd t
  | .mk q h cs, l, w => by
    have ls : (mns h.least 0 cs).length = cs.length := (mns_Dcs cs h.least 0).length
    have hb := bare_wt (h := h) (rs := (mns h.least 0 cs).map tk) (by rw [List.length_map, ls]; exact w.1)
    have hs := mns_wt cs h.least 0 fun c hc => w.sub hc
    rw [mn, tk_mk, wrap_wt, nd_mk]
    rw [List.map_map] at hb
    have e1 : (((mns h.least 0 cs).map ((fun r : List Str => wt r + 2) ∘ tk)).sum) = ((mns h.least 0 cs).map fun e => wt (tk e) + 2).sum := rfl
    rw [e1] at hb
    have : (if h.lv < l then 1 else 0) ≤ 1 := by split <;> omega
    omega
theorem mns_wt : ∀ (cs : List Tm) (f : Nat → Nat) (i : Nat), (∀ c ∈ cs, Wf c) → ((mns f i cs).map fun e => wt (tk e) + 2).sum ≤ 48 * (cs.map nd).sum
  | [], f, i, w => by rw [mns]; simp
  | c :: r, f, i, w => by
    have a := mn_wt c (f i) (w c (by simp))
    have b := mns_wt r f (i + 1) fun c hc => w c (by simp [hc])
    rw [mns, List.map_cons, List.map_cons, List.sum_cons, List.sum_cons]
    omega
end
/-! ### the text -/
theorem jn_op {b c : Str} (h : opnT b = opnT c) : ∀ r, jn b r = jn c r
  | [] => rfl
  | t :: r => by show spT b t ++ _ = spT c t ++ _; unfold spT; rw [h]
/-- behind a token after which a blank may stand -/
def J (r : List Str) : List Nat := jn (o "x") r
theorem jn_J {b : Str} (h : opnT b = false) (r : List Str) : jn b r = J r := jn_op (h.trans (by decide +kernel)) r
theorem opn_word {v : Str} (h : Word v) : opnT v = false ∧ clsT v = false := by
  have no : ∀ s : Str, ((cd s).all isL = false ∨ cd s = []) → v ≠ s := fun s hs => wne h hs
  refine ⟨decide_eq_false fun m => ?_, decide_eq_false fun m => ?_⟩
  · simp only [List.mem_cons, List.not_mem_nil, or_false] at m
    rcases m with m | m | m | m | m <;> exact no _ (by decide +kernel) m
  · simp only [List.mem_cons, List.not_mem_nil, or_false] at m
    rcases m with m | m | m | m | m <;> exact no _ (by decide +kernel) m
theorem opn_sign {s : Str} (h : s ∈ signs) : opnT s = false ∧ clsT s = false ∧ pl s = s := (by decide +kernel : ∀ s ∈ signs, opnT s = false ∧ clsT s = false ∧ pl s = s) s h
theorem opn_num {n : Int} (h0 : 0 ≤ n) : opnT (o (toString n)) = false ∧ clsT (o (toString n)) = false := by
  have e : n = ((n.toNat : Nat) : Int) := by omega
  have ht : cd (o (toString n)) = TL.numL n.toNat := by rw [e]; exact TL.tl_num n.toNat
  have sh := NumTok.shape (t := o (toString n))
  have no : ∀ s : Str, ((cd s).all isD = false ∨ cd s = []) → o (toString n) ≠ s := fun s hs z => by
    rw [← z, ht] at hs
    rcases hs with hs | hs
    · rw [List.all_eq_true.mpr fun c hc => numL_isD hc] at hs; cases hs
    · have := TL.numL_ne n.toNat
      exact this hs
  refine ⟨decide_eq_false fun m => ?_, decide_eq_false fun m => ?_⟩
  · simp only [List.mem_cons, List.not_mem_nil, or_false] at m
    rcases m with m | m | m | m | m <;> exact no _ (by decide +kernel) m
  · simp only [List.mem_cons, List.not_mem_nil, or_false] at m
    rcases m with m | m | m | m | m <;> exact no _ (by decide +kernel) m
/-- the blank ahead of a term -/
def sp1 (b : Str) : List Nat := if opnT b = true then [] else [32]
theorem spT_of {b t : Str} (h : clsT t = false) : spT b t = sp1 b := by
  unfold spT sp1
  rw [h]
  cases opnT b <;> rfl
end K13

/-! M6: joined tokens are the printed text -/
namespace K13
open PySem L2
theorem jn_cons (b t : Str) (r : List Str) : jn b (t :: r) = spT b t ++ (cd (pl t) ++ jn t r) := rfl
theorem sp1_x : sp1 (o "x") = [32] := by decide +kernel
/-- a token that is no bracket and ends nothing -/
theorem jn_mid {b t : Str} (h1 : opnT t = false) (h2 : clsT t = false) (h3 : pl t = t) (r : List Str) : jn b (t :: r) = sp1 b ++ (cd t ++ J r) := by
  rw [jn_cons, spT_of h2, h3, jn_J h1]
theorem J_mid {t : Str} (h1 : opnT t = false) (h2 : clsT t = false) (h3 : pl t = t) (r : List Str) : J (t :: r) = 32 :: (cd t ++ J r) := by
  unfold J
  rw [jn_mid h1 h2 h3, sp1_x]; rfl
theorem jn_end {b t : Str} (h1 : opnT t = false) (h2 : clsT t = true) (h3 : pl t = t) (r : List Str) : jn b (t :: r) = cd t ++ J r := by
  rw [jn_cons, show spT b t = [] by unfold spT; rw [h2]; simp, h3, jn_J h1]; rfl
theorem J_end {t : Str} (h1 : opnT t = false) (h2 : clsT t = true) (h3 : pl t = t) (r : List Str) : J (t :: r) = cd t ++ J r := jn_end h1 h2 h3 r
theorem sp1_f {b : Str} (h : opnT b = false) : sp1 b = [32] := by unfold sp1; rw [h]; rfl
theorem sp1_t {b : Str} (h : opnT b = true) : sp1 b = [] := by unfold sp1; rw [h]; rfl
/-- what the tokens of a term give -/
def JT (l : Nat) (t : Tm) : Prop := ∀ b r, jn b (tk (mn l t) ++ r) = sp1 b ++ (par t.h.lv l (pr t) ++ J r)
theorem sepc_jn {h : Hd} : ∀ (cs : List Tm) (i : Nat), cs ≠ [] → (∀ c ∈ cs, ∀ l, JT l c) → ∀ b r, jn b (sepc ((mns h.least i cs).map tk) ++ r) = sp1 b ++ (joinc (prs h i cs) ++ J r)
  | [], i, hc, k, b, r => absurd rfl hc
  | [c], i, hc, k, b, r => by
    rw [mns, mns, prs, prs]
    show jn b (tk (mn (h.least i) c) ++ r) = _
    rw [k c (by simp) _ b r]
    rfl
  | c :: d :: q, i, hc, k, b, r => by
    have ih := sepc_jn (h := h) (d :: q) (i + 1) (by simp) (fun c hc => k c (by simp [hc])) (o ",") r
    rw [mns, prs]
    rw [mns, prs] at ih ⊢
    show jn b ((tk (mn (h.least i) c) ++ (o "," :: sepc (tk (mn (h.least (i + 1)) d) :: (mns h.least (i + 1 + 1) q).map tk))) ++ r) = _
    rw [List.append_assoc, List.cons_append, k c (by simp) _ b _]
    show sp1 b ++ (par c.h.lv (h.least i) (pr c) ++ jn (o "x") (o "," :: _)) = _
    rw [jn_cons, show spT (o "x") (o ",") = [] by decide +kernel, show cd (pl (o ",")) = [44] by decide +kernel]
    have ih : jn (o ",") (sepc (tk (mn (h.least (i + 1)) d) :: (mns h.least (i + 1 + 1) q).map tk) ++ r) = _ := ih
    rw [ih, show sp1 (o ",") = [32] by decide +kernel]
    simp [joinc]
theorem sepc_nil_jn {h : Hd} {i : Nat} : sepc ((mns h.least i []).map tk) = [] := by rw [mns]; rfl
/-- the rows between brackets -/
theorem ser_jn {h : Hd} {cs : List Tm} {a z : Str} (k : ∀ c ∈ cs, ∀ l, JT l c) (h1 : opnT a = true) (h2 : opnT z = false) (h3 : clsT z = true) (h4 : pl z = z) (r : List Str) : jn a (sepc ((mns h.least 0 cs).map tk) ++ (z :: r)) = joinc (prs h 0 cs) ++ (cd z ++ J r) := by
  cases cs with
  | nil =>
    rw [sepc_nil_jn, List.nil_append, jn_end h2 h3 h4]
    rw [prs]; rfl
  | cons c q =>
    rw [sepc_jn (c :: q) 0 (by simp) k, sp1_t h1, J_end h2 h3 h4]
    rfl
theorem lit_mid : ∀ t ∈ ([o "then", o "else", o "in", o "from", o "do", o "let", o "if", o "fold", o "note", o "not", o "=", o "fail", o "true", o "false", o "def"] : List Str), opnT t = false ∧ clsT t = false ∧ pl t = t := by decide +kernel
theorem jn_lit {b t : Str} (h : t ∈ ([o "then", o "else", o "in", o "from", o "do", o "let", o "if", o "fold", o "note", o "not", o "=", o "fail", o "true", o "false", o "def"] : List Str)) (r : List Str) : jn b (t :: r) = sp1 b ++ (cd t ++ J r) := by
  obtain ⟨h1, h2, h3⟩ := lit_mid t h
  exact jn_mid h1 h2 h3 r
theorem J_lit {t : Str} (h : t ∈ ([o "then", o "else", o "in", o "from", o "do", o "let", o "if", o "fold", o "note", o "not", o "=", o "fail", o "true", o "false", o "def"] : List Str)) (r : List Str) : J (t :: r) = 32 :: (cd t ++ J r) := by
  obtain ⟨h1, h2, h3⟩ := lit_mid t h
  exact J_mid h1 h2 h3 r
theorem jn_wd {b v : Str} (h : Word v) (r : List Str) : jn b (v :: r) = sp1 b ++ (cd v ++ J r) := jn_mid (opn_word h).1 (opn_word h).2 (pl_word h) r
theorem J_wd {v : Str} (h : Word v) (r : List Str) : J (v :: r) = 32 :: (cd v ++ J r) := J_mid (opn_word h).1 (opn_word h).2 (pl_word h) r
theorem J_tk {l : Nat} {t : Tm} (h : JT l t) (r : List Str) : J (tk (mn l t) ++ r) = 32 :: (par t.h.lv l (pr t) ++ J r) := by
  unfold J
  rw [h (o "x") r, sp1_x]; rfl
theorem cdl : cd (o "not ") = cd (o "not") ++ [32] ∧ cd (o "let ") = cd (o "let") ++ [32] ∧ cd (o " = ") = 32 :: (cd (o "=") ++ [32]) ∧ cd (o " in ") = 32 :: (cd (o "in") ++ [32]) ∧ cd (o "if ") = cd (o "if") ++ [32] ∧ cd (o " then ") = 32 :: (cd (o "then") ++ [32]) ∧ cd (o " else ") = 32 :: (cd (o "else") ++ [32]) ∧
    cd (o "note ") = cd (o "note") ++ [32] ∧ cd (o "fold ") = cd (o "fold") ++ [32] ∧ cd (o " from ") = 32 :: (cd (o "from") ++ [32]) ∧ cd (o " do ") = 32 :: (cd (o "do") ++ [32]) ∧ cd (o "def ") = cd (o "def") ++ [32] ∧ cd (o "(") = [40] ∧ cd (o ") = ") = 41 :: 32 :: (cd (o "=") ++ [32]) ∧ cd (o "; ") = [59, 32] := by decide +kernel
theorem bare_jn {q : Nat} {h : Hd} {cs : List Tm} (w : Wf (.mk q h cs)) (k : ∀ c ∈ cs, ∀ l, JT l c) (b : Str) (r : List Str) : jn b (h.bare ((mns h.least 0 cs).map tk) ++ r) = sp1 b ++ (pr (.mk q h cs) ++ J r) := by
  have hw := w.hd
  obtain ⟨d1, d2, d3, d4, d5, d6, d7, d8, d9, d10, d11, d12, d13, d14, d15⟩ := cdl
  rw [pr_mk]
  cases h with
  | num n =>
    obtain ⟨w0, w1, _⟩ := hw
    show jn b (o (toString n) :: r) = _
    rw [jn_mid (opn_num w1).1 (opn_num w1).2 (pl_num n w1)]; rfl
  | tru n =>
    show jn b ((if n then o "true" else o "false") :: r) = _
    cases n
    · exact jn_lit (by simp) r
    · exact jn_lit (by simp) r
  | var v => exact jn_wd hw.2.toWord r
  | fact v => exact jn_wd (fact_word hw.2) r
  | fail => exact jn_lit (by simp) r
  | minus =>
    obtain ⟨x, rfl⟩ := len1 hw
    rw [mns, mns, prs, prs]
    show jn b (o "u-" :: (tk (mn 6 x) ++ r)) = _
    rw [jn_cons, spT_of (by decide +kernel), show cd (pl (o "u-")) = [45] by decide +kernel, k x (by simp) 6, sp1_t (b := o "u-") (by decide +kernel)]
    rfl
  | not_ =>
    obtain ⟨x, rfl⟩ := len1 hw
    rw [mns, mns, prs, prs]
    show jn b (o "not" :: (tk (mn 6 x) ++ r)) = _
    rw [jn_lit (by simp), J_tk (k x (by simp) 6)]
    show _ = sp1 b ++ ((cd (o "not ") ++ par x.h.lv 6 (pr x)) ++ J r)
    rw [d1]; simp
  | bin s =>
    obtain ⟨x, y, rfl⟩ := len2 hw.1
    obtain ⟨s1, s2, s3⟩ := opn_sign hw.2
    rw [mns, mns, mns, prs, prs, prs]
    show jn b ((tk (mn ((Hd.bin s).least 0) x) ++ s :: tk (mn ((Hd.bin s).least 1) y)) ++ r) = _
    rw [List.append_assoc, List.cons_append, k x (by simp) _ b, J_mid s1 s2 s3, J_tk (k y (by simp) _)]
    show _ = sp1 b ++ ((par x.h.lv ((Hd.bin s).least 0) (pr x) ++ 32 :: (cd s ++ 32 :: par y.h.lv ((Hd.bin s).least 1) (pr y))) ++ J r)
    simp
  | pair =>
    show jn b (o "(" :: (sepc ((mns Hd.pair.least 0 cs).map tk) ++ [o ")"]) ++ r) = _
    rw [List.cons_append, jn_cons, spT_of (by decide +kernel), show cd (pl (o "(")) = [40] by decide +kernel, List.append_assoc]
    show _ ++ (_ ++ jn (o "(") (_ ++ o ")" :: r)) = _
    rw [ser_jn (h := .pair) k (by decide +kernel) (by decide +kernel) (by decide +kernel) (by decide +kernel), show cd (o ")") = [41] by decide +kernel]
    show _ = sp1 b ++ (40 :: (joinc (prs .pair 0 cs) ++ [41]) ++ J r)
    simp
  | list =>
    show jn b (o "[" :: (sepc ((mns Hd.list.least 0 cs).map tk) ++ [o "]"]) ++ r) = _
    rw [List.cons_append, jn_cons, spT_of (by decide +kernel), show cd (pl (o "[")) = [91] by decide +kernel, List.append_assoc]
    show _ ++ (_ ++ jn (o "[") (_ ++ o "]" :: r)) = _
    rw [ser_jn (h := .list) k (by decide +kernel) (by decide +kernel) (by decide +kernel) (by decide +kernel), show cd (o "]") = [93] by decide +kernel]
    show _ = sp1 b ++ (91 :: (joinc (prs .list 0 cs) ++ [93]) ++ J r)
    simp
  | call f =>
    have wf := call_word hw.2
    show jn b (f :: o "c(" :: (sepc ((mns (Hd.call f).least 0 cs).map tk) ++ [o ")"]) ++ r) = _
    rw [List.cons_append, List.cons_append, jn_wd wf]
    unfold J
    rw [jn_cons, show spT (o "x") (o "c(") = [] by decide +kernel, show cd (pl (o "c(")) = [40] by decide +kernel, List.append_assoc]
    show _ ++ (_ ++ (_ ++ (_ ++ jn (o "c(") (_ ++ o ")" :: r)))) = _
    rw [ser_jn (h := .call f) k (by decide +kernel) (by decide +kernel) (by decide +kernel) (by decide +kernel), show cd (o ")") = [41] by decide +kernel]
    show _ = sp1 b ++ ((cd f ++ 40 :: (joinc (prs (.call f) 0 cs) ++ [41])) ++ J r)
    simp
  | let_ v =>
    obtain ⟨x, y, rfl⟩ := len2 hw.1
    rw [mns, mns, mns, prs, prs, prs]
    show jn b (o "let" :: v :: o "=" :: (tk (mn 0 x) ++ o "in" :: tk (mn 0 y)) ++ r) = _
    simp only [List.cons_append, List.append_assoc]
    rw [jn_lit (by simp), J_wd hw.2.toWord, J_lit (by simp), J_tk (k x (by simp) 0), J_lit (by simp), J_tk (k y (by simp) 0)]
    show _ = sp1 b ++ ((cd (o "let ") ++ (cd v ++ (cd (o " = ") ++ (par x.h.lv 0 (pr x) ++ (cd (o " in ") ++ par y.h.lv 0 (pr y)))))) ++ J r)
    rw [d2, d3, d4]; simp
  | ite_ =>
    obtain ⟨x, y, z, rfl⟩ := len3 hw
    rw [mns, mns, mns, mns, prs, prs, prs, prs]
    show jn b (o "if" :: (tk (mn 0 x) ++ o "then" :: (tk (mn 0 y) ++ o "else" :: tk (mn 0 z))) ++ r) = _
    simp only [List.cons_append, List.append_assoc]
    rw [jn_lit (by simp), J_tk (k x (by simp) 0), J_lit (by simp), J_tk (k y (by simp) 0), J_lit (by simp), J_tk (k z (by simp) 0)]
    show _ = sp1 b ++ ((cd (o "if ") ++ (par x.h.lv 0 (pr x) ++ (cd (o " then ") ++ (par y.h.lv 0 (pr y) ++ (cd (o " else ") ++ par z.h.lv 0 (pr z)))))) ++ J r)
    rw [d5, d6, d7]; simp
  | fold u g =>
    obtain ⟨x, y, z, rfl⟩ := len3 hw.1
    rw [mns, mns, mns, mns, prs, prs, prs, prs]
    show jn b (o "fold" :: u :: g :: o "in" :: (tk (mn 0 x) ++ o "from" :: (tk (mn 0 y) ++ o "do" :: tk (mn 0 z))) ++ r) = _
    simp only [List.cons_append, List.append_assoc]
    rw [jn_lit (by simp), J_wd hw.2.1.toWord, J_wd hw.2.2.toWord, J_lit (by simp), J_tk (k x (by simp) 0), J_lit (by simp), J_tk (k y (by simp) 0), J_lit (by simp), J_tk (k z (by simp) 0)]
    show _ = sp1 b ++ ((cd (o "fold ") ++ (cd u ++ (32 :: (cd g ++ (cd (o " in ") ++ (par x.h.lv 0 (pr x) ++ (cd (o " from ") ++ (par y.h.lv 0 (pr y) ++ (cd (o " do ") ++ par z.h.lv 0 (pr z)))))))))) ++ J r)
    rw [d9, d4, d10, d11]; simp
  | note =>
    obtain ⟨x, y, rfl⟩ := len2 hw
    rw [mns, mns, mns, prs, prs, prs]
    show jn b (o "note" :: (tk (mn 0 x) ++ o "then" :: tk (mn 0 y)) ++ r) = _
    simp only [List.cons_append, List.append_assoc]
    rw [jn_lit (by simp), J_tk (k x (by simp) 0), J_lit (by simp), J_tk (k y (by simp) 0)]
    show _ = sp1 b ++ ((cd (o "note ") ++ (par x.h.lv 0 (pr x) ++ (cd (o " then ") ++ par y.h.lv 0 (pr y)))) ++ J r)
    rw [d8, d6]; simp
theorem jt : ∀ (t : Tm) (l : Nat), Wf t → JT l t := by
  refine fun t => Tm.ind (P := fun t => ∀ l, Wf t → JT l t) (fun q h cs ih l w b r => ?_) t
  have hb := bare_jn w (fun c hc l => ih c hc l (w.sub hc))
  rw [mn, tk_mk]
  show jn b (wrap (if h.lv < l then 1 else 0) (h.bare ((mns h.least 0 cs).map tk)) ++ r) = sp1 b ++ (par h.lv l (pr (.mk q h cs)) ++ J r)
  unfold par
  split
  · show jn b (o "(" :: (h.bare ((mns h.least 0 cs).map tk) ++ [o ")"]) ++ r) = _
    rw [List.cons_append, jn_cons, spT_of (by decide +kernel), show cd (pl (o "(")) = [40] by decide +kernel, List.append_assoc]
    show _ ++ (_ ++ jn (o "(") (_ ++ o ")" :: r)) = _
    rw [hb, sp1_t (b := o "(") (by decide +kernel), J_end (by decide +kernel) (by decide +kernel) (by decide +kernel), show cd (o ")") = [41] by decide +kernel]
    simp
  · exact hb b r
end K13

/-! M7: scripts: joined, layouts, brackets -/
namespace K13
open PySem L2
def mnD (d : Df) : Df := ⟨d.name, d.pars, mn 0 d.term⟩
def mnS (s : Sc) : Sc := ⟨s.defs.map mnD, mn 0 s.body⟩
/-! ### the joined text of a script -/
theorem flatn_jn : ∀ (ps : List Str), (∀ p ∈ ps, Name p) → ∀ r, J (flatn ps ++ o ")" :: r) = (match ps with | [] => [] | p :: q => 44 :: 32 :: joinc ((p :: q).map cd)) ++ 41 :: J r
  | [], _, r => by
    show J (o ")" :: r) = _
    rw [J_end (by decide +kernel) (by decide +kernel) (by decide +kernel), show cd (o ")") = [41] by decide +kernel]; rfl
  | p :: q, h, r => by
    have ih := flatn_jn q (fun x hx => h x (by simp [hx])) r
    show jn (o "x") (o "," :: p :: (flatn q ++ o ")" :: r)) = _
    rw [jn_cons, show spT (o "x") (o ",") = [] by decide +kernel, show cd (pl (o ",")) = [44] by decide +kernel, jn_wd (h p (by simp)).toWord, ih, show sp1 (o ",") = [32] by decide +kernel]
    cases q with
    | nil => simp [joinc]
    | cons a b => simp [joinc]
theorem sepn_jn (ps : List Str) (h : ∀ p ∈ ps, Name p) (r : List Str) : jn (o "c(") (sepn ps ++ o ")" :: r) = joinc (ps.map cd) ++ 41 :: J r := by
  cases ps with
  | nil =>
    show jn (o "c(") (o ")" :: r) = _
    rw [jn_end (by decide +kernel) (by decide +kernel) (by decide +kernel), show cd (o ")") = [41] by decide +kernel]; rfl
  | cons p q =>
    show jn (o "c(") (p :: (flatn q ++ o ")" :: r)) = _
    rw [jn_wd (h p (by simp)).toWord, flatn_jn q (fun x hx => h x (by simp [hx])) r, sp1_t (b := o "c(") (by decide +kernel)]
    cases q with
    | nil => simp [joinc]
    | cons a b => simp [joinc]
theorem dtk_jn {d : Df} (w : WfD d) (b : Str) (r : List Str) : ∃ z, opnT z = false ∧ jn b (dtkL (mnD d) ++ r) = sp1 b ++ (cd (o "def ") ++ (cd d.name ++ (cd (o "(") ++ (joinc (d.pars.map cd) ++ (cd (o ") = ") ++ (pr d.term ++ 59 :: jn z r)))))) := by
  obtain ⟨d1, d2, d3, d4, d5, d6, d7, d8, d9, d10, d11, d12, d13, d14, d15⟩ := cdl
  refine ⟨o ";", by decide +kernel, ?_⟩
  have ht := jt d.term 0 w.term
  show jn b ([o "def", d.name, o "c("] ++ sepn d.pars ++ [o ")", o "="] ++ tk (mn 0 d.term) ++ [o ";"] ++ r) = _
  simp only [List.cons_append, List.nil_append, List.append_assoc]
  rw [jn_lit (by simp), J_wd w.name.toWord]
  have e1 : J (o "c(" :: (sepn d.pars ++ o ")" :: o "=" :: (tk (mn 0 d.term) ++ o ";" :: r))) = 40 :: jn (o "c(") (sepn d.pars ++ o ")" :: o "=" :: (tk (mn 0 d.term) ++ o ";" :: r)) := by
    unfold J
    rw [jn_cons, show spT (o "x") (o "c(") = [] by decide +kernel, show cd (pl (o "c(")) = [40] by decide +kernel]; rfl
  rw [e1, sepn_jn d.pars w.pars, J_lit (by simp), J_tk ht]
  have e2 : J (o ";" :: r) = 59 :: jn (o ";") r := by
    unfold J
    rw [jn_cons, show spT (o "x") (o ";") = [] by decide +kernel, show cd (pl (o ";")) = [59] by decide +kernel]; rfl
  rw [e2, d12, d13, d14, show par d.term.h.lv 0 (pr d.term) = pr d.term from if_neg (Nat.not_lt_zero _)]
  simp
theorem dtks_jn {body : Tm} (wb : Wf body) : ∀ (ds : List Df), (∀ d ∈ ds, WfD d) → ∀ b, jn b (dtksL (ds.map mnD) ++ tk (mn 0 body)) = sp1 b ++ (prDs ds ++ pr body)
  | [], _, b => by
    have := jt body 0 wb b []
    rw [List.append_nil] at this
    show jn b (tk (mn 0 body)) = sp1 b ++ pr body
    rw [this, show par body.h.lv 0 (pr body) = pr body from if_neg (Nat.not_lt_zero _)]
    show _ ++ (_ ++ jn (o "x") []) = _
    simp [jn]
  | d :: r, h, b => by
    obtain ⟨z, hz, e⟩ := dtk_jn (h d (by simp)) b (dtksL (r.map mnD) ++ tk (mn 0 body))
    have ih := dtks_jn wb r (fun x hx => h x (by simp [hx])) z
    show jn b (dtkL (mnD d) ++ dtksL (r.map mnD) ++ tk (mn 0 body)) = sp1 b ++ (prD d ++ prDs r ++ pr body)
    rw [List.append_assoc, e, ih, sp1_f hz]
    unfold prD
    rw [show cd (o "; ") = [59, 32] by decide +kernel]
    simp
theorem text_prS {s : Sc} (w : WfS s) : jn (o "") (stkL (mnS s)) = prS s := by
  have := dtks_jn w.body s.defs w.defs (o "")
  rw [sp1_t (b := o "") (by decide +kernel)] at this
  exact this
theorem text_pr {t : Tm} (w : Wf t) : jn (o "") (tk (mn 0 t)) = pr t := by
  have := jt t 0 w (o "") []
  rw [List.append_nil, sp1_t (b := o "") (by decide +kernel), show par t.h.lv 0 (pr t) = pr t from if_neg (Nat.not_lt_zero _)] at this
  rw [this]
  show [] ++ (pr t ++ []) = _
  simp
/-! ### how long -/
theorem wt_sepn : ∀ ps : List Str, (∀ p ∈ ps, Name p) → wt (sepn ps) ≤ 15 * ps.length
  | [], _ => Nat.zero_le _
  | a :: r, h => by
    have hf : ∀ r : List Str, (∀ p ∈ r, Name p) → wt (flatn r) ≤ 15 * r.length := by
      intro r hr
      induction r with
      | nil => exact Nat.zero_le _
      | cons b q ih =>
        have := ih fun p hp => hr p (by simp [hp])
        have l := (hr b (by simp)).toWord.len
        have k := lits_len.2.2.2.2.2.2.1
        simp only [flatn, wt_cons, List.length_cons]
        omega
    have := hf r fun p hp => h p (by simp [hp])
    have l := (h a (by simp)).toWord.len
    simp only [sepn, wt_cons, List.length_cons]
    omega
theorem wt_dtks {b : Nat} : ∀ (ds : List Df), (∀ d ∈ ds, WfD d ∧ nd d.term ≤ b) → wt (dtksL (ds.map mnD)) ≤ ds.length * (48 * b + 90)
  | [], _ => Nat.zero_le _
  | d :: r, h => by
    have ih := wt_dtks r fun x hx => h x (by simp [hx])
    obtain ⟨w, hb⟩ := h d (by simp)
    have h1 := mn_wt d.term 0 w.term
    have h2 := wt_sepn d.pars w.pars
    have h3 := w.name.toWord.len
    have h4 := w.few
    obtain ⟨k1, k2, k3, k4, k5, k6, k7, k8, k9, k10, k11, k12, k13, k14, k15, k16, k17, k18, k19, k20, k21, k22, k23⟩ := lits_len
    show wt (dtkL (mnD d) ++ dtksL (r.map mnD)) ≤ _
    have e : wt (dtkL (mnD d)) = wt [o "def", d.name, o "c("] + wt (sepn d.pars) + wt [o ")", o "="] + wt (tk (mn 0 d.term)) + wt [o ";"] := by
      show wt ([o "def", d.name, o "c("] ++ sepn d.pars ++ [o ")", o "="] ++ tk (mn 0 d.term) ++ [o ";"]) = _
      rw [wt_app, wt_app, wt_app, wt_app]
    rw [wt_app, e, List.length_cons, Nat.succ_mul]
    simp only [wt_cons, wt_nil]
    omega
theorem wt_script {s : Sc} (w : WfS s) (hn : ∀ t ∈ s.terms, nd t ≤ 37449) : wt (stkL (mnS s)) ≤ 15000000 := by
  have h1 := wt_dtks (b := 37449) s.defs fun d hd => ⟨w.defs d hd, hn d.term (by unfold Sc.terms; exact List.mem_append_left _ (List.mem_map_of_mem hd))⟩
  have h2 := mn_wt s.body 0 w.body
  have h3 := hn s.body (by unfold Sc.terms; simp)
  have h4 := w.few
  have h5 : s.defs.length * (48 * 37449 + 90) ≤ 6 * (48 * 37449 + 90) := Nat.mul_le_mul_right _ h4
  show wt (dtksL (s.defs.map mnD) ++ tk (mn 0 s.body)) ≤ _
  rw [wt_app]
  omega
/-! ### tokens are tokens -/
theorem tok_sign : ∀ t ∈ ([o "u-", o "not", o "(", o ")", o "[", o "]", o ",", o "c(", o "let", o "=", o "in", o "if", o "then", o "else", o "fold", o "from", o "do", o "note", o "true", o "false", o "fail", o "def", o ";"] ++ signs : List Str), LTok t := by
  have h0 : ∀ t ∈ ([o "u-", o "not", o "(", o ")", o "[", o "]", o ",", o "c(", o "let", o "=", o "in", o "if", o "then", o "else", o "fold", o "from", o "do", o "note", o "true", o "false", o "fail", o "def", o ";"] ++ signs : List Str), (decide (t = o "u-") || decide (t = o "c(") || wordB t || decide (t ∈ tsigns)) = true := by decide +kernel
  intro t ht
  have := h0 t ht
  simp only [Bool.or_eq_true, decide_eq_true_eq] at this
  rcases this with ((h | h) | h) | h
  · exact .inl h
  · exact .inr (.inl h)
  · exact .inr (.inr (.inr (.inl (wordB_ok h))))
  · exact .inr (.inr (.inr (.inr h)))
theorem tok_word {v : Str} (h : Word v) : LTok v := .inr (.inr (.inr (.inl h)))
theorem sepc_tok : ∀ (rs : List (List Str)), (∀ r ∈ rs, ∀ t ∈ r, LTok t) → ∀ t ∈ sepc rs, LTok t
  | [], _, t, h => nomatch h
  | [r], k, t, h => k r (by simp) t h
  | r :: s :: q, k, t, h => by
    simp only [sepc, List.mem_append, List.mem_cons] at h
    rcases h with h | h | h
    · exact k r (by simp) t h
    · rw [h]; exact tok_sign _ (by simp)
    · exact sepc_tok (s :: q) (fun x hx => k x (by simp at hx ⊢; exact .inr hx)) t h
theorem wrap_tok : ∀ (p : Nat) (r : List Str), (∀ t ∈ r, LTok t) → ∀ t ∈ wrap p r, LTok t
  | 0, r, k, t, h => k t h
  | p + 1, r, k, t, h => by
    simp only [wrap, List.mem_cons, List.mem_append, List.not_mem_nil, or_false] at h
    rcases h with h | h | h
    · rw [h]; exact tok_sign _ (by simp)
    · exact wrap_tok p r k t h
    · rw [h]; exact tok_sign _ (by simp)
theorem tk_tok : ∀ t : Tm, Wf t → ∀ s ∈ tk t, LTok s := by
  refine Tm.ind fun p h cs ih w => ?_
  rw [tk_mk]
  refine wrap_tok p _ fun s hs => ?_
  have hw := w.hd
  have hc : ∀ r ∈ cs.map tk, ∀ t ∈ r, LTok t := fun r hr t ht => by
    obtain ⟨c, hc, rfl⟩ := List.mem_map.mp hr
    exact ih c hc (w.sub hc) t ht
  have lit : ∀ t, t ∈ ([o "u-", o "not", o "(", o ")", o "[", o "]", o ",", o "c(", o "let", o "=", o "in", o "if", o "then", o "else", o "fold", o "from", o "do", o "note", o "true", o "false", o "fail", o "def", o ";"] ++ signs : List Str) → s = t → LTok s := fun t ht e => by rw [e]; exact tok_sign t ht
  have hs2 := sepc_tok (cs.map tk) hc
  cases h with
  | num n =>
    obtain ⟨w0, w1, w2⟩ := hw
    obtain ⟨k, rfl⟩ : ∃ k : Nat, n = (k : Int) := ⟨n.toNat, by omega⟩
    simp only [Hd.bare, List.mem_cons, List.not_mem_nil, or_false] at hs
    rw [hs]
    exact .inr (.inr (.inl ⟨k, by omega, TL.tl_num k⟩))
  | tru b =>
    simp only [Hd.bare, List.mem_cons, List.not_mem_nil, or_false] at hs
    rw [hs]
    cases b <;> exact tok_sign _ (by simp)
  | var v =>
    simp only [Hd.bare, List.mem_cons, List.not_mem_nil, or_false] at hs
    rw [hs]; exact tok_word hw.2.toWord
  | fact v =>
    simp only [Hd.bare, List.mem_cons, List.not_mem_nil, or_false] at hs
    rw [hs]; exact tok_word (fact_word hw.2)
  | fail =>
    simp only [Hd.bare, List.mem_cons, List.not_mem_nil, or_false] at hs
    exact lit _ (by simp) hs
  | minus =>
    obtain ⟨x, rfl⟩ := len1 hw
    simp only [Hd.bare, List.map_cons, List.map_nil, List.getD_cons_zero, List.mem_cons] at hs
    rcases hs with hs | hs
    · exact lit _ (by simp) hs
    · exact hc (tk x) (by simp) s hs
  | not_ =>
    obtain ⟨x, rfl⟩ := len1 hw
    simp only [Hd.bare, List.map_cons, List.map_nil, List.getD_cons_zero, List.mem_cons] at hs
    rcases hs with hs | hs
    · exact lit _ (by simp) hs
    · exact hc (tk x) (by simp) s hs
  | bin g =>
    obtain ⟨x, y, rfl⟩ := len2 hw.1
    simp only [Hd.bare, List.map_cons, List.map_nil, List.getD_cons_zero, List.getD_cons_succ, List.mem_cons, List.mem_append] at hs
    rcases hs with hs | hs | hs
    · exact hc (tk x) (by simp) s hs
    · rw [hs]; exact tok_sign _ (List.mem_append_right _ hw.2)
    · exact hc (tk y) (by simp) s hs
  | pair =>
    simp only [Hd.bare, List.mem_cons, List.mem_append, List.not_mem_nil, or_false] at hs
    rcases hs with hs | hs | hs
    · exact lit _ (by simp) hs
    · exact hs2 s hs
    · exact lit _ (by simp) hs
  | list =>
    simp only [Hd.bare, List.mem_cons, List.mem_append, List.not_mem_nil, or_false] at hs
    rcases hs with hs | hs | hs
    · exact lit _ (by simp) hs
    · exact hs2 s hs
    · exact lit _ (by simp) hs
  | call f =>
    simp only [Hd.bare, List.mem_cons, List.mem_append, List.not_mem_nil, or_false] at hs
    rcases hs with hs | hs | hs | hs
    · rw [hs]; exact tok_word (call_word hw.2)
    · exact lit _ (by simp) hs
    · exact hs2 s hs
    · exact lit _ (by simp) hs
  | let_ v =>
    obtain ⟨x, y, rfl⟩ := len2 hw.1
    simp only [Hd.bare, List.map_cons, List.map_nil, List.getD_cons_zero, List.getD_cons_succ, List.mem_cons, List.mem_append] at hs
    rcases hs with hs | hs | hs | hs | hs | hs
    · exact lit _ (by simp) hs
    · rw [hs]; exact tok_word hw.2.toWord
    · exact lit _ (by simp) hs
    · exact hc (tk x) (by simp) s hs
    · exact lit _ (by simp) hs
    · exact hc (tk y) (by simp) s hs
  | ite_ =>
    obtain ⟨x, y, z, rfl⟩ := len3 hw
    simp only [Hd.bare, List.map_cons, List.map_nil, List.getD_cons_zero, List.getD_cons_succ, List.mem_cons, List.mem_append] at hs
    rcases hs with hs | hs | hs | hs | hs | hs
    · exact lit _ (by simp) hs
    · exact hc (tk x) (by simp) s hs
    · exact lit _ (by simp) hs
    · exact hc (tk y) (by simp) s hs
    · exact lit _ (by simp) hs
    · exact hc (tk z) (by simp) s hs
  | fold u g =>
    obtain ⟨x, y, z, rfl⟩ := len3 hw.1
    simp only [Hd.bare, List.map_cons, List.map_nil, List.getD_cons_zero, List.getD_cons_succ, List.mem_cons, List.mem_append] at hs
    rcases hs with hs | hs | hs | hs | hs | hs | hs | hs | hs
    · exact lit _ (by simp) hs
    · rw [hs]; exact tok_word hw.2.1.toWord
    · rw [hs]; exact tok_word hw.2.2.toWord
    · exact lit _ (by simp) hs
    · exact hc (tk x) (by simp) s hs
    · exact lit _ (by simp) hs
    · exact hc (tk y) (by simp) s hs
    · exact lit _ (by simp) hs
    · exact hc (tk z) (by simp) s hs
  | note =>
    obtain ⟨x, y, rfl⟩ := len2 hw
    simp only [Hd.bare, List.map_cons, List.map_nil, List.getD_cons_zero, List.getD_cons_succ, List.mem_cons, List.mem_append] at hs
    rcases hs with hs | hs | hs | hs
    · exact lit _ (by simp) hs
    · exact hc (tk x) (by simp) s hs
    · exact lit _ (by simp) hs
    · exact hc (tk y) (by simp) s hs
end K13

/-! M8: layouts; what the reader needs of a script with more brackets -/
namespace K13
open PySem L2
theorem stk_tok {s : Sc} (w : WfS s) : ∀ t ∈ stkL s, LTok t := by
  have hp : ∀ ps : List Str, (∀ p ∈ ps, Name p) → ∀ t ∈ sepn ps, LTok t := by
    intro ps h
    have hf : ∀ r : List Str, (∀ p ∈ r, Name p) → ∀ t ∈ flatn r, LTok t := by
      intro r
      induction r with
      | nil => exact fun _ t h => nomatch h
      | cons b q ih =>
        intro hr t ht
        simp only [flatn, List.mem_cons] at ht
        rcases ht with ht | ht | ht
        · rw [ht]; exact tok_sign _ (by simp)
        · rw [ht]; exact tok_word (hr b (by simp)).toWord
        · exact ih (fun p hp => hr p (by simp [hp])) t ht
    cases ps with
    | nil => exact fun t h => nomatch h
    | cons a r =>
      intro t ht
      simp only [sepn, List.mem_cons] at ht
      rcases ht with ht | ht
      · rw [ht]; exact tok_word (h a (by simp)).toWord
      · exact hf r (fun p hp => h p (by simp [hp])) t ht
  have hd : ∀ ds : List Df, (∀ d ∈ ds, WfD d) → ∀ t ∈ dtksL ds, LTok t := by
    intro ds
    induction ds with
    | nil => exact fun _ t h => nomatch h
    | cons d r ih =>
      intro h t ht
      have wd := h d (by simp)
      rcases List.mem_append.mp (show t ∈ dtkL d ++ dtksL r from ht) with ht | ht
      · rcases List.mem_append.mp (show t ∈ [o "def", d.name, o "c("] ++ sepn d.pars ++ [o ")", o "="] ++ tk d.term ++ [o ";"] from ht) with ht | ht
        · rcases List.mem_append.mp ht with ht | ht
          · rcases List.mem_append.mp ht with ht | ht
            · rcases List.mem_append.mp ht with ht | ht
              · simp only [List.mem_cons, List.not_mem_nil, or_false] at ht
                rcases ht with ht | ht | ht
                · rw [ht]; exact tok_sign _ (by simp)
                · rw [ht]; exact tok_word wd.name.toWord
                · rw [ht]; exact tok_sign _ (by simp)
              · exact hp d.pars wd.pars t ht
            · simp only [List.mem_cons, List.not_mem_nil, or_false] at ht
              rcases ht with ht | ht
              · rw [ht]; exact tok_sign _ (by simp)
              · rw [ht]; exact tok_sign _ (by simp)
          · exact tk_tok d.term wd.term t ht
        · simp only [List.mem_cons, List.not_mem_nil, or_false] at ht
          rw [ht]; exact tok_sign _ (by simp)
      · exact ih (fun x hx => h x (by simp [hx])) t ht
  intro t ht
  rcases List.mem_append.mp ht with ht | ht
  · exact hd s.defs w.defs t ht
  · exact tk_tok s.body w.body t ht
theorem pl_tokn {t : Str} (h : LTok t) : Tokn (pl t) := by
  rcases h with h | h | h
  · rw [h]; exact .inr (.inr (by decide +kernel))
  · rw [h]; exact .inr (.inr (by decide +kernel))
  · by_cases hc : t = o "u-" ∨ t = o "c("
    · rcases hc with hc | hc
      · rw [hc]; exact .inr (.inr (by decide +kernel))
      · rw [hc]; exact .inr (.inr (by decide +kernel))
    · rw [pl_keep hc]; exact h
/-! ### the layout of a joined text -/
def gapT (b t : Str) : Nat := if (!opnT b && !clsT t) = true then 1 else 0
def lj : Str → List Str → List (Nat × Str)
  | _, [] => []
  | b, t :: r => (gapT b t, pl t) :: lj t r
theorem lj_lay : ∀ (b : Str) (r : List Str), lay (lj b r) = jn b r
  | b, [] => rfl
  | b, t :: r => by
    show List.replicate (gapT b t) 32 ++ (cd (pl t) ++ lay (lj t r)) = spT b t ++ (cd (pl t) ++ jn t r)
    rw [lj_lay t r]
    unfold gapT spT
    split <;> rfl
theorem lj_snd : ∀ (b : Str) (r : List Str), (lj b r).map (·.2) = r.map pl
  | b, [] => rfl
  | b, t :: r => by show pl t :: (lj t r).map (·.2) = pl t :: r.map pl; rw [lj_snd t r]
theorem glue_open {t : Str} (h : opnT t = true) (n : t ≠ o "") (c : Nat) : glue (pl t) c = false := by
  have hm : t ∈ ([o "", o "(", o "c(", o "[", o "u-"] : List Str) := of_decide_eq_true h
  have h0 : ∀ t ∈ ([o "(", o "c(", o "[", o "u-"] : List Str), ∃ x r, cd (pl t) = x :: r ∧ isD x = false ∧ isL x = false ∧ pl t ≠ o "<" ∧ pl t ≠ o "=" := by
    intro t ht
    simp only [List.mem_cons, List.not_mem_nil, or_false] at ht
    rcases ht with rfl | rfl | rfl | rfl
    · exact ⟨40, [], by decide +kernel, by decide, by decide, by decide +kernel, by decide +kernel⟩
    · exact ⟨40, [], by decide +kernel, by decide, by decide, by decide +kernel, by decide +kernel⟩
    · exact ⟨91, [], by decide +kernel, by decide, by decide, by decide +kernel, by decide +kernel⟩
    · exact ⟨45, [], by decide +kernel, by decide, by decide, by decide +kernel, by decide +kernel⟩
  obtain ⟨x, r, e, e1, e2, e3, e4⟩ := h0 t (by
    rcases List.mem_cons.mp hm with h | h
    · exact absurd h n
    · exact h)
  unfold glue
  rw [e]
  show (if isD x = true then isD c else if isL x = true then isL c else (decide (pl t = o "<") || decide (pl t = o "=")) && c == 61) = false
  rw [e1, e2, if_neg Bool.false_ne_true, if_neg Bool.false_ne_true, decide_eq_false e3, decide_eq_false e4]
  rfl
theorem glue_close {t : Str} (h : clsT t = true) (a : Str) : NoGlue a (cd (pl t)) := by
  have hm : t ∈ ([o ")", o "]", o ",", o ";", o "c("] : List Str) := of_decide_eq_true h
  have h0 : ∀ t ∈ ([o ")", o "]", o ",", o ";", o "c("] : List Str), ∃ x, cd (pl t) = [x] ∧ isD x = false ∧ isL x = false ∧ (x == 61) = false := by
    intro t ht
    simp only [List.mem_cons, List.not_mem_nil, or_false] at ht
    rcases ht with rfl | rfl | rfl | rfl | rfl
    · exact ⟨41, by decide +kernel, by decide, by decide, by decide⟩
    · exact ⟨93, by decide +kernel, by decide, by decide, by decide⟩
    · exact ⟨44, by decide +kernel, by decide, by decide, by decide⟩
    · exact ⟨59, by decide +kernel, by decide, by decide, by decide⟩
    · exact ⟨40, by decide +kernel, by decide, by decide, by decide⟩
  obtain ⟨x, e, e1, e2, e3⟩ := h0 t hm
  intro c r ec
  rw [e] at ec
  obtain ⟨rfl, _⟩ := List.cons.inj ec
  unfold glue
  split
  · rfl
  · rw [e1, e2, e3]
    split
    · rfl
    · split
      · rfl
      · simp
theorem tok_ne {t : Str} (h : LTok t) : t ≠ o "" := fun z => by
  subst z
  rcases h with h | h | h
  · exact absurd h (by decide +kernel)
  · exact absurd h (by decide +kernel)
  · obtain ⟨c, r, e, _⟩ := h.shape
    have : cd (o "") = [] := by decide +kernel
    rw [this] at e; cases e
theorem lj_lx : ∀ (b : Str) (r : List Str), (∀ t ∈ r, LTok t) → Lx (lj b r)
  | b, [], _ => trivial
  | b, [t], h => pl_tokn (h t (by simp))
  | b, t :: u :: r, h => by
    refine ⟨pl_tokn (h t (by simp)), fun g0 => ?_, lj_lx t (u :: r) fun x hx => h x (by simp at hx ⊢; exact .inr hx)⟩
    unfold gapT at g0
    by_cases ho : opnT t = true
    · exact fun c r' _ => glue_open ho (tok_ne (h t (by simp))) c
    · by_cases hc : clsT u = true
      · exact glue_close hc _
      · rw [Bool.not_eq_true] at ho hc
        rw [ho, hc] at g0
        simp at g0
/-! ### plain tokens of a script -/
theorem sepn_pl {ps : List Str} (h : ∀ p ∈ ps, Name p) : (sepn ps).map pl = sepn ps := by
  have hf : ∀ r : List Str, (∀ p ∈ r, Name p) → (flatn r).map pl = flatn r := by
    intro r
    induction r with
    | nil => exact fun _ => rfl
    | cons b q ih =>
      intro hr
      simp only [flatn, List.map_cons, ih fun p hp => hr p (by simp [hp]), pl_word (hr b (by simp)).toWord, show pl (o ",") = o "," by decide +kernel]
  cases ps with
  | nil => rfl
  | cons a r => simp only [sepn, List.map_cons, hf r fun p hp => h p (by simp [hp]), pl_word (h a (by simp)).toWord]
theorem stk_pl {s : Sc} (w : WfS s) : (stkL s).map pl = stk s := by
  have hd : ∀ ds : List Df, (∀ d ∈ ds, WfD d) → (dtksL ds).map pl = dtks ds := by
    intro ds
    induction ds with
    | nil => exact fun _ => rfl
    | cons d r ih =>
      intro h
      have wd := h d (by simp)
      show (dtkL d ++ dtksL r).map pl = dtk d ++ dtks r
      rw [List.map_append, ih fun x hx => h x (by simp [hx])]
      congr 1
      show ([o "def", d.name, o "c("] ++ sepn d.pars ++ [o ")", o "="] ++ tk d.term ++ [o ";"]).map pl = o "def" :: d.name :: o "(" :: (sepn d.pars ++ o ")" :: o "=" :: (ptk d.term ++ [o ";"]))
      simp only [List.map_append, List.map_cons, List.map_nil, sepn_pl wd.pars, pl_word wd.name.toWord, show pl (o "def") = o "def" by decide +kernel, show pl (o "c(") = o "(" by decide +kernel, show pl (o ")") = o ")" by decide +kernel, show pl (o "=") = o "=" by decide +kernel, show pl (o ";") = o ";" by decide +kernel]
      simp [ptk]
  show (dtksL s.defs ++ tk s.body).map pl = dtks s.defs ++ ptk s.body
  rw [List.map_append, hd s.defs w.defs]
  rfl
/-! ### a script with more brackets -/
theorem DcDs.facts : ∀ {x : Nat} {ds es : List Df}, DcDs x ds es → (∀ d ∈ ds, WfD d) →
    es.length = ds.length ∧ es.map Df.enc = ds.map Df.enc ∧ (∀ d ∈ es, WfD d) ∧ es.map Df.kv = ds.map Df.kv ∧ (∀ e ∈ es, ∃ d ∈ ds, ∃ y, y ≤ x ∧ Dc 0 y d.term e.term) ∧ es.map (fun d => dep d.term) = ds.map (fun d => dep d.term) ∧ (∀ k, UsD k ds → UsD k es) ∧ (dtksL es).length = (dtksL (ds.map mnD)).length + 2 * x
  | x, [], es, h, _ => by
    obtain ⟨rfl, rfl⟩ := h
    exact ⟨rfl, rfl, by simp, rfl, by simp, rfl, fun _ _ => trivial, rfl⟩
  | x, d :: r, es, h, w => by
    obtain ⟨t', r', y, z, rfl, hx, h1, h2⟩ := h
    obtain ⟨a1, a2, a3, a4, a5, a6, a7, a8⟩ := h2.facts fun q hq => w q (by simp [hq])
    have wd := w d (by simp)
    have g := h1.grow wd.term
    refine ⟨by simp [a1], ?_, fun q hq => ?_, ?_, fun e he => ?_, ?_, fun k u => ?_, ?_⟩
    · rw [List.map_cons, List.map_cons, a2]
      congr 1
      show D.tup [.str d.name, .tup (d.pars.map .str), K13.enc t'] = D.tup [.str d.name, .tup (d.pars.map .str), K13.enc d.term]
      rw [h1.enc]
    · rcases List.mem_cons.mp hq with e | hq
      · subst e; exact ⟨wd.name, wd.few, wd.pars, h1.wf wd.term⟩
      · exact a3 q hq
    · rw [List.map_cons, List.map_cons, a4]; rfl
    · rcases List.mem_cons.mp he with e | he
      · subst e; exact ⟨d, by simp, y, by omega, h1⟩
      · obtain ⟨d', hd', y', hy', hc⟩ := a5 e he
        exact ⟨d', by simp [hd'], y', by omega, hc⟩
    · rw [List.map_cons, List.map_cons, a6]
      congr 1
      exact h1.dep
    · obtain ⟨u1, u2, u3, u4⟩ := u
      exact ⟨u1, u2, h1.us u3, a7 _ u4⟩
    · show (dtkL ⟨d.name, d.pars, t'⟩ ++ dtksL r').length = (dtkL (mnD d) ++ dtksL (r.map mnD)).length + 2 * x
      have e : ∀ d : Df, (dtkL d).length = 6 + (sepn d.pars).length + (tk d.term).length := fun d => by
        show ([o "def", d.name, o "c("] ++ sepn d.pars ++ [o ")", o "="] ++ tk d.term ++ [o ";"]).length = _
        simp
        omega
      rw [List.length_append, List.length_append, e, e, a8]
      show 6 + (sepn d.pars).length + (tk t').length + _ = 6 + (sepn d.pars).length + (tk (mn 0 d.term)).length + _ + _
      omega
theorem DcDs.none_ : ∀ {ds es : List Df}, DcDs 0 ds es → es = ds.map mnD
  | [], es, h => h.2
  | d :: r, es, h => by
    obtain ⟨t', r', y, z, rfl, hx, h1, h2⟩ := h
    obtain ⟨rfl, rfl⟩ : y = 0 ∧ z = 0 := by omega
    rw [DcDs.none_ h2, h1.least_]
    rfl
theorem mnD_Dc : ∀ ds : List Df, DcDs 0 ds (ds.map mnD)
  | [] => ⟨rfl, rfl⟩
  | d :: r => ⟨_, _, 0, 0, rfl, rfl, mn_Dc d.term 0, mnD_Dc r⟩
theorem mnS_Dc (s : Sc) : DcS 0 s (mnS s) := ⟨0, 0, rfl, mnD_Dc s.defs, mn_Dc s.body 0⟩
theorem DcS.none_ {s s' : Sc} (h : DcS 0 s s') : s' = mnS s := by
  obtain ⟨y, z, hx, h1, h2⟩ := h
  obtain ⟨rfl, rfl⟩ : y = 0 ∧ z = 0 := by omega
  obtain ⟨ds, b⟩ := s'
  have e1 : ds = _ := h1.none_
  have e2 : b = _ := h2.least_
  rw [e1, e2]
  rfl
structure More (x : Nat) (s s' : Sc) : Prop where
  enc : s'.enc = s.enc
  wf : WfS s'
  us : UsS s → UsS s'
  dep : s'.dep = s.dep
  len : (stkL s').length = (stkL (mnS s)).length + 2 * x
  rdb : ∀ m, (∀ t ∈ s.terms, opd 0 t ≤ m) → m + x ≤ 16 → ∀ t ∈ s'.terms, Rdb t
theorem DcS.more {x : Nat} {s s' : Sc} (h : DcS x s s') (w : WfS s) : More x s s' := by
  obtain ⟨y, z, hx, h1, h2⟩ := h
  obtain ⟨a1, a2, a3, a4, a5, a6, a7, a8⟩ := h1.facts w.defs
  have g := h2.grow w.body
  refine ⟨?_, ⟨by rw [a1]; exact w.few, a3, h2.wf w.body⟩, fun u => ⟨a7 _ u.defs, by rw [a4]; exact h2.us u.body⟩, ?_, ?_, fun m hm hk t ht => ?_⟩
  · show D.tup [.tup (s'.defs.map Df.enc), K13.enc s'.body] = D.tup [.tup (s.defs.map Df.enc), K13.enc s.body]
    rw [a2, h2.enc]
  · have e : ∀ s : Sc, s.dep = maxl (s.defs.map (fun d => K13.dep d.term) ++ [K13.dep s.body]) := fun s => by
      unfold Sc.dep Sc.terms
      rw [List.map_append, List.map_map]; rfl
    rw [e, e, a6, h2.dep]
  · show (dtksL s'.defs ++ tk s'.body).length = (dtksL (s.defs.map mnD) ++ tk (mn 0 s.body)).length + 2 * x
    rw [List.length_append, List.length_append, a8, g]
    omega
  · unfold Sc.terms at ht hm
    rcases List.mem_append.mp ht with ht | ht
    · obtain ⟨e, he, rfl⟩ := List.mem_map.mp ht
      obtain ⟨d, hd, y', hy', hc⟩ := a5 e he
      have := hc.nest
      have h3 := hm d.term (List.mem_append_left _ (List.mem_map_of_mem hd))
      exact ⟨(hc.ok (by omega)).1, by omega⟩
    · rw [List.mem_singleton.mp ht]
      have := h2.nest
      have h3 := hm s.body (by simp)
      exact ⟨(h2.ok (by omega)).1, by omega⟩
/-! ### how deep the data are -/
theorem dD_list {ds : List D} {n : Nat} (h : ∀ d ∈ ds, dD d ≤ n) : dDs ds ≤ n := by
  induction ds with
  | nil => exact Nat.zero_le _
  | cons d r ih => rw [dDs]; exact Nat.max_le.mpr ⟨h d (by simp), ih fun x hx => h x (by simp [hx])⟩
theorem dD_tup {ds : List D} {n : Nat} (hl : ds.length ≤ n) (h : ∀ d ∈ ds, dD d ≤ n) : dD (.tup ds) ≤ n + 1 := by
  rw [dD]
  have := dD_list h
  omega
theorem more_len (h : Hd) : h.more.length ≤ 2 ∧ ∀ d ∈ h.more, dD d ≤ 1 := by
  refine ⟨by cases h <;> simp [Hd.more], fun d hd => ?_⟩
  cases h <;> simp only [Hd.more, List.mem_cons, List.not_mem_nil, or_false] at hd
  all_goals first | exact hd.elim | skip
  all_goals first | (subst hd; simp [dD]; done) | (obtain hd | hd := hd <;> (subst hd; simp [dD]))
theorem enc_dD : ∀ t : Tm, Wf t → dD (enc t) ≤ 2 * dep t + 20 := by
  refine Tm.ind fun p h cs ih w => ?_
  rw [enc_mk, dep_mk]
  obtain ⟨m1, m2⟩ := more_len h
  have l8 := w.few
  have hc : ∀ d ∈ cs.map enc, dD d ≤ 2 * maxl (cs.map dep) + 20 := fun d hd => by
    obtain ⟨c, hc, rfl⟩ := List.mem_map.mp hd
    have h1 := ih c hc (w.sub hc)
    have h2 := dep_mem hc
    omega
  have hin : dD (.tup (cs.map enc)) ≤ 2 * maxl (cs.map dep) + 21 := dD_tup (by rw [List.length_map]; omega) hc
  refine Nat.le_trans (dD_tup (n := 2 * maxl (cs.map dep) + 21) ?_ fun d hd => ?_) (by omega)
  · split
    · simp; omega
    · simp; omega
  · rcases List.mem_cons.mp hd with e | hd
    · rw [e, dD]; omega
    · rcases List.mem_append.mp hd with hd | hd
      · have := m2 d hd; omega
      · split at hd
        · rw [List.mem_singleton.mp hd]; exact hin
        · have := hc d hd; omega
theorem senc_dD {s : Sc} (w : WfS s) (d16 : s.dep ≤ 16) : dD s.enc ≤ 60 := by
  have hb := enc_dD s.body w.body
  have hbd := s.dep_body
  have hd : ∀ d ∈ s.defs.map Df.enc, dD d ≤ 57 := fun x hx => by
    obtain ⟨d, hd, rfl⟩ := List.mem_map.mp hx
    have wd := w.defs d hd
    have h1 := enc_dD d.term wd.term
    have h2 := Sc.dep_def hd
    refine Nat.le_trans (dD_tup (n := 56) (by simp) fun y hy => ?_) (by omega)
    simp only [List.mem_cons, List.not_mem_nil, or_false] at hy
    rcases hy with rfl | rfl | rfl
    · rw [dD]; omega
    · refine Nat.le_trans (dD_tup (n := 10) (by rw [List.length_map]; have := wd.few; omega) fun z hz => ?_) (by omega)
      obtain ⟨p, _, rfl⟩ := List.mem_map.mp hz
      rw [dD]; omega
    · omega
  refine Nat.le_trans (dD_tup (n := 58) (by simp) fun y hy => ?_) (by omega)
  simp only [List.mem_cons, List.not_mem_nil, or_false] at hy
  rcases hy with rfl | rfl
  · exact dD_tup (n := 57) (by rw [List.length_map]; have := w.few; omega) hd
  · omega
end K13

/-! L19: the law -/
namespace K13
open PySem PySem.Spec PyProof.Rows L2
/-- a script that is drawn -/
structure Good (s : Sc) : Prop where
  wf : WfS s
  us : UsS s
  dep : s.dep ≤ 16
  nd : ∀ t ∈ s.terms, K13.nd t ≤ 37449
theorem B6 : B 6 = 37449 := by decide +kernel
theorem GenS.good {s : Sc} (g : GenS 6 s) : Good s := ⟨g.wf, g.us, Nat.le_trans g.dep (by omega), fun t h => by have := g.nd t h; rwa [B6] at this⟩
theorem Good.tower {s : Sc} {t : Tm} {k : Nat} (g : Good s) (w : Twr k t) (h : k ≤ 15) : Good ⟨s.defs, t⟩ := by
  refine ⟨⟨g.wf.few, g.wf.defs, w.wf⟩, ⟨g.us.defs, w.us _ _⟩, ?_, fun x hx => ?_⟩
  · refine maxl_le fun x hx => ?_
    obtain ⟨y, hy, rfl⟩ := List.mem_map.mp hx
    rcases List.mem_append.mp hy with h1 | h1
    · obtain ⟨d, hd, rfl⟩ := List.mem_map.mp h1
      exact Nat.le_trans (Sc.dep_def (s := s) hd) g.dep
    · rw [List.mem_singleton.mp h1]; have := w.dep; show K13.dep t ≤ 16; omega
  · rcases List.mem_append.mp hx with h1 | h1
    · exact g.nd x (List.mem_append_left _ h1)
    · rw [List.mem_singleton.mp h1]; have := w.nd; show K13.nd t ≤ 37449; omega
theorem Good.num (n : Nat) (h : n ≤ 1000) : Good ⟨[], .mk 0 (.num n) []⟩ ∧ (∀ t ∈ (Sc.mk [] (.mk 0 (.num n) [])).terms, opd 0 t ≤ 0) ∧ (stkL (mnS ⟨[], .mk 0 (.num n) []⟩)).length ≤ 200 ∧ (prS ⟨[], .mk 0 (.num n) []⟩).length ≤ 1000 := by
  have g := Twr.num h 0
  refine ⟨⟨⟨by simp, by simp, g.wf⟩, ⟨trivial, g.us _ _⟩, ?_, fun t ht => ?_⟩, fun t ht => ?_, ?_, ?_⟩
  · refine maxl_le fun x hx => ?_
    obtain ⟨y, hy, rfl⟩ := List.mem_map.mp hx
    rw [List.mem_singleton.mp hy]; have := g.dep; show K13.dep (.mk 0 (.num n) []) ≤ 16; omega
  · rw [List.mem_singleton.mp ht]; have := g.nd; show K13.nd (.mk 0 (.num n) []) ≤ 37449; omega
  · rw [List.mem_singleton.mp ht, opd_mk]
    simp [Hd.opn, maxl]
  · show ([] ++ tk (mn 0 (.mk 0 (.num n) []))).length ≤ 200
    rw [mn, mns, tk_mk]
    simp [wrap, Hd.bare]
  · show ([] ++ pr (.mk 0 (.num n) [])).length ≤ 1000
    rw [pr_mk]
    have := num_len (n := (n : Int)) (by omega) (by omega)
    show (cd (o (toString (n : Int)))).length ≤ 1000
    omega
theorem many6_at : ∀ {i : Nat}, i < 6 → ∃ m : Nat, atI [V.int 0, V.int 0, V.int 1, V.int 2, V.int 3, V.int 6] (i : Int) = some (.int (m : Int)) ∧ m ≤ 6
  | 0, _ => ⟨0, rfl, by omega⟩
  | 1, _ => ⟨0, rfl, by omega⟩
  | 2, _ => ⟨1, rfl, by omega⟩
  | 3, _ => ⟨2, rfl, by omega⟩
  | 4, _ => ⟨3, rfl, by omega⟩
  | 5, _ => ⟨6, rfl, by omega⟩
  | i + 6, h => absurd h (by omega)
theorem pr_le (s : Sc) : (pr s.body).length ≤ (prS s).length := by
  show _ ≤ (prDs s.defs ++ pr s.body).length
  rw [List.length_append]; omega
theorem lj_len (b : Str) (r : List Str) : (lj b r).length = r.length := by
  have := congrArg List.length (lj_snd b r)
  rwa [List.length_map, List.length_map] at this
section
variable {P : Program} {w : World} {K : PySem.W.Frag} {mg : Str → Option Value} {base : Heap}
def sp_law (K : PySem.W.Frag) : Sp := fun vs H Q _ => ∃ (a : Addr) (cs : List Int), vs = [.ref a] ∧ SqL K H a (cs.map V.int) ∧ cs.length ≤ 63 ∧ ∀ H', Q (.bl true) H'
theorem sc_law : FnScope ["_law_script", "_law_draws", "_law_world_here", "_law_drawn", "_law_opened_here", "_law_rows", "_law_text_here", "_law_loose", "_law_other", "_law_second", "_law_placed", "_law_back", "_law_term", "_law_definition"] ["_law_script"] (defScope s_law) := ⟨rfl, rfl, rfl, by decide +kernel, rfl, by decide +kernel, by decide +kernel⟩
theorem ok_law (T : Tx w K mg) {fd : FuncData} (F : FunD K "law" "law" (defArgs s_law) (defBody s_law) (defScope s_law) [] [] (He.ga K "law") fd) : FnOk P w K mg base CX0 192 (He.ga K "law") fd ["_law_script"] (sp_law K) := by
  have C_law_numbers := ok_law_numbers T (P := P) (base := base)
  have C_law_world := ok_law_world T (P := P) (base := base)
  have C_law_drawn_script := ok_law_drawn_script T (P := P) (base := base)
  have C_law_draw := ok_law_draw T (P := P) (base := base)
  have C_law_tower := ok_law_tower T (P := P) (base := base)
  have C_law_opened := ok_law_opened T (P := P) (base := base) 16
  have C_law_script_tokens := ok_law_script_tokens T (P := P) (base := base)
  have C_law_tokens := ok_law_tokens T (P := P) (base := base) 16
  have C_law_joined := ok_law_joined T (P := P) (base := base)
  have C_law_plain := ok_law_plain T (P := P) (base := base)
  have C_law_text := ok_law_text T (P := P) (base := base)
  have C_law_equal := ok_law_equal T (P := P) (base := base) 60
  have C_print_script := ok_print_script T (P := P) (base := base)
  have C_print_term := ok_print_term T (P := P) (base := base) 16
  have C_read_script := ok_read_script T (P := P) (base := base)
  have C_tokens := ok_tokens T (P := P) (base := base)
  refine F.ok sc_law (fun vs H Q E h => ?_) (fun cdv A outer s0 H vs Q E hr h => ?_)
  · obtain ⟨a, cs, rfl, _⟩ := h; rfl
  obtain ⟨sa, cs, rfl, hsa, l63, Qk⟩ := h
  refine ⟨_, PSs.nox (pss_cons (ps_set (i := 1) sc_law.nd rfl (Or.inl rfl) (pe_cal C_law_numbers (hr.mono (by omega)) rfl (pa_cons (pv 0) (pa_cons (pe_int) pa_nil))))
    (pss_cons (ps_set (i := 2) sc_law.nd rfl (Or.inl rfl) (pe_cal C_law_world (hr.mono (by omega)) rfl (pa_cons (pv 1) (pa_cons (pe_int) (pa_cons (pe_int) pa_nil)))))
    (pss_cons (ps_set (i := 3) sc_law.nd rfl (Or.inl rfl) (pe_cal C_law_drawn_script (hr.mono (by omega)) rfl (pa_cons (pv 1) (pa_cons (pv 2) (pa_cons (pe_ix ix_list (pe_lst (pa_cons (pe_int) (pa_cons (pe_int) (pa_cons (pe_int) (pa_cons (pe_int) (pa_cons (pe_int) (pa_cons (pe_int) pa_nil))))))) (pe_cal C_law_draw (hr.mono (by omega)) rfl (pa_cons (pv 1) (pa_cons (pe_int) pa_nil))) (fun _ _ => rfl)) (pa_cons (pe_int) pa_nil))))))
    (C8.pss_cut (ps_if (pt_cmpR op_eq (pe_cal C_law_draw (hr.mono (by omega)) rfl (pa_cons (pv 1) (pa_cons (pe_int) pa_nil))) (pe_int) (nomark _))
    (pss_one (ps_set (i := 3) sc_law.nd rfl (Or.inl rfl) (pe_tup (pa_cons (pe_ix ix_tup (pv 3) (pe_int) (fun _ _ => rfl)) (pa_cons (pe_cal C_law_tower (hr.mono (by omega)) rfl (pa_cons (pv 1) (pa_cons (pv 2) (pa_cons (pe_cal C_law_draw (hr.mono (by omega)) rfl (pa_cons (pv 1) (pa_cons (pe_int) pa_nil))) pa_nil)))) pa_nil)))))
    (pss_nil))
    (pss_cons (ps_set (i := 4) sc_law.nd rfl (Or.inl rfl) (pe_callB (cr_max rfl) (by rfl) T.n_max (by decide +kernel) (pa_cons (pe_lc (own := [("_law_term", 12)]) (g := gName 12) rfl sc_law.nd (pi_list (pe_op op_cat (pe_lc (own := [("_law_definition", 13)]) (g := gName 13) rfl sc_law.nd (pi_tup (pe_ix ix_tup (pv 3) (pe_int) (fun _ _ => rfl))) (blkOk_by (N := ["_law_script", "_law_draws", "_law_world_here", "_law_drawn", "_law_opened_here", "_law_rows", "_law_text_here", "_law_loose", "_law_other", "_law_second", "_law_placed", "_law_back", "_law_term", "_law_definition"]) (own := [("_law_definition", 13)]) (sc := defScope s_law) (by decide +kernel)) (fun _ _ _ _ _ => pg_name (i := 13) sc_law.nd rfl (Or.inl rfl)) (fun _ _ _ _ _ => pts_nil) (fun _ _ _ _ _ => (pe_ix (r := rIxT K) ix_tup (pv 13) (pe_int) (fun _ _ => rfl)))) (pe_lst (pa_cons (pe_ix ix_tup (pv 3) (pe_int) (fun _ _ => rfl)) pa_nil)))) (blkOk_by (N := ["_law_script", "_law_draws", "_law_world_here", "_law_drawn", "_law_opened_here", "_law_rows", "_law_text_here", "_law_loose", "_law_other", "_law_second", "_law_placed", "_law_back", "_law_term", "_law_definition"]) (own := [("_law_term", 12)]) (sc := defScope s_law) (by decide +kernel)) (fun _ _ _ _ _ => pg_name (i := 12) sc_law.nd rfl (Or.inl rfl)) (fun _ _ _ _ _ => pts_nil) (fun _ _ _ _ _ => (pe_cal C_law_opened (hr.mono (by omega)) rfl (pa_cons (pv 12) (pa_cons (pe_int) pa_nil))))) pa_nil)))
    (pss_cons (ps_set (i := 5) sc_law.nd rfl (Or.inl rfl) (pe_cal C_law_script_tokens (hr.mono (by omega)) rfl (pa_cons (pv 1) (pa_cons (pe_lst (pa_cons (pe_int) pa_nil)) (pa_cons (pv 3) pa_nil)))))
    (pss_cons (ps_set (i := 6) sc_law.nd rfl (Or.inl rfl) (pe_cal C_law_joined (hr.mono (by omega)) rfl (pa_cons (pv 5) pa_nil)))
    (C8.pss_cut (ps_if (PW.pt (pw_or (pt_cmpR op_gt (pe_callB call_len (by rfl) T.n_len (by decide +kernel) (pa_cons (pv 5) pa_nil)) (pe_int) (nomark _)) (pw_or (pt_cmpR op_gt (pe_callB call_len (by rfl) T.n_len (by decide +kernel) (pa_cons (pv 6) pa_nil)) (pe_int) (nomark _)) (pw_or1 (pt_cmpR op_gt (pv 4) (pe_int) (nomark _))))))
    (pss_cons (ps_set (i := 3) sc_law.nd rfl (Or.inl rfl) (pe_tup (pa_cons (pe_tup pa_nil) (pa_cons (pe_tup (pa_cons (pe_str) (pa_cons (pe_cal C_law_draw (hr.mono (by omega)) rfl (pa_cons (pv 1) (pa_cons (pe_int) pa_nil))) pa_nil))) pa_nil))))
      (pss_cons (ps_set (i := 4) sc_law.nd rfl (Or.inl rfl) (pe_int))
      (pss_cons (ps_set (i := 5) sc_law.nd rfl (Or.inl rfl) (pe_cal C_law_script_tokens (hr.mono (by omega)) rfl (pa_cons (pv 1) (pa_cons (pe_lst (pa_cons (pe_int) pa_nil)) (pa_cons (pv 3) pa_nil)))))
      (pss_one (ps_set (i := 6) sc_law.nd rfl (Or.inl rfl) (pe_cal C_law_joined (hr.mono (by omega)) rfl (pa_cons (pv 5) pa_nil)))))))
    (pss_nil))
    (pss_cons (ps_if (PW.pt (pw_or (pt_not (pt_val (pe_cal C_law_equal (hr.mono (by omega)) rfl (pa_cons (pe_cal C_print_script (hr.mono (by omega)) rfl (pa_cons (pv 3) pa_nil)) (pa_cons (pv 6) pa_nil))))) (pw_or1 (pt_not (pt_val (pe_cal C_law_equal (hr.mono (by omega)) rfl (pa_cons (pe_cal C_read_script (hr.mono (by omega)) rfl (pa_cons (pv 6) pa_nil)) (pa_cons (pv 3) pa_nil))))))))
    (pss_one (ps_ret (pe_bl)))
    (pss_nil))
    (pss_cons (ps_if (pt_not (pt_val (pe_cal C_law_equal (hr.mono (by omega)) rfl (pa_cons (pe_cal C_print_term (hr.mono (by omega)) rfl (pa_cons (pe_ix ix_tup (pv 3) (pe_int) (fun _ _ => rfl)) pa_nil)) (pa_cons (pe_cal C_law_joined (hr.mono (by omega)) rfl (pa_cons (pe_cal C_law_tokens (hr.mono (by omega)) rfl (pa_cons (pv 1) (pa_cons (pe_lst (pa_cons (pe_int) pa_nil)) (pa_cons (pe_ix ix_tup (pv 3) (pe_int) (fun _ _ => rfl)) (pa_cons (pe_int) pa_nil))))) pa_nil)) pa_nil)))))
    (pss_one (ps_ret (pe_bl)))
    (pss_nil))
    (pss_cons (ps_set (i := 7) sc_law.nd rfl (Or.inl rfl) (pe_callB (cr_min rfl) (by rfl) T.n_min (by decide +kernel) (pa_cons (pe_lst (pa_cons (pe_cal C_law_draw (hr.mono (by omega)) rfl (pa_cons (pv 1) (pa_cons (pe_int) pa_nil))) (pa_cons (pe_op op_sub (pe_int) (pv 4)) (pa_cons (pe_op op_fdiv (pe_op op_sub (pe_int) (pe_callB call_len (by rfl) T.n_len (by decide +kernel) (pa_cons (pv 5) pa_nil))) (pe_int)) pa_nil)))) pa_nil)))
    (pss_cons (ps_set (i := 8) sc_law.nd rfl (Or.inl rfl) (pe_cal C_law_plain (hr.mono (by omega)) rfl (pa_cons (pe_cal C_law_script_tokens (hr.mono (by omega)) rfl (pa_cons (pv 1) (pa_cons (pe_lst (pa_cons (pv 7) pa_nil)) (pa_cons (pv 3) pa_nil)))) pa_nil)))
    (pss_cons (ps_asg (pe_cal C_law_text (hr.mono (by omega)) rfl (pa_cons (pv 1) (pa_cons (pv 8) pa_nil))) (pg_tup (by rfl) (pgs_cons (pg_name (i := 9) sc_law.nd rfl (Or.inl rfl)) (pgs_cons (pg_name (i := 10) sc_law.nd rfl (Or.inl rfl)) pgs_nil))))
    (pss_cons (ps_if (pt_cmpR op_lt (pe_callB call_len (by rfl) T.n_len (by decide +kernel) (pa_cons (pv 10) pa_nil)) (pe_callB call_len (by rfl) T.n_len (by decide +kernel) (pa_cons (pv 8) pa_nil)) (nomark _))
    (pss_one (ps_ret (pe_bl)))
    (pss_nil))
    (pss_cons (ps_set (i := 11) sc_law.nd rfl (Or.inl rfl) (pe_cal C_read_script (hr.mono (by omega)) rfl (pa_cons (pv 9) pa_nil)))
    (pss_cons (ps_if (PW.pt (pw_or (pt_not (pt_val (pe_cal C_law_equal (hr.mono (by omega)) rfl (pa_cons (pv 11) (pa_cons (pv 3) pa_nil))))) (pw_or1 (pt_not (pt_val (pe_cal C_law_equal (hr.mono (by omega)) rfl (pa_cons (pe_cal C_print_script (hr.mono (by omega)) rfl (pa_cons (pv 11) pa_nil)) (pa_cons (pv 6) pa_nil))))))))
    (pss_one (ps_ret (pe_bl)))
    (pss_nil))
    (pss_one (ps_ret ((pe_and (pe_cmpR op_eq (pe_callB call_len (by rfl) T.n_len (by decide +kernel) (pa_cons (pe_cal C_tokens (hr.mono (by omega)) rfl (pa_cons (pv 6) pa_nil)) pa_nil)) (pe_callB call_len (by rfl) T.n_len (by decide +kernel) (pa_cons (pv 5) pa_nil)) (nomark _)) (pe_one (pe_cmpR op_le (pe_callB call_len (by rfl) T.n_len (by decide +kernel) (pa_cons (pv 5) pa_nil)) (pe_callB call_len (by rfl) T.n_len (by decide +kernel) (pa_cons (pe_cal C_tokens (hr.mono (by omega)) rfl (pa_cons (pv 9) pa_nil)) pa_nil)) (nomark _))))))))))))))))))))))), ?_⟩
  refine ⟨_, rfl, sa, cs, rfl, hsa, l63, fun d H1 e1 fr1 hd1 => ?_⟩
  refine ⟨_, rfl, d, rfl, hd1, fun w0 nl kl names H2 e2 w2 p2 nk => ?_⟩
  refine ⟨_, rfl, _, rfl, by show 6 ≤ sizeLine; decide, fun l1 hl1 => ?_⟩
  have f1 := Ext.new (ms := []) (o := .lst [.int 0, .int 0, .int 1, .int 2, .int 3, .int 6]) hl1
  have w3 := w2.ex0 f1
  obtain ⟨n1, _⟩ := w2.off hl1
  refine ⟨_, rfl, d, 6, rfl, w3.dr, by decide, fun i3 H3 e3 hd3 hi3 => ?_⟩
  obtain ⟨many, hmany, m6⟩ := many6_at (i := i3) (by omega)
  have w4 := w3.draw e3 hd3
  refine ⟨l1, _, _, _, rfl, rfl, SqL.of (e3 _ _ upd_same (by simpa using n1)), hmany, ?_⟩
  refine ⟨d, w0, nl, kl, many, names, rfl, m6, w4, p2, nk, fun r5 H5 s known e5 w5 rp5 g5 => ?_⟩
  refine ⟨fun σ' H6 => ∃ s v, Dr H6 d ∧ Rp K H6 s.enc v ∧ Good s ∧ σ' = [some (.ref sa), some (.ref d), some (.ref w0), some v, none, none, none, none, none, none, none, none, none, none], ?_, ?_⟩
  · refine ⟨_, rfl, d, 5, rfl, w5.dr, by decide, fun i6 H6 e6 hd6 hi6 => ⟨rfl, _, rfl, ite2 (fun _ => ?_) fun _ => ?_⟩⟩
    · have w6 := w5.draw e6 hd6
      have rp6 := rp5.ext e6 w5.dr.not
      obtain ⟨a, dl, ds, b, rfl, h1, h2, h3, h4⟩ := Sc.elim rp6
      refine ⟨_, rfl, _, _, _, _, rfl, rfl, h1, a0, _, rfl, _, rfl, _, rfl, d, 16, rfl, w6.dr, by decide, fun k7 H7 e7 hd7 hk7 => ?_⟩
      have w7 := w6.draw e7 hd7
      refine ⟨d, w0, nl, kl, k7, names, known, rfl, by omega, w7, p2.n4, p2.nm, fun r8 H8 t e8 hd8 rp8 tw => ?_⟩
      refine ⟨by show 2 ≤ sizeLine; decide, fun pt hpt => ?_⟩
      have f8 := Ext.new (ms := []) (o := .tup [.ref dl, r8]) hpt
      have n7 := w6.dr.not
      refine ⟨⟨s.defs, t⟩, .ref pt, hd8.ex f8 (by simp), ?_, g5.good.tower tw (by omega), rfl⟩
      exact Sc.mk_ (s := ⟨s.defs, t⟩) (SqT.of upd_same) (f8.tup .nil (e8.tup w7.dr.not (e7.tup n7 h2))) (((h3.ext e7 n7).ext e8 w7.dr.not).ex0 f8) (rp8.ex0 f8)
    · exact ⟨s, r5, hd6, rp5.ext e6 w5.dr.not, g5.good, rfl⟩
  clear hsa e1 fr1 hd1 e2 w2 p2 nk f1 w3 n1 e3 hd3 hi3 hmany m6 w4 e5 w5 rp5 g5
  rintro σ6 H6 ⟨s, v, hd6, rp6, gs, rfl⟩
  -- how deep it opens
  obtain ⟨a, dl, ds, b, rfl, h1, h2, h3, h4⟩ := Sc.elim rp6
  have ld : s.defs.length = ds.length := by have := h3.length; rwa [List.length_map] at this
  have lf := gs.wf.few
  have wt_ : ∀ t ∈ s.terms, Wf t ∧ dep t ≤ 16 := fun t ht => by
    rcases List.mem_append.mp (show t ∈ s.defs.map Df.term ++ [s.body] from ht) with h | h
    · obtain ⟨q, hq, rfl⟩ := List.mem_map.mp h
      exact ⟨(gs.wf.defs q hq).term, Nat.le_trans (Sc.dep_def hq) gs.dep⟩
    · rw [List.mem_singleton.mp h]; exact ⟨gs.wf.body, Nat.le_trans s.dep_body gs.dep⟩
  refine ⟨_, rfl, _, _, _, _, rfl, rfl, h1, a0, dl, rfl, ⟨_, h2⟩, fun Dl hD => ?_⟩
  refine lc_tup (xs := ds) (fun i H' => Ext [] H6 H' ∧ ∃ xs, H' Dl = some (.lst xs) ∧ RpL K H6 ((s.defs.take i).map fun d => enc d.term) xs) ⟨(Ext.refl _ _).own hD, [], upd_same, rfl⟩ (fun i H' _ pv => Ext.tup pv.1 .nil h2) (fun i x H' hx pv => ?_) (fun H7 pv => ?_)
  · obtain ⟨c, hc, rc⟩ := h3.at_ hx
    obtain ⟨pe, xs, pl, pr⟩ := pv
    obtain ⟨ad, ps, t, rfl, k1, k2, k3⟩ := Df.elim rc
    refine ⟨rfl, yes_ (iteT ?_)⟩
    refine ⟨_, rfl, _, _, _, _, rfl, rfl, pe.tup .nil k1, a2, xs, pl, ?_, pe.own hD, _, upd_same, ?_⟩
    · have := pr.length
      rw [List.length_map, List.length_take] at this
      exact small' (by omega)
    · rw [take_snoc hc, List.map_append]
      exact pr.snoc k3
  obtain ⟨pe7, xs, pl, pr⟩ := pv
  refine ⟨_, rfl, _, _, _, _, rfl, rfl, pe7.tup .nil h1, a1, by show 1 ≤ sizeLine; decide, fun l hl => ?_⟩
  rw [← ld, List.take_length] at pr
  have e2 : Ext [] H6 (upd H7 l (.lst [b])) := pe7.news hl
  refine ⟨Dl, l, _, _, rfl, rfl, by rw [upd_ne (ne_of_none pl hl)]; exact pl, upd_same, ?_, fun p hp => ?_⟩
  · have := pr.length
    rw [List.length_map] at this
    exact small (by simp; omega)
  have e3 := e2.news (o := .lst (xs ++ [b])) hp
  have rT : RpL K (upd (upd H7 l (.lst [b])) p (.lst (xs ++ [b]))) (s.terms.map enc) (xs ++ [b]) := by
    have e : s.terms.map enc = (s.defs.map fun d => enc d.term) ++ [enc s.body] := by simp [Sc.terms, Function.comp_def]
    rw [e]
    exact (pr.ex0 e3).snoc (h4.ex0 e3)
  have hpp : upd (upd H7 l (.lst [b])) p (.lst (xs ++ [b])) p = some (.lst (xs ++ [b])) := upd_same
  generalize upd (upd H7 l (.lst [b])) p (HO.lst (xs ++ [b])) = H8 at e3 rT hpp ⊢
  have lT : (xs ++ [b]).length = s.terms.length := by have := rT.length; rw [List.length_map] at this; exact this.symm
  have l7 : s.terms.length ≤ 7 := by unfold Sc.terms; rw [List.length_append, List.length_map]; simp; omega
  generalize xs ++ [b] = ts at rT hpp lT
  refine ⟨p, rfl, ⟨_, SqL.of hpp⟩, fun D2 hD2 => ?_⟩
  refine lc_list (xs := ts) (fun i H' => Ext [] H8 H' ∧ H' D2 = some (.lst ((s.terms.take i).map fun c => V.int (opd 0 c : Nat)))) ⟨(Ext.refl _ _).own hD2, upd_same⟩ (fun i H' _ pv => pv.1.sqL (.of hpp)) (fun i x H' hx pv => ?_) (fun H9 pv => ?_)
  · obtain ⟨c, hc, rc⟩ := rT.at_ hx
    refine ⟨rfl, yes_ (iteT ?_)⟩
    refine ⟨_, rfl, c, x, 0, 0, rfl, rfl, rc.ex0 pv.1, (wt_ c (mem_at hc)).1, (wt_ c (mem_at hc)).2, fun H3 e3 => ?_⟩
    refine ⟨_, e3 _ _ pv.2 (by simp), ?_, (pv.1.trans e3).own hD2, ?_⟩
    · rw [List.length_map, List.length_take]
      exact small' (by omega)
    · rw [upd_same, take_snoc hc, List.map_append]; rfl
  obtain ⟨pe9, pl9⟩ := pv
  rw [lT, List.take_length] at pl9
  refine ⟨D2, s.terms.map (fun c => ((opd 0 c : Nat) : Int)), rfl, SqL.of (by rw [pl9]; simp [Function.comp_def]), by unfold Sc.terms; simp, fun mI hm hle => ?_⟩
  obtain ⟨tm, htm, rfl⟩ := List.mem_map.mp hm
  have hopd : ∀ t ∈ s.terms, opd 0 t ≤ opd 0 tm := fun t ht => by
    have := hle _ (List.mem_map_of_mem ht)
    omega
  generalize opd 0 tm = mo at hopd
  have hd9 : Dr H9 d := (hd6.ex e3 (by simp)).ex pe9 (by simp)
  have rp9 := (rp6.ex0 e3).ex0 pe9
  clear hle hm htm tm pl9 pe9 rT hpp lT l7 e3 e2 hD hD2 pe7 pl pr
  -- the tokens, joined
  have tj : ∀ (s : Sc) (v : V) (H : Hp) (q : Addr) (Q' : VK), Dr H d → Rp K H s.enc v → Good s → H q = none →
      (∀ r H', Dr H' d → Rp K H' s.enc v → H' r = some (.lst ((stkL (mnS s)).map V.str)) → r ≠ d → Q' (.ref r) H') → sp_stoks K [.ref d, .ref q, v] (upd H q (.lst [.int 0])) Q' E0 := by
    intro s v H q Q' hd rp g hq k
    have e := Ext.new (ms := []) (o := .lst [.int 0]) hq
    have lo : Lo (upd H q (.lst [.int 0])) d q 0 := ⟨hd.ex e (by simp), upd_same, Ne.symm (hd.off hq)⟩
    refine ⟨s, v, d, q, 0, rfl, rp.ex0 e, g.wf, g.dep, fun t ht => Nat.le_trans (g.nd t ht) (by omega), lo, by omega, fun r rows H' L' e' lo' _ fr hr ⟨s', x, dc, hL, hrows, _⟩ => ?_⟩
    obtain rfl : x = 0 := by omega
    rw [hrows, dc.none_] at hr
    exact k r H' lo'.dr ((rp.ex0 e).ext e' lo.not) hr (lo.off fr).1
  refine ⟨_, rfl, by show 1 ≤ sizeLine; decide, fun q1 hq1 => ⟨_, rfl, ?_⟩⟩
  refine tj s _ H9 q1 _ hd9 rp9 gs hq1 fun r10 H10 hd10 rp10 hr10 nr10 => ?_
  refine ⟨_, rfl, r10, _, rfl, hr10, wt_script gs.wf gs.nd, fun H11 e11 => ?_⟩
  rw [text_prS gs.wf]
  have hd11 := hd10.ex e11 (by simp)
  have rp11 := rp10.ex0 e11
  have hr11 := e11 _ _ hr10 (by simp)
  refine ⟨fun σ' H12 => ∃ s v r mo, Dr H12 d ∧ Rp K H12 s.enc v ∧ Good s ∧ (∀ t ∈ s.terms, opd 0 t ≤ mo) ∧ mo ≤ 16 ∧ H12 r = some (.lst ((stkL (mnS s)).map V.str)) ∧ r ≠ d ∧ (stkL (mnS s)).length ≤ 200 ∧ (prS s).length ≤ 1000 ∧
    σ' = [some (.ref sa), some (.ref d), some (.ref w0), some v, some (.int ((mo : Nat) : Int)), some (.ref r), some (.str (S (prS s))), none, none, none, none, none, none, none], ?_, ?_⟩
  · have fb : ∀ (H : Hp) (v0 : V) (m0 : V) (r0 : Addr) (t0 : Str), Dr H d → ∀ D : Ends, D.nx = (fun σ' H12 => ∃ s v r mo, Dr H12 d ∧ Rp K H12 s.enc v ∧ Good s ∧ (∀ t ∈ s.terms, opd 0 t ≤ mo) ∧ mo ≤ 16 ∧ H12 r = some (.lst ((stkL (mnS s)).map V.str)) ∧ r ≠ d ∧ (stkL (mnS s)).length ≤ 200 ∧ (prS s).length ≤ 1000 ∧
    σ' = [some (.ref sa), some (.ref d), some (.ref w0), some v, some (.int ((mo : Nat) : Int)), some (.ref r), some (.str (S (prS s))), none, none, none, none, none, none, none]) →
      tSeq (tAsg (tTup (tCons (tTup tNil) (tCons (tTup (tCons (tC (.str (o "number"))) (tCons (tCal sp_draw (tCons (tVar 1) (tCons (tC (.int 1000)) tNil))) tNil))) tNil))) (gName 3)) (tSeq (tAsg (tC (.int 0)) (gName 4)) (tSeq (tAsg (tCal (sp_stoks K) (tCons (tVar 1) (tCons (tLst (tCons (tC (.int 0)) tNil)) (tCons (tVar 3) tNil)))) (gName 5)) (tAsg (tCal sp_joined (tCons (tVar 5) tNil)) (gName 6)))) D [some (.ref sa), some (.ref d), some (.ref w0), some v0, some m0, some (.ref r0), some (.str t0), none, none, none, none, none, none, none] H := by
      intro H v0 m0 r0 t0 hd D hD
      refine ⟨Nat.zero_le _, fun p1 hp1 => ?_⟩
      have f1 := Ext.new (ms := []) (o := .tup []) hp1
      have hdA := hd.ex f1 (by simp)
      refine ⟨_, rfl, d, 1000, rfl, hdA, by decide, fun n2 H2 e2 hd2 hn2 => ⟨by show 2 ≤ sizeLine; decide, fun p3 hp3 => ?_⟩⟩
      have f3 := Ext.new (ms := []) (o := .tup [.str (o "number"), .int (n2 : Int)]) hp3
      refine ⟨by show 2 ≤ sizeLine; decide, fun p4 hp4 => ?_⟩
      have f4 := Ext.new (ms := []) (o := .tup [.ref p1, .ref p3]) hp4
      obtain ⟨gn, on, ln1, ln2⟩ := Good.num n2 (by omega)
      have hd4 := (hd2.ex f3 (by simp)).ex f4 (by simp)
      have rp4 : Rp K _ (Sc.mk [] (.mk 0 (.num n2) [])).enc (.ref p4) := Sc.mk_ (s := ⟨[], .mk 0 (.num n2) []⟩) (SqT.of (K := K) (H := upd (upd H2 p3 (.tup [.str (o "number"), .int (n2 : Int)])) p4 (.tup [.ref p1, .ref p3])) upd_same) ((f3.trans f4).tup .nil (e2.tup hdA.not (SqT.of (K := K) (H := upd H p1 (.tup [])) upd_same))) rfl ⟨p3, _, rfl, f4.tup .nil (SqT.of upd_same), _, _, rfl, rfl, _, _, rfl, rfl, rfl⟩
      refine ⟨_, rfl, by show 1 ≤ sizeLine; decide, fun q5 hq5 => ⟨_, rfl, ?_⟩⟩
      refine tj ⟨[], .mk 0 (.num n2) []⟩ _ _ q5 _ hd4 rp4 gn hq5 fun r6 H6 hd6 rp6 hr6 nr6 => ?_
      refine ⟨_, rfl, r6, _, rfl, hr6, wt_script gn.wf gn.nd, fun H7 e7 => ?_⟩
      rw [text_prS gn.wf]
      show D.nx _ H7
      rw [hD]
      exact ⟨⟨[], .mk 0 (.num n2) []⟩, .ref p4, r6, 0, hd6.ex e7 (by simp), rp6.ex0 e7, gn, on, by omega, e7 _ _ hr6 (by simp), nr6, ln1, ln2, rfl⟩
    refine ⟨_, rfl, _, ((stkL (mnS s)).map V.str).length, rfl, .inl ⟨_, SqL.of hr11, rfl⟩, _, _, rfl, rfl, _, rfl, ite2 (fun _ => iteT (fb H11 _ _ _ _ hd11 _ rfl)) fun z1 => ?_⟩
    have lS : (S (prS s)).length ≤ sizeLine := by
      have h1 := jn_len (o "") (stkL (mnS s))
      rw [text_prS gs.wf] at h1
      have h2 := wt_script gs.wf gs.nd
      rw [S_len]; exact small (by omega)
    refine ⟨_, rfl, _, (S (prS s)).length, rfl, ⟨lS, rfl⟩, _, _, rfl, rfl, _, rfl, ite2 (fun _ => iteT (fb H11 _ _ _ _ hd11 _ rfl)) fun z2 => ?_⟩
    refine ⟨_, rfl, _, _, rfl, rfl, _, rfl, ite2 (fun _ => fb H11 _ _ _ _ hd11 _ rfl) fun z3 => ?_⟩
    refine ⟨s, _, r10, mo, hd11, rp11, gs, hopd, ?_, hr11, nr10, ?_, ?_, rfl⟩
    · have : ¬ (16 : Int) < ((mo : Nat) : Int) := fun h => z3 (decide_eq_true h)
      omega
    · have : ¬ (200 : Int) < ((((stkL (mnS s)).map V.str).length : Nat) : Int) := fun h => z1 (decide_eq_true h)
      rw [List.length_map] at this
      omega
    · have : ¬ (1000 : Int) < (((S (prS s)).length : Nat) : Int) := fun h => z2 (decide_eq_true h)
      rw [S_len] at this
      omega
  clear tj hd9 rp9 hd10 rp10 hr10 nr10 hd11 rp11 hr11 hopd rp6 gs h1 h2 h3 h4 ld lf wt_ hd6
  rintro σ12 H12 ⟨s, v, r, mo, hd, rp, gs, hopd, m16, hr0, nr, l200, l1000, rfl⟩
  have mo0 := (mnS_Dc s).more gs.wf
  have wfm : WfS (mnS s) := mo0.wf
  have rows_len : ((stkL (mnS s)).map V.str).length = (stkL (mnS s)).length := List.length_map ..
  have sd := senc_dD gs.wf gs.dep
  have strD : ∀ z : Str, dD (.str z) ≤ 60 := fun z => by rw [dD]; omega
  -- printed
  refine ⟨_, rfl, s, v, rfl, rp, gs.wf, gs.dep, l1000, fun H13 e13 => ?_⟩
  refine ⟨_, rfl, .str (S (prS s)), _, _, rfl, rfl, rfl, strD _, by rw [dD]; omega, _, rfl, iteF ?_⟩
  have hd13 := hd.ex e13 (by simp)
  have rp13 := rp.ex0 e13
  -- read
  have txt : S (prS s) = S (lay (lj (o "") (stkL (mnS s))) ++ List.replicate 0 32) := by
    rw [List.replicate_zero, List.append_nil, lj_lay, text_prS gs.wf]
  have jl : (lay (lj (o "") (stkL (mnS s))) ++ List.replicate 0 32).length ≤ 1000 := by
    rw [List.replicate_zero, List.append_nil, lj_lay, text_prS gs.wf]; exact l1000
  have lx0 : Lx (lj (o "") (stkL (mnS s))) := lj_lx _ _ (stk_tok wfm)
  refine ⟨_, rfl, mnS s, lj (o "") (stkL (mnS s)), 0, by rw [txt], lx0, by rw [lj_snd, stk_pl wfm], by rw [lj_len]; exact l200, by omega, wfm, mo0.us gs.us, by rw [mo0.dep]; exact gs.dep, mo0.rdb mo hopd (by omega), fun rb H14 e14 rpb => ?_⟩
  rw [mo0.enc] at rpb
  have hd14 := hd13.ex e14 (by simp)
  have rp14 := rp13.ex0 e14
  refine ⟨_, rfl, s.enc, rb, v, rfl, rpb, rp14, sd, by omega, _, rfl, iteF ?_⟩
  -- the body printed
  have hr14 := e14 _ _ (e13 _ _ hr0 (by simp)) (by simp)
  obtain ⟨a, dl, ds, b, rfl, k1, k2, k3, k4⟩ := Sc.elim rp14
  have pb := pr_le s
  refine ⟨_, rfl, _, _, _, _, rfl, rfl, k1, a1, s.body, b, rfl, k4, gs.wf.body, Nat.le_trans s.dep_body gs.dep, by omega, fun H15 e15 => ?_⟩
  have hd15 := hd14.ex e15 (by simp)
  refine ⟨_, rfl, by show 1 ≤ sizeLine; decide, fun q16 hq16 => ?_⟩
  have f16 := Ext.new (ms := []) (o := .lst [.int 0]) hq16
  have lo16 : Lo (upd H15 q16 (.lst [.int 0])) d q16 0 := ⟨hd15.ex f16 (by simp), upd_same, Ne.symm (hd15.off hq16)⟩
  have nrq : r ≠ q16 := fun z => by
    subst z
    rw [e15 _ _ hr14 (by simp)] at hq16; cases hq16
  have hbt : s.body ∈ s.terms := by unfold Sc.terms; simp
  refine ⟨_, rfl, _, _, _, _, rfl, rfl, (e15.trans f16).tup .nil k1, a1, s.body, b, d, q16, 0, 0, 0, rfl, rfl, (k4.ex0 e15).ex0 f16, gs.wf.body, Nat.le_trans s.dep_body gs.dep, Nat.le_trans (gs.nd _ hbt) (by omega), lo16, by omega, fun r17 rows17 H17 L17 e17 lo17 _ fr17 hr17 ⟨e', x', hc17, hL17, hrows17⟩ => ?_⟩
  obtain rfl : x' = 0 := by omega
  have he17 := hc17.least_
  subst he17
  rw [hrows17] at hr17
  have wtb := mn_wt s.body 0 gs.wf.body
  have ndb := gs.nd _ hbt
  refine ⟨r17, _, rfl, hr17, by omega, fun H18 e18 => ?_⟩
  rw [text_pr gs.wf.body]
  refine ⟨.str (S (pr s.body)), _, _, rfl, rfl, rfl, strD _, by rw [dD]; omega, _, rfl, iteF ?_⟩
  have x18 : Ext [d, q16] H14 H18 := ((e15.trans f16).nil.trans e17).trans e18.nil
  have hd18 := lo17.dr.ex e18 (by simp)
  have nt14 : NoT (upd H15 q16 (.lst [.int 0])) [d, q16] := lo16.not
  have rp18 : Rp K H18 s.enc (.ref a) := (((rp14.ex0 e15).ex0 f16).ext e17 nt14).ex0 e18
  have hr18 := x18 _ _ hr14 (by simp [nr, nrq])
  -- how many more brackets
  refine ⟨_, rfl, d, 13, rfl, hd18, by decide, fun i19 H19 e19 hd19 hi19 => ?_⟩
  have hr19 := e19 _ _ hr18 (by simpa using nr)
  have rp19 := rp18.ext e19 hd18.not
  refine ⟨_, rfl, _, _, rfl, rfl, _, rfl, _, ((stkL (mnS s)).map V.str).length, rfl, .inl ⟨_, SqL.of hr19, rfl⟩, _, _, rfl, rfl, _, _, rfl, rfl, ⟨by decide, by decide⟩, by show 3 ≤ sizeLine; decide, fun p20 hp20 => ?_⟩
  have f20 := Ext.new (ms := []) (o := .lst [.int (i19 : Int), .int (16 - ((mo : Nat) : Int)), .int ((200 - ((((stkL (mnS s)).map V.str).length : Nat) : Int)) / 2)]) hp20
  refine ⟨p20, [(i19 : Int), 16 - ((mo : Nat) : Int), (200 - ((((stkL (mnS s)).map V.str).length : Nat) : Int)) / 2], rfl, SqL.of upd_same, by show 0 < 3; decide, fun mI hmI hle => ?_⟩
  obtain ⟨L, rfl, lL12, lLm, lLr⟩ : ∃ L : Nat, mI = (L : Int) ∧ L ≤ 12 ∧ mo + L ≤ 16 ∧ (stkL (mnS s)).length + 2 * L ≤ 200 := by
    have g1 := hle (i19 : Int) (by simp)
    have g2 := hle (16 - ((mo : Nat) : Int)) (by simp)
    have g3 := hle ((200 - ((((stkL (mnS s)).map V.str).length : Nat) : Int)) / 2) (by simp)
    rw [rows_len] at g3 hmI
    simp only [List.mem_cons, List.not_mem_nil, or_false] at hmI
    have g0 : 0 ≤ mI := by rcases hmI with h | h | h <;> omega
    exact ⟨mI.toNat, by omega, by omega, by omega, by omega⟩
  have hd20 := hd19.ex f20 (by simp)
  have rp20 := rp19.ex0 f20
  have hr20 := f20 _ _ hr19 (by simp)
  refine ⟨_, rfl, _, rfl, by show 1 ≤ sizeLine; decide, fun q21 hq21 => ?_⟩
  have f21 := Ext.new (ms := []) (o := .lst [.int (L : Int)]) hq21
  have lo21 : Lo (upd _ q21 (.lst [.int (L : Int)])) d q21 L := ⟨hd20.ex f21 (by simp), upd_same, Ne.symm (hd20.off hq21)⟩
  have nrq2 : r ≠ q21 := fun z => by
    subst z
    rw [hr20] at hq21; cases hq21
  refine ⟨_, rfl, s, _, d, q21, L, rfl, rp20.ex0 f21, gs.wf, gs.dep, fun t ht => Nat.le_trans (gs.nd t ht) (by omega), lo21, lL12, fun r22 rows22 H22 L22 e22 lo22 le22 fr22 hr22 ⟨s2, x2, dc2, hL2, hrows22, _⟩ => ?_⟩
  have m2 := dc2.more gs.wf
  have x2L : x2 ≤ L := by omega
  have l22 : rows22.length ≤ 200 := by rw [hrows22, m2.len]; omega
  have rp22 := (rp20.ex0 f21).ext e22 lo21.not
  have hr22' := e22 _ _ (f21 _ _ hr20 (by simp)) (by simp [nr, nrq2])
  refine ⟨r22, rows22, rfl, hr22, by omega, fun o23 H23 e23 fr23 ho23 => ?_⟩
  have hd23 := lo22.dr.ex e23 (by simp)
  have rp23 := rp22.ex0 e23
  have hr23 := e23 _ _ hr22' (by simp)
  rw [hrows22, stk_pl m2.wf] at ho23
  have no23 : o23 ≠ d := lo22.dr.off fr23
  have lst2 : (stk s2).length = (stkL s2).length := by rw [← stk_pl m2.wf, List.length_map]
  have ltk2 : (stkL s2).length ≤ 200 := by rw [← hrows22]; exact l22
  refine ⟨_, rfl, _, rfl, d, o23, stk s2, rfl, hd23, no23, ho23, fun t ht => ?_, fun a24 p24 H24 L24 xs24 e24 hd24 sq24 hp24 lL24 lx24 hlay => ?_⟩
  · rw [← stk_pl m2.wf] at ht
    obtain ⟨u, hu, rfl⟩ := List.mem_map.mp ht
    exact pl_tokn (stk_tok m2.wf u hu)
  have rp24 := rp23.ext e24 hd23.not
  have hr24 := e24 _ _ hr23 (by simpa using nr)
  have ho24 := e24 _ _ ho23 (by simpa using no23)
  refine ⟨a24, _, rfl, sq24, rfl, _, _, rfl, _, _, rfl, rfl, ?_⟩
  refine ⟨_, rfl, _, xs24.length, rfl, .inl ⟨_, SqL.of hp24, rfl⟩, _, rfl, _, ((stk s2).map V.str).length, rfl, .inl ⟨_, SqL.of ho24, rfl⟩, _, _, rfl, rfl, _, rfl, ite2 (fun _ => Qk H24) fun z => ?_⟩
  have hfull : (stk s2).length ≤ xs24.length := by
    have : ¬ ((xs24.length : Nat) : Int) < ((((stk s2).map V.str).length : Nat) : Int) := fun h => z (decide_eq_true h)
    rw [List.length_map] at this
    omega
  obtain ⟨ps, k, rfl, hps, hlx⟩ := hlay hfull
  have lps : ps.length = (stkL s2).length := by rw [← lst2, ← hps, List.length_map]
  refine ⟨_, rfl, s2, ps, k, rfl, hlx, hps, by omega, by omega, m2.wf, m2.us gs.us, by rw [m2.dep]; exact gs.dep, m2.rdb mo hopd (by omega), fun rb2 H25 e25 rpb2 => ?_⟩
  rw [m2.enc] at rpb2
  have rp25 := rp24.ex0 e25
  have hr25 := e25 _ _ hr24 (by simp)
  refine ⟨_, rfl, _, rfl, s.enc, rb2, .ref a, rfl, rpb2, rp25, sd, by omega, _, rfl, iteF ?_⟩
  refine ⟨_, rfl, s, rb2, rfl, rpb2, gs.wf, gs.dep, l1000, fun H26 e26 => ?_⟩
  refine ⟨_, rfl, .str (S (prS s)), _, _, rfl, rfl, rfl, strD _, by rw [dD]; omega, _, rfl, iteF ?_⟩
  have hr26 := e26 _ _ hr25 (by simp)
  -- the numbers of tokens
  refine ⟨_, rfl, lj (o "") (stkL (mnS s)), 0, by rw [txt], lx0, by rw [lj_len]; exact l200, by omega, fun l27 H27 rs27 e27 fr27 hl27 rl27 => ?_⟩
  have n27 : rs27.length = (stkL (mnS s)).length := by
    have := rl27.length
    rw [List.length_map, placed_len, lj_len] at this
    exact this.symm
  have hr27 := e27 _ _ hr26 (by simp)
  refine ⟨_, rs27.length, rfl, .inl ⟨_, SqL.of hl27, rfl⟩, _, rfl, _, ((stkL (mnS s)).map V.str).length, rfl, .inl ⟨_, SqL.of hr27, rfl⟩, rfl, _, rfl, ?_⟩
  rw [show decide (V.int ((rs27.length : Nat) : Int) = V.int ((((stkL (mnS s)).map V.str).length : Nat) : Int)) = true from decide_eq_true (by rw [n27, rows_len])]
  refine iteT ⟨_, rfl, _, ((stkL (mnS s)).map V.str).length, rfl, .inl ⟨_, SqL.of hr27, rfl⟩, _, rfl, ps, k, rfl, hlx, by omega, by omega, fun l28 H28 rs28 e28 fr28 hl28 rl28 => ?_⟩
  have n28 : rs28.length = ps.length := by
    have := rl28.length
    rw [List.length_map, placed_len] at this
    exact this.symm
  refine ⟨_, rs28.length, rfl, .inl ⟨_, SqL.of hl28, rfl⟩, _, _, rfl, rfl, ?_⟩
  have hle2 : decide ((((((stkL (mnS s)).map V.str).length : Nat) : Int)) ≤ ((rs28.length : Nat) : Int)) = true := decide_eq_true (by rw [n28, lps, m2.len, rows_len]; omega)
  show Q (.bl (decide ((((((stkL (mnS s)).map V.str).length : Nat) : Int)) ≤ ((rs28.length : Nat) : Int)))) H28
  rw [hle2]
  exact Qk H28
end
end K13

/-! the end: the law holds -/
namespace K13
open PySem PySem.Spec PyProof.Rows L2
theorem facts {P : Program} {w : World} {K : PySem.W.Frag} {h : Heap} {mg : Str → Option Value} {f : Addr} (X : K.In h) (G : h.Ns mainGlobals mg) (hfa : mg ("law" : Str) = some (.ref f)) (c : SaysY fa fn ts ex w K) :
    ∃ fd : FuncData, (∀ (s : Shared) (v : Value), BindsTo s fd ⟨[v], []⟩ [("_law_script", v)]) ∧ ∀ base : Heap, K.In base → base.Ns mainGlobals mg → FnOk P w K mg base CX0 192 f fd ["_law_script"] (sp_law K) := by
  have T : Tx w K mg := ⟨c, h, X, G⟩
  obtain ⟨fd, F⟩ := T.f_law
  have e := hfa.symm.trans T.g_law
  cases e
  have b := FunD.bindsA (ps := ["_law_script"]) F fun _ _ _ _ _ _ us hl => match us, hl with | [_], _ => rfl
  exact ⟨fd, fun s v => b s [v] rfl, fun base _ _ => ok_law T F⟩
end K13
open PySem PySem.W PySem.Calls PyProof.Rows
theorem PySem.Challenge.cw_keptcoin_k13_whole_reading_holds : PySem.Challenge.rw_keptcoin_k13_whole_reading.Holds := by
  w_on; o_law
  refine HandSHeadRun.head_any (r := OpenLaw.row PySem.Challenge.rw_keptcoin_k13_whole_reading) (q := view (OpenLaw.row PySem.Challenge.rw_keptcoin_k13_whole_reading).prog [83]) (H := K13.hk) (ob := K13.ob) (M := 40000) (loose := K13.loose) (d := HandSHeadRun.topDef (OpenLaw.row PySem.Challenge.rw_keptcoin_k13_whole_reading).prog 83) (kwd := []) K13.ob_eq
    (by kernel_rfl) (fun s => by kernel_rfl) K13.run (by kernel_rfl) (by kernel_rfl) (by kernel_rfl) (by rfl) (by first | assumption | decide +kernel) (by decide +kernel) ⟨rfl, rfl, rfl, rfl, rfl, by decide +kernel⟩ ?hw ?hc
  case hw => w_witness2
  case hc =>
    refine L2.walk_ofE (l := PySem.Challenge.rw_keptcoin_k13_whole_reading) (n := 63) (k := 192) (x := "_law_script") (CX := L2.CX0) rfl (by decide) (by kernel_rfl) ⟨rfl, by decide, by decide⟩ ?F (fun _ _ _ _ z => z)
    intro w mg fa h Y G hmg0
    obtain ⟨K, KX, c⟩ := Y
    have hmg : mg ("law" : PySem.Str) = some (.ref fa) := by
      have e : (HandSHeadRun.topDef (OpenLaw.row PySem.Challenge.rw_keptcoin_k13_whole_reading).prog 83).name = ("law" : PySem.Str) := by kernel_rfl
      rw [← e]
      exact hmg0
    obtain ⟨fd, hb, hF⟩ := K13.facts (P := (PySem.Challenge.rw_keptcoin_k13_whole_reading).prog) (w := w) KX G hmg c
    exact ⟨K, fd, K13.sp_law K, KX, hb, fun H a ns hl _ hS => ⟨a, ns, rfl, hS, hl, fun _ => rfl⟩, hF⟩

