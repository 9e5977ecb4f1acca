import PyProof.Rows.All
import Wide.All
import OpenK.AllK
import Wide.FinOn
import HandS.ForMost
import HandS.HeadHook1
import HandS.HeadHook2
import HandS.HeadHook3
import PySem.Challenge.RW_vaultbridge_k95_whole_limits
import KE.KStateDown
import HandS.WordsExc
import HandS.Defaults
import HandS.Head0
import HandS.Head1
import HandS.Head2
import HandS.HeadEnd
import HandS.HeadHook4
import HandS.ExcIs
import HandS.More
import HandS.MakeKwOnly
import HandS.IsInst
import HandS.DictComp
import HandS.DictTup
import HandS.Deep
import HandS.Style
import KE.KeyNested
import KE.KDictKeyed
import KE.DataFind
import PyProof.DictCompW
import HandS.Evl
set_option Elab.async false
set_option linter.all false
set_option maxRecDepth 100000
/-! The text by places: printed by gen1.py -/
namespace Vb
open PySem L2
def prg : Program := PySem.Challenge.pw_vaultbridge_k95_whole_limits
def top (i : Nat) : Stmt := prg.main.body.getD i (.Pass ⟨9, 0, 9, 0⟩)
abbrev s_is_account : Stmt := top 20
abbrev s_is_count : Stmt := top 21
abbrev s_is_set : Stmt := top 22
abbrev s_total : Stmt := top 23
abbrev s_threshold : Stmt := top 24
abbrev s_other_side : Stmt := top 30
abbrev s_Config_init : Stmt := inClass (top 31) 0
abbrev s_Config_token : Stmt := inClass (top 31) 1
abbrev s_Config_home : Stmt := inClass (top 31) 3
abbrev s_Config_limit : Stmt := inClass (top 31) 5
abbrev s_Config_large : Stmt := inClass (top 31) 6
abbrev s_Config_opening : Stmt := inClass (top 31) 7
abbrev s_Config_guards : Stmt := inClass (top 31) 8
abbrev s_Config_window : Stmt := inClass (top 31) 10
abbrev s_is_transfer : Stmt := top 35
abbrev s_is_letter : Stmt := top 37
abbrev s_check_backed : Stmt := top 43
abbrev s_pay_out : Stmt := top 45
abbrev s_check_vault : Stmt := top 46
abbrev s_is_beyond : Stmt := top 47
abbrev s_check_limit : Stmt := top 48
abbrev s_hand_over : Stmt := top 49
abbrev s_deliver : Stmt := top 55
abbrev s_take_in : Stmt := top 56
abbrev s_take : Stmt := top 61
abbrev s_apply : Stmt := top 62
abbrev s_outcome : Stmt := top 63
abbrev s_next_height : Stmt := top 64
abbrev s_Notary_init : Stmt := inClass (top 66) 0
abbrev s_Notary_seal : Stmt := inClass (top 66) 1
abbrev s_Notary_shown : Stmt := inClass (top 66) 3
abbrev s_Notary_weight : Stmt := inClass (top 66) 4
abbrev s_Sheet_init : Stmt := inClass (top 68) 0
abbrev s_Sheet_copy : Stmt := inClass (top 68) 1
abbrev s_Sheet_balance : Stmt := inClass (top 68) 2
abbrev s_Sheet_give : Stmt := inClass (top 68) 4
abbrev s_Sheet_mint : Stmt := inClass (top 68) 9
abbrev s_State_init : Stmt := inClass (top 70) 0
abbrev s_State_twin : Stmt := inClass (top 70) 1
abbrev s_State_height : Stmt := inClass (top 70) 3
abbrev s_opening_state : Stmt := top 71
abbrev s_law_pot : Stmt := top 73
abbrev s_law_next : Stmt := top 74
abbrev s_law_set : Stmt := top 75
abbrev s_law_try : Stmt := top 80
abbrev s_law : Stmt := top 81
def d_is_account : He.DefD := ⟨("is_account", none), "is_account", "is_account", defArgs s_is_account, defBody s_is_account, defScope s_is_account, [], []⟩
def d_is_count : He.DefD := ⟨("is_count", none), "is_count", "is_count", defArgs s_is_count, defBody s_is_count, defScope s_is_count, [], []⟩
def d_is_set : He.DefD := ⟨("is_set", none), "is_set", "is_set", defArgs s_is_set, defBody s_is_set, defScope s_is_set, [], []⟩
def d_total : He.DefD := ⟨("total", none), "total", "total", defArgs s_total, defBody s_total, defScope s_total, [], []⟩
def d_threshold : He.DefD := ⟨("threshold", none), "threshold", "threshold", defArgs s_threshold, defBody s_threshold, defScope s_threshold, [], []⟩
def d_other_side : He.DefD := ⟨("other_side", none), "other_side", "other_side", defArgs s_other_side, defBody s_other_side, defScope s_other_side, [], []⟩
def d_Config_init : He.DefD := ⟨("Config", some "__init__"), "__init__", "Config.__init__", defArgs s_Config_init, defBody s_Config_init, defScope s_Config_init, [], [("depth", .int 2), ("window", .int 4), ("delay", .int 2), ("bundle", .int 4)]⟩
def d_Config_token : He.DefD := ⟨("Config", some "token"), "token", "Config.token", defArgs s_Config_token, defBody s_Config_token, defScope s_Config_token, [], []⟩
def d_Config_home : He.DefD := ⟨("Config", some "home"), "home", "Config.home", defArgs s_Config_home, defBody s_Config_home, defScope s_Config_home, [], []⟩
def d_Config_limit : He.DefD := ⟨("Config", some "limit"), "limit", "Config.limit", defArgs s_Config_limit, defBody s_Config_limit, defScope s_Config_limit, [], []⟩
def d_Config_large : He.DefD := ⟨("Config", some "large"), "large", "Config.large", defArgs s_Config_large, defBody s_Config_large, defScope s_Config_large, [], []⟩
def d_Config_opening : He.DefD := ⟨("Config", some "opening"), "opening", "Config.opening", defArgs s_Config_opening, defBody s_Config_opening, defScope s_Config_opening, [], []⟩
def d_Config_guards : He.DefD := ⟨("Config", some "guards"), "guards", "Config.guards", defArgs s_Config_guards, defBody s_Config_guards, defScope s_Config_guards, [], []⟩
def d_Config_window : He.DefD := ⟨("Config", some "window"), "window", "Config.window", defArgs s_Config_window, defBody s_Config_window, defScope s_Config_window, [], []⟩
def d_is_transfer : He.DefD := ⟨("is_transfer", none), "is_transfer", "is_transfer", defArgs s_is_transfer, defBody s_is_transfer, defScope s_is_transfer, [], []⟩
def d_is_letter : He.DefD := ⟨("is_letter", none), "is_letter", "is_letter", defArgs s_is_letter, defBody s_is_letter, defScope s_is_letter, [], []⟩
def d_check_backed : He.DefD := ⟨("check_backed", none), "check_backed", "check_backed", defArgs s_check_backed, defBody s_check_backed, defScope s_check_backed, [], []⟩
def d_pay_out : He.DefD := ⟨("pay_out", none), "pay_out", "pay_out", defArgs s_pay_out, defBody s_pay_out, defScope s_pay_out, [], []⟩
def d_check_vault : He.DefD := ⟨("check_vault", none), "check_vault", "check_vault", defArgs s_check_vault, defBody s_check_vault, defScope s_check_vault, [], []⟩
def d_is_beyond : He.DefD := ⟨("is_beyond", none), "is_beyond", "is_beyond", defArgs s_is_beyond, defBody s_is_beyond, defScope s_is_beyond, [], []⟩
def d_check_limit : He.DefD := ⟨("check_limit", none), "check_limit", "check_limit", defArgs s_check_limit, defBody s_check_limit, defScope s_check_limit, [], []⟩
def d_hand_over : He.DefD := ⟨("hand_over", none), "hand_over", "hand_over", defArgs s_hand_over, defBody s_hand_over, defScope s_hand_over, [], []⟩
def d_deliver : He.DefD := ⟨("deliver", none), "deliver", "deliver", defArgs s_deliver, defBody s_deliver, defScope s_deliver, [], []⟩
def d_take_in : He.DefD := ⟨("take_in", none), "take_in", "take_in", defArgs s_take_in, defBody s_take_in, defScope s_take_in, [], []⟩
def d_take : He.DefD := ⟨("take", none), "take", "take", defArgs s_take, defBody s_take, defScope s_take, [], []⟩
def d_apply : He.DefD := ⟨("apply", none), "apply", "apply", defArgs s_apply, defBody s_apply, defScope s_apply, [], []⟩
def d_outcome : He.DefD := ⟨("outcome", none), "outcome", "outcome", defArgs s_outcome, defBody s_outcome, defScope s_outcome, [], []⟩
def d_next_height : He.DefD := ⟨("next_height", none), "next_height", "next_height", defArgs s_next_height, defBody s_next_height, defScope s_next_height, [], []⟩
def d_Notary_init : He.DefD := ⟨("Notary", some "__init__"), "__init__", "Notary.__init__", defArgs s_Notary_init, defBody s_Notary_init, defScope s_Notary_init, [], []⟩
def d_Notary_seal : He.DefD := ⟨("Notary", some "seal"), "seal", "Notary.seal", defArgs s_Notary_seal, defBody s_Notary_seal, defScope s_Notary_seal, [], []⟩
def d_Notary_shown : He.DefD := ⟨("Notary", some "shown"), "shown", "Notary.shown", defArgs s_Notary_shown, defBody s_Notary_shown, defScope s_Notary_shown, [], []⟩
def d_Notary_weight : He.DefD := ⟨("Notary", some "weight"), "weight", "Notary.weight", defArgs s_Notary_weight, defBody s_Notary_weight, defScope s_Notary_weight, [], []⟩
def d_Sheet_init : He.DefD := ⟨("Sheet", some "__init__"), "__init__", "Sheet.__init__", defArgs s_Sheet_init, defBody s_Sheet_init, defScope s_Sheet_init, [], []⟩
def d_Sheet_copy : He.DefD := ⟨("Sheet", some "copy"), "copy", "Sheet.copy", defArgs s_Sheet_copy, defBody s_Sheet_copy, defScope s_Sheet_copy, [], []⟩
def d_Sheet_balance : He.DefD := ⟨("Sheet", some "balance"), "balance", "Sheet.balance", defArgs s_Sheet_balance, defBody s_Sheet_balance, defScope s_Sheet_balance, [], []⟩
def d_Sheet_give : He.DefD := ⟨("Sheet", some "give"), "give", "Sheet.give", defArgs s_Sheet_give, defBody s_Sheet_give, defScope s_Sheet_give, [], []⟩
def d_Sheet_mint : He.DefD := ⟨("Sheet", some "mint"), "mint", "Sheet.mint", defArgs s_Sheet_mint, defBody s_Sheet_mint, defScope s_Sheet_mint, [], []⟩
def d_State_init : He.DefD := ⟨("State", some "__init__"), "__init__", "State.__init__", defArgs s_State_init, defBody s_State_init, defScope s_State_init, [], []⟩
def d_State_twin : He.DefD := ⟨("State", some "twin"), "twin", "State.twin", defArgs s_State_twin, defBody s_State_twin, defScope s_State_twin, [], []⟩
def d_State_height : He.DefD := ⟨("State", some "height"), "height", "State.height", defArgs s_State_height, defBody s_State_height, defScope s_State_height, [], []⟩
def d_opening_state : He.DefD := ⟨("opening_state", none), "opening_state", "opening_state", defArgs s_opening_state, defBody s_opening_state, defScope s_opening_state, [], []⟩
def d_law_pot : He.DefD := ⟨("_law_pot", none), "_law_pot", "_law_pot", defArgs s_law_pot, defBody s_law_pot, defScope s_law_pot, [], []⟩
def d_law_next : He.DefD := ⟨("_law_next", none), "_law_next", "_law_next", defArgs s_law_next, defBody s_law_next, defScope s_law_next, [], []⟩
def d_law_set : He.DefD := ⟨("_law_set", none), "_law_set", "_law_set", defArgs s_law_set, defBody s_law_set, defScope s_law_set, [], []⟩
def d_law_try : He.DefD := ⟨("_law_try", none), "_law_try", "_law_try", defArgs s_law_try, defBody s_law_try, defScope s_law_try, [], []⟩
def d_law : He.DefD := ⟨("law", none), "law", "law", defArgs s_law, defBody s_law, defScope s_law, [], []⟩
def fn : List He.DefD := [d_is_account, d_is_count, d_is_set, d_total, d_threshold, d_other_side, d_Config_init, d_Config_token, d_Config_home, d_Config_limit, d_Config_large, d_Config_opening, d_Config_guards, d_Config_window, d_is_transfer, d_is_letter, d_check_backed, d_pay_out, d_check_vault, d_is_beyond, d_check_limit, d_hand_over, d_deliver] ++ [d_take_in, d_take, d_apply, d_outcome, d_next_height, d_Notary_init, d_Notary_seal, d_Notary_shown, d_Notary_weight, d_Sheet_init, d_Sheet_copy, d_Sheet_balance, d_Sheet_give, d_Sheet_mint, d_State_init, d_State_twin, d_State_height, d_opening_state, d_law_pot, d_law_next, d_law_set, d_law_try, d_law]
def fa0 : List He.Fa := [.glo "is_account", .glo "is_count", .glo "is_set", .glo "total", .glo "threshold", .glo "other_side", .glo "is_transfer", .glo "is_letter", .glo "check_backed", .glo "pay_out", .glo "check_vault", .glo "is_beyond", .glo "check_limit", .glo "hand_over", .glo "deliver", .glo "take_in", .glo "take", .glo "apply", .glo "outcome", .glo "next_height", .glo "opening_state", .glo "_law_pot", .glo "_law_next", .glo "_law_set", .glo "_law_try", .glo "law", .glo "Config", .cls "Config", .mkr "Config", .glo "Notary"]
def fa1 : List He.Fa := [.cls "Notary", .mkr "Notary", .glo "Sheet", .cls "Sheet", .mkr "Sheet", .glo "State", .cls "State", .mkr "State", .meth "Config" "token", .meth "Config" "home", .meth "Config" "limit", .meth "Config" "large", .meth "Config" "opening", .meth "Config" "guards", .meth "Config" "window", .meth "Notary" "seal", .meth "Notary" "shown", .meth "Notary" "weight", .meth "Sheet" "copy", .meth "Sheet" "balance", .meth "Sheet" "give", .meth "Sheet" "mint", .meth "State" "twin", .meth "State" "height", .noat "Config" "table", .noat "Config" "balances", .noat "Config" "first_set", .noat "Config" "deep", .noat "Config" "wide", .noat "Config" "slow"]
def fa2 : List He.Fa := [.noat "Config" "grouped", .noat "Notary" "table", .noat "Notary" "numbers", .noat "Sheet" "config", .noat "Sheet" "side", .noat "Sheet" "balances", .noat "Sheet" "vaults", .noat "Sheet" "bonds", .noat "State" "config", .noat "State" "place", .noat "State" "high", .noat "State" "sheet", .noat "State" "sets", .noat "State" "sent", .noat "State" "inbox", .noat "State" "rooms", .noat "State" "returned", .noat "State" "passed", .noat "State" "stopped", .noat "State" "stop_count", .noat "State" "fresh", .free "isinstance", .free "str", .free "int", .free "bool", .free "tuple", .free "len", .free "sum", .free "list", .free "dict"]
def fa3 : List He.Fa := [.free "range", .free "abs", .free "min", .free "max", .int "MOST_SIGNS" 20, .int "MOST_TOKEN_SIGNS" 12, .int "MOST_BUNDLED_config" 8, .glo "BridgeError", .glo "LimitReached", .exc "LimitReached", .exm "LimitReached" "BridgeError" true, .keep "BridgeError", .glo "FORMS", .glo "SIDES_config", .glo "SIDES_letters"]
def fa : List He.Fa := fa0 ++ fa1 ++ fa2 ++ fa3
def forms : List (PySem.Str × He.Dv) := [("pay", .int 5), ("send", .int 7), ("take", .int 4), ("claim", .int 3), ("bond", .int 4), ("unbond", .int 4), ("accuse", .int 4)]
def tabs : List He.Tab := [((fun K => He.ga K "FORMS"), forms.map (·.1))]
def excB (K : PySem.W.Frag) (x : PySem.Str) : Bool := He.eqO (PySem.W.findIn K (.ref (He.ga K x)) "__getattribute__") (some (some (.builtin "BaseException.__getattribute__"))) &&
  (He.eqO (PySem.W.findIn K (.ref (He.ga K x)) "__getattr__") (some none) && (decide (PySem.W.subIn K (.ref (He.ga K x)) (.type "BaseException") = some true) && (PySem.W.hasDictIn K (He.ga K x) &&
  (He.eqO (PySem.W.findIn K (.ref (He.ga K x)) "__class__") (some (some (.builtin "object.__class__"))) && (He.eqO (PySem.W.specialIn K (.builtin "object.__class__") "__get__") (some (some (.builtin "getset_descriptor.__get__"))) &&
  (decide (PySem.W.takesIn K (.builtin "object.__class__") = some true) && decide (PySem.W.mroIn K (He.ga K x) (.type "object") = some true)))))))
def exB (K : PySem.W.Frag) : Bool := He.tupB K "SIDES_config" [.str "west", .str "east"] && (He.tupB K "SIDES_letters" [.str "west", .str "east"] && (He.valsB K (He.ga K "FORMS") forms &&
  (excB K "LimitReached" && decide (PySem.W.kitOne K (.ref (He.ga K "LimitReached")) (.ref (He.ga K "LimitReached")) = some true))))
end Vb
set_option Elab.async false
set_option linter.all false
set_option maxRecDepth 100000
set_option maxHeartbeats 0
/-! The head: printed by gen1.py -/
namespace Vb
open PySem PySem.Spec PyProof.Rows L2
def nm0 : List PySem.Str := ["_wall", "BridgeError", "InvalidArgument", "InvalidOrder", "UnknownToken", "NotEnoughBalance", "NotEnoughWeight", "WrongSide", "WrongNumber", "AlreadyTaken", "UnknownTransfer", "LimitReached"]
def nm1 : List PySem.Str := ["Stopped", "UnknownSeal", "TooEarly", "StillOnDuty", "NothingBonded", "MOST_SIGNS", "is_account", "is_count", "is_set", "total", "threshold", "minority"]
def nm2 : List PySem.Str := ["SIDES_config", "MOST_TOKEN_SIGNS", "MOST_BUNDLED_config", "other_side", "Config", "SIDES_letters", "MOST_BUNDLED_letters", "is_transfer", "is_bundle", "is_letter", "key", "FORMS"]
def nm3 : List PySem.Str := ["pay", "send", "check_backed", "check_weight", "pay_out", "check_vault", "is_beyond", "check_limit", "hand_over", "claim", "cancel", "bond"]
def nm4 : List PySem.Str := ["unbond", "accuse", "deliver", "take_in", "bundle", "give_back", "rotate", "stop_or_resume", "take", "apply", "outcome", "next_height"]
def nm5 : List PySem.Str := ["Notary", "Sheet", "State", "opening_state", "_law_pot", "_law_next", "_law_set", "_law_config", "_law_made", "_law_total", "_law_threshold", "_law_try"]
def nms : List PySem.Str := nm0 ++ nm1 ++ nm2 ++ nm3 ++ nm4 ++ nm5
abbrev R : PySem.W.OpenRow := PySem.W.OpenLaw.row PySem.Challenge.rw_vaultbridge_k95_whole_limits
/-- what the module's names reach: classes, their namespaces, methods, code -/
def rfO (o : Obj) : List Addr := match o.data with
  | .func fd => He.refV fd.code ++ He.refV fd.kwdefaults
  | .cls cd => [cd.ns]
  | _ => []
def rfD (o : Obj) : List Addr := match o.data with
  | .dict es _ => es.toList.flatMap fun e => He.refV e.val
  | _ => []
def hop (g : Addr → Option Obj) (f : Obj → List Addr) (l : List Addr) : List Addr := l.flatMap fun a => match g a with
  | some o => f o
  | none => []
def asV (g : Addr → Option Obj) : List Addr :=
  (fun l1 => (fun l2 => (fun l3 => mainGlobals :: (l1 ++ (l2 ++ (l3 ++ hop g rfO l3)))) (hop g rfD l2)) (hop g rfO l1)) (hop g rfD [mainGlobals])
abbrev AlV : Type := He.AlT × Bool
def obV (g : Addr → Option Obj) : AlV := (fun K => (He.obsT fa fn tabs K, exB K)) (He.frG g (asV g))
def hk : PySem.W.Hook where
  α := AlV
  obs := fun s => obV s.heap.get?
  val := fun w => (He.valT fn tabs w, true)
  says := fun w h => ∃ K : PySem.W.Frag, K.In h ∧ (He.SaysT fa fn tabs w K ∧ exB K = true)
  of := fun _ _ e => ⟨_, He.frG_in, congrArg (fun z : AlV => z.1) e, congrArg (fun z : AlV => z.2) e⟩
  keeps := fun _ _ _ ⟨K, hK, c⟩ k => ⟨K, PySem.W.Frag.In.keeps hK k, c⟩
def ob (s : PySem.W.SharedT) : AlV := obV (HandSHeadRun.getT s)
theorem ob_eq (s : PySem.W.SharedT) : ob s = hk.obs s.abs := by
  have e : HandSHeadRun.getT s = s.abs.heap.get? := funext fun a => HandSHeadRun.getT_eq s a
  show obV (HandSHeadRun.getT s) = obV s.abs.heap.get?
  rw [e]
theorem run_f (w : World) : HandSHeadRun.RunEq R (PySem.W.view R.prog [81]) hk ob 9000 nms (w.withFollow "special-get-raises" false) := by
  intro os
  kernel_rfl
theorem run_t (w : World) : HandSHeadRun.RunEq R (PySem.W.view R.prog [81]) hk ob 9000 nms (w.withFollow "special-get-raises" true) := by
  intro os
  kernel_rfl
theorem run (w : World) : HandSHeadRun.RunEq R (PySem.W.view R.prog [81]) hk ob 9000 nms w := PySem.W.byRow2 "special-get-raises" run_f run_t w
end Vb
set_option Elab.async false
set_option linter.all false
set_option maxRecDepth 100000
set_option maxHeartbeats 4000000
/-! Facts by name, field lists, heap lemmas, the wrapper of a def's promise: printed by gen2.py -/
namespace Vb
open PySem PySem.Spec PyProof.Rows L2
/-- what the walk leans on of the top -/
structure Txt (w : World) (K : PySem.W.Frag) (mg : Str → Option Value) : Prop where
  glo : ∀ {x : Str}, (He.Fa.glo x).ok K = true → mg x = some (.ref (He.ga K x))
  fre : ∀ {x : Str}, (He.Fa.free x).ok K = true → mg x = none
  int : ∀ {x : Str} {i : Int}, (He.Fa.int x i).ok K = true → ∃ t, mg x = some (.int i t)
  fac : ∀ (i : Nat) {f : He.Fa}, fa[i]? = some f → f.ok K = true
  dfn : ∀ (i : Nat) {d : He.DefD}, fn[i]? = some d → ∃ fd, FunD K d.name d.qual d.params d.body d.scope (d.dvs K) (d.kws K) (He.fAd K d.at_) fd
  tab : ∃ es n, KDict K w (He.ga K "FORMS") es n
  ex : exB K = true
section
variable {w : World} {K : PySem.W.Frag} {mg : Str → Option Value}
abbrev cConfig (K : PySem.W.Frag) : Addr := He.ga K "Config"
abbrev cNotary (K : PySem.W.Frag) : Addr := He.ga K "Notary"
abbrev cSheet (K : PySem.W.Frag) : Addr := He.ga K "Sheet"
abbrev cState (K : PySem.W.Frag) : Addr := He.ga K "State"
theorem Txt.g_is_account (T : Txt w K mg) : mg "is_account" = some (.ref (He.ga K "is_account")) := T.glo (T.fac 0 rfl)
theorem Txt.g_is_count (T : Txt w K mg) : mg "is_count" = some (.ref (He.ga K "is_count")) := T.glo (T.fac 1 rfl)
theorem Txt.g_is_set (T : Txt w K mg) : mg "is_set" = some (.ref (He.ga K "is_set")) := T.glo (T.fac 2 rfl)
theorem Txt.g_total (T : Txt w K mg) : mg "total" = some (.ref (He.ga K "total")) := T.glo (T.fac 3 rfl)
theorem Txt.g_threshold (T : Txt w K mg) : mg "threshold" = some (.ref (He.ga K "threshold")) := T.glo (T.fac 4 rfl)
theorem Txt.g_other_side (T : Txt w K mg) : mg "other_side" = some (.ref (He.ga K "other_side")) := T.glo (T.fac 5 rfl)
theorem Txt.g_is_transfer (T : Txt w K mg) : mg "is_transfer" = some (.ref (He.ga K "is_transfer")) := T.glo (T.fac 6 rfl)
theorem Txt.g_is_letter (T : Txt w K mg) : mg "is_letter" = some (.ref (He.ga K "is_letter")) := T.glo (T.fac 7 rfl)
theorem Txt.g_check_backed (T : Txt w K mg) : mg "check_backed" = some (.ref (He.ga K "check_backed")) := T.glo (T.fac 8 rfl)
theorem Txt.g_pay_out (T : Txt w K mg) : mg "pay_out" = some (.ref (He.ga K "pay_out")) := T.glo (T.fac 9 rfl)
theorem Txt.g_check_vault (T : Txt w K mg) : mg "check_vault" = some (.ref (He.ga K "check_vault")) := T.glo (T.fac 10 rfl)
theorem Txt.g_is_beyond (T : Txt w K mg) : mg "is_beyond" = some (.ref (He.ga K "is_beyond")) := T.glo (T.fac 11 rfl)
theorem Txt.g_check_limit (T : Txt w K mg) : mg "check_limit" = some (.ref (He.ga K "check_limit")) := T.glo (T.fac 12 rfl)
theorem Txt.g_hand_over (T : Txt w K mg) : mg "hand_over" = some (.ref (He.ga K "hand_over")) := T.glo (T.fac 13 rfl)
theorem Txt.g_deliver (T : Txt w K mg) : mg "deliver" = some (.ref (He.ga K "deliver")) := T.glo (T.fac 14 rfl)
theorem Txt.g_take_in (T : Txt w K mg) : mg "take_in" = some (.ref (He.ga K "take_in")) := T.glo (T.fac 15 rfl)
theorem Txt.g_take (T : Txt w K mg) : mg "take" = some (.ref (He.ga K "take")) := T.glo (T.fac 16 rfl)
theorem Txt.g_apply (T : Txt w K mg) : mg "apply" = some (.ref (He.ga K "apply")) := T.glo (T.fac 17 rfl)
theorem Txt.g_outcome (T : Txt w K mg) : mg "outcome" = some (.ref (He.ga K "outcome")) := T.glo (T.fac 18 rfl)
theorem Txt.g_next_height (T : Txt w K mg) : mg "next_height" = some (.ref (He.ga K "next_height")) := T.glo (T.fac 19 rfl)
theorem Txt.g_opening_state (T : Txt w K mg) : mg "opening_state" = some (.ref (He.ga K "opening_state")) := T.glo (T.fac 20 rfl)
theorem Txt.g_law_pot (T : Txt w K mg) : mg "_law_pot" = some (.ref (He.ga K "_law_pot")) := T.glo (T.fac 21 rfl)
theorem Txt.g_law_next (T : Txt w K mg) : mg "_law_next" = some (.ref (He.ga K "_law_next")) := T.glo (T.fac 22 rfl)
theorem Txt.g_law_set (T : Txt w K mg) : mg "_law_set" = some (.ref (He.ga K "_law_set")) := T.glo (T.fac 23 rfl)
theorem Txt.g_law_try (T : Txt w K mg) : mg "_law_try" = some (.ref (He.ga K "_law_try")) := T.glo (T.fac 24 rfl)
theorem Txt.g_law (T : Txt w K mg) : mg "law" = some (.ref (He.ga K "law")) := T.glo (T.fac 25 rfl)
theorem Txt.g_Config (T : Txt w K mg) : mg "Config" = some (.ref (He.ga K "Config")) := T.glo (T.fac 26 rfl)
theorem Txt.cl_Config (T : Txt w K mg) : Cls K (cConfig K) := He.cls_ok (T.fac 27 rfl)
theorem Txt.mk_Config (T : Txt w K mg) : Mk K (cConfig K) (He.ma K (cConfig K) "__init__") := He.mkr_ok (T.fac 28 rfl)
theorem Txt.g_Notary (T : Txt w K mg) : mg "Notary" = some (.ref (He.ga K "Notary")) := T.glo (T.fac 29 rfl)
theorem Txt.cl_Notary (T : Txt w K mg) : Cls K (cNotary K) := He.cls_ok (T.fac 30 rfl)
theorem Txt.mk_Notary (T : Txt w K mg) : Mk K (cNotary K) (He.ma K (cNotary K) "__init__") := He.mkr_ok (T.fac 31 rfl)
theorem Txt.g_Sheet (T : Txt w K mg) : mg "Sheet" = some (.ref (He.ga K "Sheet")) := T.glo (T.fac 32 rfl)
theorem Txt.cl_Sheet (T : Txt w K mg) : Cls K (cSheet K) := He.cls_ok (T.fac 33 rfl)
theorem Txt.mk_Sheet (T : Txt w K mg) : Mk K (cSheet K) (He.ma K (cSheet K) "__init__") := He.mkr_ok (T.fac 34 rfl)
theorem Txt.g_State (T : Txt w K mg) : mg "State" = some (.ref (He.ga K "State")) := T.glo (T.fac 35 rfl)
theorem Txt.cl_State (T : Txt w K mg) : Cls K (cState K) := He.cls_ok (T.fac 36 rfl)
theorem Txt.mk_State (T : Txt w K mg) : Mk K (cState K) (He.ma K (cState K) "__init__") := He.mkr_ok (T.fac 37 rfl)
theorem Txt.m_Config_token (T : Txt w K mg) : Meth K (cConfig K) "token" (He.ma K (cConfig K) "token") := He.meth_ok (T.fac 38 rfl)
theorem Txt.m_Config_home (T : Txt w K mg) : Meth K (cConfig K) "home" (He.ma K (cConfig K) "home") := He.meth_ok (T.fac 39 rfl)
theorem Txt.m_Config_limit (T : Txt w K mg) : Meth K (cConfig K) "limit" (He.ma K (cConfig K) "limit") := He.meth_ok (T.fac 40 rfl)
theorem Txt.m_Config_large (T : Txt w K mg) : Meth K (cConfig K) "large" (He.ma K (cConfig K) "large") := He.meth_ok (T.fac 41 rfl)
theorem Txt.m_Config_opening (T : Txt w K mg) : Meth K (cConfig K) "opening" (He.ma K (cConfig K) "opening") := He.meth_ok (T.fac 42 rfl)
theorem Txt.m_Config_guards (T : Txt w K mg) : Meth K (cConfig K) "guards" (He.ma K (cConfig K) "guards") := He.meth_ok (T.fac 43 rfl)
theorem Txt.m_Config_window (T : Txt w K mg) : Meth K (cConfig K) "window" (He.ma K (cConfig K) "window") := He.meth_ok (T.fac 44 rfl)
theorem Txt.m_Notary_seal (T : Txt w K mg) : Meth K (cNotary K) "seal" (He.ma K (cNotary K) "seal") := He.meth_ok (T.fac 45 rfl)
theorem Txt.m_Notary_shown (T : Txt w K mg) : Meth K (cNotary K) "shown" (He.ma K (cNotary K) "shown") := He.meth_ok (T.fac 46 rfl)
theorem Txt.m_Notary_weight (T : Txt w K mg) : Meth K (cNotary K) "weight" (He.ma K (cNotary K) "weight") := He.meth_ok (T.fac 47 rfl)
theorem Txt.m_Sheet_copy (T : Txt w K mg) : Meth K (cSheet K) "copy" (He.ma K (cSheet K) "copy") := He.meth_ok (T.fac 48 rfl)
theorem Txt.m_Sheet_balance (T : Txt w K mg) : Meth K (cSheet K) "balance" (He.ma K (cSheet K) "balance") := He.meth_ok (T.fac 49 rfl)
theorem Txt.m_Sheet_give (T : Txt w K mg) : Meth K (cSheet K) "give" (He.ma K (cSheet K) "give") := He.meth_ok (T.fac 50 rfl)
theorem Txt.m_Sheet_mint (T : Txt w K mg) : Meth K (cSheet K) "mint" (He.ma K (cSheet K) "mint") := He.meth_ok (T.fac 51 rfl)
theorem Txt.m_State_twin (T : Txt w K mg) : Meth K (cState K) "twin" (He.ma K (cState K) "twin") := He.meth_ok (T.fac 52 rfl)
theorem Txt.m_State_height (T : Txt w K mg) : Meth K (cState K) "height" (He.ma K (cState K) "height") := He.meth_ok (T.fac 53 rfl)
theorem Txt.n_Config_table (T : Txt w K mg) : NoAttr K (cConfig K) "table" := He.noat_ok (T.fac 54 rfl)
theorem Txt.n_Config_balances (T : Txt w K mg) : NoAttr K (cConfig K) "balances" := He.noat_ok (T.fac 55 rfl)
theorem Txt.n_Config_first_set (T : Txt w K mg) : NoAttr K (cConfig K) "first_set" := He.noat_ok (T.fac 56 rfl)
theorem Txt.n_Config_deep (T : Txt w K mg) : NoAttr K (cConfig K) "deep" := He.noat_ok (T.fac 57 rfl)
theorem Txt.n_Config_wide (T : Txt w K mg) : NoAttr K (cConfig K) "wide" := He.noat_ok (T.fac 58 rfl)
theorem Txt.n_Config_slow (T : Txt w K mg) : NoAttr K (cConfig K) "slow" := He.noat_ok (T.fac 59 rfl)
theorem Txt.n_Config_grouped (T : Txt w K mg) : NoAttr K (cConfig K) "grouped" := He.noat_ok (T.fac 60 rfl)
theorem Txt.n_Notary_table (T : Txt w K mg) : NoAttr K (cNotary K) "table" := He.noat_ok (T.fac 61 rfl)
theorem Txt.n_Notary_numbers (T : Txt w K mg) : NoAttr K (cNotary K) "numbers" := He.noat_ok (T.fac 62 rfl)
theorem Txt.n_Sheet_config (T : Txt w K mg) : NoAttr K (cSheet K) "config" := He.noat_ok (T.fac 63 rfl)
theorem Txt.n_Sheet_side (T : Txt w K mg) : NoAttr K (cSheet K) "side" := He.noat_ok (T.fac 64 rfl)
theorem Txt.n_Sheet_balances (T : Txt w K mg) : NoAttr K (cSheet K) "balances" := He.noat_ok (T.fac 65 rfl)
theorem Txt.n_Sheet_vaults (T : Txt w K mg) : NoAttr K (cSheet K) "vaults" := He.noat_ok (T.fac 66 rfl)
theorem Txt.n_Sheet_bonds (T : Txt w K mg) : NoAttr K (cSheet K) "bonds" := He.noat_ok (T.fac 67 rfl)
theorem Txt.n_State_config (T : Txt w K mg) : NoAttr K (cState K) "config" := He.noat_ok (T.fac 68 rfl)
theorem Txt.n_State_place (T : Txt w K mg) : NoAttr K (cState K) "place" := He.noat_ok (T.fac 69 rfl)
theorem Txt.n_State_high (T : Txt w K mg) : NoAttr K (cState K) "high" := He.noat_ok (T.fac 70 rfl)
theorem Txt.n_State_sheet (T : Txt w K mg) : NoAttr K (cState K) "sheet" := He.noat_ok (T.fac 71 rfl)
theorem Txt.n_State_sets (T : Txt w K mg) : NoAttr K (cState K) "sets" := He.noat_ok (T.fac 72 rfl)
theorem Txt.n_State_sent (T : Txt w K mg) : NoAttr K (cState K) "sent" := He.noat_ok (T.fac 73 rfl)
theorem Txt.n_State_inbox (T : Txt w K mg) : NoAttr K (cState K) "inbox" := He.noat_ok (T.fac 74 rfl)
theorem Txt.n_State_rooms (T : Txt w K mg) : NoAttr K (cState K) "rooms" := He.noat_ok (T.fac 75 rfl)
theorem Txt.n_State_returned (T : Txt w K mg) : NoAttr K (cState K) "returned" := He.noat_ok (T.fac 76 rfl)
theorem Txt.n_State_passed (T : Txt w K mg) : NoAttr K (cState K) "passed" := He.noat_ok (T.fac 77 rfl)
theorem Txt.n_State_stopped (T : Txt w K mg) : NoAttr K (cState K) "stopped" := He.noat_ok (T.fac 78 rfl)
theorem Txt.n_State_stop_count (T : Txt w K mg) : NoAttr K (cState K) "stop_count" := He.noat_ok (T.fac 79 rfl)
theorem Txt.n_State_fresh (T : Txt w K mg) : NoAttr K (cState K) "fresh" := He.noat_ok (T.fac 80 rfl)
theorem Txt.f_isinstance (T : Txt w K mg) : mg "isinstance" = none := T.fre (T.fac 81 rfl)
theorem Txt.f_str (T : Txt w K mg) : mg "str" = none := T.fre (T.fac 82 rfl)
theorem Txt.f_int (T : Txt w K mg) : mg "int" = none := T.fre (T.fac 83 rfl)
theorem Txt.f_bool (T : Txt w K mg) : mg "bool" = none := T.fre (T.fac 84 rfl)
theorem Txt.f_tuple (T : Txt w K mg) : mg "tuple" = none := T.fre (T.fac 85 rfl)
theorem Txt.f_len (T : Txt w K mg) : mg "len" = none := T.fre (T.fac 86 rfl)
theorem Txt.f_sum (T : Txt w K mg) : mg "sum" = none := T.fre (T.fac 87 rfl)
theorem Txt.f_list (T : Txt w K mg) : mg "list" = none := T.fre (T.fac 88 rfl)
theorem Txt.f_dict (T : Txt w K mg) : mg "dict" = none := T.fre (T.fac 89 rfl)
theorem Txt.f_range (T : Txt w K mg) : mg "range" = none := T.fre (T.fac 90 rfl)
theorem Txt.f_abs (T : Txt w K mg) : mg "abs" = none := T.fre (T.fac 91 rfl)
theorem Txt.f_min (T : Txt w K mg) : mg "min" = none := T.fre (T.fac 92 rfl)
theorem Txt.f_max (T : Txt w K mg) : mg "max" = none := T.fre (T.fac 93 rfl)
theorem Txt.i_MOST_SIGNS (T : Txt w K mg) : ∃ t, mg "MOST_SIGNS" = some (.int 20 t) := T.int (T.fac 94 rfl)
theorem Txt.i_MOST_TOKEN_SIGNS (T : Txt w K mg) : ∃ t, mg "MOST_TOKEN_SIGNS" = some (.int 12 t) := T.int (T.fac 95 rfl)
theorem Txt.i_MOST_BUNDLED_config (T : Txt w K mg) : ∃ t, mg "MOST_BUNDLED_config" = some (.int 8 t) := T.int (T.fac 96 rfl)
theorem Txt.g_BridgeError (T : Txt w K mg) : mg "BridgeError" = some (.ref (He.ga K "BridgeError")) := T.glo (T.fac 97 rfl)
theorem Txt.g_LimitReached (T : Txt w K mg) : mg "LimitReached" = some (.ref (He.ga K "LimitReached")) := T.glo (T.fac 98 rfl)
theorem Txt.exc_LimitReached (T : Txt w K mg) : PySem.W.excIn K (He.ga K "LimitReached") He.veBase "ValueError.__new__" = true ∧ PySem.W.keepIn K (.ref (He.ga K "LimitReached")) = true ∧ PySem.W.subIn K (.ref (He.ga K "LimitReached")) (.type "BaseException") = some true ∧ PySem.W.typeIn K (.ref (He.ga K "LimitReached")) = some (.type "type") := He.exc_ok (T.fac 99 rfl)
theorem Txt.exm_LimitReached_BridgeError (T : Txt w K mg) : PySem.W.exmOne K (.ref (He.ga K "LimitReached")) (.ref (He.ga K "BridgeError")) = some true := He.exm_ok (T.fac 100 rfl)
theorem Txt.k_BridgeError (T : Txt w K mg) : PySem.W.keepIn K (.ref (He.ga K "BridgeError")) = true := He.keep_ok (T.fac 101 rfl)
theorem Txt.g_FORMS (T : Txt w K mg) : mg "FORMS" = some (.ref (He.ga K "FORMS")) := T.glo (T.fac 102 rfl)
theorem Txt.g_SIDES_config (T : Txt w K mg) : mg "SIDES_config" = some (.ref (He.ga K "SIDES_config")) := T.glo (T.fac 103 rfl)
theorem Txt.g_SIDES_letters (T : Txt w K mg) : mg "SIDES_letters" = some (.ref (He.ga K "SIDES_letters")) := T.glo (T.fac 104 rfl)
end
def cf (v0 v1 v2 v3 v4 v5 v6 : V) : List (Str × V) := [("table", v0), ("balances", v1), ("first_set", v2), ("deep", v3), ("wide", v4), ("slow", v5), ("grouped", v6)]
section
variable {v0 v1 v2 v3 v4 v5 v6 x : V}
theorem cf_table : (cf v0 v1 v2 v3 v4 v5 v6).lookup ("table" : Str) = some v0 := by kernel_rfl
theorem cf_put_table : putF "table" x (cf v0 v1 v2 v3 v4 v5 v6) = cf x v1 v2 v3 v4 v5 v6 := by kernel_rfl
theorem cf_balances : (cf v0 v1 v2 v3 v4 v5 v6).lookup ("balances" : Str) = some v1 := by kernel_rfl
theorem cf_put_balances : putF "balances" x (cf v0 v1 v2 v3 v4 v5 v6) = cf v0 x v2 v3 v4 v5 v6 := by kernel_rfl
theorem cf_first_set : (cf v0 v1 v2 v3 v4 v5 v6).lookup ("first_set" : Str) = some v2 := by kernel_rfl
theorem cf_put_first_set : putF "first_set" x (cf v0 v1 v2 v3 v4 v5 v6) = cf v0 v1 x v3 v4 v5 v6 := by kernel_rfl
theorem cf_deep : (cf v0 v1 v2 v3 v4 v5 v6).lookup ("deep" : Str) = some v3 := by kernel_rfl
theorem cf_put_deep : putF "deep" x (cf v0 v1 v2 v3 v4 v5 v6) = cf v0 v1 v2 x v4 v5 v6 := by kernel_rfl
theorem cf_wide : (cf v0 v1 v2 v3 v4 v5 v6).lookup ("wide" : Str) = some v4 := by kernel_rfl
theorem cf_put_wide : putF "wide" x (cf v0 v1 v2 v3 v4 v5 v6) = cf v0 v1 v2 v3 x v5 v6 := by kernel_rfl
theorem cf_slow : (cf v0 v1 v2 v3 v4 v5 v6).lookup ("slow" : Str) = some v5 := by kernel_rfl
theorem cf_put_slow : putF "slow" x (cf v0 v1 v2 v3 v4 v5 v6) = cf v0 v1 v2 v3 v4 x v6 := by kernel_rfl
theorem cf_grouped : (cf v0 v1 v2 v3 v4 v5 v6).lookup ("grouped" : Str) = some v6 := by kernel_rfl
theorem cf_put_grouped : putF "grouped" x (cf v0 v1 v2 v3 v4 v5 v6) = cf v0 v1 v2 v3 v4 v5 x := by kernel_rfl
theorem cf_mk : (putF "grouped" v6 (putF "slow" v5 (putF "wide" v4 (putF "deep" v3 (putF "first_set" v2 (putF "balances" v1 (putF "table" v0 []))))))) = cf v0 v1 v2 v3 v4 v5 v6 := by kernel_rfl
theorem cf_no_token : (cf v0 v1 v2 v3 v4 v5 v6).lookup ("token" : Str) = none := by kernel_rfl
theorem cf_no_home : (cf v0 v1 v2 v3 v4 v5 v6).lookup ("home" : Str) = none := by kernel_rfl
theorem cf_no_limit : (cf v0 v1 v2 v3 v4 v5 v6).lookup ("limit" : Str) = none := by kernel_rfl
theorem cf_no_large : (cf v0 v1 v2 v3 v4 v5 v6).lookup ("large" : Str) = none := by kernel_rfl
theorem cf_no_opening : (cf v0 v1 v2 v3 v4 v5 v6).lookup ("opening" : Str) = none := by kernel_rfl
theorem cf_no_guards : (cf v0 v1 v2 v3 v4 v5 v6).lookup ("guards" : Str) = none := by kernel_rfl
theorem cf_no_window : (cf v0 v1 v2 v3 v4 v5 v6).lookup ("window" : Str) = none := by kernel_rfl
theorem cf_len : (cf v0 v1 v2 v3 v4 v5 v6).length < 1000 := by show 7 < 1000; decide
end
def nf (v0 v1 : V) : List (Str × V) := [("table", v0), ("numbers", v1)]
section
variable {v0 v1 x : V}
theorem nf_table : (nf v0 v1).lookup ("table" : Str) = some v0 := by kernel_rfl
theorem nf_put_table : putF "table" x (nf v0 v1) = nf x v1 := by kernel_rfl
theorem nf_numbers : (nf v0 v1).lookup ("numbers" : Str) = some v1 := by kernel_rfl
theorem nf_put_numbers : putF "numbers" x (nf v0 v1) = nf v0 x := by kernel_rfl
theorem nf_mk : (putF "numbers" v1 (putF "table" v0 [])) = nf v0 v1 := by kernel_rfl
theorem nf_no_seal : (nf v0 v1).lookup ("seal" : Str) = none := by kernel_rfl
theorem nf_no_shown : (nf v0 v1).lookup ("shown" : Str) = none := by kernel_rfl
theorem nf_no_weight : (nf v0 v1).lookup ("weight" : Str) = none := by kernel_rfl
theorem nf_len : (nf v0 v1).length < 1000 := by show 2 < 1000; decide
end
def hf (v0 v1 v2 v3 v4 : V) : List (Str × V) := [("config", v0), ("side", v1), ("balances", v2), ("vaults", v3), ("bonds", v4)]
section
variable {v0 v1 v2 v3 v4 x : V}
theorem hf_config : (hf v0 v1 v2 v3 v4).lookup ("config" : Str) = some v0 := by kernel_rfl
theorem hf_put_config : putF "config" x (hf v0 v1 v2 v3 v4) = hf x v1 v2 v3 v4 := by kernel_rfl
theorem hf_side : (hf v0 v1 v2 v3 v4).lookup ("side" : Str) = some v1 := by kernel_rfl
theorem hf_put_side : putF "side" x (hf v0 v1 v2 v3 v4) = hf v0 x v2 v3 v4 := by kernel_rfl
theorem hf_balances : (hf v0 v1 v2 v3 v4).lookup ("balances" : Str) = some v2 := by kernel_rfl
theorem hf_put_balances : putF "balances" x (hf v0 v1 v2 v3 v4) = hf v0 v1 x v3 v4 := by kernel_rfl
theorem hf_vaults : (hf v0 v1 v2 v3 v4).lookup ("vaults" : Str) = some v3 := by kernel_rfl
theorem hf_put_vaults : putF "vaults" x (hf v0 v1 v2 v3 v4) = hf v0 v1 v2 x v4 := by kernel_rfl
theorem hf_bonds : (hf v0 v1 v2 v3 v4).lookup ("bonds" : Str) = some v4 := by kernel_rfl
theorem hf_put_bonds : putF "bonds" x (hf v0 v1 v2 v3 v4) = hf v0 v1 v2 v3 x := by kernel_rfl
theorem hf_mk : (putF "bonds" v4 (putF "vaults" v3 (putF "balances" v2 (putF "side" v1 (putF "config" v0 []))))) = hf v0 v1 v2 v3 v4 := by kernel_rfl
theorem hf_no_copy : (hf v0 v1 v2 v3 v4).lookup ("copy" : Str) = none := by kernel_rfl
theorem hf_no_balance : (hf v0 v1 v2 v3 v4).lookup ("balance" : Str) = none := by kernel_rfl
theorem hf_no_give : (hf v0 v1 v2 v3 v4).lookup ("give" : Str) = none := by kernel_rfl
theorem hf_no_mint : (hf v0 v1 v2 v3 v4).lookup ("mint" : Str) = none := by kernel_rfl
theorem hf_len : (hf v0 v1 v2 v3 v4).length < 1000 := by show 5 < 1000; decide
end
def sf (v0 v1 v2 v3 v4 v5 v6 v7 v8 v9 v10 v11 v12 : V) : List (Str × V) := [("config", v0), ("place", v1), ("high", v2), ("sheet", v3), ("sets", v4), ("sent", v5), ("inbox", v6), ("rooms", v7), ("returned", v8), ("passed", v9), ("stopped", v10), ("stop_count", v11), ("fresh", v12)]
section
variable {v0 v1 v2 v3 v4 v5 v6 v7 v8 v9 v10 v11 v12 x : V}
theorem sf_config : (sf v0 v1 v2 v3 v4 v5 v6 v7 v8 v9 v10 v11 v12).lookup ("config" : Str) = some v0 := by kernel_rfl
theorem sf_put_config : putF "config" x (sf v0 v1 v2 v3 v4 v5 v6 v7 v8 v9 v10 v11 v12) = sf x v1 v2 v3 v4 v5 v6 v7 v8 v9 v10 v11 v12 := by kernel_rfl
theorem sf_place : (sf v0 v1 v2 v3 v4 v5 v6 v7 v8 v9 v10 v11 v12).lookup ("place" : Str) = some v1 := by kernel_rfl
theorem sf_put_place : putF "place" x (sf v0 v1 v2 v3 v4 v5 v6 v7 v8 v9 v10 v11 v12) = sf v0 x v2 v3 v4 v5 v6 v7 v8 v9 v10 v11 v12 := by kernel_rfl
theorem sf_high : (sf v0 v1 v2 v3 v4 v5 v6 v7 v8 v9 v10 v11 v12).lookup ("high" : Str) = some v2 := by kernel_rfl
theorem sf_put_high : putF "high" x (sf v0 v1 v2 v3 v4 v5 v6 v7 v8 v9 v10 v11 v12) = sf v0 v1 x v3 v4 v5 v6 v7 v8 v9 v10 v11 v12 := by kernel_rfl
theorem sf_sheet : (sf v0 v1 v2 v3 v4 v5 v6 v7 v8 v9 v10 v11 v12).lookup ("sheet" : Str) = some v3 := by kernel_rfl
theorem sf_put_sheet : putF "sheet" x (sf v0 v1 v2 v3 v4 v5 v6 v7 v8 v9 v10 v11 v12) = sf v0 v1 v2 x v4 v5 v6 v7 v8 v9 v10 v11 v12 := by kernel_rfl
theorem sf_sets : (sf v0 v1 v2 v3 v4 v5 v6 v7 v8 v9 v10 v11 v12).lookup ("sets" : Str) = some v4 := by kernel_rfl
theorem sf_put_sets : putF "sets" x (sf v0 v1 v2 v3 v4 v5 v6 v7 v8 v9 v10 v11 v12) = sf v0 v1 v2 v3 x v5 v6 v7 v8 v9 v10 v11 v12 := by kernel_rfl
theorem sf_sent : (sf v0 v1 v2 v3 v4 v5 v6 v7 v8 v9 v10 v11 v12).lookup ("sent" : Str) = some v5 := by kernel_rfl
theorem sf_put_sent : putF "sent" x (sf v0 v1 v2 v3 v4 v5 v6 v7 v8 v9 v10 v11 v12) = sf v0 v1 v2 v3 v4 x v6 v7 v8 v9 v10 v11 v12 := by kernel_rfl
theorem sf_inbox : (sf v0 v1 v2 v3 v4 v5 v6 v7 v8 v9 v10 v11 v12).lookup ("inbox" : Str) = some v6 := by kernel_rfl
theorem sf_put_inbox : putF "inbox" x (sf v0 v1 v2 v3 v4 v5 v6 v7 v8 v9 v10 v11 v12) = sf v0 v1 v2 v3 v4 v5 x v7 v8 v9 v10 v11 v12 := by kernel_rfl
theorem sf_rooms : (sf v0 v1 v2 v3 v4 v5 v6 v7 v8 v9 v10 v11 v12).lookup ("rooms" : Str) = some v7 := by kernel_rfl
theorem sf_put_rooms : putF "rooms" x (sf v0 v1 v2 v3 v4 v5 v6 v7 v8 v9 v10 v11 v12) = sf v0 v1 v2 v3 v4 v5 v6 x v8 v9 v10 v11 v12 := by kernel_rfl
theorem sf_returned : (sf v0 v1 v2 v3 v4 v5 v6 v7 v8 v9 v10 v11 v12).lookup ("returned" : Str) = some v8 := by kernel_rfl
theorem sf_put_returned : putF "returned" x (sf v0 v1 v2 v3 v4 v5 v6 v7 v8 v9 v10 v11 v12) = sf v0 v1 v2 v3 v4 v5 v6 v7 x v9 v10 v11 v12 := by kernel_rfl
theorem sf_passed : (sf v0 v1 v2 v3 v4 v5 v6 v7 v8 v9 v10 v11 v12).lookup ("passed" : Str) = some v9 := by kernel_rfl
theorem sf_put_passed : putF "passed" x (sf v0 v1 v2 v3 v4 v5 v6 v7 v8 v9 v10 v11 v12) = sf v0 v1 v2 v3 v4 v5 v6 v7 v8 x v10 v11 v12 := by kernel_rfl
theorem sf_stopped : (sf v0 v1 v2 v3 v4 v5 v6 v7 v8 v9 v10 v11 v12).lookup ("stopped" : Str) = some v10 := by kernel_rfl
theorem sf_put_stopped : putF "stopped" x (sf v0 v1 v2 v3 v4 v5 v6 v7 v8 v9 v10 v11 v12) = sf v0 v1 v2 v3 v4 v5 v6 v7 v8 v9 x v11 v12 := by kernel_rfl
theorem sf_stop_count : (sf v0 v1 v2 v3 v4 v5 v6 v7 v8 v9 v10 v11 v12).lookup ("stop_count" : Str) = some v11 := by kernel_rfl
theorem sf_put_stop_count : putF "stop_count" x (sf v0 v1 v2 v3 v4 v5 v6 v7 v8 v9 v10 v11 v12) = sf v0 v1 v2 v3 v4 v5 v6 v7 v8 v9 v10 x v12 := by kernel_rfl
theorem sf_fresh : (sf v0 v1 v2 v3 v4 v5 v6 v7 v8 v9 v10 v11 v12).lookup ("fresh" : Str) = some v12 := by kernel_rfl
theorem sf_put_fresh : putF "fresh" x (sf v0 v1 v2 v3 v4 v5 v6 v7 v8 v9 v10 v11 v12) = sf v0 v1 v2 v3 v4 v5 v6 v7 v8 v9 v10 v11 x := by kernel_rfl
theorem sf_mk : (putF "fresh" v12 (putF "stop_count" v11 (putF "stopped" v10 (putF "passed" v9 (putF "returned" v8 (putF "rooms" v7 (putF "inbox" v6 (putF "sent" v5 (putF "sets" v4 (putF "sheet" v3 (putF "high" v2 (putF "place" v1 (putF "config" v0 []))))))))))))) = sf v0 v1 v2 v3 v4 v5 v6 v7 v8 v9 v10 v11 v12 := by kernel_rfl
theorem sf_no_twin : (sf v0 v1 v2 v3 v4 v5 v6 v7 v8 v9 v10 v11 v12).lookup ("twin" : Str) = none := by kernel_rfl
theorem sf_no_height : (sf v0 v1 v2 v3 v4 v5 v6 v7 v8 v9 v10 v11 v12).lookup ("height" : Str) = none := by kernel_rfl
theorem sf_len : (sf v0 v1 v2 v3 v4 v5 v6 v7 v8 v9 v10 v11 v12).length < 1000 := by show 13 < 1000; decide
end
theorem put_lt {f : Str} {v : V} {fs : List (Str × V)} {n : Nat} (h : fs.length < n) : (putF f v fs).length < n + 1 := Nat.lt_of_le_of_lt (length_putF f v fs) (Nat.succ_lt_succ h)
theorem lt_of_lt {n m : Nat} (h : n < m) (e : m ≤ 1000) : n < 1000 := Nat.lt_of_lt_of_le h e
/-! ### heaps -/
theorem get_old {H : Hp} {a p : Addr} {o u : HO} (h : H a = some o) (hp : H p = none) : upd H p u a = some o := by
  rw [upd_ne (ne_of_none h hp)]
  exact h
theorem get_ne {H : Hp} {a p : Addr} {o u : HO} (h : H a = some o) (n : a ≠ p) : upd H p u a = some o := by
  rw [upd_ne n]
  exact h
theorem same_new {H : Hp} {p : Addr} {u : HO} (hp : H p = none) : Same H (upd H p u) := fun b o e => get_old e hp
theorem same_upd {H0 H : Hp} {p : Addr} {u : HO} (s : Same H0 H) (hp : H0 p = none) : Same H0 (upd H p u) := fun b o e => get_ne (s b o e) (ne_of_none e hp)
theorem Same.tup {K : PySem.W.Frag} {H H' : Hp} {a : Addr} {xs : List V} (e : Same H H') (h : SqT K H a xs) : SqT K H' a xs := by
  rcases h with (h | ⟨o, h⟩) | h
  · exact .inl (.inl (e _ _ h))
  · exact .inl (.inr ⟨o, e _ _ h⟩)
  · exact .inr h
theorem same_made {H : Hp} {x dx C : Addr} (nx : H x = none) (nd : H dx = none) (ne : dx ≠ x) : Same H (upd (upd H dx (.own x)) x (.ins C dx [])) := fun b o e =>
  get_ne (get_old e nd) (ne_of_none e nx)
/-! ### a def's promise, kept -/
def Ok (P : Program) (w : World) (K : PySem.W.Frag) (mg : Str → Option Value) (base : Heap) (CX : CXT) (k : Nat) (at_ : Str × Option Str) (ps : List Str) (sp : Sp) : Prop :=
  ∃ fd : FuncData, FnOk P w K mg base CX k (He.fAd K at_) fd ps sp ∧ Binds K fd ps [] ∧ PySem.W.keepIn K (.ref (He.fAd K at_)) = true
section
variable {P : Program} {w : World} {K : PySem.W.Frag} {mg : Str → Option Value} {base : Heap}
/-- no exception leaves the def -/
theorem mk_ok (T : Txt w K mg) (i : Nat) {d : He.DefD} (hd : fn[i]? = some d) {N ps : List Str} {k : Nat} {sp : Sp} (S : FnScope N ps d.scope) (nd : d.dfl = []) (nk : d.kwd = [])
    (hb : ∀ (kV doc pm : Value) (an : Option Addr) (cdv ct : Value) (us : List Value), us.length = ps.length → bindArgs (PySem.W.fnOf d.name d.qual d.params d.body d.scope .none kV doc pm an cdv ct) ⟨us, []⟩ = pure (ps.zip us))
    (len : ∀ vs H Q E, sp vs H Q E → vs.length = ps.length)
    (hbody : ∀ (cdv : Value) (A : Around) (outer : List Env) (s : Shared) (H : Hp) (vs : List V) (Q : VK) (E : XK), Room k (A.deeper (envOfC d.qual d.scope s.heap.objs.size (He.fAd K d.at_) cdv)) → sp vs H Q E →
      ∃ t, PSs (cxOf CX0 P w K mg base N d.qual d.scope (He.fAd K d.at_) cdv A outer s H E).nox d.body t ∧ t { nx := fun _ H' => Q .non H', rt := Q } (start N vs) H) : Ok P w K mg base CX0 (k + 1) d.at_ ps sp := by
  obtain ⟨fd, F⟩ := T.dfn i hd
  have e1 : d.dvs K = [] := by unfold He.DefD.dvs; rw [nd] <;> rfl
  rw [e1] at F
  refine ⟨fd, F.ok S len fun cdv A outer s H vs Q E hr hsp => ?_, F.bindsN hb, F.kp⟩
  obtain ⟨t, h, q⟩ := hbody cdv A outer s H vs Q E hr hsp
  exact ⟨t, h.nox, q⟩
/-- a def that may raise -/
theorem mk_okX (T : Txt w K mg) (i : Nat) {d : He.DefD} (hd : fn[i]? = some d) {N ps : List Str} {k : Nat} {sp : Sp} (S : FnScope N ps d.scope) (nd : d.dfl = []) (nk : d.kwd = [])
    (hb : ∀ (kV doc pm : Value) (an : Option Addr) (cdv ct : Value) (us : List Value), us.length = ps.length → bindArgs (PySem.W.fnOf d.name d.qual d.params d.body d.scope .none kV doc pm an cdv ct) ⟨us, []⟩ = pure (ps.zip us))
    (len : ∀ vs H Q E, sp vs H Q E → vs.length = ps.length)
    (hbody : ∀ (cdv : Value) (A : Around) (outer : List Env) (s : Shared) (H : Hp) (vs : List V) (Q : VK) (E : XK), Room k (A.deeper (envOfC d.qual d.scope s.heap.objs.size (He.fAd K d.at_) cdv)) → sp vs H Q E →
      ∃ t, PSs (cxOf (L2.CX P w) P w K mg base N d.qual d.scope (He.fAd K d.at_) cdv A outer s H E) d.body t ∧ t { nx := fun _ H' => Q .non H', rt := Q } (start N vs) H) : Ok P w K mg base (L2.CX P w) (k + 1) d.at_ ps sp := by
  obtain ⟨fd, F⟩ := T.dfn i hd
  have e1 : d.dvs K = [] := by unfold He.DefD.dvs; rw [nd] <;> rfl
  rw [e1] at F
  exact ⟨fd, F.ok S len hbody, F.bindsN hb, F.kp⟩
end
end Vb
set_option Elab.async false
set_option linter.all false
set_option maxRecDepth 100000
set_option maxHeartbeats 2000000
/-! Own rules: a dict whose keys are nested tuples; the items of a dict with tuple keys, walked and copied; list.remove of nested data; x is True. -/
namespace Vb
open PySem PySem.Spec PyProof.Rows L2

/-! ### a dict whose keys are nested tuples -/
/-- the dict's object at d holds these entries, whatever its epoch -/
def rawO (d : Addr) (L : List DictEntry) : HO := .ext fun h => ∃ o es ep, h.get? d = some o ∧ o.ExactDict ∧ o.data = .dict es ep ∧ es.toList = L
theorem rawO_ok {P : Program} {w : World} {H : Hp} {h : Heap} {d : Addr} {L : List DictEntry} (x : ∃ o es ep, h.get? d = some o ∧ o.ExactDict ∧ o.data = .dict es ep ∧ es.toList = L) : ObjOk P w H h d (rawO d L) := by
  obtain ⟨o, es, ep, h1, h2, h3, h4⟩ := x
  exact ⟨⟨o, es, ep, h1, h2, h3, h4⟩, ⟨o, h1⟩, fun a b ⟨o', es', ep', g1, g2, g3, g4⟩ k => ⟨o', es', ep', k _ g1, g2, g3, g4⟩⟩
mutual
/-- the value is the key, by the tracked tuples -/
inductive NK (H : Hp) : V → NestedKey → Prop
  | int (i : Int) : NK H (.int i) (.num i)
  | str (x : Str) : NK H (.str x) (.text x)
  | tup {a : Addr} {xs : List V} {ks : List NestedKey} : H a = some (.tup xs) → NKs H xs ks → NK H (.ref a) (.tup ks)
inductive NKs (H : Hp) : List V → List NestedKey → Prop
  | nil : NKs H [] []
  | cons {v : V} {k : NestedKey} {vs : List V} {ks : List NestedKey} : NK H v k → NKs H vs ks → NKs H (v :: vs) (k :: ks)
end
section
variable {P : Program} {w : World} {H H' : Hp} {h : Heap}
mutual
theorem NK.is (ok : HOk P w H h) : ∀ (k : NestedKey) (v : V) (u : Value), NK H v k → RelV v u → NestedIs h k u
  | .none, v, u, x, r => by cases x
  | .num i, v, u, x, r => by
    cases x
    obtain ⟨t, rfl⟩ := r
    exact .int i t
  | .text z, v, u, x, r => by
    cases x
    obtain ⟨t, rfl⟩ := r
    exact .text z t
  | .tup ks, v, u, x, r => by
    cases x with
    | @tup a xs _ e q =>
      cases (show u = Value.ref a from r)
      obtain ⟨_, its, rv, o, h1, h2, n, h3⟩ := (show ObjOk P w H h a (.tup xs) from ok a _ e)
      exact .tup h1 h2 h3 (NKs.is ok ks xs its q rv)
theorem NKs.is (ok : HOk P w H h) : ∀ (ks : List NestedKey) (vs : List V) (us : List Value), NKs H vs ks → Vals vs us → NestedAll h ks us
  | [], vs, us, x, r => by
    cases x
    cases r
    exact .nil
  | k :: ks, vs, us, x, r => by
    cases x with
    | cons x1 x2 =>
      cases r with
      | cons r1 r2 => exact .cons (NK.is ok k _ _ x1 r1) (NKs.is ok ks _ _ x2 r2)
end
mutual
theorem NK.mono (m : ∀ b ys, H b = some (.tup ys) → H' b = some (.tup ys)) : ∀ (k : NestedKey) (v : V), NK H v k → NK H' v k
  | .none, v, x => by cases x
  | .num i, v, x => by
    cases x
    exact .int i
  | .text z, v, x => by
    cases x
    exact .str z
  | .tup ks, v, x => by
    cases x with
    | tup e q => exact .tup (m _ _ e) (NKs.mono m ks _ q)
theorem NKs.mono (m : ∀ b ys, H b = some (.tup ys) → H' b = some (.tup ys)) : ∀ (ks : List NestedKey) (vs : List V), NKs H vs ks → NKs H' vs ks
  | [], vs, x => by
    cases x
    exact .nil
  | k :: ks, vs, x => by
    cases x with
    | cons x1 x2 => exact .cons (NK.mono m k _ x1) (NKs.mono m ks _ x2)
end
end
def entN (w : World) (x : NestedKey × Addr × Value) : DictEntry := ⟨x.1.hash w, .ref x.2.1, x.2.2⟩
abbrev NT (H : Hp) : List (NestedKey × V) → List (NestedKey × Addr × Value) → Prop := Paired fun p q => p.1 = q.1 ∧ (NK H (.ref q.2.1) p.1 ∧ p.1.depth ≤ 8) ∧ RelV p.2 q.2.2
/-- at d a dict of these keys and values, in the order of insertion -/
def NumsAt (w : World) (H : Hp) (d : Addr) (kvs : List (NestedKey × V)) : Prop :=
  (d == sysModules) = false ∧ kvs.length ≤ sizeLine ∧ (kvs.map (·.1)).Nodup ∧ ∃ xs : List (NestedKey × Addr × Value), H d = some (rawO d (xs.map (entN w))) ∧ NT H kvs xs
theorem NT.val {H : Hp} {kvs : List (NestedKey × V)} {xs : List (NestedKey × Addr × Value)} (r : NT H kvs xs) (k : NestedKey) : RelO (valV kvs k) ((atKey xs k).map (·.2)) := by
  induction r with
  | nil => exact True.intro
  | @cons p q ps qs hq t ih =>
    by_cases e : p.1 = k
    · have e2 : q.1 = k := hq.1.symm.trans e
      rw [valV_pos e]
      have z : atKey (q :: qs) k = some q.2 := by simp [atKey, List.find?_cons, e2]
      rw [z]
      exact hq.2.2
    · have e2 : ¬ q.1 = k := fun z => e (hq.1.trans z)
      rw [valV_neg e]
      have z : atKey (q :: qs) k = atKey qs k := by simp [atKey, List.find?_cons, e2]
      rw [z]
      exact ih
theorem NT.keys {H : Hp} {kvs : List (NestedKey × V)} {xs : List (NestedKey × Addr × Value)} (r : NT H kvs xs) : kvs.map (·.1) = xs.map (·.1) := by
  induction r with
  | nil => rfl
  | cons hq t ih => rw [List.map_cons, List.map_cons, ih, hq.1]
theorem NT.mono {H H' : Hp} (m : ∀ b ys, H b = some (.tup ys) → H' b = some (.tup ys)) {kvs : List (NestedKey × V)} {xs : List (NestedKey × Addr × Value)} (r : NT H kvs xs) : NT H' kvs xs :=
  Paired.mapP r fun p q z => ⟨z.1, ⟨NK.mono m _ _ z.2.1.1, z.2.1.2⟩, z.2.2⟩
theorem NumsAt.mono {w : World} {H H' : Hp} {d : Addr} {kvs : List (NestedKey × V)} (x : NumsAt w H d kvs) (m : ∀ b o, H b = some o → H' b = some o) : NumsAt w H' d kvs := by
  obtain ⟨x1, x2, x3, xs, x4, x5⟩ := x
  exact ⟨x1, x2, x3, xs, m _ _ x4, x5.mono fun b ys e => m _ _ e⟩
theorem NumsAt.dict {P : Program} {w : World} {H : Hp} {h : Heap} {d : Addr} {kvs : List (NestedKey × V)} (ok : HOk P w H h) (x : NumsAt w H d kvs) :
    ∃ xs, H d = some (rawO d (xs.map (entN w))) ∧ NT H kvs xs ∧ h.DictOfH (nestedKind P w) d xs := by
  obtain ⟨x1, x2, x3, xs, x4, x5⟩ := x
  obtain ⟨⟨o, es, ep, h1, h2, h3, h4⟩, _⟩ := (show ObjOk P w H h d (rawO d (xs.map (entN w))) from ok d _ x4)
  refine ⟨xs, x4, x5, o, es, ep, h1, h2, h3, h4, ?_, ?_⟩
  · have all : ∀ {l : List (NestedKey × V)} {m : List (NestedKey × Addr × Value)}, NT H l m → ∀ x ∈ m, (nestedKind P w).is h x.1 x.2.1 := by
      intro l m q
      induction q with
      | nil => intro x hx; exact nomatch hx
      | @cons p q ps qs hq t ih =>
        intro x hx
        rcases List.mem_cons.mp hx with e | hx
        · subst e
          rw [← hq.1]
          exact ⟨NK.is ok _ _ _ hq.2.1.1 rfl, hq.2.1.2⟩
        · exact ih x hx
    exact all x5
  · rw [← x5.keys]
    exact x3
def rNotInN (w : World) : R2 := fun x y H Q => ∃ a d k kvs, x = .ref a ∧ y = .ref d ∧ NK H (.ref a) k ∧ k.depth ≤ 8 ∧ NumsAt w H d kvs ∧ Q (.bl (!(valV kvs k).isSome)) H
section
variable {X : Cx}
theorem room_n {A : Around} (hu : A.units + 9 < cLine) {P : Program} {w : World} : (nestedKind P w).room A.in1 := by
  show A.units + 1 + 8 < cLine
  omega
theorem op_notInN (hu : X.A.units + 9 < cLine) : OpR X (compareOp .NotIn) (rNotInN X.w) := by
  intro pins s σ H x y v u Q I rx ry h
  obtain ⟨a, d, k, kvs, rfl, rfl, hk, hd8, hN, q⟩ := h
  cases rx
  cases ry
  obtain ⟨xs, hd, rel, dd⟩ := hN.dict I.hok
  refine wpAny_notIn_heap (knd := nestedKind X.prog X.w) (room_n hu) ⟨NK.is I.hok _ _ _ hk rfl, hd8⟩ hN.1 dd ?_
  have z := (rel.val k).isSome_eq
  rw [Option.isSome_map] at z
  rw [← z]
  exact ⟨.bl (!(valV kvs k).isSome), H, I.tok _, rfl, q⟩
/-- d[k], there -/
def tNGet (w : World) (td ty : TE) : TE := fun σ H Q => td σ H fun x H1 => ty σ H1 fun y H2 => ∃ a d k kvs v, x = .ref d ∧ y = .ref a ∧ NK H2 (.ref a) k ∧ k.depth ≤ 8 ∧ NumsAt w H2 d kvs ∧ valV kvs k = some v ∧ Q v H2
theorem pe_nget {o i : Expr} {pos : Pos} {td ty : TE} (hu : X.A.units + 9 < cLine) (ho : PE X o td) (hi : PE X i ty) (hs : NoSl i) : PE X (.Subscript o i pos) (tNGet X.w td ty) := by
  refine ⟨fun pins s σ H Q I h => ?_⟩
  refine subD_of PySem.F.slot_dict_getitem.lookup hs (thn (ho.run pins s σ H _ I h) fun u s1 ⟨x, H1, I1, rx, q1⟩ => thn (hi.run pins s1 σ H1 _ I1 q1) fun iv s2 ⟨y, H2, I2, ry, a, d, k, kvs, v, ex, ey, hk, hd8, hN, hv, q2⟩ => ?_)
  subst ex ey
  obtain rfl : u = Value.ref d := rx
  obtain rfl : iv = Value.ref a := ry
  obtain ⟨xs, hd, rel, dd⟩ := hN.dict I2.hok
  obtain ⟨w', hw, rw'⟩ := RelO.some_of (v := v) (o := (atKey xs k).map (·.2)) (by rw [← hv]; exact rel.val k)
  obtain ⟨p, hp, hp2⟩ := Option.map_eq_some_iff.mp hw
  refine ⟨dd.typeIs, wpAny_getItem_heap (knd := nestedKind X.prog X.w) (room_n hu) ⟨NK.is I2.hok _ _ _ hk rfl, hd8⟩ dd hp ?_⟩
  rw [hp2]
  exact ⟨v, H2, I2.tok _, rw', q2⟩
/-- d[k] = v, a new key -/
def rSetN (w : World) : V → V → V → Hp → (Hp → Prop) → Prop := fun o i v H Q => ∃ a d k kvs, o = .ref d ∧ i = .ref a ∧ NK H (.ref a) k ∧ k.depth ≤ 8 ∧ NumsAt w H d kvs ∧ kvs.length < sizeLine ∧ valV kvs k = none ∧
  ∀ L, NumsAt w (upd H d (rawO d L)) d (kvs ++ [(k, v)]) → Q (upd H d (rawO d L))
theorem set_n (hu : X.A.units + 9 < cLine) : PSet X (rSetN X.w) := by
  intro pins s σ H o i v ov iv u Q I ro ri rv h
  obtain ⟨a, d, k, kvs, rfl, rfl, hk, hd8, hN, hz, hv, q⟩ := h
  cases ro
  cases ri
  obtain ⟨xs, hd, rel, dd⟩ := hN.dict I.hok
  have hl : kvs.length = xs.length := Paired.length rel
  have hnone : atKey xs k = none := by
    have z := rel.val k
    rw [hv] at z
    cases e : atKey xs k with
    | none => rfl
    | some p =>
      rw [e] at z
      exact (show False from z).elim
  refine wpAny_setItem_heap (knd := nestedKind X.prog X.w) (hsz := by omega) (room_n hu) ⟨NK.is I.hok _ _ _ hk rfl, hd8⟩ dd fun h' dd' hs => ?_
  rw [storedH_new hnone] at dd'
  obtain ⟨o, es, ep, h1, h2, h3, h4, h5, h6⟩ := dd'
  have I2 : Inv X pins σ (upd H d (rawO d ((xs ++ [(k, a, u)]).map (entN X.w)))) { s with heap := h', toks := s.toks + (nestedKind X.prog X.w).draws k } :=
    d_write I (by rw [hd]; exact True.intro) hs ⟨o, h1⟩ (rawO_ok ⟨o, es, ep, h1, h2, h3, h4⟩)
  refine ⟨_, I2, q _ ⟨hN.1, ?_, ?_, xs ++ [(k, a, u)], upd_same, ?_⟩⟩
  · rw [List.length_append]
    show kvs.length + 1 ≤ sizeLine
    omega
  · have := h6
    rw [List.map_append, ← rel.keys] at this
    rw [List.map_append]
    exact this
  · have m : ∀ b ys, H b = some (.tup ys) → (upd H d (rawO d ((xs ++ [(k, a, u)]).map (entN X.w)))) b = some (.tup ys) := fun b ys e => by
      rw [upd_ne (ne_of e hd (fun z => nomatch z))]
      exact e
    have app : ∀ {l : List (NestedKey × V)} {m : List (NestedKey × Addr × Value)} {Hh : Hp} {p : NestedKey × V} {q : NestedKey × Addr × Value}, NT Hh l m → (p.1 = q.1 ∧ (NK Hh (.ref q.2.1) p.1 ∧ p.1.depth ≤ 8) ∧ RelV p.2 q.2.2) → NT Hh (l ++ [p]) (m ++ [q]) := by
      intro l m Hh p q r z
      induction r with
      | nil => exact .cons z .nil
      | cons hq t ih => exact .cons hq ih
    exact app (rel.mono m) ⟨rfl, ⟨NK.mono m _ _ hk, hd8⟩, rv⟩
/-- {} -/
def tDNewN (w : World) : TE := fun _ H Q => ∀ p, H p = none → NumsAt w (upd H p (rawO p [])) p [] → Q (.ref p) (upd H p (rawO p []))
theorem pe_dnewN {pos : Pos} : PE X (.Dict [] [] pos) (tDNewN X.w) := ⟨fun pins s σ H Q I h => by
  have hb := I.big
  have ok : ∀ H', ObjOk X.prog X.w H' (s.heap.push { cls := .type "dict", data := .dict #[] }) s.heap.objs.size (rawO s.heap.objs.size []) := fun H' =>
    rawO_ok ⟨_, #[], 0, Heap.get?_push_size _ rfl, ⟨rfl, rfl, rfl⟩, rfl, rfl⟩
  refine wpAny_Dict_empty ⟨.ref s.heap.objs.size, _, I.laid (t' := s.toks) (fun b o e => Heap.get?_push_of_some _ e) (Nat.le_refl _) (ok _), rfl, ?_⟩
  exact h _ (I.hok.fresh (Nat.le_refl _)) ⟨beq_eq_false_iff_ne.mpr (Ne.symm (Nat.ne_of_lt hb)), Nat.zero_le _, List.nodup_nil, [], upd_same, .nil⟩⟩
end
end Vb
set_option Elab.async false
set_option linter.all false
set_option maxRecDepth 100000
set_option maxHeartbeats 2000000
namespace Vb
open PySem PySem.Spec PyProof.Rows L2

/-! ### x is True, x is not True, where x may be an object -/
def rIsT (neg : Bool) : R2 := fun x y H Q => ∃ c : Bool, y = .bl c ∧ ((∃ b : Bool, x = .bl b ∧ Q (.bl (neg ^^ decide (b = c))) H) ∨ ∃ a : Addr, x = .ref a ∧ Q (.bl neg) H)
section
variable {X : Cx}
theorem op_isT : OpR X (compareOp .Is) (rIsT false) := by
  intro pins s σ H x y v u Q I rx ry h
  obtain ⟨c, rfl, ⟨b, rfl, q⟩ | ⟨a, rfl, q⟩⟩ := h
  · cases (show v = Value.bool b from rx)
    cases (show u = Value.bool c from ry)
    by_cases e : b = c
    · subst e
      exact wpAny_is_self rfl ⟨.bl true, H, I, rfl, by simpa using q⟩
    · exact wpAny_is_other rfl (fun z => e (Value.bool.inj z)) ⟨.bl false, H, I, rfl, by simpa [e] using q⟩
  · cases (show v = Value.ref a from rx)
    cases (show u = Value.bool c from ry)
    exact wpAny_is_other rfl (fun z => nomatch z) ⟨.bl false, H, I, rfl, q⟩
theorem op_isNotT : OpR X (compareOp .IsNot) (rIsT true) := by
  intro pins s σ H x y v u Q I rx ry h
  obtain ⟨c, rfl, ⟨b, rfl, q⟩ | ⟨a, rfl, q⟩⟩ := h
  · cases (show v = Value.bool b from rx)
    cases (show u = Value.bool c from ry)
    by_cases e : b = c
    · subst e
      exact wpAny_isNot_self rfl ⟨.bl false, H, I, rfl, by simpa using q⟩
    · exact wpAny_isNot_other rfl (fun z => e (Value.bool.inj z)) ⟨.bl true, H, I, rfl, by simpa [e] using q⟩
  · cases (show v = Value.ref a from rx)
    cases (show u = Value.bool c from ry)
    exact wpAny_isNot_other rfl (fun z => nomatch z) ⟨.bl true, H, I, rfl, q⟩

/-! ### xs.remove(y), nested data -/
def rRemD (K : PySem.W.Frag) : V → List V → Hp → VK → Prop := fun x vs H Q => ∃ (l : Addr) (xs : List V) (y : V) (d : PyData) (ds : List PyData) (j : Nat) (z : PyData), x = .ref l ∧ vs = [y] ∧ H l = some (.lst xs) ∧
  DpAll K H xs ds ∧ Dp K H y d ∧ SeqAt.shaped (.list ds) = true ∧ SeqAt.shaped d = true ∧ ds[j]? = some z ∧ PyData.eqv z d = true ∧ (∀ (m : Nat) (z' : PyData), m < j → ds[m]? = some z' → PyData.eqv z' d = false) ∧
  Q .non (upd H l (.lst (xs.eraseIdx j)))
theorem mt_removeD (hu : X.A.units + 65 < cLine) : MtR X "list.remove" (rRemD X.K) := by
  intro pins s σ H x vs v us Q I rx rvs h
  obtain ⟨l, xs, y, d, ds, j, z, rfl, rfl, hl, hall, hy, sl, sd, hz, hzj, hno, q⟩ := h
  cases rx
  obtain ⟨uy, rfl, ry⟩ := vals1 rvs
  obtain ⟨bs, r1⟩ := Dp.reads I d y uy hy ry
  have can := SeqAt.canLay_of_shaped sl
  have room : X.A.units + 1 + min (PyData.depthAll ds) d.depth < cLine := room_in_shaped sd hu
  obtain ⟨hsz, its, n, rv, hlen, e0⟩ := I.lstM hl
  obtain ⟨as, h4⟩ := Dp.readsAll I ds _ its hall rv
  have hn : its.length = ds.length := SeqAt.ReadsAll.length ds its as h4
  have hmap : its.map (SeqAt.readOf s.heap) = ds := SeqAt.readsAll_map ds its as can h4
  obtain ⟨hjd, _⟩ := List.getElem?_eq_some_iff.mp hz
  have hj : j < its.toArray.size := by
    rw [List.size_toArray]
    omega
  have at_ : ∀ (m : Nat) (hm : m < its.toArray.size) (z' : PyData), ds[m]? = some z' → SeqAt.readOf s.heap its.toArray[m] = z' := by
    intro m hm z' hz'
    have hml : m < its.length := by
      rw [List.size_toArray] at hm
      exact hm
    rw [← hmap, List.getElem?_map, List.getElem?_eq_getElem hml] at hz'
    simpa using Option.some.inj hz'
  have size_ok : its.toArray.size ≤ sizeLine := by
    rw [List.size_toArray]
    omega
  refine call_meets PySem.F.slot_list_remove ⟨_, e0, rfl⟩ PySem.F.entry_list_remove (PySem.F.args_list_remove_2 _ _)
    (SeqAt.list_removeAt l its.toArray n none #[] uy (fun u => PyData.eqv (SeqAt.readOf s.heap u) d) j hj ?hit ?hnot size_ok)
    ⟨e0, SeqAt.items_eqAt (vs := its.toArray) (show ReadsAll s.heap its.toArray.toList ds as from h4) r1 can (SeqAt.canLay_of_shaped sd) room, ?_⟩
  case hit =>
    show PyData.eqv (SeqAt.readOf s.heap its.toArray[j]) d = true
    rw [at_ j hj z hz]
    exact hzj
  case hnot =>
    intro m hm hmj
    have hmd : m < ds.length := by omega
    have hz' : ds[m]? = some ds[m] := List.getElem?_eq_getElem hmd
    show PyData.eqv (SeqAt.readOf s.heap its.toArray[m]) d = false
    rw [at_ m hm _ hz']
    exact hno m _ hmj hz'
  · refine ⟨.non, _, I.lset (its' := its.eraseIdx j) (t' := s.toks) hl e0 ?_ (rv.eraseIdx j) (Nat.le_trans (len_erase xs j) hsz), rfl, q⟩
    show its.toArray.eraseIdxIfInBounds j = (its.eraseIdx j).toArray
    rw [List.eraseIdxIfInBounds_toArray]
end

/-! ### d.items() of a dict with tuple keys, walked -/
section
variable {X : Cx} {pins : List (Addr × Obj)} {σ : L2.St} {H : Hp} {s : Shared} {d : Addr} {o : Obj}
theorem frzTV {kvs : List (List Key × V)} (I : Inv X pins σ H s) (h : H d = some (.frz o (.dT kvs))) :
    (d == sysModules) = false ∧ s.heap.get? d = some o ∧ o.ExactDict ∧ ∃ (es : Array DictEntry) (ep : Nat), o.data = .dict es ep ∧ es.size = kvs.length ∧
      ∀ (i : Nat) (k : List Key) (v : V), kvs[i]? = some (k, v) → ∃ (en : DictEntry) (q : Addr), es[i]? = some en ∧ en.key = .ref q ∧ H q = some (.tup (k.map kV)) ∧ RelV v en.val := by
  obtain ⟨hd, z, hs, xs, pr, o', es, ep, ho, hx, hdt, he, _⟩ := I.hok d _ h
  rw [hd] at ho
  cases ho
  refine ⟨hs, hd, hx, es, ep, hdt, ?_, fun i k v e => ?_⟩
  · rw [size_of_entries he]
    exact (Paired.length pr).symm
  · obtain ⟨b, hb, e1, e2, e3⟩ := paired_get pr e
    have q := entry_at he i
    rw [hb] at q
    exact ⟨_, b.2.1, q, rfl, e2, e3⟩
end
/-- the pairs of the locked dict at d: each a new tuple of the key's own tuple and the value -/
def ItiT (d : Addr) (o : Obj) (kvs : List (List Key × V)) : It :=
  ⟨fun i H => H d = some (.frz o (.dT kvs)) ∧ i < kvs.length, fun i H x H' => ∃ (T q : Addr) (k : List Key) (v : V), kvs[i]? = some (k, v) ∧ x = .ref T ∧ H T = none ∧ H q = some (.tup (k.map kV)) ∧ H' = upd H T (.tup [.ref q, v]),
    fun i H => H d = some (.frz o (.dT kvs)) ∧ kvs.length ≤ i⟩
theorem turn_itemsT {P : Program} {w : World} {K : PySem.W.Frag} {d : Addr} {o : Obj} {es : Array DictEntry} {ep : Nat} {kvs : List (List Key × V)} {elts : List Expr} {kk : Nat} {tpos : Pos} (it : Addr) (hod : o.data = .dict es ep) (hsz : es.size = kvs.length) :
    Turn P w K (.Tuple elts kk tpos) (ItiT d o kvs) [it] it (fun i h => ∃ ok ov, IsItemIter h it d i es.size ep ok ov) where
  mem := List.mem_singleton.mpr rfl
  obj := fun i h st b hb => by
    rw [List.mem_singleton.mp hb]
    obtain ⟨ok, ov, e⟩ := st
    exact ⟨_, e, fun v z => nomatch z⟩
  keep := fun i h h' st k => by
    obtain ⟨ok, ov, e⟩ := st
    exact ⟨ok, ov, k it (List.mem_singleton.mpr rfl) _ e⟩
  item := by
    intro X hP hw hK hc i pins s σ H E I hf st hg
    subst hP hw hK
    obtain ⟨hd, hi⟩ := hg
    obtain ⟨hs, hgd, hx, es', ep', hdt, hsz', ent⟩ := frzTV I hd
    obtain ⟨rfl, rfl⟩ := dict_ep hod hdt
    obtain ⟨⟨k, v⟩, hkv⟩ : ∃ p, kvs[i]? = some p := ⟨kvs[i], List.getElem?_eq_getElem hi⟩
    obtain ⟨en, q, hen, hkey, hq, rv⟩ := ent i k v hkv
    obtain ⟨ok, ov, he⟩ := st
    have hlt : it < s.heap.objs.size := Heap.lt_size he
    have hie : i < es'.size := by omega
    have een : es'[i] = en := by
      have z := Array.getElem?_eq_getElem hie
      rw [hen] at z
      exact (Option.some.inj z).symm
    refine DT.nextI he ⟨o, hgd, hx, hod⟩ hie fun h1 ho hT hz hk => ?_
    rw [een] at ho hT
    refine ⟨_, rfl, wpAny_letOwnedTupleGo_items (s := { s with heap := h1 }) ho fun h2 he2 sb => ?_⟩
    have hT2 : h2.get? s.heap.objs.size = some { cls := .type "tuple", data := .seq #[en.key, en.val] } := (sb.2 _ (Nat.ne_of_gt hlt)).trans hT
    have new : ObjOk X.prog X.w (upd H s.heap.objs.size (.tup [.ref q, v])) h2 s.heap.objs.size (.tup [.ref q, v]) :=
      ⟨by show 2 ≤ sizeLine; decide, [en.key, en.val], .cons hkey (.cons rv .nil), ⟨_, hT2, rfl, _, rfl⟩⟩
    have I1 : Inv X pins σ (upd H s.heap.objs.size (.tup [.ref q, v])) { s with heap := h2 } :=
      I.turnedNew (t' := s.toks) (ch := [it]) (fun b ob hb e => (sb.2 b fun z => hb (List.mem_singleton.mpr z)).trans (hk b ob (fun z => hb (List.mem_singleton.mpr z)) e)) hf (Nat.le_refl _) new
    refine ⟨.ref s.heap.objs.size, _, I1, rfl, ⟨_, q, k, v, hkv, rfl, I.hok.fresh (Nat.le_refl _), hq, rfl⟩, ⟨_, _, he2⟩, fun b hb => ?_⟩
    rw [List.mem_singleton.mp hb, upd_ne (Nat.ne_of_lt hlt)]
    exact (hf it (List.mem_singleton.mpr rfl)).1
  done := by
    intro X hP hw hK hc i pins s σ H E I hf st hg
    subst hP hw hK
    obtain ⟨hd, hi⟩ := hg
    obtain ⟨f0, f1, f2, f3, f4, f5⟩ := hf it (List.mem_singleton.mpr rfl)
    obtain ⟨hs, hgd, hx, es', ep', hdt, hsz', ent⟩ := frzTV I hd
    obtain ⟨rfl, rfl⟩ := dict_ep hod hdt
    obtain ⟨ok, ov, he⟩ := st
    exact DT.endI (I.ok.hd hc) he ⟨o, hgd, hx, hod⟩ (by omega) fun h1 eb => ⟨rfl, I.turned (t' := s.toks) (fun b ob hb e => eb b ob hb e) f0 f1 f3 f4 f5⟩
  self := fun A i s Q E st h => by
    obtain ⟨_, _, e⟩ := st
    exact PySem.W.kcp_self e h
def iItemsT (td : TE) : TI := fun σ H R => td σ H fun x H1 => ∃ d o kvs, x = .ref d ∧ H1 d = some (.frz o (.dT kvs)) ∧ R (ItiT d o kvs) H1
section
variable {X : Cx} {e : Expr} {td : TE} {apos cpos : Pos}
theorem pi_itemsT {elts : List Expr} {kk : Nat} {tpos : Pos} (he : PE X e td) (hbase : attributeBase e "items" X.env (eval e X.env) = eval e X.env := by rfl) (hline : (apos.endLine == cpos.line) = true := by rfl) :
    PI X (.Tuple elts kk tpos) (.Call (.Attribute e "items" apos) [] [] cpos) (iItemsT td) := by
  refine ⟨fun pins s σ H R I h => ?_⟩
  refine wpAny_Call_method (T := "dict") (id := "dict.items") hbase rfl hline F.plainAttrs_dict F.slot_dict_items F.type_dict_items (thn (he.run pins s σ H _ I h) fun u s1 hh => ?_)
  obtain ⟨x, H1, I1, rx, d, o, kvs, ex, hd, q⟩ := hh
  subst ex
  obtain rfl : u = Value.ref d := rx
  obtain ⟨hs, hgd, hx, es, ep, hdt, hsz, ent⟩ := frzTV I1 hd
  have raw : DT.Raw s1.heap d es ep := ⟨o, hgd, hx, hdt⟩
  refine ⟨raw.typeIs, (fun b q => by cases q; exact ⟨o, hgd, hx.2.1⟩), ?_⟩
  have I2 : Inv X pins σ H1 { s1 with heap := s1.heap.push { cls := .type "dict_items", data := .fields #[.ref d] } } := I1.kept (t' := s1.toks) fun b ob q => Heap.get?_push_of_some _ q
  have fin : wpAny (model X.prog X.w) X.A (pyIter (.ref s1.heap.objs.size)) (PIE X pins σ (.Tuple elts kk tpos) R) X.xe { s1 with heap := s1.heap.push { cls := .type "dict_items", data := .fields #[.ref d] } } :=
    DT.iterI ⟨_, Heap.get?_push_size _ rfl, rfl, rfl⟩ (raw.push _) (pi_one (tk := s1.toks) I2 _ (turn_itemsT _ hdt hsz) ⟨.none, .none, Heap.get?_push_size _ rfl⟩ q)
  show wpAny _ _ (callWith cpos (.builtin "dict.items") [.ref d] [] []) _ X.xe s1
  exact method_meetsIn F.slot_dict_items F.entry_dict_items rfl (PySem.evalArgs_none ⟨rfl, raw.typeIs, F.args_dict_items_1 _, _, DT.meetsItems (es := es) (ep := ep) hs, raw, fin⟩)
end
end Vb
set_option Elab.async false
set_option linter.all false
set_option maxRecDepth 100000
set_option maxHeartbeats 2000000
/-! {k: v for .. in ..}, the keys tuples of ints and texts. -/
namespace Vb
open PySem PySem.Spec PyProof.Rows L2
/-- one pair laid by the comprehension, the key a tracked tuple -/
theorem dT_set {X : Cx} {pins : List (Addr × Obj)} {σ : L2.St} {H : Hp} {s : Shared} {E : Value → Shared → Prop} {D b : Addr} {kvs : List (List Key × V)} {k : List Key} {v : V} {r : Value} {Q : Unit → Shared → Prop} (hu : X.A.units + 1 < cLine)
    (I : Inv X pins σ H s) (hD : H D = some (.dT kvs)) (hb : H b = some (.tup (k.map kV))) (hz : kvs.length < sizeLine) (rv : RelV v r)
    (h : ∀ s', Inv X pins σ (upd H D (.dT (putK kvs k v))) s' → Q () s') : wpAny (model X.prog X.w) X.A (dictSet D (.ref b) r) Q E s := by
  obtain ⟨z, hd, xs, rel, dd⟩ := dt_of I.hok hD
  have hl := Paired.length rel
  have hput := length_putK kvs k v
  refine wpAny_dictSet_heap (hsz := by omega) (by show X.A.units < cLine; omega) (key_of I.hok hb) dd fun h' dd' hs => h _ ?_
  obtain ⟨q, es, ep, hq, h2, h3, h4, _, h5⟩ := dd'
  refine d_write I (by rw [hD]; exact True.intro) hs ⟨q, hq⟩ ⟨by omega, hd, _, (rel.put k hb rv).keeps fun c ys ec => ?_, q, es, ep, hq, h2, h3, h4, h5⟩
  rw [upd_ne (ne_of ec hD (fun z => nomatch z))]
  exact ec
/-- the reading: D the new dict; W the invariant by the turn and a measure -/
def tDcT (wi : TI) (g : TG) (tk tv : TE) (vs : List Nat) : TE := fun σ H Q => wi σ H fun J H1 => ∀ D, H1 D = none → ∃ W : Nat → Nat → Hp → Prop, (∃ m, W 0 m (upd H1 D (.dT []))) ∧ ∀ i m H, W i m H →
  (J.stop i H ∧ Q (.ref D) H) ∨ (J.go i H ∧ ∃ Nx : Hp → Prop, (∀ H', Nx H' → ∃ m', m' < m ∧ W (i + 1) m' H') ∧ ∀ x H', J.yld i H x H' → g x (wipe σ vs) H' fun σ2 H2 => wipe σ2 vs = wipe σ vs ∧
    tk σ2 H2 fun y H4 => tv σ2 H4 fun z H5 => ∃ kvs k b, y = .ref b ∧ H5 b = some (.tup (k.map kV)) ∧ H5 D = some (.dT kvs) ∧ kvs.length < sizeLine ∧ Nx (upd H5 D (.dT (putK kvs k z))))
section
variable {X : Cx} {kx vx tg iter : Expr} {scope : Scope} {own : List (Str × Nat)} {pos : Pos} {wi : TI} {g : TG} {tk tv : TE}
theorem pe_dcT (hu : X.A.units + 1 < cLine) (hc : X.calm = true) (hN : X.N.Nodup) (hi : PI X tg iter wi) (ok : BlkOk X.N X.env.scope scope own)
    (hg : ∀ (s : Shared) (H : Hp) (C : Addr) (cl : List (Str × Addr)) (fp : List Addr), PG (X.blk s H scope (compEnvC scope cl C X.env) fp) tg g)
    (hk : ∀ (s : Shared) (H : Hp) (C : Addr) (cl : List (Str × Addr)) (fp : List Addr), PE (X.blk s H scope (compEnvC scope cl C X.env) fp) kx tk)
    (he : ∀ (s : Shared) (H : Hp) (C : Addr) (cl : List (Str × Addr)) (fp : List Addr), PE (X.blk s H scope (compEnvC scope cl C X.env) fp) vx tv)
    (hs : ∀ x, foldedSetIterable iter X.env x = pure x := by intro _; rfl) : PE X (.DictComp kx vx [⟨tg, iter, [], 0⟩] scope pos) (tDcT wi g tk tv (own.map (·.2))) := by
  refine ⟨fun pins s σ H Q I h => ?_⟩
  rw [arm_eval_DictComp]
  have clo : ∀ y ∈ scope.names, y.2 = .free → ∃ c, X.env.cells.lookup y.1 = some c := fun y hy e => I.ok.has _ ((ok.free y hy e).imp id id)
  refine wpAny_comprehension_free (use := none) rfl hs (closure_ok clo) ok.kind (fun y hy e => by rw [ok.uniq y hy, e])
    (thn (hi.run pins s σ H _ I h) fun xv s1 hx => thn hx fun itv s2 h2 => ?_)
  obtain ⟨it, fp, tn, J, H2, rfl, I2, T, st2, f2, q⟩ := h2
  refine wpAny_newObj_type (newEnv_comp ?_)
  -- the new dict at D
  obtain ⟨D, hD⟩ : ∃ D, D = s2.heap.objs.size := ⟨_, rfl⟩
  have hDn : H2 D = none := I2.hok.fresh (Nat.le_of_eq hD.symm)
  obtain ⟨W, ⟨m0, w0⟩, turn⟩ := q D hDn
  obtain ⟨s3, hs3⟩ : ∃ s3 : Shared, s3 = { s2 with heap := s2.heap.push { cls := .type "dict", data := .dict #[] } } := ⟨_, rfl⟩
  obtain ⟨H3, hH3⟩ : ∃ H3 : Hp, H3 = upd H2 D (.dT []) := ⟨_, rfl⟩
  rw [← hH3] at w0
  have I3 : Inv X pins σ H3 s3 := by
    rw [hs3, hH3, hD]
    exact I2.laid (t' := s2.toks) (fun b o e => Heap.get?_push_of_some _ e) (Nat.le_refl _) (dt_empty s2.heap I2.big)
  have grown : s3.heap = s2.heap.push { cls := .type "dict", data := .dict #[] } := by rw [hs3]
  have below : ∀ b ∈ fp, b < s2.heap.objs.size := fun b hb => Heap.lt_size (T.obj _ _ st2 b hb).choose_spec.1
  have f3 : ∀ b ∈ fp, FpOk X pins H3 b ∧ b < s3.heap.objs.size := fun b hb => by
    have hlt := below b hb
    refine ⟨⟨?_, (f2 b hb).2⟩, ?_⟩
    · rw [hH3, upd_ne (by rw [hD]; exact Nat.ne_of_lt hlt)]
      exact (f2 b hb).1
    · rw [grown, Heap.size_push]
      exact Nat.lt_succ_of_lt hlt
  have st3 : tn 0 s3.heap := T.keep _ _ _ st2 fun b _ o e => by
    rw [grown]
    exact Heap.get?_push_of_some _ e
  -- the block
  have I4 := block_start I3 ok hN f3
  obtain ⟨ce, hce⟩ : ∃ ce, ce = compEnvC scope (cellsFrom (s3.heap.objs.size + 1) scope.names (cloFrom X.env.cells scope.names [])) s3.heap.objs.size X.env := ⟨_, rfl⟩
  have pg := hg s3 H3 s3.heap.objs.size (cellsFrom (s3.heap.objs.size + 1) scope.names (cloFrom X.env.cells scope.names [])) fp
  have pk := hk s3 H3 s3.heap.objs.size (cellsFrom (s3.heap.objs.size + 1) scope.names (cloFrom X.env.cells scope.names [])) fp
  have pv' := he s3 H3 s3.heap.objs.size (cellsFrom (s3.heap.objs.size + 1) scope.names (cloFrom X.env.cells scope.names [])) fp
  rw [← hce] at I4 pg pk pv'
  have cL : ce.locals = s3.heap.objs.size := by rw [hce] <;> rfl
  obtain ⟨s4, hs4⟩ : ∃ s4 : Shared, s4 = { s3 with heap := pushCells (s3.heap.push { cls := .type "dict", data := .dict #[] }) scope.names } := ⟨_, rfl⟩
  rw [← hs4] at I4
  have st4 : tn 0 s4.heap := T.keep _ _ _ st3 fun b _ o e => by
    rw [hs4]
    exact pushCells_keeps _ _ _ _ (Heap.get?_push_of_some _ e)
  have goal : codeAny (model X.prog X.w) X.A (.compStart (.DictComp kx vx [⟨tg, iter, [], 0⟩] scope pos) 0 (.ref it) (.ref D) ce) (compPost (model X.prog X.w) X.A X.xe none (EP X pins σ Q) (.ref D) s3.heap.objs.size) s4 := ?_
  · rw [hs4, hce, hD] at goal
    rw [hs3] at goal
    exact goal
  -- what stays true of the iterator's own objects
  have stat : ∀ {σ' : L2.St} {H' : Hp} {s' : Shared}, Inv (X.blk s3 H3 scope ce fp) [] σ' H' s' → (∀ b ∈ fp, H' b = none) → ∀ b ∈ fp, FpOk (X.blk s3 H3 scope ce fp) [] H' b := fun {σ' H' s'} I' hn b hb =>
    ⟨hn b hb, (I'.ok.exf b hb).1, I'.ok.exfs b hb, .inl hb, fun x c e => (I'.ok.exf b hb).2 x c e, fun p hp => absurd (show p ∈ ([] : List (Addr × Obj)) ++ [] from hp) (by simp)⟩
  have loop : codeAny (model X.prog X.w) X.A (.compLoop (.DictComp kx vx [⟨tg, iter, [], 0⟩] scope pos) 0 (.ref it) (.ref D) ce) (compPost (model X.prog X.w) X.A X.xe none (EP X pins σ Q) (.ref D) s3.heap.objs.size) s4 := by
    refine compLoop_anyD (fun n s' => ∃ i H', Inv (X.blk s3 H3 scope ce fp) [] (wipe σ (own.map (·.2))) H' s' ∧ tn i s'.heap ∧ (∀ b ∈ fp, H' b = none) ∧ W i n H') ?_ m0 ⟨0, H3, I4, st4, fun b hb => (f3 b hb).1.1, w0⟩
    rintro n s5 ⟨i, H5, I5, st5, n5, w5⟩
    rcases turn i n H5 w5 with ⟨stop, qq⟩ | ⟨go, Nx, hNx, step⟩
    · -- the end: back in the def
      refine thnF (T.done (X.blk s3 H3 scope ce fp) rfl rfl rfl hc i [] s5 _ H5 (fun _ _ => False) I5 (stat I5 n5) st5 stop) fun r s6 hr6 => ?_
      obtain ⟨rfl, I6⟩ := hr6
      have I7 : Inv X pins σ H5 s6 := I3.call' (ch := fp) I6.os I6.base I6.hok I6.bare fun b hb => by
        obtain ⟨⟨_, k1, _, k2, k3, k4⟩, _⟩ := f3 b hb
        exact ⟨k2, k1, k3, k4⟩
      have nC : H5 s3.heap.objs.size = none := by
        have z : H5 ce.locals = none := I6.free
        rw [cL] at z
        exact z
      obtain ⟨m, hn, _⟩ := I6.loc
      have hn : s6.heap.Ns ce.locals m := hn
      rw [cL] at hn
      obtain ⟨g0, g1, g2, g3, g4, g5⟩ := I3.fpOk (Nat.le_refl _) nC
      exact ⟨m, hn, fun h6 sb => ⟨.ref D, H5, I7.turned (t' := s6.toks) (fun b o hb e => (sb.2 b hb).trans e) g0 g1 g3 g4 g5, rfl, qq⟩⟩
    · refine thnF (T.item (X.blk s3 H3 scope ce fp) rfl rfl rfl hc i [] s5 _ H5 (fun _ _ => False) I5 (stat I5 n5) st5 go) fun r s6 hr6 => ?_
      obtain ⟨u, rfl, h6⟩ := hr6
      refine thnF h6 fun _ s7 hr7 => ?_
      obtain ⟨x, H7, I7, r7, y7, st7, n7⟩ := hr7
      have P7 := I7.pinned (stat I7 n7) (T.obj _ _ st7)
      refine thnF (pg.run _ s7 _ H7 x u _ P7 r7 (step x H7 y7)) fun _ s8 hr8 => ?_
      obtain ⟨σ8, H8, I8, hw8, q8⟩ := hr8
      refine wpAny_tests_nil ?_
      rw [if_pos rfl]
      refine thnF (pk.run _ s8 σ8 H8 _ I8 q8) fun z s9 hr9 => ?_
      obtain ⟨yk, H9, I9, r9, q9⟩ := hr9
      refine thnF (pv'.run _ s9 σ8 H9 _ I9 q9) fun z2 s10 hr10 => ?_
      obtain ⟨yv, H10, I10, r10, kvs, k, b, rfl, hb, hD10, hz10, nx⟩ := hr10
      obtain rfl : z = Value.ref b := r9
      refine dT_set (X := X.blk s3 H3 scope ce fp) hu I10 hD10 hb hz10 r10 fun s11 I11 => ?_
      obtain ⟨m', hm, w'⟩ := hNx _ nx
      have pinned : ∀ c ∈ fp, ∀ o, s7.heap.get? c = some o → s11.heap.get? c = some o ∧ (upd H10 D (.dT (putK kvs k yv))) c = none := fun c hc' o e => by
        have z := I11.pin (c, o) (List.mem_append_right _ (List.mem_append_right _ (mem_pinsAt hc' e)))
        exact ⟨z.1, z.2.1⟩
      refine ⟨m', hm, i + 1, _, (I11.unpinned (pins := [])).weak (by rw [← hw8, wipe_length]) (fun j v e => ?_), T.keep _ _ _ st7 fun c hc' o e => (pinned c hc' o e).1, fun c hc' => ?_, w'⟩
      · rw [← hw8] at e
        exact (wipe_some e).1
      · obtain ⟨o, e, _⟩ := T.obj _ _ st7 c hc'
        exact (pinned c hc' o e).2
  exact codeAny_compStart_dict loop (T.self X.A 0 _ _ _ st4 loop)
end
end Vb
set_option Elab.async false
set_option linter.all false
set_option maxRecDepth 100000
set_option maxHeartbeats 4000000
/-! sets.py: is_account, is_count, is_set, total, threshold; other_side -/
namespace Vb
open PySem PySem.Spec PyProof.Rows L2
theorem q_bl {Q : VK} {H : Hp} {b c : Bool} (e : b = c) (q : Q (.bl c) H) : Q (.bl b) H := by
  rw [e]
  exact q
theorem q_int {Q : VK} {H : Hp} {b c : Int} (e : b = c) (q : Q (.int c) H) : Q (.int b) H := by
  rw [e]
  exact q
theorem pe_ty {X : Cx} {x : Str} {n : String} {pos : Pos} (hg : Gl X x) (hm : X.mg x = none) (hv : bootBuiltins x = some (.type n)) (hn : x ≠ "__name__" := by decide) (hd : (x == ("__debug__" : Str)) = false := by decide) : PE X (.Name x pos) (tC (.ty n)) :=
  pe_bltn (v := .ty n) hg hm hv rfl hn hd
theorem kit_ss : kitB "str" "str" = some true := by decide +kernel
theorem kit_ii : kitB "int" "int" = some true := by decide +kernel
theorem kit_ib : kitB "int" "bool" = some false := by decide +kernel
theorem kit_tt : kitB "tuple" "tuple" = some true := by decide +kernel
theorem get_map {α β : Type} {f : α → β} {l : List α} {i : Nat} {y : β} (h : (l.map f)[i]? = some y) : ∃ x, l[i]? = some x ∧ y = f x := by
  rw [List.getElem?_map] at h
  cases e : l[i]? with
  | none =>
    rw [e] at h
    cases h
  | some x =>
    rw [e] at h
    exact ⟨x, rfl, (Option.some.inj h).symm⟩
theorem lt_of_get {α : Type} {l : List α} {i : Nat} {x : α} (h : l[i]? = some x) : i < l.length := (List.getElem?_eq_some_iff.mp h).1
theorem take_get {α : Type} {l : List α} {i : Nat} {x : α} (h : l[i]? = some x) : l.take (i + 1) = l.take i ++ [x] := by
  rw [List.take_add_one, h]
  rfl
theorem at0 {xs : List V} {v : V} (h : xs[0]? = some v) : atI xs 0 = some v := atI_nat (j := 0) h
theorem at1 {xs : List V} {v : V} (h : xs[1]? = some v) : atI xs 1 = some v := atI_nat (j := 1) h
theorem at2 {xs : List V} {v : V} (h : xs[2]? = some v) : atI xs 2 = some v := atI_nat (j := 2) h
theorem at3 {xs : List V} {v : V} (h : xs[3]? = some v) : atI xs 3 = some v := atI_nat (j := 3) h
theorem at5 {xs : List V} {v : V} (h : xs[5]? = some v) : atI xs 5 = some v := atI_nat (j := 5) h
theorem inV_str {x : Str} : ∀ {l : List Str}, x ∉ l → inV (.str x) (l.map V.str) = false
  | [], _ => rfl
  | a :: r, h => by
    have h1 : ¬ a = x := fun e => h (e ▸ List.mem_cons_self)
    have h2 : x ∉ r := fun m => h (List.mem_cons_of_mem _ m)
    have ih := inV_str h2
    show (eqV (.str a) (.str x) || (r.map V.str).any fun y => eqV y (.str x)) = false
    have e1 : eqV (.str a) (.str x) = false := by
      show (a == x) = false
      exact beq_eq_false_iff_ne.mpr h1
    rw [e1]
    exact ih
theorem flat_strs (l : List Str) : (l.map V.str).all flatV = true := by
  rw [List.all_map]
  exact List.all_eq_true.mpr fun _ _ => rfl
/-- a set of guards: the tuple of pairs, each at its own address -/
abbrev Gs : Type := List (Addr × Str × Int)
def GsAt (H : Hp) (a : Addr) (gs : Gs) : Prop := H a = some (.tup (gs.map fun g => V.ref g.1)) ∧ ∀ g ∈ gs, H g.1 = some (.tup [.str g.2.1, .int g.2.2])
theorem GsAt.mono {H H' : Hp} {a : Addr} {gs : Gs} (x : GsAt H a gs) (s : Same H H') : GsAt H' a gs := ⟨s _ _ x.1, fun g hg => s _ _ (x.2 g hg)⟩
structure GoodGs (gs : Gs) : Prop where
  len : 1 ≤ gs.length ∧ gs.length ≤ 7
  each : ∀ g ∈ gs, (1 ≤ g.2.1.length ∧ g.2.1.length ≤ 20) ∧ 1 ≤ g.2.2
  nd : (gs.map (·.2.1)).Nodup
def wsum (gs : Gs) : Int := (gs.map (·.2.2)).sum
section
variable {P : Program} {w : World} {K : PySem.W.Frag} {mg : Str → Option Value} {base : Heap}

/-! ### is_account, is_count -/
def spAcc : Sp := fun vs H Q _ => ∃ x : Str, vs = [.str x] ∧ 1 ≤ x.length ∧ x.length ≤ 20 ∧ Q (.bl true) H
theorem sc_is_account : FnScope ["value"] ["value"] (defScope s_is_account) := ⟨rfl, rfl, rfl, by decide +kernel, rfl, by decide +kernel, by decide +kernel⟩
theorem ok_is_account (T : Txt w K mg) : Ok P w K mg base CX0 1 ("is_account", none) ["value"] spAcc := by
  obtain ⟨tk, h_MOST_SIGNS⟩ := T.i_MOST_SIGNS
  refine mk_ok T 0 (d := d_is_account) rfl sc_is_account rfl rfl (fun _ _ _ _ _ _ us hl => match us, hl with | [_], _ => rfl) (fun vs H Q E h => ?_) (fun cdv A outer s H vs Q E hr h => ?_)
  · obtain ⟨x, rfl, _⟩ := h
    rfl
  · obtain ⟨x, rfl, h1, h2, q⟩ := h
    refine ⟨_, (pss_one (ps_ret (pe_and (pe_callB call_isi (by rfl) T.f_isinstance boot_isinstance (pa_cons (pv 0) (pa_cons (pe_ty rfl T.f_str boot_str) pa_nil))) (pe_one (pe_chain op_le op_le pe_int (pe_callB call_len_str (by rfl) T.f_len boot_len (pa_cons (pv 0) pa_nil)) (pe_glob (v := .int 20) rfl h_MOST_SIGNS ⟨_, rfl⟩)))))), ?_⟩
    refine ⟨_, rfl, .str x, .ty "str", _, _, _, rfl, .ty _, .base (.str x), kit_ty kit_ss, true, rfl, iteT ?_⟩
    refine ⟨_, rfl, x, rfl, Nat.le_trans h2 (by decide), _, _, rfl, rfl, true, ?_, iteT ?_⟩
    · exact congrArg V.bl (decide_eq_true (by omega))
    · refine ⟨_, _, rfl, rfl, ?_⟩
      exact q_bl (Q := Q) (decide_eq_true (by omega)) q
def spCount : Sp := fun vs H Q _ => ∃ i l : Int, vs = [.int i, .int l] ∧ l ≤ i ∧ Q (.bl true) H
theorem sc_is_count : FnScope ["value", "least"] ["value", "least"] (defScope s_is_count) := ⟨rfl, rfl, rfl, by decide +kernel, rfl, by decide +kernel, by decide +kernel⟩
theorem ok_is_count (T : Txt w K mg) : Ok P w K mg base CX0 1 ("is_count", none) ["value", "least"] spCount := by
  refine mk_ok T 1 (d := d_is_count) rfl sc_is_count rfl rfl (fun _ _ _ _ _ _ us hl => match us, hl with | [_, _], _ => rfl) (fun vs H Q E h => ?_) (fun cdv A outer s H vs Q E hr h => ?_)
  · obtain ⟨i, l, rfl, _⟩ := h
    rfl
  · obtain ⟨i, l, rfl, h1, q⟩ := h
    refine ⟨_, (pss_one (ps_ret (pe_and (pe_callB call_isi (by rfl) T.f_isinstance boot_isinstance (pa_cons (pv 0) (pa_cons (pe_ty rfl T.f_int boot_int) pa_nil))) (pe_and (pe_not (pe_callB call_isi (by rfl) T.f_isinstance boot_isinstance (pa_cons (pv 0) (pa_cons (pe_ty rfl T.f_bool boot_bool) pa_nil)))) (pe_one (pe_cmpR op_ge (pv 0) (pv 1) (nomark _))))))), ?_⟩
    refine ⟨_, rfl, .int i, .ty "int", _, _, _, rfl, .ty _, .base (.int i), kit_ty kit_ii, true, rfl, iteT ?_⟩
    refine ⟨_, rfl, .int i, .ty "bool", _, _, _, rfl, .ty _, .base (.int i), kit_ty kit_ib, false, rfl, true, rfl, iteT ?_⟩
    refine ⟨_, rfl, _, rfl, _, _, rfl, rfl, ?_⟩
    exact q_bl (Q := Q) (decide_eq_true h1) q

/-! ### is_set -/
def spIsSet : Sp := fun vs H Q _ => ∃ (a : Addr) (gs : Gs), vs = [.ref a] ∧ GsAt H a gs ∧ GoodGs gs ∧ ∀ H', Same H H' → Q (.bl true) H'
theorem sc_is_set : FnScope ["value", "names", "pair"] ["value"] (defScope s_is_set) := ⟨rfl, rfl, rfl, by decide +kernel, rfl, by decide +kernel, by decide +kernel⟩
theorem ok_is_set (T : Txt w K mg) : Ok P w K mg base CX0 2 ("is_set", none) ["value"] spIsSet := by
  obtain ⟨fd1, G_is_account, b_is_account, k_is_account⟩ := ok_is_account (P := P) (base := base) T
  obtain ⟨fd2, G_is_count, b_is_count, k_is_count⟩ := ok_is_count (P := P) (base := base) T
  refine mk_ok T 2 (d := d_is_set) rfl sc_is_set rfl rfl (fun _ _ _ _ _ _ us hl => match us, hl with | [_], _ => rfl) (fun vs H Q E h => ?_) (fun cdv A outer s H vs Q E hr h => ?_)
  · obtain ⟨a, gs, rfl, _⟩ := h
    rfl
  · obtain ⟨a, gs, rfl, hA, hG, q⟩ := h
    refine ⟨_, (pss_cons (ps_set (i := 1) sc_is_set.nd rfl (Or.inl rfl) (pe_lst pa_nil))
      (pss_cons (ps_for PassesOwn.never rfl (pi_tup (pv 0)) (pg_name (i := 2) sc_is_set.nd rfl (Or.inl rfl)) (pss_cons (ps_if (PW.pt (pw_or (pt_not (pt_val (pe_callB call_isi (by rfl) T.f_isinstance boot_isinstance (pa_cons (pv 2) (pa_cons (pe_ty rfl T.f_tuple boot_tuple) pa_nil))))) (pw_or (pt_cmpR op_ne (pe_callB call_len_seq (by rfl) T.f_len boot_len (pa_cons (pv 2) pa_nil)) pe_int (nomark _)) (pw_or (pt_not (pt_val (pe_call G_is_account (hr.mono (by decide)) rfl T.g_is_account k_is_account b_is_account .nil pass0 (pa_cons (pe_ix ix_tup (pv 2) pe_int (fun _ _ => rfl)) pa_nil)))) (pw_or1 (pt_not (pt_val (pe_call G_is_count (hr.mono (by decide)) rfl T.g_is_count k_is_count b_is_count .nil pass0 (pa_cons (pe_ix ix_tup (pv 2) pe_int (fun _ _ => rfl)) (pa_cons pe_int pa_nil)))))))))) (pss_one (ps_ret pe_bl)) pss_nil)
      (pss_cons (ps_if (pt_cmpR op_in_seq (pe_ix ix_tup (pv 2) pe_int (fun _ _ => rfl)) (pv 1) (by rfl)) (pss_one (ps_ret pe_bl)) pss_nil)
      (pss_one (ps_expr (pe_bm PySem.F.plainAttrs_list PySem.F.slot_list_append PySem.F.type_list_append mt_append (pv 1) (pa_cons (pe_ix ix_tup (pv 2) pe_int (fun _ _ => rfl)) pa_nil)))))))
      (pss_one (ps_ret (pe_cmpR op_gt (pe_callB call_len_seq (by rfl) T.f_len boot_len (pa_cons (pv 1) pa_nil)) pe_int (nomark _)))))), ?_⟩
    refine ⟨Nat.zero_le _, fun l hl => ?_⟩
    have s0 : Same H (upd H l (.lst [])) := same_new hl
    refine ⟨_, rfl, a, rfl, ⟨_, SqT.of (s0 _ _ hA.1)⟩, for_tup (K := K) (a := a) (xs := gs.map fun g => V.ref g.1)
      (fun i σ H2 => ∃ v : Option V, σ = [some (.ref a), some (.ref l), v] ∧ Same H H2 ∧ H2 l = some (.lst (((gs.take i).map (·.2.1)).map V.str)))
      ⟨none, rfl, s0, upd_same⟩ (fun i σ H2 _ ⟨_, _, s2, _⟩ => SqT.of (s2 _ _ hA.1)) ?_ ?_⟩
    · rintro i y σ H2 hi ⟨v, rfl, s2, hl2⟩
      obtain ⟨g, hg, rfl⟩ := get_map hi
      have hm : g ∈ gs := List.mem_of_getElem? hg
      have hp := s2 _ _ (hA.2 g hm)
      obtain ⟨⟨e1, e2⟩, e3⟩ := hG.each g hm
      refine ⟨_, rfl, .ref g.1, .ty "tuple", _, _, _, rfl, .ty _, .base (.tup hp), kit_ty kit_tt, true, rfl, iteF ?_⟩
      refine ⟨_, rfl, _, _, rfl, .inr (SqT.of hp), rfl, _, rfl, iteF ?_⟩
      refine ⟨_, rfl, _, _, _, _, rfl, rfl, SqT.of hp, at0 rfl, g.2.1, rfl, e1, e2, true, rfl, iteF ?_⟩
      refine ⟨_, rfl, _, _, _, _, rfl, rfl, SqT.of hp, at1 rfl, g.2.2, 1, rfl, e3, true, rfl, ?_⟩
      refine iteF ?_
      refine ⟨_, rfl, _, _, _, _, rfl, rfl, SqT.of hp, at0 rfl, _, rfl, l, _, rfl, .inl (SqL.of hl2), rfl, flat_strs _, _, rfl, ?_⟩
      have nin : g.2.1 ∉ (gs.take i).map (·.2.1) := fun m => by
        have nd := hG.nd
        have e := List.take_append_drop i gs
        rw [← e, List.map_append, List.nodup_append] at nd
        have hd : g ∈ gs.drop i := by
          have z : (gs.drop i)[0]? = some g := by rw [List.getElem?_drop]; simpa using hg
          exact List.mem_of_getElem? z
        exact nd.2.2 _ m _ (List.mem_map.mpr ⟨g, hd, rfl⟩) rfl
      rw [inV_str nin]
      refine iteF ?_
      refine ⟨_, rfl, .inl ⟨rfl, _, SqL.of hl2⟩, _, rfl, _, _, _, _, rfl, rfl, SqT.of hp, at0 rfl, l, _, _, rfl, rfl, hl2, ?_, ?_⟩
      · rw [List.length_map, List.length_map, List.length_take]
        have := hG.len.2
        exact Nat.lt_of_le_of_lt (Nat.min_le_left _ _) (Nat.lt_of_le_of_lt (show i ≤ 7 by have := lt_of_get hg; omega) (by decide))
      · refine ⟨_, rfl, same_upd s2 hl, ?_⟩
        rw [take_get hg, List.map_append, List.map_append]
        exact upd_same
    · rintro σ H2 ⟨v, rfl, s2, hl2⟩
      refine ⟨_, rfl, _, _, rfl, .inl (SqL.of hl2), _, _, rfl, rfl, ?_⟩
      refine q_bl (Q := Q) (decide_eq_true ?_) (q _ s2)
      rw [List.length_map, List.length_map, List.length_map, List.length_take, Nat.min_self]
      have := hG.len.1
      omega

/-! ### total, threshold -/
theorem wsum_pos {gs : Gs} (h : GoodGs gs) : 1 ≤ wsum gs := by
  have hp : ∀ l : Gs, (∀ g ∈ l, 1 ≤ g.2.2) → (l.length : Int) ≤ (l.map (·.2.2)).sum := by
    intro l
    induction l with
    | nil => intro _; exact Int.le_refl _
    | cons g r ih =>
      intro hh
      rw [List.map_cons, List.sum_cons, List.length_cons]
      have h1 := hh g List.mem_cons_self
      have h2 := ih fun x hx => hh x (List.mem_cons_of_mem _ hx)
      omega
  have h1 := hp gs fun g hg => (h.each g hg).2
  have h2 := h.len.1
  show 1 ≤ (gs.map (·.2.2)).sum
  omega
def spTotal : Sp := fun vs H Q _ => ∃ (a : Addr) (gs : Gs), vs = [.ref a] ∧ GsAt H a gs ∧ gs.length ≤ 7 ∧ ∀ H', Same H H' → Q (.int (wsum gs)) H'
theorem sc_total : FnScope ["guards", "_", "weight"] ["guards"] (defScope s_total) := ⟨rfl, rfl, rfl, by decide +kernel, rfl, by decide +kernel, by decide +kernel⟩
theorem ok_total (T : Txt w K mg) : Ok P w K mg base CX0 1 ("total", none) ["guards"] spTotal := by
  refine mk_ok T 3 (d := d_total) rfl sc_total rfl rfl (fun _ _ _ _ _ _ us hl => match us, hl with | [_], _ => rfl) (fun vs H Q E h => ?_) (fun cdv A outer s H vs Q E hr h => ?_)
  · obtain ⟨a, gs, rfl, _⟩ := h
    rfl
  · obtain ⟨a, gs, rfl, hA, h7, q⟩ := h
    refine ⟨_, (pss_one (ps_ret (pe_callB (cr_sum rfl) (by rfl) T.f_sum boot_sum (pa_cons (pe_lc (own := [("_", 1), ("weight", 2)]) (g := (gTup K 2 (gCons (gName 1) (gCons (gName 2) gNil)))) (tt := tYes) rfl sc_total.nd (pi_tup (pv 0)) (blkOk_by (N := ["guards", "_", "weight"]) (sc := defScope s_total) (by decide +kernel)) (fun _ _ _ _ _ => (pg_tup (by rfl) (pgs_cons (pg_name (i := 1) sc_total.nd rfl (Or.inl rfl)) (pgs_cons (pg_name (i := 2) sc_total.nd rfl (Or.inl rfl)) pgs_nil)))) (fun _ _ _ _ _ => pts_nil) (fun _ _ _ _ _ => (pv 2))) pa_nil)))), ?_⟩
    refine ⟨_, rfl, a, rfl, ⟨_, SqT.of hA.1⟩, fun D hD => lc_tup (K := K) (a := a) (xs := gs.map fun g => V.ref g.1) (fun i H2 => Same H H2 ∧ H2 D = some (.lst (((gs.take i).map (·.2.2)).map V.int)))
      ⟨same_new hD, upd_same⟩ (fun i H2 _ ⟨s2, _⟩ => SqT.of (s2 _ _ hA.1)) ?_ ?_⟩
    · rintro i y H2 hi ⟨s2, hD2⟩
      obtain ⟨g, hg, rfl⟩ := get_map hi
      have hp := s2 _ _ (hA.2 g (List.mem_of_getElem? hg))
      refine ⟨g.1, _, rfl, SqT.of hp, rfl, _, _, rfl, _, _, rfl, rfl, rfl, ?_⟩
      refine ⟨_, rfl, _, hD2, ?_, same_upd s2 hD, ?_⟩
      · rw [List.length_map, List.length_map, List.length_take]
        exact Nat.lt_of_le_of_lt (Nat.min_le_left _ _) (Nat.lt_of_le_of_lt (show i ≤ 7 by have := lt_of_get hg; omega) (by decide))
      · rw [take_get hg, List.map_append, List.map_append]
        exact upd_same
    · rintro H2 ⟨s2, hD2⟩
      refine ⟨D, _, rfl, SqL.of hD2, ?_⟩
      refine q_int (Q := Q) ?_ (q _ s2)
      rw [List.length_map, List.take_length] <;> rfl
def spThr : Sp := fun vs H Q _ => ∃ (a : Addr) (gs : Gs), vs = [.ref a] ∧ GsAt H a gs ∧ GoodGs gs ∧ wsum gs ≤ 1000000 ∧ ∀ (H' : Hp) (t : Int), Same H H' → t ≤ wsum gs → Q (.int t) H'
theorem sc_threshold : FnScope ["guards"] ["guards"] (defScope s_threshold) := ⟨rfl, rfl, rfl, by decide +kernel, rfl, by decide +kernel, by decide +kernel⟩
theorem ok_threshold (T : Txt w K mg) : Ok P w K mg base CX0 2 ("threshold", none) ["guards"] spThr := by
  obtain ⟨fd1, G_total, b_total, k_total⟩ := ok_total (P := P) (base := base) T
  refine mk_ok T 4 (d := d_threshold) rfl sc_threshold rfl rfl (fun _ _ _ _ _ _ us hl => match us, hl with | [_], _ => rfl) (fun vs H Q E h => ?_) (fun cdv A outer s H vs Q E hr h => ?_)
  · obtain ⟨a, gs, rfl, _⟩ := h
    rfl
  · obtain ⟨a, gs, rfl, hA, hG, hw, q⟩ := h
    refine ⟨_, (pss_one (ps_ret (pe_op op_add (pe_op op_fdiv (pe_op op_mul pe_int (pe_call G_total (hr.mono (by decide)) rfl T.g_total k_total b_total .nil pass0 (pa_cons (pv 0) pa_nil))) pe_int) pe_int))), ?_⟩
    refine ⟨_, rfl, a, gs, rfl, hA, hG.len.2, fun H' s' => ?_⟩
    have hp := wsum_pos hG
    refine ⟨_, _, rfl, rfl, .inl ⟨by decide, by decide⟩, _, _, rfl, rfl, ⟨by decide, by decide⟩, _, _, rfl, rfl, ?_⟩
    exact q _ _ s' (by omega)

/-! ### other_side -/
def spOther : Sp := fun vs H Q _ => vs = [.str "west"] ∧ Q (.str "east") H
theorem sc_other_side : FnScope ["side"] ["side"] (defScope s_other_side) := ⟨rfl, rfl, rfl, by decide +kernel, rfl, by decide +kernel, by decide +kernel⟩
theorem ok_other_side (T : Txt w K mg) : Ok P w K mg base CX0 1 ("other_side", none) ["side"] spOther := by
  refine mk_ok T 5 (d := d_other_side) rfl sc_other_side rfl rfl (fun _ _ _ _ _ _ us hl => match us, hl with | [_], _ => rfl) (fun vs H Q E h => ?_) (fun cdv A outer s H vs Q E hr h => ?_)
  · obtain ⟨rfl, _⟩ := h
    rfl
  · obtain ⟨rfl, q⟩ := h
    refine ⟨_, (pss_one (ps_ret (pe_ifExp (pt_cmpR op_eq (pv 0) pe_str (nomark _)) pe_str pe_str))), ?_⟩
    refine ⟨_, rfl, rfl, _, rfl, ?_⟩
    refine ite2 (fun _ => q) (fun n => absurd (decide_eq_true rfl) n)
end
end Vb
set_option Elab.async false
set_option linter.all false
set_option maxRecDepth 100000
set_option maxHeartbeats 4000000
/-! letters.py: is_transfer, is_letter -/
namespace Vb
open PySem PySem.Spec PyProof.Rows L2
/-- a transfer as the law draws them -/
structure Tr where
  tok : Str
  un : Int
  dl : Int
  deriving DecidableEq
def trV (t : Tr) : List V := [.str t.tok, .int t.un, .int 0, .str "ann", .str "bob", .int t.dl]
structure GoodTr (t : Tr) : Prop where
  tok : t.tok = "coin" ∨ t.tok = "gold"
  un : 1 ≤ t.un ∧ t.un ≤ 700
  dl : 0 ≤ t.dl
/-- a letter: where it stands, where its transfer stands, its number, the transfer -/
structure Le where
  a : Addr
  ta : Addr
  k : Int
  t : Tr
def leV (L : Le) : List V := [.str "deliver", .str "east", .int L.k, .ref L.ta]
def LeAt (H : Hp) (L : Le) : Prop := H L.a = some (.tup (leV L)) ∧ H L.ta = some (.tup (trV L.t))
theorem LeAt.mono {H H' : Hp} {L : Le} (x : LeAt H L) (s : Same H H') : LeAt H' L := ⟨s _ _ x.1, s _ _ x.2⟩
structure GoodLe (L : Le) : Prop where
  k : 0 ≤ L.k
  t : GoodTr L.t
theorem len_ann : ("ann" : Str).length = 3 := by decide +kernel
theorem len_bob : ("bob" : Str).length = 3 := by decide +kernel
theorem exB_split {K : PySem.W.Frag} (h : exB K = true) : He.tupB K "SIDES_config" [.str "west", .str "east"] = true ∧ He.tupB K "SIDES_letters" [.str "west", .str "east"] = true ∧ He.valsB K (He.ga K "FORMS") forms = true ∧
    excB K "LimitReached" = true ∧ PySem.W.kitOne K (.ref (He.ga K "LimitReached")) (.ref (He.ga K "LimitReached")) = some true := by
  unfold exB at h
  obtain ⟨h1, h⟩ := He.ba h
  obtain ⟨h2, h⟩ := He.ba h
  obtain ⟨h3, h⟩ := He.ba h
  obtain ⟨h4, h5⟩ := He.ba h
  exact ⟨h1, h2, h3, h4, of_decide_eq_true h5⟩
section
variable {P : Program} {w : World} {K : PySem.W.Frag} {mg : Str → Option Value} {base : Heap}
def spIsTr : Sp := fun vs H Q _ => ∃ (a : Addr) (t : Tr), vs = [.ref a] ∧ H a = some (.tup (trV t)) ∧ GoodTr t ∧ Q (.bl true) H
theorem sc_is_transfer : FnScope ["value", "token", "units", "fee", "sender", "receiver", "deadline"] ["value"] (defScope s_is_transfer) := ⟨rfl, rfl, rfl, by decide +kernel, rfl, by decide +kernel, by decide +kernel⟩
theorem ok_is_transfer (T : Txt w K mg) : Ok P w K mg base CX0 2 ("is_transfer", none) ["value"] spIsTr := by
  obtain ⟨fd1, G_is_account, b_is_account, k_is_account⟩ := ok_is_account (P := P) (base := base) T
  obtain ⟨fd2, G_is_count, b_is_count, k_is_count⟩ := ok_is_count (P := P) (base := base) T
  refine mk_ok T 14 (d := d_is_transfer) rfl sc_is_transfer rfl rfl (fun _ _ _ _ _ _ us hl => match us, hl with | [_], _ => rfl) (fun vs H Q E h => ?_) (fun cdv A outer s H vs Q E hr h => ?_)
  · obtain ⟨a, t, rfl, _⟩ := h
    rfl
  · obtain ⟨a, t, rfl, hA, hG, q⟩ := h
    refine ⟨_, (pss_cons (ps_if (pt_cmpR op_ne (pe_callB call_len_seq (by rfl) T.f_len boot_len (pa_cons (pv 0) pa_nil)) pe_int (nomark _)) (pss_one (ps_ret pe_bl)) pss_nil)
      (pss_cons (ps_asg (pv 0) (pg_tup (by rfl) (pgs_cons (pg_name (i := 1) sc_is_transfer.nd rfl (Or.inl rfl)) (pgs_cons (pg_name (i := 2) sc_is_transfer.nd rfl (Or.inl rfl)) (pgs_cons (pg_name (i := 3) sc_is_transfer.nd rfl (Or.inl rfl)) (pgs_cons (pg_name (i := 4) sc_is_transfer.nd rfl (Or.inl rfl)) (pgs_cons (pg_name (i := 5) sc_is_transfer.nd rfl (Or.inl rfl)) (pgs_cons (pg_name (i := 6) sc_is_transfer.nd rfl (Or.inl rfl)) pgs_nil))))))))
      (pss_cons (ps_if (PW.pt (pw_or (pt_not (pt_val (pe_callB call_isi (by rfl) T.f_isinstance boot_isinstance (pa_cons (pv 1) (pa_cons (pe_ty rfl T.f_str boot_str) pa_nil))))) (pw_or (pt_not (pt_val (pe_call G_is_account (hr.mono (by decide)) rfl T.g_is_account k_is_account b_is_account .nil pass0 (pa_cons (pv 4) pa_nil)))) (pw_or1 (pt_not (pt_val (pe_call G_is_account (hr.mono (by decide)) rfl T.g_is_account k_is_account b_is_account .nil pass0 (pa_cons (pv 5) pa_nil)))))))) (pss_one (ps_ret pe_bl)) pss_nil)
      (pss_one (ps_ret (pe_and (pe_call G_is_count (hr.mono (by decide)) rfl T.g_is_count k_is_count b_is_count .nil pass0 (pa_cons (pv 2) (pa_cons pe_int pa_nil))) (pe_and (pe_call G_is_count (hr.mono (by decide)) rfl T.g_is_count k_is_count b_is_count .nil pass0 (pa_cons (pv 3) (pa_cons pe_int pa_nil))) (pe_and (pe_cmpR op_le (pv 3) (pv 2) (nomark _)) (pe_one (pe_call G_is_count (hr.mono (by decide)) rfl T.g_is_count k_is_count b_is_count .nil pass0 (pa_cons (pv 6) (pa_cons pe_int pa_nil)))))))))))), ?_⟩
    refine ⟨_, rfl, _, _, rfl, .inr (SqT.of hA), rfl, _, rfl, iteF ?_⟩
    refine ⟨_, rfl, a, _, rfl, SqT.of hA, rfl, _, _, rfl, _, _, rfl, _, _, rfl, _, _, rfl, _, _, rfl, _, _, rfl, rfl, ?_⟩
    refine ⟨_, rfl, .str t.tok, .ty "str", _, _, _, rfl, .ty _, .base (.str t.tok), kit_ty kit_ss, true, rfl, iteF ?_⟩
    refine ⟨_, rfl, _, rfl, (by rw [len_ann]; decide), (by rw [len_ann]; decide), true, rfl, iteF ?_⟩
    refine ⟨_, rfl, _, rfl, (by rw [len_bob]; decide), (by rw [len_bob]; decide), true, rfl, ?_⟩
    refine iteF ?_
    refine ⟨_, rfl, t.un, 1, rfl, hG.un.1, true, rfl, iteT ?_⟩
    refine ⟨_, rfl, 0, 0, rfl, Int.le_refl _, true, rfl, iteT ?_⟩
    refine ⟨_, rfl, _, rfl, _, _, rfl, rfl, _, rfl, ?_⟩
    rw [decide_eq_true (show (0 : Int) ≤ t.un by have := hG.un.1; omega)]
    refine iteT ?_
    exact ⟨_, rfl, t.dl, 0, rfl, hG.dl, q⟩
def spIsLe : Sp := fun vs H Q _ => ∃ L : Le, vs = [.ref L.a] ∧ LeAt H L ∧ GoodLe L ∧ ∀ H', Same H H' → Q (.bl true) H'
theorem sc_is_letter : FnScope ["value", "kind", "side", "number", "body"] ["value"] (defScope s_is_letter) := ⟨rfl, rfl, rfl, by decide +kernel, rfl, by decide +kernel, by decide +kernel⟩
theorem ne_dr : ¬ (("deliver" : Str) = "rotate") := by decide +kernel
theorem in_sides (K : PySem.W.Frag) : inV (.str "east") ([He.Dv.str "west", He.Dv.str "east"].map (He.Dv.v K)) = true := by kernel_rfl
theorem flat_sides (K : PySem.W.Frag) : ([He.Dv.str "west", He.Dv.str "east"].map (He.Dv.v K)).all flatV = true := by kernel_rfl
theorem in_kinds : inV (.str "deliver") [.str "deliver", .str "return", .str "cancel"] = true := by kernel_rfl
theorem ok_is_letter (T : Txt w K mg) : Ok P w K mg base CX0 3 ("is_letter", none) ["value"] spIsLe := by
  obtain ⟨fd2, G_is_count, b_is_count, k_is_count⟩ := ok_is_count (P := P) (base := base) T
  obtain ⟨fd3, G_is_transfer, b_is_transfer, k_is_transfer⟩ := ok_is_transfer (P := P) (base := base) T
  have h_SIDES_letters := T.g_SIDES_letters
  have hS := fun H => He.tupB_ok (exB_split T.ex).2.1 H
  refine mk_ok T 15 (d := d_is_letter) rfl sc_is_letter rfl rfl (fun _ _ _ _ _ _ us hl => match us, hl with | [_], _ => rfl) (fun vs H Q E h => ?_) (fun cdv A outer s H vs Q E hr h => ?_)
  · obtain ⟨L, rfl, _⟩ := h
    rfl
  · obtain ⟨L, rfl, ⟨hA, hT⟩, hG, q⟩ := h
    refine ⟨_, (pss_cons (ps_if (PW.pt (pw_or (pt_cmpR op_ne (pe_callB call_len_seq (by rfl) T.f_len boot_len (pa_cons (pv 0) pa_nil)) pe_int (nomark _)) (pw_or (pt_not (pt_val (pe_callB call_isi (by rfl) T.f_isinstance boot_isinstance (pa_cons (pe_ix ix_tup (pv 0) pe_int (fun _ _ => rfl)) (pa_cons (pe_ty rfl T.f_str boot_str) pa_nil))))) (pw_or1 (pt_not (pt_val (pe_callB call_isi (by rfl) T.f_isinstance boot_isinstance (pa_cons (pe_ix ix_tup (pv 0) pe_int (fun _ _ => rfl)) (pa_cons (pe_ty rfl T.f_tuple boot_tuple) pa_nil))))))))) (pss_one (ps_ret pe_bl)) pss_nil)
      (pss_cons (ps_asg (pv 0) (pg_tup (by rfl) (pgs_cons (pg_name (i := 1) sc_is_letter.nd rfl (Or.inl rfl)) (pgs_cons (pg_name (i := 2) sc_is_letter.nd rfl (Or.inl rfl)) (pgs_cons (pg_name (i := 3) sc_is_letter.nd rfl (Or.inl rfl)) (pgs_cons (pg_name (i := 4) sc_is_letter.nd rfl (Or.inl rfl)) pgs_nil))))))
      (pss_cons (ps_if (PW.pt (pw_or (pt_not (pt_val (pe_call G_is_count (hr.mono (by decide)) rfl T.g_is_count k_is_count b_is_count .nil pass0 (pa_cons (pv 3) (pa_cons pe_int pa_nil))))) (pw_or1 (pt_not (pt_val (pe_callB call_isi (by rfl) T.f_isinstance boot_isinstance (pa_cons (pv 2) (pa_cons (pe_ty rfl T.f_str boot_str) pa_nil)))))))) (pss_one (ps_ret pe_bl)) pss_nil)
      (pss_cons (ps_if (pt_cmpR op_eq (pv 1) pe_str (nomark _)) (pss_one ps_never) pss_nil)
      (pss_cons (ps_if (pt_cmpR op_notIn_seq (pv 2) (pe_glob (v := .ref (He.ga K "SIDES_letters")) rfl h_SIDES_letters rfl) (by rfl)) (pss_one (ps_ret pe_bl)) pss_nil)
      (pss_cons (ps_if (pt_cmpR op_in_seq (pv 1) (pe_tup (pa_cons pe_str (pa_cons pe_str (pa_cons pe_str pa_nil)))) (by rfl)) (pss_one (ps_ret (pe_call G_is_transfer (hr.mono (by decide)) rfl T.g_is_transfer k_is_transfer b_is_transfer .nil pass0 (pa_cons (pv 4) pa_nil)))) pss_nil)
      (pss_cons ps_never
      (pss_one ps_never)))))))), ?_⟩
    refine ⟨_, rfl, _, _, rfl, .inr (SqT.of hA), rfl, _, rfl, iteF ?_⟩
    refine ⟨_, rfl, _, _, _, _, rfl, rfl, SqT.of hA, at0 rfl, .str "deliver", .ty "str", _, _, _, rfl, .ty _, .base (.str _), kit_ty kit_ss, true, rfl, iteF ?_⟩
    refine ⟨_, rfl, _, _, _, _, rfl, rfl, SqT.of hA, at3 rfl, .ref L.ta, .ty "tuple", _, _, _, rfl, .ty _, .base (.tup hT), kit_ty kit_tt, true, rfl, ?_⟩
    refine iteF ?_
    refine ⟨_, rfl, L.a, _, rfl, SqT.of hA, rfl, _, _, rfl, _, _, rfl, _, _, rfl, _, _, rfl, rfl, ?_⟩
    refine ⟨_, rfl, L.k, 0, rfl, hG.k, true, rfl, iteF ?_⟩
    refine ⟨_, rfl, .str "east", .ty "str", _, _, _, rfl, .ty _, .base (.str _), kit_ty kit_ss, true, rfl, ?_⟩
    refine iteF ?_
    refine ⟨_, rfl, rfl, _, rfl, ?_⟩
    rw [decide_eq_false (fun e => ne_dr (V.str.inj e))]
    refine iteF ?_
    refine ⟨_, rfl, _, _, rfl, .inr (hS _), rfl, flat_sides K, _, rfl, ?_⟩
    rw [in_sides]
    refine iteF ?_
    refine ⟨_, rfl, (by show 3 ≤ sizeLine; decide), fun p hp => ⟨p, _, rfl, .inr (SqT.of upd_same), rfl, rfl, _, rfl, ?_⟩⟩
    rw [in_kinds]
    refine iteT ?_
    exact ⟨_, rfl, L.ta, L.t, rfl, get_old hT hp, hG.t, q _ (same_new hp)⟩
end
end Vb
set_option Elab.async false
set_option linter.all false
set_option maxRecDepth 100000
set_option maxHeartbeats 4000000
/-! config.py -/
namespace Vb
open PySem PySem.Spec PyProof.Rows L2
/-- all that is tracked but p's object stays -/
def KB (p : Addr) (H H' : Hp) : Prop := ∀ b o, H b = some o → b ≠ p → H' b = some o
theorem KB.refl (p : Addr) (H : Hp) : KB p H H := fun _ _ e _ => e
theorem KB.new {p q : Addr} {H H' : Hp} {o : HO} (k : KB p H H') (hq : H' q = none) : KB p H (upd H' q o) := fun b u e n => get_old (k b u e n) hq
theorem KB.own {p : Addr} {H H' : Hp} {o : HO} (k : KB p H H') : KB p H (upd H' p o) := fun b u e n => get_ne (k b u e n) n
/-- an object that H does not know may change -/
theorem KB.mut {p q : Addr} {H H' : Hp} {o : HO} (k : KB p H H') (hq : H q = none) : KB p H (upd H' q o) := fun b u e n => get_ne (k b u e n) (ne_of_none e hq)
theorem KB.step {p : Addr} {H H' H'' : Hp} (k : KB p H H') (s : Same H' H'') : KB p H H'' := fun b u e n => s _ _ (k b u e n)
theorem KB.free {p q : Addr} {H H' : Hp} (k : KB p H H') (n : q ≠ p) (hq : H' q = none) : H q = none := by
  cases e : H q with
  | none => rfl
  | some o =>
    rw [k q o e n] at hq
    cases hq
abbrev kCoin : Key := Sum.inr "coin"
abbrev kGold : Key := Sum.inr "gold"
theorem ne_cg : ¬ (("coin" : Str) = "gold") := by decide +kernel
theorem ne_gc : ¬ (("gold" : Str) = "coin") := by decide +kernel
theorem len_coin : ("coin" : Str).length = 4 := by decide +kernel
theorem len_gold : ("gold" : Str).length = 4 := by decide +kernel
def tabKv (u1 u2 : Addr) : List (Key × V) := [(kCoin, .ref u1), (kGold, .ref u2)]
def rowC (lim : Int) : List V := [.str "east", .int 3, .int lim, .int 1000000]
def rowG : List V := [.str "east", .int 1, .int 1000, .int 1000000]
/-- the configuration of the law -/
structure CfgAt (K : PySem.W.Frag) (H : Hp) (c : Addr) (lim win : Int) (ga : Addr) : Prop where
  ex : ∃ dx dt lb u1 u2 : Addr, H c = some (.ins (cConfig K) dx (cf (.ref dt) (.ref lb) (.ref ga) (.int 1) (.int win) (.int 2) (.int 4))) ∧ H dt = some (.dK (tabKv u1 u2)) ∧ H u1 = some (.tup (rowC lim)) ∧ H u2 = some (.tup rowG) ∧ H lb = some (.lst [])
theorem CfgAt.mono {K : PySem.W.Frag} {H H' : Hp} {c : Addr} {lim win : Int} {ga : Addr} (x : CfgAt K H c lim win ga) (s : Same H H') : CfgAt K H' c lim win ga := by
  obtain ⟨dx, dt, lb, u1, u2, h1, h2, h3, h4, h5⟩ := x.ex
  exact ⟨dx, dt, lb, u1, u2, s _ _ h1, s _ _ h2, s _ _ h3, s _ _ h4, s _ _ h5⟩
theorem CfgAt.kb {K : PySem.W.Frag} {H H' : Hp} {c : Addr} {lim win : Int} {ga : Addr} (x : CfgAt K H c lim win ga) {p : Addr} (k : KB p H H') (n : c ≠ p) {C dx : Addr} {fs : List (Str × V)} (hp : H p = some (.ins C dx fs)) : CfgAt K H' c lim win ga := by
  obtain ⟨dx, dt, lb, u1, u2, h1, h2, h3, h4, h5⟩ := x.ex
  exact ⟨dx, dt, lb, u1, u2, k _ _ h1 n, k _ _ h2 (ne_of h2 hp (fun z => nomatch z)), k _ _ h3 (ne_of h3 hp (fun z => nomatch z)), k _ _ h4 (ne_of h4 hp (fun z => nomatch z)), k _ _ h5 (ne_of h5 hp (fun z => nomatch z))⟩
theorem CfgAt.kbT {K : PySem.W.Frag} {H H' : Hp} {c : Addr} {lim win : Int} {ga : Addr} (x : CfgAt K H c lim win ga) {p : Addr} (k : KB p H H') {kvs : List (List Key × V)} (hp : H p = some (.dT kvs)) : CfgAt K H' c lim win ga := by
  obtain ⟨dx, dt, lb, u1, u2, h1, h2, h3, h4, h5⟩ := x.ex
  exact ⟨dx, dt, lb, u1, u2, k _ _ h1 (ne_of h1 hp (fun z => nomatch z)), k _ _ h2 (ne_of h2 hp (fun z => nomatch z)), k _ _ h3 (ne_of h3 hp (fun z => nomatch z)), k _ _ h4 (ne_of h4 hp (fun z => nomatch z)), k _ _ h5 (ne_of h5 hp (fun z => nomatch z))⟩
theorem val_coin (u1 u2 : Addr) : valV (tabKv u1 u2) kCoin = some (.ref u1) := valV_pos rfl
theorem val_gold (u1 u2 : Addr) : valV (tabKv u1 u2) kGold = some (.ref u2) := by
  show valV ((kCoin, V.ref u1) :: [(kGold, V.ref u2)]) kGold = _
  rw [valV_neg (fun e => ne_cg (Sum.inr.inj e)), valV_pos rfl]
/-- the table after so many tokens -/
def Tb (H' : Hp) (lim : Int) : Nat → List (Key × V) → Prop
  | 0, kvs => kvs = []
  | 1, kvs => ∃ u1, kvs = [(kCoin, .ref u1)] ∧ H' u1 = some (.tup (rowC lim))
  | _, kvs => ∃ u1 u2, kvs = tabKv u1 u2 ∧ H' u1 = some (.tup (rowC lim)) ∧ H' u2 = some (.tup rowG)
section
variable {P : Program} {w : World} {K : PySem.W.Frag} {mg : Str → Option Value} {base : Heap}
def spCfg (K : PySem.W.Frag) : Sp := fun vs H Q _ => ∃ (p dx lt lb ga t1 t2 : Addr) (gs : Gs) (lim win : Int), vs = [.ref p, .ref lt, .ref lb, .ref ga, .int 1, .int win, .int 2, .int 4] ∧ H p = some (.ins (cConfig K) dx []) ∧
  H lt = some (.lst [.ref t1, .ref t2]) ∧ H lb = some (.lst []) ∧ H t1 = some (.tup (.str "coin" :: rowC lim)) ∧ H t2 = some (.tup (.str "gold" :: rowG)) ∧ GsAt H ga gs ∧ GoodGs gs ∧ 0 ≤ lim ∧ 1 ≤ win ∧
  ∀ H', KB p H H' → CfgAt K H' p lim win ga → Q .non H'
theorem sc_Config_init : FnScope ["self", "tokens", "balances", "guards", "depth", "window", "delay", "bundle", "name", "home", "scale", "limit", "large", "account", "token", "amount"] ["self", "tokens", "balances", "guards", "depth", "window", "delay", "bundle"] (defScope s_Config_init) := ⟨rfl, rfl, rfl, by decide +kernel, rfl, by decide +kernel, by decide +kernel⟩
theorem ok_Config_init (T : Txt w K mg) : ∃ fd, FnOk P w K mg base CX0 3 (He.ma K (cConfig K) "__init__") fd ["self", "tokens", "balances", "guards", "depth", "window", "delay", "bundle"] (spCfg K) ∧
    ∃ mv : List Value, KBn K fd ["self", "tokens", "balances", "guards", "depth", "window", "delay", "bundle"] 1 ["tokens", "balances", "guards", "depth", "window"] (fun us ws => us ++ (ws ++ mv)) (fun vs zs => vs ++ (zs ++ [.int 2, .int 4])) := by
  obtain ⟨fd1, G_is_set, b_is_set, k_is_set⟩ := ok_is_set (P := P) (base := base) T
  obtain ⟨tk1, h_MOST_TOKEN_SIGNS⟩ := T.i_MOST_TOKEN_SIGNS
  obtain ⟨tk2, h_MOST_BUNDLED_config⟩ := T.i_MOST_BUNDLED_config
  have h_SIDES_config := T.g_SIDES_config
  have hS := fun H => He.tupB_ok (exB_split T.ex).1 H
  obtain ⟨fd, F⟩ := T.dfn 6 (d := d_Config_init) rfl
  refine ⟨fd, ?_, ?_⟩
  · refine F.ok (k := 2) sc_Config_init (fun vs H Q E h => ?_) (fun cdv A outer s H vs Q E hr h => ?_)
    · obtain ⟨p, dx, lt, lb, ga, t1, t2, gs, lim, win, rfl, _⟩ := h
      rfl
    · obtain ⟨p, dx, lt, lb, ga, t1, t2, gs, lim, win, rfl, hp, hlt, hlb, ht1, ht2, hgs, hgood, hlim, hwin, q⟩ := h
      have hu := hu_of hr
      refine ⟨_, PSs.nox (pss_cons (ps_fld (pv 0) pe_dnewK rfl)
      (pss_cons (ps_for PassesOwn.never rfl (pi_list (pv 1)) (pg_tup (by rfl) (pgs_cons (pg_name (i := 8) sc_Config_init.nd rfl (Or.inl rfl)) (pgs_cons (pg_name (i := 9) sc_Config_init.nd rfl (Or.inl rfl)) (pgs_cons (pg_name (i := 10) sc_Config_init.nd rfl (Or.inl rfl)) (pgs_cons (pg_name (i := 11) sc_Config_init.nd rfl (Or.inl rfl)) (pgs_cons (pg_name (i := 12) sc_Config_init.nd rfl (Or.inl rfl)) pgs_nil)))))) (pss_cons (ps_if (PW.pt (pw_or (pt_not (pt_chain op_le op_le pe_int (pe_callB call_len_str (by rfl) T.f_len boot_len (pa_cons (pv 8) pa_nil)) (pe_glob (v := .int 12) rfl h_MOST_TOKEN_SIGNS ⟨_, rfl⟩))) (pw_or (pt_cmp (pc_din hu (pv 8) (pe_fld (pv 0) rfl))) (pw_or1 (pt_cmpR op_notIn_seq (pv 9) (pe_glob (v := .ref (He.ga K "SIDES_config")) rfl h_SIDES_config rfl) (by rfl)))))) (pss_one ps_never) pss_nil)
      (pss_cons (ps_if (PW.pt (pw_or (pt_cmpR op_lt (pv 10) pe_int (nomark _)) (pw_or (pt_cmpR op_lt (pv 11) pe_int (nomark _)) (pw_or1 (pt_cmpR op_lt (pv 12) pe_int (nomark _)))))) (pss_one ps_never) pss_nil)
      (pss_one (ps_dput hu (pe_fld (pv 0) rfl) (pv 8) (pe_tup (pa_cons (pv 9) (pa_cons (pv 10) (pa_cons (pv 11) (pa_cons (pv 12) pa_nil))))) rfl)))))
      (pss_cons (ps_for PassesOwn.never rfl (pi_list (pv 2)) (pg_tup (by rfl) (pgs_cons (pg_name (i := 13) sc_Config_init.nd rfl (Or.inl rfl)) (pgs_cons (pg_name (i := 14) sc_Config_init.nd rfl (Or.inl rfl)) (pgs_cons (pg_name (i := 15) sc_Config_init.nd rfl (Or.inl rfl)) pgs_nil)))) pss_never)
      (pss_cons (ps_if (PW.pt (pw_or (pt_not (pt_val (pe_call G_is_set (hr.mono (by decide)) rfl T.g_is_set k_is_set b_is_set .nil pass0 (pa_cons (pv 3) pa_nil)))) (pw_or (pt_cmpR op_lt (pv 4) pe_int (nomark _)) (pw_or (pt_cmpR op_lt (pv 5) pe_int (nomark _)) (pw_or (pt_cmpR op_lt (pv 6) pe_int (nomark _)) (pw_or1 (pt_not (pt_chain op_le op_le pe_int (pv 7) (pe_glob (v := .int 8) rfl h_MOST_BUNDLED_config ⟨_, rfl⟩))))))))) (pss_one ps_never) pss_nil)
      (pss_cons (ps_fld (pv 0) (pe_callTy call_list_of (by rfl) T.f_list boot_list (pa_cons (pv 2) pa_nil)) rfl)
      (pss_cons (ps_fld (pv 0) (pv 3) rfl)
      (pss_cons (ps_fld (pv 0) (pv 4) rfl)
      (pss_cons (ps_fld (pv 0) (pv 5) rfl)
      (pss_cons (ps_fld (pv 0) (pv 6) rfl)
      (pss_one (ps_fld (pv 0) (pv 7) rfl))))))))))), ?_⟩
      intro dt hdt
      have n_p : p ≠ dt := ne_of_none hp hdt
      refine ⟨_, rfl, p, _, dx, _, rfl, get_old hp hdt, T.cl_Config, T.n_Config_table, (by show 0 < 1000; decide), ?_⟩
      have kb0 : KB p H (upd (upd H dt (.dK [])) p (.ins (cConfig K) dx (putF "table" (.ref dt) []))) := (KB.refl p H |>.new hdt).own
      have n_lt : lt ≠ p := ne_of hlt hp (fun z => nomatch z)
      have n_lb : lb ≠ p := ne_of hlb hp (fun z => nomatch z)
      refine ⟨_, rfl, lt, rfl, ⟨_, SqL.of (kb0 _ _ hlt n_lt)⟩, for_list (K := K) (a := lt) (xs := [.ref t1, .ref t2])
        (fun i σ H2 => ∃ (v8 v9 v10 v11 v12 : Option V) (kvs : List (Key × V)), σ = [some (.ref p), some (.ref lt), some (.ref lb), some (.ref ga), some (.int 1), some (.int win), some (.int 2), some (.int 4), v8, v9, v10, v11, v12, none, none, none] ∧
          KB p H H2 ∧ H2 p = some (.ins (cConfig K) dx (putF "table" (.ref dt) [])) ∧ H2 dt = some (.dK kvs) ∧ Tb H2 lim i kvs)
        ⟨none, none, none, none, none, [], rfl, kb0, upd_same, get_ne upd_same n_p.symm, rfl⟩ (fun i σ H2 _ ⟨_, _, _, _, _, _, _, k2, _⟩ => SqL.of (k2 _ _ hlt n_lt)) ?_ ?_⟩
      · rintro i y σ H2 hi ⟨v8, v9, v10, v11, v12, kvs, rfl, k2, hp2, hdt2, tb⟩
        -- the token at hand
        obtain ⟨t, nm, sc, li, rfl, ht, hl1, hl2, hsc, hli, hno, hnext⟩ : ∃ (t : Addr) (nm : Str) (sc li : Int), y = .ref t ∧ H2 t = some (.tup [.str nm, .str "east", .int sc, .int li, .int 1000000]) ∧ 1 ≤ nm.length ∧ nm.length ≤ 12 ∧ 1 ≤ sc ∧ 0 ≤ li ∧ valV kvs (Sum.inr nm) = none ∧
            ∀ (u : Addr) (H3 : Hp), H2 u = none → (∀ b o, H2 b = some o → b ≠ dt → H3 b = some o) → H3 u = some (.tup [.str "east", .int sc, .int li, .int 1000000]) → Tb H3 lim (i + 1) (kvs ++ [(Sum.inr nm, .ref u)]) := by
          have n1 : t1 ≠ p := ne_of ht1 hp (fun z => nomatch z)
          have n2 : t2 ≠ p := ne_of ht2 hp (fun z => nomatch z)
          match i, hi, tb with
          | 0, hi, tb =>
            cases hi
            obtain rfl : kvs = [] := tb
            exact ⟨t1, "coin", 3, lim, rfl, k2 _ _ ht1 n1, by rw [len_coin]; decide, by rw [len_coin]; decide, by decide, hlim, rfl, fun u H3 _ _ h3 => ⟨u, rfl, h3⟩⟩
          | 1, hi, tb =>
            cases hi
            obtain ⟨u1, rfl, hu1⟩ := tb
            refine ⟨t2, "gold", 1, 1000, rfl, k2 _ _ ht2 n2, by rw [len_gold]; decide, by rw [len_gold]; decide, by decide, by decide, ?_, fun u H3 _ h3 h4 => ⟨u1, u, rfl, h3 _ _ hu1 (ne_of hu1 hdt2 (fun z => nomatch z)), h4⟩⟩
            rw [valV_neg (fun e => ne_cg (Sum.inr.inj e))]
            rfl
          | i + 2, hi, tb => cases hi
        refine ⟨t, _, rfl, SqT.of ht, rfl, _, _, rfl, _, _, rfl, _, _, rfl, _, _, rfl, _, _, rfl, rfl, ?_⟩
        -- if not 1 <= len(name) <= .. or name in self.table or home not in SIDES
        refine ⟨_, rfl, nm, rfl, Nat.le_trans hl2 (by decide), _, _, rfl, rfl, true, congrArg V.bl (decide_eq_true (by omega)), iteT ?_⟩
        refine ⟨_, _, rfl, rfl, _, rfl, ?_⟩
        rw [decide_eq_true (show (nm.length : Int) ≤ 12 by omega)]
        refine iteF ?_
        refine ⟨_, rfl, _, rfl, p, _, dx, _, _, rfl, hp2, T.cl_Config, T.n_Config_table, (by rw [lookup_putF, if_pos rfl]), dt, _, rfl, DGet.k (k := Sum.inr nm) hdt2, _, rfl, ?_⟩
        rw [hno]
        refine iteF ?_
        refine ⟨_, rfl, _, _, rfl, .inr (hS _), rfl, flat_sides K, _, rfl, ?_⟩
        rw [in_sides]
        refine iteF ?_
        -- if scale < 1 or limit < 0 or large < 1
        refine ⟨_, rfl, _, _, rfl, rfl, _, rfl, ?_⟩
        rw [decide_eq_false (show ¬ sc < 1 by omega)]
        refine iteF ?_
        refine ⟨_, rfl, _, _, rfl, rfl, _, rfl, ?_⟩
        rw [decide_eq_false (show ¬ li < 0 by omega)]
        refine iteF ?_
        refine ⟨_, rfl, _, _, rfl, rfl, _, rfl, ?_⟩
        rw [decide_eq_false (show ¬ (1000000 : Int) < 1 by decide)]
        refine iteF ?_
        -- self.table[name] = (home, scale, limit, large)
        refine ⟨_, rfl, _, rfl, _, rfl, _, rfl, (by show 4 ≤ sizeLine; decide), fun u hu0 => ?_⟩
        have hp3 := get_old (u := .tup [.str "east", .int sc, .int li, .int 1000000]) hp2 hu0
        have hdt3 := get_old (u := .tup [.str "east", .int sc, .int li, .int 1000000]) hdt2 hu0
        have kl : kvs.length < sizeLine := by
          match i, hi, tb with
          | 0, _, tb =>
            obtain rfl : kvs = [] := tb
            show 0 < sizeLine
            decide
          | 1, _, tb =>
            obtain ⟨u1, rfl, _⟩ := tb
            show 1 < sizeLine
            decide
          | i + 2, hi, _ => cases hi
        refine ⟨_, rfl, p, _, dx, _, _, rfl, hp3, T.cl_Config, T.n_Config_table, (by rw [lookup_putF, if_pos rfl]), _, rfl, dt, _, rfl, DPut.k (k := Sum.inr nm) hdt3 kl, ?_⟩
        have nu : u ≠ dt := fun e => by
          rw [e, hdt2] at hu0
          cases hu0
        refine ⟨_, _, _, _, _, _, rfl, (k2.new hu0).mut hdt, get_ne hp3 n_p, upd_same, ?_⟩
        rw [putK_new _ hno]
        exact hnext u _ hu0 (fun b o e n => get_ne (get_old e hu0) n) (get_ne upd_same nu)
      · rintro σ H2 ⟨v8, v9, v10, v11, v12, kvs, rfl, k2, hp2, hdt2, u1, u2, rfl, hu1, hu2⟩
        refine ⟨_, rfl, lb, rfl, ⟨_, SqL.of (k2 _ _ hlb n_lb)⟩, for_list (K := K) (a := lb) (xs := []) (fun i σ H3 => σ = [some (.ref p), some (.ref lt), some (.ref lb), some (.ref ga), some (.int 1), some (.int win), some (.int 2), some (.int 4), v8, v9, v10, v11, v12, none, none, none] ∧ H3 = H2)
          ⟨rfl, rfl⟩ (fun i σ H3 _ ⟨_, e⟩ => by rw [e]; exact SqL.of (k2 _ _ hlb n_lb)) (fun i y σ H3 hi _ => by cases hi) ?_⟩
        rintro σ H3 ⟨rfl, rfl⟩
        have n_ga : ga ≠ p := ne_of hgs.1 hp (fun z => nomatch z)
        have hgs2 : GsAt H3 ga gs := ⟨k2 _ _ hgs.1 n_ga, fun g hg => k2 _ _ (hgs.2 g hg) (ne_of (hgs.2 g hg) hp (fun z => nomatch z))⟩
        refine ⟨_, rfl, ga, gs, rfl, hgs2, hgood, fun H4 s4 => ⟨true, rfl, iteF ?_⟩⟩
        refine ⟨_, rfl, _, _, rfl, rfl, _, rfl, ?_⟩
        rw [decide_eq_false (show ¬ (1 : Int) < 1 by decide)]
        refine iteF ?_
        refine ⟨_, rfl, _, _, rfl, rfl, _, rfl, ?_⟩
        rw [decide_eq_false (show ¬ win < 1 by omega)]
        refine iteF ?_
        refine ⟨_, rfl, _, _, rfl, rfl, _, rfl, ?_⟩
        rw [decide_eq_false (show ¬ (2 : Int) < 0 by decide)]
        refine iteF ?_
        refine ⟨_, rfl, _, _, rfl, rfl, true, congrArg V.bl (decide_eq_true (by decide)), iteT ?_⟩
        refine ⟨_, _, rfl, rfl, _, rfl, ?_⟩
        rw [decide_eq_true (show (4 : Int) ≤ 8 by decide)]
        refine iteF ?_
        -- the fields
        have k4 : KB p H H4 := k2.step s4
        have hp4 := s4 _ _ hp2
        refine ⟨_, rfl, lb, _, rfl, .inl (SqL.of (k4 _ _ hlb n_lb)), fun l2 hl2 => ?_⟩
        refine ⟨_, rfl, p, _, dx, _, rfl, get_old hp4 hl2, T.cl_Config, T.n_Config_balances, lt_of_lt (n := 1) (m := 2) (Nat.le_refl 2) (by decide), ?_⟩
        refine ⟨_, rfl, _, rfl, p, _, dx, _, rfl, upd_same, T.cl_Config, T.n_Config_first_set, lt_of_lt (put_lt (put_lt (Nat.succ_pos 0))) (by decide), ?_⟩
        refine ⟨_, rfl, _, rfl, p, _, dx, _, rfl, upd_same, T.cl_Config, T.n_Config_deep, lt_of_lt (put_lt (put_lt (put_lt (Nat.succ_pos 0)))) (by decide), ?_⟩
        refine ⟨_, rfl, _, rfl, p, _, dx, _, rfl, upd_same, T.cl_Config, T.n_Config_wide, lt_of_lt (put_lt (put_lt (put_lt (put_lt (Nat.succ_pos 0))))) (by decide), ?_⟩
        refine ⟨_, rfl, _, rfl, p, _, dx, _, rfl, upd_same, T.cl_Config, T.n_Config_slow, lt_of_lt (put_lt (put_lt (put_lt (put_lt (put_lt (Nat.succ_pos 0)))))) (by decide), ?_⟩
        refine ⟨_, rfl, _, rfl, p, _, dx, _, rfl, upd_same, T.cl_Config, T.n_Config_grouped, lt_of_lt (put_lt (put_lt (put_lt (put_lt (put_lt (put_lt (Nat.succ_pos 0))))))) (by decide), ?_⟩
        have nl2 : l2 ≠ p := fun e => by
          rw [e, hp4] at hl2
          cases hl2
        have keep : ∀ b o, H4 b = some o → b ≠ p → ∀ o1 o2 o3 o4 o5 o6, upd (upd (upd (upd (upd (upd (upd H4 l2 (.lst [])) p o1) p o2) p o3) p o4) p o5) p o6 b = some o := fun b o e n o1 o2 o3 o4 o5 o6 =>
          get_ne (get_ne (get_ne (get_ne (get_ne (get_ne (get_old e hl2) n) n) n) n) n) n
        refine q _ (fun b o e n => keep b o (k4 b o e n) n _ _ _ _ _ _) ⟨dx, dt, l2, u1, u2, ?_, ?_, ?_, ?_, ?_⟩
        · rw [upd_same, cf_mk]
        · exact keep _ _ (s4 _ _ hdt2) n_p.symm _ _ _ _ _ _
        · exact keep _ _ (s4 _ _ hu1) (ne_of hu1 hp2 (fun z => nomatch z)) _ _ _ _ _ _
        · exact keep _ _ (s4 _ _ hu2) (ne_of hu2 hp2 (fun z => nomatch z)) _ _ _ _ _ _
        · exact get_ne (get_ne (get_ne (get_ne (get_ne (get_ne upd_same nl2) nl2) nl2) nl2) nl2) nl2
  · exact FunD.kbinds0 F 1 ["tokens", "balances", "guards", "depth", "window"] [("delay", .int 2), ("bundle", .int 4)] (fun vs mz zs => vs ++ (zs ++ mz)) (by intro z; cases z) (fun q hq => List.mem_cons_of_mem _ (List.mem_cons_of_mem _ hq))
      (fun r1 r2 r3 => r1.append (r3.append r2)) (fun D doc pm an cdv ct us mv ws h1 h2 h3 => match us, mv, ws, h1, h2, h3 with
        | [_], [_, _], [_, _, _, _, _], _, _, _ => ⟨_, _, _, _, _, _, rfl, rfl, _, _, _, _, _, _, rfl, rfl, rfl⟩)
end
end Vb
set_option Elab.async false
set_option linter.all false
set_option maxRecDepth 100000
set_option maxHeartbeats 4000000
/-! the configuration's methods -/
namespace Vb
open PySem PySem.Spec PyProof.Rows L2
def isTok (x : Str) : Prop := x = "coin" ∨ x = "gold"
def limOf (lim : Int) (x : Str) : Int := if x = "coin" then lim else 1000
def rowT (lim : Int) (x : Str) : List V := [.str "east", .int (if x = "coin" then 3 else 1), .int (limOf lim x), .int 1000000]
theorem row_coin (lim : Int) : rowT lim "coin" = rowC lim := by
  unfold rowT limOf
  rw [if_pos rfl, if_pos rfl] <;> rfl
theorem row_gold (lim : Int) : rowT lim "gold" = rowG := by
  unfold rowT limOf
  rw [if_neg ne_gc, if_neg ne_gc] <;> rfl
/-- the row of a token in the table -/
theorem CfgAt.row {K : PySem.W.Frag} {H : Hp} {c : Addr} {lim win : Int} {ga : Addr} (x : CfgAt K H c lim win ga) {nm : Str} (hn : isTok nm) :
    ∃ dx dt lb u kvs, H c = some (.ins (cConfig K) dx (cf (.ref dt) (.ref lb) (.ref ga) (.int 1) (.int win) (.int 2) (.int 4))) ∧ H dt = some (.dK kvs) ∧ valV kvs (Sum.inr nm) = some (.ref u) ∧ H u = some (.tup (rowT lim nm)) := by
  obtain ⟨dx, dt, lb, u1, u2, h1, h2, h3, h4, h5⟩ := x.ex
  rcases hn with rfl | rfl
  · exact ⟨dx, dt, lb, u1, _, h1, h2, val_coin u1 u2, by rw [row_coin]; exact h3⟩
  · exact ⟨dx, dt, lb, u2, _, h1, h2, val_gold u1 u2, by rw [row_gold]; exact h4⟩
section
variable {P : Program} {w : World} {K : PySem.W.Frag} {mg : Str → Option Value} {base : Heap}
def spToken (K : PySem.W.Frag) : Sp := fun vs H Q _ => ∃ (c ga : Addr) (lim win : Int) (nm : Str), vs = [.ref c, .str nm] ∧ CfgAt K H c lim win ga ∧ isTok nm ∧ ∀ u, H u = some (.tup (rowT lim nm)) → Q (.ref u) H
theorem sc_Config_token : FnScope ["self", "name"] ["self", "name"] (defScope s_Config_token) := ⟨rfl, rfl, rfl, by decide +kernel, rfl, by decide +kernel, by decide +kernel⟩
theorem ok_Config_token (T : Txt w K mg) : Ok P w K mg base CX0 1 ("Config", some "token") ["self", "name"] (spToken K) := by
  refine mk_ok T 7 (d := d_Config_token) rfl sc_Config_token rfl rfl (fun _ _ _ _ _ _ us hl => match us, hl with | [_, _], _ => rfl) (fun vs H Q E h => ?_) (fun cdv A outer s H vs Q E hr h => ?_)
  · obtain ⟨c, ga, lim, win, nm, rfl, _⟩ := h
    rfl
  · obtain ⟨c, ga, lim, win, nm, rfl, hc, hn, q⟩ := h
    have hu := hu_of hr
    obtain ⟨dx, dt, lb, u, kvs, h1, h2, h3, h4⟩ := hc.row hn
    refine ⟨_, (pss_cons (ps_if (pt_cmp (pc_dnotin hu (pv 1) (pe_fld (pv 0) rfl))) (pss_one ps_never) pss_nil)
      (pss_one (ps_ret (pe_dget hu (pe_fld (pv 0) rfl) (pv 1) (fun _ _ => rfl))))), ?_⟩
    refine ⟨_, rfl, _, rfl, c, _, dx, _, _, rfl, h1, T.cl_Config, T.n_Config_table, cf_table, dt, _, rfl, DGet.k (k := Sum.inr nm) h2, _, rfl, ?_⟩
    rw [h3]
    refine iteF ?_
    exact ⟨_, rfl, c, _, dx, _, _, rfl, h1, T.cl_Config, T.n_Config_table, cf_table, _, rfl, dt, _, rfl, h3 ▸ DGet.k (k := Sum.inr nm) h2, q u h4⟩
def spHome (K : PySem.W.Frag) : Sp := fun vs H Q _ => ∃ (c ga : Addr) (lim win : Int) (nm : Str), vs = [.ref c, .str nm] ∧ CfgAt K H c lim win ga ∧ isTok nm ∧ Q (.str "east") H
theorem sc_Config_home : FnScope ["self", "token"] ["self", "token"] (defScope s_Config_home) := ⟨rfl, rfl, rfl, by decide +kernel, rfl, by decide +kernel, by decide +kernel⟩
theorem ok_Config_home (T : Txt w K mg) : Ok P w K mg base CX0 2 ("Config", some "home") ["self", "token"] (spHome K) := by
  obtain ⟨fd1, G_Config_token, b_Config_token, _⟩ := ok_Config_token (P := P) (base := base) T
  refine mk_ok T 8 (d := d_Config_home) rfl sc_Config_home rfl rfl (fun _ _ _ _ _ _ us hl => match us, hl with | [_, _], _ => rfl) (fun vs H Q E h => ?_) (fun cdv A outer s H vs Q E hr h => ?_)
  · obtain ⟨c, ga, lim, win, nm, rfl, _⟩ := h
    rfl
  · obtain ⟨c, ga, lim, win, nm, rfl, hc, hn, q⟩ := h
    obtain ⟨dx, dt, lb, u1, u2, h1, _⟩ := id hc.ex
    refine ⟨_, (pss_one (ps_ret (pe_ix ix_tup (pe_meth (pv 0) T.cl_Config T.m_Config_token G_Config_token (hr.mono (by decide)) b_Config_token .nil pass0 (pa_cons (pv 1) pa_nil)) pe_int (fun _ _ => rfl)))), ?_⟩
    refine ⟨_, rfl, c, dx, _, rfl, h1, cf_no_token, _, rfl, c, ga, lim, win, nm, rfl, hc, hn, fun u hu => ?_⟩
    exact ⟨_, _, _, _, rfl, rfl, SqT.of hu, at0 rfl, q⟩
def spLimit (K : PySem.W.Frag) : Sp := fun vs H Q _ => ∃ (c ga : Addr) (lim win : Int) (nm : Str), vs = [.ref c, .str nm] ∧ CfgAt K H c lim win ga ∧ isTok nm ∧ Q (.int (limOf lim nm)) H
theorem sc_Config_limit : FnScope ["self", "token"] ["self", "token"] (defScope s_Config_limit) := ⟨rfl, rfl, rfl, by decide +kernel, rfl, by decide +kernel, by decide +kernel⟩
theorem ok_Config_limit (T : Txt w K mg) : Ok P w K mg base CX0 2 ("Config", some "limit") ["self", "token"] (spLimit K) := by
  obtain ⟨fd1, G_Config_token, b_Config_token, _⟩ := ok_Config_token (P := P) (base := base) T
  refine mk_ok T 9 (d := d_Config_limit) rfl sc_Config_limit rfl rfl (fun _ _ _ _ _ _ us hl => match us, hl with | [_, _], _ => rfl) (fun vs H Q E h => ?_) (fun cdv A outer s H vs Q E hr h => ?_)
  · obtain ⟨c, ga, lim, win, nm, rfl, _⟩ := h
    rfl
  · obtain ⟨c, ga, lim, win, nm, rfl, hc, hn, q⟩ := h
    obtain ⟨dx, dt, lb, u1, u2, h1, _⟩ := id hc.ex
    refine ⟨_, (pss_one (ps_ret (pe_ix ix_tup (pe_meth (pv 0) T.cl_Config T.m_Config_token G_Config_token (hr.mono (by decide)) b_Config_token .nil pass0 (pa_cons (pv 1) pa_nil)) pe_int (fun _ _ => rfl)))), ?_⟩
    refine ⟨_, rfl, c, dx, _, rfl, h1, cf_no_token, _, rfl, c, ga, lim, win, nm, rfl, hc, hn, fun u hu => ?_⟩
    exact ⟨_, _, _, _, rfl, rfl, SqT.of hu, at2 rfl, q⟩
def spLarge (K : PySem.W.Frag) : Sp := fun vs H Q _ => ∃ (c ga : Addr) (lim win : Int) (nm : Str), vs = [.ref c, .str nm] ∧ CfgAt K H c lim win ga ∧ isTok nm ∧ Q (.int 1000000) H
theorem sc_Config_large : FnScope ["self", "token"] ["self", "token"] (defScope s_Config_large) := ⟨rfl, rfl, rfl, by decide +kernel, rfl, by decide +kernel, by decide +kernel⟩
theorem ok_Config_large (T : Txt w K mg) : Ok P w K mg base CX0 2 ("Config", some "large") ["self", "token"] (spLarge K) := by
  obtain ⟨fd1, G_Config_token, b_Config_token, _⟩ := ok_Config_token (P := P) (base := base) T
  refine mk_ok T 10 (d := d_Config_large) rfl sc_Config_large rfl rfl (fun _ _ _ _ _ _ us hl => match us, hl with | [_, _], _ => rfl) (fun vs H Q E h => ?_) (fun cdv A outer s H vs Q E hr h => ?_)
  · obtain ⟨c, ga, lim, win, nm, rfl, _⟩ := h
    rfl
  · obtain ⟨c, ga, lim, win, nm, rfl, hc, hn, q⟩ := h
    obtain ⟨dx, dt, lb, u1, u2, h1, _⟩ := id hc.ex
    refine ⟨_, (pss_one (ps_ret (pe_ix ix_tup (pe_meth (pv 0) T.cl_Config T.m_Config_token G_Config_token (hr.mono (by decide)) b_Config_token .nil pass0 (pa_cons (pv 1) pa_nil)) pe_int (fun _ _ => rfl)))), ?_⟩
    refine ⟨_, rfl, c, dx, _, rfl, h1, cf_no_token, _, rfl, c, ga, lim, win, nm, rfl, hc, hn, fun u hu => ?_⟩
    exact ⟨_, _, _, _, rfl, rfl, SqT.of hu, at3 rfl, q⟩
/-- a new list of nothing -/
def spOpening (K : PySem.W.Frag) : Sp := fun vs H Q _ => ∃ (c ga : Addr) (lim win : Int) (x : Str), vs = [.ref c, .str x] ∧ CfgAt K H c lim win ga ∧ ∀ p, H p = none → Q (.ref p) (upd H p (.lst []))
theorem sc_Config_opening : FnScope ["self", "side", "row"] ["self", "side"] (defScope s_Config_opening) := ⟨rfl, rfl, rfl, by decide +kernel, rfl, by decide +kernel, by decide +kernel⟩
theorem ok_Config_opening (T : Txt w K mg) : Ok P w K mg base CX0 3 ("Config", some "opening") ["self", "side"] (spOpening K) := by
  obtain ⟨fd1, G_Config_home, b_Config_home, _⟩ := ok_Config_home (P := P) (base := base) T
  refine mk_ok T 11 (d := d_Config_opening) rfl sc_Config_opening rfl rfl (fun _ _ _ _ _ _ us hl => match us, hl with | [_, _], _ => rfl) (fun vs H Q E h => ?_) (fun cdv A outer s H vs Q E hr h => ?_)
  · obtain ⟨c, ga, lim, win, x, rfl, _⟩ := h
    rfl
  · obtain ⟨c, ga, lim, win, x, rfl, hc, q⟩ := h
    obtain ⟨dx, dt, lb, u1, u2, h1, _, _, _, h5⟩ := id hc.ex
    refine ⟨_, (pss_one (ps_ret (pe_lc (own := [("row", 2)]) (g := (gName 2)) rfl sc_Config_opening.nd (pi_list (pe_fld (pv 0) rfl)) (blkOk_by (N := ["self", "side", "row"]) (sc := defScope s_Config_opening) (by decide +kernel)) (fun _ _ _ _ _ => (pg_name (i := 2) sc_Config_opening.nd rfl (Or.inl rfl))) (fun _ _ _ _ _ => pts_one (pt_cmpR op_eq (pe_meth (pv 0) T.cl_Config T.m_Config_home G_Config_home (hr.mono (by decide)) b_Config_home .nil pass0 (pa_cons (pe_ix (r := rIxT K) ix_tup (pv 2) pe_int (fun _ _ => rfl)) pa_nil)) (pv 1) (nomark _))) (fun _ _ _ _ _ => (pv 2))))), ?_⟩
    refine ⟨_, rfl, c, _, dx, _, _, rfl, h1, T.cl_Config, T.n_Config_balances, cf_balances, lb, rfl, ⟨_, SqL.of h5⟩, fun D hD => lc_list (K := K) (a := lb) (xs := []) (fun i H2 => H2 = upd H D (.lst []))
      rfl (fun i H2 _ e => by rw [e]; exact SqL.of (get_old h5 hD)) (fun i y H2 hi _ => by cases hi) ?_⟩
    rintro H2 rfl
    exact q D hD
def spGuards (K : PySem.W.Frag) : Sp := fun vs H Q _ => ∃ (c ga : Addr) (lim win : Int), vs = [.ref c] ∧ CfgAt K H c lim win ga ∧ Q (.ref ga) H
theorem sc_Config_guards : FnScope ["self"] ["self"] (defScope s_Config_guards) := ⟨rfl, rfl, rfl, by decide +kernel, rfl, by decide +kernel, by decide +kernel⟩
theorem ok_Config_guards (T : Txt w K mg) : Ok P w K mg base CX0 1 ("Config", some "guards") ["self"] (spGuards K) := by
  refine mk_ok T 12 (d := d_Config_guards) rfl sc_Config_guards rfl rfl (fun _ _ _ _ _ _ us hl => match us, hl with | [_], _ => rfl) (fun vs H Q E h => ?_) (fun cdv A outer s H vs Q E hr h => ?_)
  · obtain ⟨c, ga, lim, win, rfl, _⟩ := h
    rfl
  · obtain ⟨c, ga, lim, win, rfl, hc, q⟩ := h
    obtain ⟨dx, dt, lb, u1, u2, h1, _⟩ := id hc.ex
    refine ⟨_, (pss_one (ps_ret (pe_fld (pv 0) rfl))), ?_⟩
    exact ⟨_, rfl, c, _, dx, _, _, rfl, h1, T.cl_Config, T.n_Config_first_set, cf_first_set, q⟩
def spWindow (K : PySem.W.Frag) : Sp := fun vs H Q _ => ∃ (c ga : Addr) (lim win : Int), vs = [.ref c] ∧ CfgAt K H c lim win ga ∧ Q (.int win) H
theorem sc_Config_window : FnScope ["self"] ["self"] (defScope s_Config_window) := ⟨rfl, rfl, rfl, by decide +kernel, rfl, by decide +kernel, by decide +kernel⟩
theorem ok_Config_window (T : Txt w K mg) : Ok P w K mg base CX0 1 ("Config", some "window") ["self"] (spWindow K) := by
  refine mk_ok T 13 (d := d_Config_window) rfl sc_Config_window rfl rfl (fun _ _ _ _ _ _ us hl => match us, hl with | [_], _ => rfl) (fun vs H Q E h => ?_) (fun cdv A outer s H vs Q E hr h => ?_)
  · obtain ⟨c, ga, lim, win, rfl, _⟩ := h
    rfl
  · obtain ⟨c, ga, lim, win, rfl, hc, q⟩ := h
    obtain ⟨dx, dt, lb, u1, u2, h1, _⟩ := id hc.ex
    refine ⟨_, (pss_one (ps_ret (pe_fld (pv 0) rfl))), ?_⟩
    exact ⟨_, rfl, c, _, dx, _, _, rfl, h1, T.cl_Config, T.n_Config_wide, cf_wide, q⟩
end
end Vb
set_option Elab.async false
set_option linter.all false
set_option maxRecDepth 100000
set_option maxHeartbeats 4000000
/-! notary.py -/
namespace Vb
open PySem PySem.Spec PyProof.Rows L2
/-! ### a letter as a key, as data -/
def trK (t : Tr) : NestedKey := .tup [.text t.tok, .num t.un, .num 0, .text "ann", .text "bob", .num t.dl]
def leK (k : Int) (t : Tr) : NestedKey := .tup [.text "deliver", .text "east", .num k, trK t]
def nkey (g : Str) (k : Int) (t : Tr) : NestedKey := .tup [.text g, leK k t]
theorem nkey_inj {g g' : Str} {k k' : Int} {t t' : Tr} (h : nkey g k t = nkey g' k' t') : g = g' ∧ k = k' ∧ t = t' := by
  obtain ⟨a, b, c⟩ := t
  obtain ⟨a', b', c'⟩ := t'
  simp only [nkey, leK, trK, NestedKey.tup.injEq, NestedKey.text.injEq, NestedKey.num.injEq, List.cons.injEq, and_true, true_and] at h
  obtain ⟨h1, h2, h3, h4, h5⟩ := h
  subst h1 h2 h3 h4 h5
  exact ⟨rfl, rfl, rfl⟩
theorem nkey_depth (g : Str) (k : Int) (t : Tr) : (nkey g k t).depth ≤ 8 := by
  simp [nkey, leK, trK, NestedKey.depth, NestedKey.depthAll]
theorem LeAt.nk {H : Hp} {L : Le} (h : LeAt H L) : NK H (.ref L.a) (leK L.k L.t) :=
  .tup h.1 (.cons (.str _) (.cons (.str _) (.cons (.int _) (.cons (.tup h.2 (.cons (.str _) (.cons (.int _) (.cons (.int _) (.cons (.str _) (.cons (.str _) (.cons (.int _) .nil))))))) .nil))))
theorem pair_nk {H : Hp} {q : Addr} {g : Str} {L : Le} (hq : H q = some (.tup [.str g, .ref L.a])) (h : LeAt H L) : NK H (.ref q) (nkey g L.k L.t) := .tup hq (.cons (.str _) (.cons h.nk .nil))
def trD (t : Tr) : PyData := .tuple [.str t.tok, .int t.un, .int 0, .str "ann", .str "bob", .int t.dl]
def leD (k : Int) (t : Tr) : PyData := .tuple [.str "deliver", .str "east", .int k, trD t]
theorem trD_eqv (t t' : Tr) : PyData.eqv (trD t) (trD t') = decide (t = t') := by
  obtain ⟨a, b, c⟩ := t
  obtain ⟨a', b', c'⟩ := t'
  by_cases h1 : a = a' <;> by_cases h2 : b = b' <;> by_cases h3 : c = c' <;> simp [trD, PyData.eqv, PyData.eqvAll, h1, h2, h3]
theorem leD_eqv (k k' : Int) (t t' : Tr) : PyData.eqv (leD k t) (leD k' t') = (decide (k = k') && decide (t = t')) := by
  have h := trD_eqv t t'
  by_cases h1 : k = k'
  · subst h1
    simp [leD, PyData.eqv, PyData.eqvAll, h]
  · simp [leD, PyData.eqv, PyData.eqvAll, h1]
theorem okT_coin : PyData.strOk "coin" = true := by decide +kernel
theorem okT_gold : PyData.strOk "gold" = true := by decide +kernel
theorem okT_ann : PyData.strOk "ann" = true := by decide +kernel
theorem okT_bob : PyData.strOk "bob" = true := by decide +kernel
theorem okT_deliver : PyData.strOk "deliver" = true := by decide +kernel
theorem okT_east : PyData.strOk "east" = true := by decide +kernel
theorem tok_ok {t : Tr} (g : GoodTr t) : PyData.strOk t.tok = true := by
  rcases g.tok with e | e
  · rw [e]
    exact okT_coin
  · rw [e]
    exact okT_gold
theorem trD_shaped {t : Tr} (g : GoodTr t) : SeqAt.shaped (trD t) = true := by
  have := tok_ok g
  simp [SeqAt.shaped, trD, PyData.canLay0, PyData.canLayAll0, PyData.depth, PyData.depthAll, this, okT_ann, okT_bob]
theorem leD_shaped (k : Int) {t : Tr} (g : GoodTr t) : SeqAt.shaped (leD k t) = true := by
  have := tok_ok g
  simp [SeqAt.shaped, leD, trD, PyData.canLay0, PyData.canLayAll0, PyData.depth, PyData.depthAll, this, okT_ann, okT_bob, okT_deliver, okT_east]
theorem tr_dp {K : PySem.W.Frag} {H : Hp} {a : Addr} {t : Tr} (h : H a = some (.tup (trV t))) : Dp K H (.ref a) (trD t) := .tup (SqT.of h) (.cons (.str _) (.cons (.int _) (.cons (.int _) (.cons (.str _) (.cons (.str _) (.cons (.int _) .nil))))))
theorem LeAt.dp {K : PySem.W.Frag} {H : Hp} {L : Le} (h : LeAt H L) : Dp K H (.ref L.a) (leD L.k L.t) := .tup (SqT.of h.1) (.cons (.str _) (.cons (.str _) (.cons (.int _) (.cons (tr_dp h.2) .nil))))
theorem valV_mem {κ : Type} [DecidableEq κ] : ∀ {kvs : List (κ × V)} {k : κ} {v : V}, valV kvs k = some v → (k, v) ∈ kvs
  | [], k, v, h => by cases h
  | p :: r, k, v, h => by
    by_cases e : p.1 = k
    · rw [valV_pos e] at h
      have e2 := Option.some.inj h
      rw [← e, ← e2]
      exact List.mem_cons_self
    · rw [valV_neg e] at h
      exact List.mem_cons_of_mem _ (valV_mem h)
theorem NumsAt.keep {w : World} {H H' : Hp} {d : Addr} {kvs : List (NestedKey × V)} (x : NumsAt w H d kvs) (hd : H' d = H d) (m : ∀ b ys, H b = some (.tup ys) → H' b = some (.tup ys)) : NumsAt w H' d kvs := by
  obtain ⟨x1, x2, x3, xs, x4, x5⟩ := x
  exact ⟨x1, x2, x3, xs, hd.trans x4, x5.mono m⟩
theorem NumsAt.no {w : World} {H : Hp} {d : Addr} {kvs : List (NestedKey × V)} (x : NumsAt w H d kvs) {b : Addr} {o : HO} (hb : H b = some o) (n : ∀ φ, o ≠ .ext φ) : b ≠ d := by
  obtain ⟨_, _, _, xs, x4, _⟩ := x
  exact ne_of hb x4 (n _)
/-! ### the notary -/
/-- what is sealed: the entry's address, the guard, the letter -/
abbrev Te : Type := List (Addr × Str × Le)
structure NotAt (w : World) (K : PySem.W.Frag) (H : Hp) (n lt dn : Addr) (te : Te) : Prop where
  ob : ∃ dx, H n = some (.ins (cNotary K) dx (nf (.ref lt) (.ref dn)))
  ls : H lt = some (.lst (te.map fun e => .ref e.1))
  en : ∀ e ∈ te, H e.1 = some (.tup [.str e.2.1, .ref e.2.2.a]) ∧ LeAt H e.2.2
  nu : ∃ kvs, NumsAt w H dn kvs ∧ kvs.length = te.length ∧ ∀ p ∈ kvs, ∃ (i : Nat) (e : Addr × Str × Le), te[i]? = some e ∧ p.1 = nkey e.2.1 e.2.2.k e.2.2.t ∧ p.2 = .int i
theorem NotAt.mono {w : World} {K : PySem.W.Frag} {H H' : Hp} {n lt dn : Addr} {te : Te} (x : NotAt w K H n lt dn te) (s : Same H H') : NotAt w K H' n lt dn te := by
  obtain ⟨⟨dx, h1⟩, h2, h3, kvs, h4, h5, h6⟩ := x
  exact ⟨⟨dx, s _ _ h1⟩, s _ _ h2, fun e he => ⟨s _ _ (h3 e he).1, (h3 e he).2.mono s⟩, kvs, h4.mono s, h5, h6⟩
/-- all but these two stay -/
def KB2 (p q : Addr) (H H' : Hp) : Prop := ∀ b o, H b = some o → b ≠ p → b ≠ q → H' b = some o
section
variable {P : Program} {w : World} {K : PySem.W.Frag} {mg : Str → Option Value} {base : Heap}
def spNotInit (w : World) (K : PySem.W.Frag) : Sp := fun vs H Q _ => ∃ n dx : Addr, vs = [.ref n] ∧ H n = some (.ins (cNotary K) dx []) ∧ ∀ (H' : Hp) (lt dn : Addr), KB n H H' → H lt = none → H dn = none → NotAt w K H' n lt dn [] → Q .non H'
theorem sc_Notary_init : FnScope ["self"] ["self"] (defScope s_Notary_init) := ⟨rfl, rfl, rfl, by decide +kernel, rfl, by decide +kernel, by decide +kernel⟩
theorem ok_Notary_init (T : Txt w K mg) : Ok P w K mg base CX0 1 ("Notary", some "__init__") ["self"] (spNotInit w K) := by
  refine mk_ok T 28 (d := d_Notary_init) rfl sc_Notary_init rfl rfl (fun _ _ _ _ _ _ us hl => match us, hl with | [_], _ => rfl) (fun vs H Q E h => ?_) (fun cdv A outer s H vs Q E hr h => ?_)
  · obtain ⟨n, dx, rfl, _⟩ := h
    rfl
  · obtain ⟨n, dx, rfl, hn, q⟩ := h
    refine ⟨_, (pss_cons (ps_fld (pv 0) (pe_lst pa_nil) rfl)
      (pss_one (ps_fld (pv 0) pe_dnewN rfl))), ?_⟩
    refine ⟨Nat.zero_le _, fun lt hlt => ?_⟩
    refine ⟨_, rfl, n, _, dx, _, rfl, get_old hn hlt, T.cl_Notary, T.n_Notary_table, (by show 0 < 1000; decide), ?_⟩
    intro dn hdn hnu
    have hdn2 : upd H lt (.lst []) dn = none := by
      by_cases e : dn = n
      · rw [e, upd_same] at hdn
        cases hdn
      · rw [upd_ne e] at hdn
        exact hdn
    have hdn1 : H dn = none := (same_new hlt).free hdn2
    have nlt : lt ≠ n := fun e => by
      rw [e, hn] at hlt
      cases hlt
    have ndn : dn ≠ n := fun e => by
      rw [e, hn] at hdn1
      cases hdn1
    have nld : lt ≠ dn := fun e => by
      rw [← e, upd_same] at hdn2
      cases hdn2
    refine ⟨_, rfl, n, _, dx, _, rfl, get_ne upd_same ndn.symm, T.cl_Notary, T.n_Notary_numbers, lt_of_lt (put_lt (Nat.succ_pos 0)) (by decide), ?_⟩
    refine q _ lt dn (fun b o e nb => get_ne (get_old (get_ne (get_old e hlt) nb) hdn) nb) hlt hdn1 ⟨⟨dx, ?_⟩, ?_, fun e he => (by cases he), [], ?_, rfl, fun p hp => (by cases hp)⟩
    · rw [upd_same, nf_mk]
    · exact get_ne (get_ne (get_ne upd_same nlt) nld) nlt
    · refine hnu.keep (upd_ne ndn) fun b ys e => get_ne e ?_
      intro z
      rw [z, upd_ne ndn.symm, upd_same] at e
      cases e

def spSeal (w : World) (K : PySem.W.Frag) : Sp := fun vs H Q _ => ∃ (n lt dn : Addr) (te : Te) (g : Str) (L : Le), vs = [.ref n, .str g, .ref L.a] ∧ NotAt w K H n lt dn te ∧ LeAt H L ∧ GoodLe L ∧ te.length ≤ 1000 ∧
  ∀ (H' : Hp) (te' : Te) (i : Nat) (e : Addr × Str × Le), KB2 lt dn H H' → NotAt w K H' n lt dn te' → te'.length ≤ te.length + 1 → (∀ (j : Nat) x, te[j]? = some x → te'[j]? = some x) → te'[i]? = some e → e.2.1 = g → e.2.2.k = L.k → e.2.2.t = L.t → Q (.int i) H'
theorem sc_Notary_seal : FnScope ["self", "guard", "letter"] ["self", "guard", "letter"] (defScope s_Notary_seal) := ⟨rfl, rfl, rfl, by decide +kernel, rfl, by decide +kernel, by decide +kernel⟩
theorem ok_Notary_seal (T : Txt w K mg) : Ok P w K mg base CX0 4 ("Notary", some "seal") ["self", "guard", "letter"] (spSeal w K) := by
  obtain ⟨fd1, G_is_letter, b_is_letter, k_is_letter⟩ := ok_is_letter (P := P) (base := base) T
  refine mk_ok T 29 (d := d_Notary_seal) rfl sc_Notary_seal rfl rfl (fun _ _ _ _ _ _ us hl => match us, hl with | [_, _, _], _ => rfl) (fun vs H Q E h => ?_) (fun cdv A outer s H vs Q E hr h => ?_)
  · obtain ⟨n, lt, dn, te, g, L, rfl, _⟩ := h
    rfl
  · obtain ⟨n, lt, dn, te, g, L, rfl, hN, hL, hG, hlen, q⟩ := h
    have hu9 : A.units + 3 + 9 < cLine := by
      have := hr.un
      have e : (A.deeper (envOfC d_Notary_seal.qual d_Notary_seal.scope s.heap.objs.size (He.fAd K d_Notary_seal.at_) cdv)).units = A.units + 3 := rfl
      omega
    refine ⟨_, (pss_cons (ps_if (pt_not (pt_val (pe_call G_is_letter (hr.mono (by decide)) rfl T.g_is_letter k_is_letter b_is_letter .nil pass0 (pa_cons (pv 2) pa_nil)))) (pss_one ps_never) pss_nil)
      (pss_cons (ps_if (pt_cmpR (op_notInN hu9) (pe_tup (pa_cons (pv 1) (pa_cons (pv 2) pa_nil))) (pe_fld (pv 0) rfl) (by rfl)) (pss_cons (ps_asg (pe_callB call_len_seq (by rfl) T.f_len boot_len (pa_cons (pe_fld (pv 0) rfl) pa_nil)) (pg_sub (pe_fld (pv 0) rfl) (pe_tup (pa_cons (pv 1) (pa_cons (pv 2) pa_nil))) (set_n hu9)))
      (pss_one (ps_expr (pe_bm PySem.F.plainAttrs_list PySem.F.slot_list_append PySem.F.type_list_append mt_append (pe_fld (pv 0) rfl) (pa_cons (pe_tup (pa_cons (pv 1) (pa_cons (pv 2) pa_nil))) pa_nil))))) pss_nil)
      (pss_one (ps_ret (pe_nget hu9 (pe_fld (pv 0) rfl) (pe_tup (pa_cons (pv 1) (pa_cons (pv 2) pa_nil))) (fun _ _ => rfl)))))), ?_⟩
    refine ⟨_, rfl, L, rfl, hL, hG, fun H1 s1 => ⟨true, rfl, iteF ?_⟩⟩
    have N1 := hN.mono s1
    have L1 := hL.mono s1
    -- if (guard, letter) not in self.numbers
    refine ⟨_, rfl, _, rfl, (by show 2 ≤ sizeLine; decide), fun q1 hq1 => ?_⟩
    have s2 : Same H1 (upd H1 q1 (.tup [.str g, .ref L.a])) := same_new hq1
    have N2 := N1.mono s2
    have L2' := L1.mono s2
    obtain ⟨⟨dx, h1⟩, hls, hen, kvs, hnu, hkl, hkv⟩ := id N2
    refine ⟨_, rfl, n, _, dx, _, _, rfl, h1, T.cl_Notary, T.n_Notary_numbers, nf_numbers, q1, dn, _, kvs, rfl, rfl, pair_nk upd_same L2', nkey_depth _ _ _, hnu, _, rfl, ?_⟩
    have endn : ∀ (H3 : Hp) (te' : Te) (kvs3 : List (NestedKey × V)) (i : Nat) (e : Addr × Str × Le), KB2 lt dn H H3 → NotAt w K H3 n lt dn te' → NumsAt w H3 dn kvs3 → LeAt H3 L → te'.length ≤ te.length + 1 → (∀ (j : Nat) x, te[j]? = some x → te'[j]? = some x) → te'[i]? = some e → e.2.1 = g → e.2.2.k = L.k → e.2.2.t = L.t →
        valV kvs3 (nkey g L.k L.t) = some (.int i) →
        (tRet (tNGet w (tFld K (tVar 0) "numbers") (tTup (tCons (tVar 1) (tCons (tVar 2) tNil))))) { nx := fun x H' => Q V.non H', rt := Q } (L2.start ["self", "guard", "letter"] [.ref n, .str g, .ref L.a]) H3 := by
      intro H3 te' kvs3 i e kb N3 nu3 L3 hl3 hpre hi e1 e2 e3 hv
      obtain ⟨⟨dx3, h3⟩, _⟩ := id N3
      refine ⟨_, rfl, n, _, dx3, _, _, rfl, h3, T.cl_Notary, T.n_Notary_numbers, nf_numbers, _, rfl, _, rfl, (by show 2 ≤ sizeLine; decide), fun q4 hq4 => ?_⟩
      have s4 : Same H3 (upd H3 q4 (.tup [.str g, .ref L.a])) := same_new hq4
      exact ⟨q4, dn, _, kvs3, _, rfl, rfl, pair_nk upd_same (L3.mono s4), nkey_depth _ _ _, nu3.mono s4, hv, q _ te' i e (fun b o hb n1 n2 => s4 _ _ (kb b o hb n1 n2)) (N3.mono s4) hl3 hpre hi e1 e2 e3⟩
    cases hv : valV kvs (nkey g L.k L.t) with
    | some v =>
      refine iteF ?_
      obtain ⟨i, e, hi, e1, e2⟩ := hkv _ (valV_mem hv)
      obtain ⟨z1, z2, z3⟩ := nkey_inj e1
      have e2 : v = .int i := e2
      rw [e2] at hv
      exact endn _ te kvs i e (fun b o hb _ _ => s2 _ _ (s1 _ _ hb)) N2 hnu L2' (Nat.le_succ _) (fun _ _ h => h) hi z1.symm z2.symm z3.symm hv
    | none =>
      refine iteT ?_
      -- self.numbers[(guard, letter)] = len(self.table)
      refine ⟨_, rfl, n, _, dx, _, _, rfl, h1, T.cl_Notary, T.n_Notary_table, nf_table, lt, _, rfl, .inl (SqL.of hls), ?_⟩
      refine ⟨_, rfl, n, _, dx, _, _, rfl, h1, T.cl_Notary, T.n_Notary_numbers, nf_numbers, _, rfl, _, rfl, (by show 2 ≤ sizeLine; decide), fun q2 hq2 => ?_⟩
      obtain ⟨H2, hH2⟩ : ∃ H2, H2 = upd H1 q1 (.tup [.str g, .ref L.a]) := ⟨_, rfl⟩
      rw [← hH2] at hq2 h1 hls hen hnu L2' N2 s2 ⊢
      have s3 : Same H2 (upd H2 q2 (.tup [.str g, .ref L.a])) := same_new hq2
      have hlt2 : kvs.length < sizeLine := by
        rw [hkl]
        exact Nat.lt_of_le_of_lt hlen (by decide)
      refine ⟨q2, dn, _, kvs, rfl, rfl, pair_nk upd_same (L2'.mono s3), nkey_depth _ _ _, hnu.mono s3, hlt2, hv, fun Lx hnew => ?_⟩
      obtain ⟨H4, hH4⟩ : ∃ H4, H4 = upd (upd H2 q2 (.tup [.str g, .ref L.a])) dn (rawO dn Lx) := ⟨_, rfl⟩
      rw [← hH4] at hnew ⊢
      have k4 : ∀ b o, H2 b = some o → b ≠ dn → H4 b = some o := fun b o hb nb => by
        rw [hH4]
        exact get_ne (s3 _ _ hb) nb
      have n_dn := hnu.no h1 (fun φ z => nomatch z)
      have lt_dn := hnu.no hls (fun φ z => nomatch z)
      have tup4 : ∀ b ys, H2 b = some (.tup ys) → H4 b = some (.tup ys) := fun b ys e => k4 _ _ e (hnu.no e (fun φ z => nomatch z))
      have h14 := k4 _ _ h1 n_dn
      have hls4 := k4 _ _ hls lt_dn
      -- self.table.append((guard, letter))
      refine ⟨_, rfl, n, _, dx, _, _, rfl, h14, T.cl_Notary, T.n_Notary_table, nf_table, .inl ⟨rfl, _, SqL.of hls4⟩, _, rfl, _, rfl, (by show 2 ≤ sizeLine; decide), fun q3 hq3 => ?_⟩
      have s5 : Same H4 (upd H4 q3 (.tup [.str g, .ref L.a])) := same_new hq3
      refine ⟨lt, _, _, rfl, rfl, s5 _ _ hls4, ?_, ?_⟩
      · rw [List.length_map]
        exact Nat.lt_of_le_of_lt hlen (by decide)
      have n_lt : n ≠ lt := ne_of h1 hls (fun z => nomatch z)
      have tup6 : ∀ b ys, H4 b = some (.tup ys) → (upd (upd H4 q3 (.tup [.str g, .ref L.a])) lt (.lst (te.map (fun e => V.ref e.1) ++ [V.ref q3]))) b = some (.tup ys) := fun b ys e =>
        get_ne (s5 _ _ e) (ne_of e hls4 (fun z => nomatch z))
      have q3_lt : q3 ≠ lt := fun e => by
        rw [e, hls4] at hq3
        cases hq3
      have Lz : LeAt H4 L := ⟨tup4 _ _ L2'.1, tup4 _ _ L2'.2⟩
      have nu6 : NumsAt w (upd (upd H4 q3 (.tup [.str g, .ref L.a])) lt (.lst (te.map (fun e => V.ref e.1) ++ [V.ref q3]))) dn (kvs ++ [(nkey g L.k L.t, .int ((te.map fun e => V.ref e.1).length : Nat))]) := by
        refine hnew.keep ?_ tup6
        rw [upd_ne lt_dn.symm]
        refine upd_ne fun e => ?_
        obtain ⟨_, _, _, xs, z, _⟩ := hnew
        rw [e, hq3] at z
        cases z
      refine endn _ (te ++ [(q3, g, L)]) _ te.length (q3, g, L) (fun b o hb n1 n2 => ?_) ⟨⟨dx, get_ne (s5 _ _ h14) n_lt⟩, ?_, ?_, _, nu6, ?_, ?_⟩ nu6 ⟨tup6 _ _ Lz.1, tup6 _ _ Lz.2⟩ (by rw [List.length_append] <;> exact Nat.le_refl _) (fun j x hx => ?_) ?_ rfl rfl rfl ?_
      · exact get_ne (s5 _ _ (k4 _ _ (s2 _ _ (s1 _ _ hb)) n2)) n1
      · rw [List.map_append]
        exact upd_same
      · intro e he
        rcases List.mem_append.mp he with he | he
        · obtain ⟨z1, z2⟩ := hen e he
          exact ⟨tup6 _ _ (tup4 _ _ z1), tup6 _ _ (tup4 _ _ z2.1), tup6 _ _ (tup4 _ _ z2.2)⟩
        · rw [List.mem_singleton.mp he]
          exact ⟨get_ne upd_same q3_lt, tup6 _ _ Lz.1, tup6 _ _ Lz.2⟩
      · rw [List.length_append, List.length_append, hkl] <;> rfl
      · intro p hp
        rcases List.mem_append.mp hp with hp | hp
        · obtain ⟨i, e, hi, z⟩ := hkv p hp
          exact ⟨i, e, by rw [List.getElem?_append_left (lt_of_get hi)]; exact hi, z⟩
        · rw [List.mem_singleton.mp hp]
          refine ⟨te.length, (q3, g, L), by rw [List.getElem?_append_right (Nat.le_refl _), Nat.sub_self] <;> rfl, rfl, ?_⟩
          rw [List.length_map]
      · rw [List.getElem?_append_left (lt_of_get hx)]
        exact hx
      · rw [List.getElem?_append_right (Nat.le_refl _), Nat.sub_self] <;> rfl
      · rw [← putK_new _ hv, valV_put, if_pos rfl, List.length_map]

def spShown (w : World) (K : PySem.W.Frag) : Sp := fun vs H Q _ => ∃ (n lt dn : Addr) (te : Te) (i : Nat) (e : Addr × Str × Le), vs = [.ref n, .int i] ∧ NotAt w K H n lt dn te ∧ te[i]? = some e ∧ Q (.ref e.1) H
theorem sc_Notary_shown : FnScope ["self", "number"] ["self", "number"] (defScope s_Notary_shown) := ⟨rfl, rfl, rfl, by decide +kernel, rfl, by decide +kernel, by decide +kernel⟩
theorem ok_Notary_shown (T : Txt w K mg) : Ok P w K mg base CX0 1 ("Notary", some "shown") ["self", "number"] (spShown w K) := by
  refine mk_ok T 30 (d := d_Notary_shown) rfl sc_Notary_shown rfl rfl (fun _ _ _ _ _ _ us hl => match us, hl with | [_, _], _ => rfl) (fun vs H Q E h => ?_) (fun cdv A outer s H vs Q E hr h => ?_)
  · obtain ⟨n, lt, dn, te, i, e, rfl, _⟩ := h
    rfl
  · obtain ⟨n, lt, dn, te, i, e, rfl, hN, hi, q⟩ := h
    obtain ⟨⟨dx, h1⟩, hls, _⟩ := id hN
    refine ⟨_, (pss_cons (ps_if (pt_not (pt_chain op_le op_lt pe_int (pv 1) (pe_callB call_len_seq (by rfl) T.f_len boot_len (pa_cons (pe_fld (pv 0) rfl) pa_nil)))) (pss_one ps_never) pss_nil)
      (pss_one (ps_ret (pe_ix ix_list (pe_fld (pv 0) rfl) (pv 1) (fun _ _ => rfl))))), ?_⟩
    refine ⟨_, rfl, _, _, rfl, rfl, true, congrArg V.bl (decide_eq_true (by omega)), iteT ?_⟩
    refine ⟨_, rfl, n, _, dx, _, _, rfl, h1, T.cl_Notary, T.n_Notary_table, nf_table, lt, _, rfl, .inl (SqL.of hls), _, _, rfl, rfl, _, rfl, ?_⟩
    rw [decide_eq_true (show (i : Int) < ((te.map fun e => V.ref e.1).length : Int) by have := lt_of_get hi; rw [List.length_map]; omega)]
    refine iteF ?_
    exact ⟨_, rfl, n, _, dx, _, _, rfl, h1, T.cl_Notary, T.n_Notary_table, nf_table, _, rfl, lt, _, _, _, rfl, rfl, SqL.of hls, atI_nat (by rw [List.getElem?_map, hi] <;> rfl), q⟩

/-! ### weight -/
def slK (g : Addr × Str × Int) : Key × V := (Sum.inr g.2.1, .bl true)
theorem sl_none {x : Str} : ∀ {l : Gs}, x ∉ l.map (·.2.1) → valV (l.map slK) (Sum.inr x) = none
  | [], _ => rfl
  | g :: r, h => by
    rw [List.map_cons, valV_neg (fun e => h (List.mem_map.mpr ⟨g, List.mem_cons_self, Sum.inr.inj e⟩))]
    exact sl_none fun m => h (List.mem_cons_of_mem _ m)
theorem sl_some {x : Str} : ∀ {l : Gs}, x ∈ l.map (·.2.1) → valV (l.map slK) (Sum.inr x) = some (.bl true)
  | [], h => nomatch h
  | g :: r, h => by
    rw [List.map_cons]
    by_cases e : g.2.1 = x
    · rw [valV_pos (show (slK g).1 = Sum.inr x from congrArg Sum.inr e)] <;> rfl
    · rw [valV_neg (fun z => e (Sum.inr.inj z))]
      rcases List.mem_cons.mp h with h | h
      · exact absurd h.symm e
      · exact sl_some h
theorem GoodGs.fresh {gs : Gs} (h : GoodGs gs) {i : Nat} {g : Addr × Str × Int} (hg : gs[i]? = some g) : g.2.1 ∉ (gs.take i).map (·.2.1) := fun m => by
  have nd := h.nd
  have e := List.take_append_drop i gs
  rw [← e, List.map_append, List.nodup_append] at nd
  have hd : g ∈ gs.drop i := by
    have z : (gs.drop i)[0]? = some g := by rw [List.getElem?_drop]; simpa using hg
    exact List.mem_of_getElem? z
  exact nd.2.2 _ m _ (List.mem_map.mpr ⟨g, hd, rfl⟩) rfl
def SlAt (H : Hp) (sa : Addr) (gs : Gs) (L : Le) (te : Te) : Prop := ∃ is : List Nat, H sa = some (.tup (is.map fun i => V.int (i : Nat))) ∧ is.length = gs.length ∧
  ∀ (j i : Nat) (g : Addr × Str × Int), is[j]? = some i → gs[j]? = some g → ∃ e, te[i]? = some e ∧ e.2.1 = g.2.1 ∧ e.2.2.k = L.k ∧ e.2.2.t = L.t
theorem SlAt.mono {H H' : Hp} {sa : Addr} {gs : Gs} {L : Le} {te : Te} (x : SlAt H sa gs L te) (s : Same H H') : SlAt H' sa gs L te := by
  obtain ⟨is, h, r⟩ := x
  exact ⟨is, s _ _ h, r⟩
def spWeight (w : World) (K : PySem.W.Frag) : Sp := fun vs H Q _ => ∃ (n lt dn ga sa : Addr) (te : Te) (gs : Gs) (L : Le), vs = [.ref n, .ref ga, .ref L.a, .ref sa] ∧ NotAt w K H n lt dn te ∧ LeAt H L ∧ GoodLe L ∧ GsAt H ga gs ∧ GoodGs gs ∧ SlAt H sa gs L te ∧
  ∀ H', Same H H' → Q (.int (wsum gs)) H'
theorem sc_Notary_weight : FnScope ["self", "guards", "letter", "seals", "sealers", "number", "guard", "sealed", "weight"] ["self", "guards", "letter", "seals"] (defScope s_Notary_weight) := ⟨rfl, rfl, rfl, by decide +kernel, rfl, by decide +kernel, by decide +kernel⟩
theorem ok_Notary_weight (T : Txt w K mg) : Ok P w K mg base CX0 2 ("Notary", some "weight") ["self", "guards", "letter", "seals"] (spWeight w K) := by
  obtain ⟨fd1, G_Notary_shown, b_Notary_shown, _⟩ := ok_Notary_shown (P := P) (base := base) T
  refine mk_ok T 31 (d := d_Notary_weight) rfl sc_Notary_weight rfl rfl (fun _ _ _ _ _ _ us hl => match us, hl with | [_, _, _, _], _ => rfl) (fun vs H Q E h => ?_) (fun cdv A outer s H vs Q E hr h => ?_)
  · obtain ⟨n, lt, dn, ga, sa, te, gs, L, rfl, _⟩ := h
    rfl
  · obtain ⟨n, lt, dn, ga, sa, te, gs, L, rfl, hN, hL, hG, hA, hgood, ⟨is, hsa, hil, hie⟩, q⟩ := h
    have hu := hu_of hr
    refine ⟨_, (pss_cons (ps_set (i := 4) sc_Notary_weight.nd rfl (Or.inr rfl) pe_dnewK)
      (pss_cons (ps_for PassesOwn.never rfl (pi_tup (pv 3)) (pg_name (i := 5) sc_Notary_weight.nd rfl (Or.inl rfl)) (pss_cons (ps_asg (pe_meth (pv 0) T.cl_Notary T.m_Notary_shown G_Notary_shown (hr.mono (by decide)) b_Notary_shown .nil pass0 (pa_cons (pv 5) pa_nil)) (pg_tup (by rfl) (pgs_cons (pg_name (i := 6) sc_Notary_weight.nd rfl (Or.inl rfl)) (pgs_cons (pg_name (i := 7) sc_Notary_weight.nd rfl (Or.inl rfl)) pgs_nil))))
      (pss_one (ps_if (pt_cmpR (op_eqD hr.units) (pv 7) (pv 2) (nomark _)) (pss_one (ps_dput hu (pv 4) (pv 6) pe_bl rfl)) pss_nil))))
      (pss_one (ps_ret (pe_callB (cr_sum rfl) (by rfl) T.f_sum boot_sum (pa_cons (pe_lc (own := [("guard", 6), ("weight", 8)]) (g := (gTup K 2 (gCons (gName 6) (gCons (gName 8) gNil)))) rfl sc_Notary_weight.nd (pi_tup (pv 1)) (blkOk_by (N := ["self", "guards", "letter", "seals", "sealers", "number", "guard", "sealed", "weight"]) (sc := defScope s_Notary_weight) (by decide +kernel)) (fun _ _ _ _ _ => (pg_tup (by rfl) (pgs_cons (pg_name (i := 6) sc_Notary_weight.nd rfl (Or.inl rfl)) (pgs_cons (pg_name (i := 8) sc_Notary_weight.nd rfl (Or.inl rfl)) pgs_nil)))) (fun _ _ _ _ _ => pts_one (pt_cmp (pc_din hu (pv 6) (pv 4)))) (fun _ _ _ _ _ => (pv 8))) pa_nil)))))), ?_⟩
    refine fun D hD => ?_
    have s0 : Same H (upd H D (.dK [])) := same_new hD
    refine ⟨_, rfl, sa, rfl, ⟨_, SqT.of (s0 _ _ hsa)⟩, for_tup (K := K) (a := sa) (xs := is.map fun i => V.int (i : Nat))
      (fun j σ H2 => ∃ v5 v6 v7 : Option V, σ = [some (.ref n), some (.ref ga), some (.ref L.a), some (.ref sa), some (.ref D), v5, v6, v7, none] ∧ Same H H2 ∧ H2 D = some (.dK ((gs.take j).map slK)))
      ⟨none, none, none, rfl, s0, upd_same⟩ (fun i σ H2 _ ⟨_, _, _, _, s2, _⟩ => SqT.of (s2 _ _ hsa)) ?_ ?_⟩
    · rintro j y σ H2 hj ⟨v5, v6, v7, rfl, s2, hD2⟩
      obtain ⟨i, hi, rfl⟩ := get_map hj
      obtain ⟨g, hg⟩ : ∃ g, gs[j]? = some g := by
        have := lt_of_get hi
        exact ⟨gs[j]'(by omega), List.getElem?_eq_getElem (by omega)⟩
      obtain ⟨e, he, e1, e2, e3⟩ := hie j i g hi hg
      have N2 := hN.mono s2
      obtain ⟨⟨dx, h1⟩, hls, hen, _⟩ := id N2
      obtain ⟨he1, he2⟩ := hen e (List.mem_of_getElem? he)
      have L2' := hL.mono s2
      refine ⟨_, rfl, n, dx, _, rfl, h1, nf_no_shown, _, rfl, n, lt, dn, te, i, e, rfl, N2, he, ?_⟩
      refine ⟨e.1, _, rfl, SqT.of he1, rfl, _, _, rfl, _, _, rfl, rfl, ?_⟩
      refine ⟨_, rfl, _, rfl, _, _, he2.dp, L2'.dp, leD_shaped _ (by rw [e3]; exact hG.t), leD_shaped _ hG.t, _, rfl, ?_⟩
      rw [leD_eqv, decide_eq_true e2, decide_eq_true e3]
      refine iteT ?_
      have h7 := hgood.len.2
      refine ⟨_, rfl, _, rfl, D, _, rfl, DPut.k (k := Sum.inr e.2.1) hD2 ?_, ?_⟩
      · rw [List.length_map, List.length_take]
        exact Nat.lt_of_le_of_lt (Nat.min_le_right _ _) (Nat.lt_of_le_of_lt h7 (by decide))
      · refine ⟨_, _, _, rfl, same_upd s2 hD, ?_⟩
        rw [e1, putK_new _ (sl_none (hgood.fresh hg)), take_get hg, List.map_append]
        exact upd_same
    · rintro σ H2 ⟨v5, v6, v7, rfl, s2, hD2⟩
      have hA2 := hA.mono s2
      have hlen : (is.map fun i => V.int (i : Nat)).length = gs.length := by rw [List.length_map, hil]
      rw [hlen, List.take_length] at hD2
      refine ⟨_, rfl, ga, rfl, ⟨_, SqT.of hA2.1⟩, fun M hM => lc_tup (K := K) (a := ga) (xs := gs.map fun g => V.ref g.1) (fun i H3 => Same H2 H3 ∧ H3 M = some (.lst (((gs.take i).map (·.2.2)).map V.int)))
        ⟨same_new hM, upd_same⟩ (fun i H3 _ ⟨s3, _⟩ => SqT.of (s3 _ _ hA2.1)) ?_ ?_⟩
      · rintro i y H3 hi ⟨s3, hM3⟩
        obtain ⟨g, hg, rfl⟩ := get_map hi
        have hp := s3 _ _ (hA2.2 g (List.mem_of_getElem? hg))
        refine ⟨g.1, _, rfl, SqT.of hp, rfl, _, _, rfl, _, _, rfl, rfl, rfl, ?_⟩
        refine ⟨_, rfl, _, rfl, D, _, rfl, DGet.k (k := Sum.inr g.2.1) (s3 _ _ hD2), _, rfl, ?_⟩
        rw [sl_some (List.mem_map.mpr ⟨g, List.mem_of_getElem? hg, rfl⟩)]
        refine ⟨_, rfl, _, hM3, ?_, same_upd s3 hM, ?_⟩
        · rw [List.length_map, List.length_map, List.length_take]
          exact Nat.lt_of_le_of_lt (Nat.min_le_right _ _) (Nat.lt_of_le_of_lt hgood.len.2 (by decide))
        · rw [take_get hg, List.map_append, List.map_append]
          exact upd_same
      · rintro H3 ⟨s3, hM3⟩
        refine ⟨M, _, rfl, SqL.of hM3, ?_⟩
        refine q_int (Q := Q) ?_ (q _ (fun b o e => s3 _ _ (s2 _ _ e)))
        rw [List.length_map, List.take_length] <;> rfl
end
end Vb
set_option Elab.async false
set_option linter.all false
set_option maxRecDepth 100000
set_option maxHeartbeats 4000000
/-! sheet.py -/
namespace Vb
open PySem PySem.Spec PyProof.Rows L2
/-- every value is a whole number -/
def Ints {κ : Type} (kvs : List (κ × V)) : Prop := ∀ p ∈ kvs, ∃ i : Int, p.2 = .int i
theorem Ints.put {κ : Type} [DecidableEq κ] {kvs : List (κ × V)} (x : Ints kvs) (k : κ) (i : Int) : Ints (putK kvs k (.int i)) := by
  intro p hp
  unfold putK at hp
  split at hp
  · obtain ⟨q, hq, rfl⟩ := List.mem_map.mp hp
    split
    · exact ⟨i, rfl⟩
    · exact x q hq
  · rcases List.mem_append.mp hp with hp | hp
    · exact x p hp
    · rw [List.mem_singleton.mp hp]
      exact ⟨i, rfl⟩
theorem Ints.val {κ : Type} [DecidableEq κ] {kvs : List (κ × V)} (x : Ints kvs) (k : κ) : ∃ i : Int, (valV kvs k).getD (.int 0) = .int i := by
  cases h : valV kvs k with
  | none => exact ⟨0, rfl⟩
  | some v =>
    have m : ∀ {l : List (κ × V)} {v : V}, valV l k = some v → (k, v) ∈ l := by
      intro l
      induction l with
      | nil => intro v h; cases h
      | cons p r ih =>
        intro v h
        by_cases e : p.1 = k
        · rw [valV_pos e] at h
          have e2 := Option.some.inj h
          rw [← e, ← e2]
          exact List.mem_cons_self
        · rw [valV_neg e] at h
          exact List.mem_cons_of_mem _ (ih h)
    exact x _ (m h)
structure ShAt (K : PySem.W.Frag) (H : Hp) (sh dx c dba dva dbo : Addr) (nb : Nat) : Prop where
  ob : H sh = some (.ins (cSheet K) dx (hf (.ref c) (.str "west") (.ref dba) (.ref dva) (.ref dbo)))
  ba : ∃ kvs, H dba = some (.dT kvs) ∧ kvs.length ≤ nb ∧ Ints kvs
  va : ∃ kvs, H dva = some (.dK kvs)
  bo : ∃ kvs, H dbo = some (.dT kvs) ∧ kvs.length ≤ nb ∧ Ints kvs
theorem ShAt.mono {K : PySem.W.Frag} {H H' : Hp} {sh dx c dba dva dbo : Addr} {nb : Nat} (x : ShAt K H sh dx c dba dva dbo nb) (s : Same H H') : ShAt K H' sh dx c dba dva dbo nb := by
  obtain ⟨h1, ⟨k1, h2, h3⟩, ⟨k2, h4⟩, ⟨k3, h5, h6⟩⟩ := x
  exact ⟨s _ _ h1, ⟨k1, s _ _ h2, h3⟩, ⟨k2, s _ _ h4⟩, ⟨k3, s _ _ h5, h6⟩⟩
section
variable {P : Program} {w : World} {K : PySem.W.Frag} {mg : Str → Option Value} {base : Heap}
def spShInit (K : PySem.W.Frag) : Sp := fun vs H Q _ => ∃ (sh dx c ga : Addr) (lim win : Int), vs = [.ref sh, .ref c, .str "west"] ∧ H sh = some (.ins (cSheet K) dx []) ∧ CfgAt K H c lim win ga ∧
  ∀ (H' : Hp) (dba dva dbo : Addr), KB sh H H' → H dba = none → H dva = none → H dbo = none → ShAt K H' sh dx c dba dva dbo 0 → Q .non H'
theorem sc_Sheet_init : FnScope ["self", "config", "side", "account", "token", "amount"] ["self", "config", "side"] (defScope s_Sheet_init) := ⟨rfl, rfl, rfl, by decide +kernel, rfl, by decide +kernel, by decide +kernel⟩
theorem ok_Sheet_init (T : Txt w K mg) : Ok P w K mg base CX0 4 ("Sheet", some "__init__") ["self", "config", "side"] (spShInit K) := by
  obtain ⟨fd1, G_Config_opening, b_Config_opening, _⟩ := ok_Config_opening (P := P) (base := base) T
  refine mk_ok T 32 (d := d_Sheet_init) rfl sc_Sheet_init rfl rfl (fun _ _ _ _ _ _ us hl => match us, hl with | [_, _, _], _ => rfl) (fun vs H Q E h => ?_) (fun cdv A outer s H vs Q E hr h => ?_)
  · obtain ⟨sh, dx, c, ga, lim, win, rfl, _⟩ := h
    rfl
  · obtain ⟨sh, dx, c, ga, lim, win, rfl, hs, hc, q⟩ := h
    refine ⟨_, (pss_cons (ps_fld (pv 0) (pv 1) rfl)
      (pss_cons (ps_fld (pv 0) (pv 2) rfl)
      (pss_cons (ps_fld (pv 0) pe_dnewT rfl)
      (pss_cons (ps_fld (pv 0) pe_dnewK rfl)
      (pss_cons (ps_fld (pv 0) pe_dnewT rfl)
      (pss_one (ps_for PassesOwn.never rfl (pi_list (pe_meth (pv 1) T.cl_Config T.m_Config_opening G_Config_opening (hr.mono (by decide)) b_Config_opening .nil pass0 (pa_cons (pv 2) pa_nil))) (pg_tup (by rfl) (pgs_cons (pg_name (i := 3) sc_Sheet_init.nd rfl (Or.inl rfl)) (pgs_cons (pg_name (i := 4) sc_Sheet_init.nd rfl (Or.inl rfl)) (pgs_cons (pg_name (i := 5) sc_Sheet_init.nd rfl (Or.inl rfl)) pgs_nil)))) pss_never))))))), ?_⟩
    obtain ⟨dxc, dt, lb, u1, u2, hc1, _⟩ := id hc.ex
    have n_c : c ≠ sh := ne_of hc1 hs fun z => by
      injection z with _ _ z3
      cases z3
    refine ⟨_, rfl, _, rfl, sh, _, dx, _, rfl, hs, T.cl_Sheet, T.n_Sheet_config, (by show 0 < 1000; decide), ?_⟩
    refine ⟨_, rfl, _, rfl, sh, _, dx, _, rfl, upd_same, T.cl_Sheet, T.n_Sheet_side, lt_of_lt (put_lt (Nat.succ_pos 0)) (by decide), ?_⟩
    refine fun dba hba => ⟨_, rfl, sh, _, dx, _, rfl, get_old upd_same hba, T.cl_Sheet, T.n_Sheet_balances, lt_of_lt (put_lt (put_lt (Nat.succ_pos 0))) (by decide), ?_⟩
    refine fun dva hva => ⟨_, rfl, sh, _, dx, _, rfl, get_old upd_same hva, T.cl_Sheet, T.n_Sheet_vaults, lt_of_lt (put_lt (put_lt (put_lt (Nat.succ_pos 0)))) (by decide), ?_⟩
    refine fun dbo hbo => ⟨_, rfl, sh, _, dx, _, rfl, get_old upd_same hbo, T.cl_Sheet, T.n_Sheet_bonds, lt_of_lt (put_lt (put_lt (put_lt (put_lt (Nat.succ_pos 0))))) (by decide), ?_⟩
    have free : ∀ {G G' : Hp} {x : Addr}, KB sh G G' → (∃ o, G' sh = some o) → G' x = none → G x = none := fun {G G' x} k ⟨o, e⟩ hx => by
      cases z : G x with
      | none => rfl
      | some o' =>
        have n : x ≠ sh := fun e2 => by
          rw [e2, e] at hx
          cases hx
        rw [k _ _ z n] at hx
        cases hx
    have k0 := (KB.refl sh H).own (o := .ins (cSheet K) dx (putF "config" (.ref c) [])) |>.own (o := .ins (cSheet K) dx (putF "side" (.str "west") (putF "config" (.ref c) [])))
    have f1 := free k0 ⟨_, upd_same⟩ hba
    have k1 := (k0.new (o := .dT []) hba).own (o := .ins (cSheet K) dx (putF "balances" (.ref dba) (putF "side" (.str "west") (putF "config" (.ref c) []))))
    have f2 := free k1 ⟨_, upd_same⟩ hva
    have k2 := (k1.new (o := .dK []) hva).own (o := .ins (cSheet K) dx (putF "vaults" (.ref dva) (putF "balances" (.ref dba) (putF "side" (.str "west") (putF "config" (.ref c) [])))))
    have f3 := free k2 ⟨_, upd_same⟩ hbo
    have k3 := (k2.new (o := .dT []) hbo).own (o := .ins (cSheet K) dx (putF "bonds" (.ref dbo) (putF "vaults" (.ref dva) (putF "balances" (.ref dba) (putF "side" (.str "west") (putF "config" (.ref c) []))))))
    have n1 : dba ≠ sh := fun e => by
      rw [e, hs] at f1
      cases f1
    have n2 : dva ≠ sh := fun e => by
      rw [e, hs] at f2
      cases f2
    have n3 : dbo ≠ sh := fun e => by
      rw [e, hs] at f3
      cases f3
    rw [hf_mk] at k3 ⊢
    have c3 : CfgAt K _ c lim win ga := hc.kb k3 n_c hs
    have e1 := k3
    have hS : ShAt K (upd (upd (upd (upd (upd (upd (upd (upd H sh (.ins (cSheet K) dx (putF "config" (.ref c) []))) sh (.ins (cSheet K) dx (putF "side" (.str "west") (putF "config" (.ref c) [])))) dba (.dT [])) sh (.ins (cSheet K) dx (putF "balances" (.ref dba) (putF "side" (.str "west") (putF "config" (.ref c) []))))) dva (.dK [])) sh
        (.ins (cSheet K) dx (putF "vaults" (.ref dva) (putF "balances" (.ref dba) (putF "side" (.str "west") (putF "config" (.ref c) [])))))) dbo (.dT [])) sh (.ins (cSheet K) dx (hf (.ref c) (.str "west") (.ref dba) (.ref dva) (.ref dbo)))) sh dx c dba dva dbo 0 :=
      ⟨upd_same, ⟨[], get_ne (get_old (get_ne (get_old (get_ne upd_same n1) hva) n1) hbo) n1, Nat.le_refl _, fun p hp => nomatch hp⟩, ⟨[], get_ne (get_old (get_ne upd_same n2) hbo) n2⟩, ⟨[], get_ne upd_same n3, Nat.le_refl _, fun p hp => nomatch hp⟩⟩
    obtain ⟨H5, hH5⟩ : ∃ H5, H5 = (upd (upd (upd (upd (upd (upd (upd (upd H sh (.ins (cSheet K) dx (putF "config" (.ref c) []))) sh (.ins (cSheet K) dx (putF "side" (.str "west") (putF "config" (.ref c) [])))) dba (.dT [])) sh (.ins (cSheet K) dx (putF "balances" (.ref dba) (putF "side" (.str "west") (putF "config" (.ref c) []))))) dva (.dK [])) sh
        (.ins (cSheet K) dx (putF "vaults" (.ref dva) (putF "balances" (.ref dba) (putF "side" (.str "west") (putF "config" (.ref c) [])))))) dbo (.dT [])) sh (.ins (cSheet K) dx (hf (.ref c) (.str "west") (.ref dba) (.ref dva) (.ref dbo)))) := ⟨_, rfl⟩
    rw [← hH5] at c3 hS k3 ⊢
    obtain ⟨dxc, dt, lb, u1, u2, hc1, _⟩ := id c3.ex
    refine ⟨_, rfl, c, dxc, _, rfl, hc1, cf_no_opening, _, rfl, c, ga, lim, win, _, rfl, c3, fun l hl => ?_⟩
    refine ⟨l, rfl, ⟨_, SqL.of upd_same⟩, for_list (K := K) (a := l) (xs := []) (fun i σ H2 => H2 = upd H5 l (.lst [])) rfl (fun i σ H2 _ e => by rw [e]; exact SqL.of upd_same) (fun i y σ H2 hi _ => by cases hi) ?_⟩
    rintro σ H2 rfl
    exact q _ dba dva dbo (k3.new hl) f1 f2 f3 (hS.mono (same_new hl))
def spBalance (K : PySem.W.Frag) : Sp := fun vs H Q _ => ∃ (sh dx c dba dva dbo : Addr) (nb : Nat) (a t : Str), vs = [.ref sh, .str a, .str t] ∧ ShAt K H sh dx c dba dva dbo nb ∧ ∀ (H' : Hp) (i : Int), Same H H' → Q (.int i) H'
theorem sc_Sheet_balance : FnScope ["self", "account", "token"] ["self", "account", "token"] (defScope s_Sheet_balance) := ⟨rfl, rfl, rfl, by decide +kernel, rfl, by decide +kernel, by decide +kernel⟩
theorem ok_Sheet_balance (T : Txt w K mg) : Ok P w K mg base CX0 1 ("Sheet", some "balance") ["self", "account", "token"] (spBalance K) := by
  refine mk_ok T 34 (d := d_Sheet_balance) rfl sc_Sheet_balance rfl rfl (fun _ _ _ _ _ _ us hl => match us, hl with | [_, _, _], _ => rfl) (fun vs H Q E h => ?_) (fun cdv A outer s H vs Q E hr h => ?_)
  · obtain ⟨sh, dx, c, dba, dva, dbo, nb, a, t, rfl, _⟩ := h
    rfl
  · obtain ⟨sh, dx, c, dba, dva, dbo, nb, a, t, rfl, hs, q⟩ := h
    have hu := hu_of hr
    obtain ⟨kvs, hb, hl, hi⟩ := hs.ba
    refine ⟨_, (pss_one (ps_ret (pe_dget2 hu (pe_fld (pv 0) rfl) (pe_tup (pa_cons (pv 1) (pa_cons (pv 2) pa_nil))) pe_int ⟨rfl, rfl, rfl, rfl⟩))), ?_⟩
    refine ⟨_, rfl, sh, _, dx, _, _, rfl, hs.ob, T.cl_Sheet, T.n_Sheet_balances, hf_balances, dba, rfl, .inr ⟨kvs, .inl hb⟩, _, rfl, _, rfl, (by show 2 ≤ sizeLine; decide), fun p hp => ?_⟩
    refine ⟨_, DGet.t (k := [Sum.inr a, Sum.inr t]) (get_old hb hp) upd_same, ?_⟩
    obtain ⟨i, e⟩ := hi.val [Sum.inr a, Sum.inr t]
    rw [e]
    exact q _ i (same_new hp)
def spGive (K : PySem.W.Frag) : Sp := fun vs H Q _ => ∃ (sh dx c dba dva dbo : Addr) (nb : Nat) (a t : Str) (i : Int), vs = [.ref sh, .str a, .str t, .int i] ∧ ShAt K H sh dx c dba dva dbo nb ∧ nb < 1000 ∧
  ∀ (H' : Hp), KB dba H H' → ShAt K H' sh dx c dba dva dbo (nb + 1) → Q .non H'
theorem sc_Sheet_give : FnScope ["self", "account", "token", "amount"] ["self", "account", "token", "amount"] (defScope s_Sheet_give) := ⟨rfl, rfl, rfl, by decide +kernel, rfl, by decide +kernel, by decide +kernel⟩
theorem ok_Sheet_give (T : Txt w K mg) : Ok P w K mg base CX0 2 ("Sheet", some "give") ["self", "account", "token", "amount"] (spGive K) := by
  obtain ⟨fd1, G_Sheet_balance, b_Sheet_balance, _⟩ := ok_Sheet_balance (P := P) (base := base) T
  refine mk_ok T 35 (d := d_Sheet_give) rfl sc_Sheet_give rfl rfl (fun _ _ _ _ _ _ us hl => match us, hl with | [_, _, _, _], _ => rfl) (fun vs H Q E h => ?_) (fun cdv A outer s H vs Q E hr h => ?_)
  · obtain ⟨sh, dx, c, dba, dva, dbo, nb, a, t, i, rfl, _⟩ := h
    rfl
  · obtain ⟨sh, dx, c, dba, dva, dbo, nb, a, t, i, rfl, hs, hn, q⟩ := h
    have hu := hu_of hr
    refine ⟨_, (pss_one (ps_dput hu (pe_fld (pv 0) rfl) (pe_tup (pa_cons (pv 1) (pa_cons (pv 2) pa_nil))) (pe_op op_add (pe_meth (pv 0) T.cl_Sheet T.m_Sheet_balance G_Sheet_balance (hr.mono (by decide)) b_Sheet_balance .nil pass0 (pa_cons (pv 1) (pa_cons (pv 2) pa_nil))) (pv 3)) rfl)), ?_⟩
    refine ⟨_, rfl, sh, dx, _, rfl, hs.ob, hf_no_balance, _, rfl, _, rfl, sh, dx, c, dba, dva, dbo, nb, a, t, rfl, hs, fun H1 j s1 => ?_⟩
    have hs1 := hs.mono s1
    obtain ⟨kvs, hb, hl, hi⟩ := hs1.ba
    refine ⟨_, rfl, _, _, rfl, rfl, ?_⟩
    refine ⟨_, rfl, sh, _, dx, _, _, rfl, hs1.ob, T.cl_Sheet, T.n_Sheet_balances, hf_balances, _, rfl, _, rfl, (by show 2 ≤ sizeLine; decide), fun p hp => ?_⟩
    refine ⟨dba, _, rfl, DPut.t (k := [Sum.inr a, Sum.inr t]) (get_old hb hp) upd_same ?_, ?_⟩
    · exact Nat.lt_of_le_of_lt hl (Nat.lt_trans hn (by decide))
    · have hs2 := hs1.mono (same_new (u := .tup [.str a, .str t]) hp)
      refine q _ (fun b o e n => get_ne (get_old (s1 _ _ e) hp) n) ⟨get_ne hs2.ob (ne_of hs2.ob (get_old hb hp) (fun z => nomatch z)), ⟨_, upd_same, Nat.le_trans (length_putK _ _ _) (Nat.succ_le_succ hl), hi.put _ _⟩, ?_, ?_⟩
      · obtain ⟨k2, h2⟩ := hs2.va
        exact ⟨k2, get_ne h2 (ne_of h2 (get_old hb hp) (fun z => nomatch z))⟩
      · obtain ⟨k3, h3, h4, h5⟩ := hs2.bo
        by_cases e : dbo = dba
        · rw [e]
          exact ⟨_, upd_same, Nat.le_trans (length_putK _ _ _) (Nat.succ_le_succ hl), hi.put _ _⟩
        · exact ⟨k3, get_ne h3 e, Nat.le_trans h4 (Nat.le_succ _), h5⟩
theorem sc_Sheet_mint : FnScope ["self", "account", "token", "units"] ["self", "account", "token", "units"] (defScope s_Sheet_mint) := ⟨rfl, rfl, rfl, by decide +kernel, rfl, by decide +kernel, by decide +kernel⟩
theorem ok_Sheet_mint (T : Txt w K mg) : Ok P w K mg base CX0 3 ("Sheet", some "mint") ["self", "account", "token", "units"] (spGive K) := by
  obtain ⟨fd1, G_Sheet_give, b_Sheet_give, _⟩ := ok_Sheet_give (P := P) (base := base) T
  refine mk_ok T 36 (d := d_Sheet_mint) rfl sc_Sheet_mint rfl rfl (fun _ _ _ _ _ _ us hl => match us, hl with | [_, _, _, _], _ => rfl) (fun vs H Q E h => ?_) (fun cdv A outer s H vs Q E hr h => ?_)
  · obtain ⟨sh, dx, c, dba, dva, dbo, nb, a, t, i, rfl, _⟩ := h
    rfl
  · obtain ⟨sh, dx, c, dba, dva, dbo, nb, a, t, i, rfl, hs, hn, q⟩ := h
    refine ⟨_, (pss_one (ps_expr (pe_meth (pv 0) T.cl_Sheet T.m_Sheet_give G_Sheet_give (hr.mono (by decide)) b_Sheet_give .nil pass0 (pa_cons (pv 1) (pa_cons (pv 2) (pa_cons (pv 3) pa_nil)))))), ?_⟩
    exact ⟨_, rfl, sh, dx, _, rfl, hs.ob, hf_no_give, _, rfl, _, rfl, _, rfl, sh, dx, c, dba, dva, dbo, nb, a, t, i, rfl, hs, hn, q⟩
/-! ### copy -/
def spCopy (K : PySem.W.Frag) : Sp := fun vs H Q _ => ∃ (sh dx c dba dva dbo ga : Addr) (lim win : Int) (nb : Nat), vs = [.ref sh] ∧ ShAt K H sh dx c dba dva dbo nb ∧ CfgAt K H c lim win ga ∧ nb ≤ 1000 ∧
  ∀ (H' : Hp) (sh' dx' dba' dva' dbo' : Addr), Same H H' → H sh' = none → H dba' = none → H dva' = none → H dbo' = none → ShAt K H' sh' dx' c dba' dva' dbo' nb → Q (.ref sh') H'
/-- a dict with tuple keys, copied -/
theorem copyT {K : PySem.W.Frag} {v0 v1 v2 v3 : Option V} {H : Hp} {d : Addr} {kvs : List (List Key × V)} {od : Obj} {D : Addr} (hl : kvs.length ≤ 1000) (hi : Ints kvs) (hd : H d = some (.frz od (.dT kvs))) (hD : H D = none)
    {R : Hp → Prop} (hR : ∀ H' kvs', Same H H' → H' D = some (.dT kvs') → kvs'.length ≤ kvs.length → Ints kvs' → R H') :
    ∃ W : Nat → Nat → Hp → Prop, (∃ m, W 0 m (upd H D (.dT []))) ∧ ∀ ix m H1, W ix m H1 →
      ((ItiT d od kvs).stop ix H1 ∧ R H1) ∨ ((ItiT d od kvs).go ix H1 ∧ ∃ Nx : Hp → Prop, (∀ H', Nx H' → ∃ m', m' < m ∧ W (ix + 1) m' H') ∧ ∀ x H', (ItiT d od kvs).yld ix H1 x H' → gTup K 2 (gCons (gName 2) (gCons (gName 3) gNil)) x (wipe [v0, v1, v2, v3] [2, 3]) H' fun σ2 H2 => wipe σ2 [2, 3] = wipe [v0, v1, v2, v3] [2, 3] ∧
        tVar 2 σ2 H2 fun y H4 => tVar 3 σ2 H4 fun z H5 => ∃ kvs k b, y = .ref b ∧ H5 b = some (.tup (k.map kV)) ∧ H5 D = some (.dT kvs) ∧ kvs.length < sizeLine ∧ Nx (upd H5 D (.dT (putK kvs k z)))) := by
  refine ⟨fun ix m H1 => m = kvs.length - ix ∧ ix ≤ kvs.length ∧ Same H H1 ∧ ∃ kvs', H1 D = some (.dT kvs') ∧ kvs'.length ≤ ix ∧ Ints kvs', ⟨kvs.length, rfl, Nat.zero_le _, same_new hD, [], upd_same, Nat.le_refl _, fun p hp => nomatch hp⟩, ?_⟩
  rintro ix m H1 ⟨rfl, hix, s1, kvs', h1, h2, h3⟩
  by_cases hlt : ix < kvs.length
  · refine .inr ⟨⟨s1 _ _ hd, hlt⟩, fun H' => ix + 1 ≤ kvs.length ∧ Same H H' ∧ ∃ kvs', H' D = some (.dT kvs') ∧ kvs'.length ≤ ix + 1 ∧ Ints kvs', fun H' ⟨z1, z2, z3⟩ => ⟨kvs.length - (ix + 1), by omega, rfl, z1, z2, z3⟩, ?_⟩
    rintro x H' ⟨t, q, k, v, hkv, rfl, ht, hq, rfl⟩
    obtain ⟨iv, e⟩ : ∃ iv : Int, v = .int iv := hi _ (List.mem_of_getElem? hkv)
    subst e
    refine ⟨t, _, rfl, SqT.of upd_same, rfl, _, _, rfl, _, _, rfl, rfl, rfl, _, rfl, _, rfl, kvs', k, q, rfl, get_old hq ht, get_old h1 ht, ?_, hlt, ?_, _, upd_same, ?_, h3.put _ _⟩
    · exact Nat.lt_of_le_of_lt (show kvs'.length ≤ 1000 by omega) (by decide)
    · exact same_upd (fun b o e => get_old (s1 _ _ e) ht) hD
    · exact Nat.le_trans (length_putK _ _ _) (Nat.succ_le_succ h2)
  · have e : ix = kvs.length := by omega
    subst e
    exact .inl ⟨⟨s1 _ _ hd, Nat.le_refl _⟩, hR H1 kvs' s1 h1 h2 h3⟩
theorem lock_end {H H' : Hp} {d D : Addr} {u f x : HO} (hd : H d = some u) (hD : upd H d f D = none) (s1 : Same (upd H d f) H') (h1 : H' D = some x) : Same H (upd H' d u) ∧ H D = none ∧ upd H' d u D = some x := by
  have nd : D ≠ d := fun e => by
    rw [e, upd_same] at hD
    cases hD
  have hD0 : H D = none := by
    rw [upd_ne nd] at hD
    exact hD
  refine ⟨fun b o e => ?_, hD0, get_ne h1 nd⟩
  by_cases z : b = d
  · rw [z, hd] at e
    rw [z, upd_same]
    exact e
  · exact get_ne (s1 _ _ (get_ne e z)) z
theorem sc_Sheet_copy : FnScope ["self", "twin", "place", "amount"] ["self"] (defScope s_Sheet_copy) := ⟨rfl, rfl, rfl, by decide +kernel, rfl, by decide +kernel, by decide +kernel⟩
theorem ok_Sheet_copy (T : Txt w K mg) : Ok P w K mg base CX0 6 ("Sheet", some "copy") ["self"] (spCopy K) := by
  obtain ⟨fd1, G_Sheet_init, b_Sheet_init, _⟩ := ok_Sheet_init (P := P) (base := base) T
  refine mk_ok T 33 (d := d_Sheet_copy) rfl sc_Sheet_copy rfl rfl (fun _ _ _ _ _ _ us hl => match us, hl with | [_], _ => rfl) (fun vs H Q E h => ?_) (fun cdv A outer s H vs Q E hr h => ?_)
  · obtain ⟨sh, dx, c, dba, dva, dbo, ga, lim, win, nb, rfl, _⟩ := h
    rfl
  · obtain ⟨sh, dx, c, dba, dva, dbo, ga, lim, win, nb, rfl, hs, hc, hn, q⟩ := h
    have hu := hu_of hr
    refine ⟨_, (pss_cons (ps_set (i := 1) sc_Sheet_copy.nd rfl (Or.inl rfl) (pe_make T.mk_Sheet G_Sheet_init (hr.mono (by decide)) rfl T.g_Sheet b_Sheet_init .nil pass0 (pa_cons (pe_fld (pv 0) rfl) (pa_cons (pe_fld (pv 0) rfl) pa_nil))))
      (pss_cons (ps_fld (pv 1) (pe_lock (pe_dcT (own := [("place", 2), ("amount", 3)]) (g := (gTup K 2 (gCons (gName 2) (gCons (gName 3) gNil)))) hu rfl sc_Sheet_copy.nd (pi_itemsT (pe_fld (pv 0) rfl)) (blkOk_by (N := ["self", "twin", "place", "amount"]) (sc := defScope s_Sheet_copy) (by decide +kernel)) (fun _ _ _ _ _ => (pg_tup (by rfl) (pgs_cons (pg_name (i := 2) sc_Sheet_copy.nd rfl (Or.inl rfl)) (pgs_cons (pg_name (i := 3) sc_Sheet_copy.nd rfl (Or.inl rfl)) pgs_nil)))) (fun _ _ _ _ _ => (pv 2)) (fun _ _ _ _ _ => (pv 3)))) rfl)
      (pss_cons (ps_fld (pv 1) (pe_callTy call_dictD (by rfl) T.f_dict boot_dict (pa_cons (pe_fld (pv 0) rfl) pa_nil)) rfl)
      (pss_cons (ps_fld (pv 1) (pe_lock (pe_dcT (own := [("place", 2), ("amount", 3)]) (g := (gTup K 2 (gCons (gName 2) (gCons (gName 3) gNil)))) hu rfl sc_Sheet_copy.nd (pi_itemsT (pe_fld (pv 0) rfl)) (blkOk_by (N := ["self", "twin", "place", "amount"]) (sc := defScope s_Sheet_copy) (by decide +kernel)) (fun _ _ _ _ _ => (pg_tup (by rfl) (pgs_cons (pg_name (i := 2) sc_Sheet_copy.nd rfl (Or.inl rfl)) (pgs_cons (pg_name (i := 3) sc_Sheet_copy.nd rfl (Or.inl rfl)) pgs_nil)))) (fun _ _ _ _ _ => (pv 2)) (fun _ _ _ _ _ => (pv 3)))) rfl)
      (pss_one (ps_ret (pv 1))))))), ?_⟩
    -- twin = Sheet(self.config, self.side)
    refine ⟨_, rfl, sh, _, dx, _, _, rfl, hs.ob, T.cl_Sheet, T.n_Sheet_config, hf_config, _, rfl, sh, _, dx, _, _, rfl, hs.ob, T.cl_Sheet, T.n_Sheet_side, hf_side, ?_⟩
    intro tw dxt htw hdxt ne
    have s0 := same_made (C := cSheet K) htw hdxt ne
    refine ⟨tw, dxt, c, ga, lim, win, rfl, upd_same, hc.mono s0, fun H1 nba nva nbo k1 hba hva hbo hS => ⟨rfl, ?_⟩⟩
    have s1 : Same H H1 := fun b o e => k1 _ _ (s0 _ _ e) (ne_of_none e htw)
    have h0 : ∀ {x : Addr}, (upd (upd H dxt (.own tw)) tw (.ins (cSheet K) dxt [])) x = none → H x = none := fun {x} hx => s0.free hx
    have hs1 := hs.mono s1
    -- twin.balances = {..}
    obtain ⟨kb, hb1, hb2, hb3⟩ := hs1.ba
    refine ⟨dba, _, hb1, True.intro, fun od => ⟨_, rfl, sh, _, dx, _, _, rfl, get_ne hs1.ob (ne_of hs1.ob hb1 (fun z => nomatch z)), T.cl_Sheet, T.n_Sheet_balances, hf_balances, dba, od, kb, rfl, upd_same, fun D1 hD1 => copyT (Nat.le_trans hb2 hn) hb3 upd_same hD1 fun Hq kv2 sq eq l2 i2 => ⟨sq _ _ upd_same, ?_⟩⟩⟩
    obtain ⟨s2, hD1, e2⟩ := lock_end hb1 hD1 sq eq
    obtain ⟨H2, hH2⟩ : ∃ H2, H2 = upd Hq dba (.dT kb) := ⟨_, rfl⟩
    rw [← hH2] at s2 e2 ⊢
    have htw2 := s2 _ _ hS.ob
    refine ⟨_, rfl, tw, _, dxt, _, rfl, htw2, T.cl_Sheet, T.n_Sheet_balances, hf_len, ?_⟩
    rw [hf_put_balances]
    obtain ⟨H3, hH3⟩ : ∃ H3, H3 = upd H2 tw (.ins (cSheet K) dxt (hf (.ref c) (.str "west") (.ref D1) (.ref nva) (.ref nbo))) := ⟨_, rfl⟩
    have k3 : ∀ b o, H2 b = some o → b ≠ tw → H3 b = some o := fun b o e n => by
      rw [hH3]
      exact get_ne e n
    have htw3 : H3 tw = some (.ins (cSheet K) dxt (hf (.ref c) (.str "west") (.ref D1) (.ref nva) (.ref nbo))) := by
      rw [hH3]
      exact upd_same
    have s3 : Same H H3 := fun b o e => k3 _ _ (s2 _ _ (s1 _ _ e)) (ne_of_none e htw)
    rw [← hH3]
    -- twin.vaults = dict(self.vaults)
    have hs3 := hs.mono s3
    obtain ⟨kv, hv3⟩ := hs3.va
    refine ⟨_, rfl, sh, _, dx, _, _, rfl, hs3.ob, T.cl_Sheet, T.n_Sheet_vaults, hf_vaults, dva, kv, rfl, .inl hv3, fun D2 hD2 => ?_⟩
    refine ⟨_, rfl, tw, _, dxt, _, rfl, get_old htw3 hD2, T.cl_Sheet, T.n_Sheet_vaults, hf_len, ?_⟩
    rw [hf_put_vaults]
    obtain ⟨H4, hH4⟩ : ∃ H4, H4 = upd (upd H3 D2 (.dK kv)) tw (.ins (cSheet K) dxt (hf (.ref c) (.str "west") (.ref D1) (.ref D2) (.ref nbo))) := ⟨_, rfl⟩
    have n2 : D2 ≠ tw := fun e => by
      rw [e, htw3] at hD2
      cases hD2
    have k4 : ∀ b o, H3 b = some o → b ≠ tw → H4 b = some o := fun b o e n => by
      rw [hH4]
      exact get_ne (get_old e hD2) n
    have htw4 : H4 tw = some (.ins (cSheet K) dxt (hf (.ref c) (.str "west") (.ref D1) (.ref D2) (.ref nbo))) := by
      rw [hH4]
      exact upd_same
    have hv4 : H4 D2 = some (.dK kv) := by
      rw [hH4]
      exact get_ne upd_same n2
    have s4 : Same H H4 := fun b o e => k4 _ _ (s3 _ _ e) (ne_of_none e htw)
    rw [← hH4]
    -- twin.bonds = {..}
    have hs4 := hs.mono s4
    obtain ⟨kb', hb1', hb2', hb3'⟩ := hs4.bo
    refine ⟨dbo, _, hb1', True.intro, fun od => ⟨_, rfl, sh, _, dx, _, _, rfl, get_ne hs4.ob (ne_of hs4.ob hb1' (fun z => nomatch z)), T.cl_Sheet, T.n_Sheet_bonds, hf_bonds, dbo, od, kb', rfl, upd_same, fun D3 hD3 => copyT (Nat.le_trans hb2' hn) hb3' upd_same hD3 fun Hq kv5 sq eq l5 i5 => ⟨sq _ _ upd_same, ?_⟩⟩⟩
    obtain ⟨s5, hD3, e5⟩ := lock_end hb1' hD3 sq eq
    obtain ⟨H5, hH5⟩ : ∃ H5, H5 = upd Hq dbo (.dT kb') := ⟨_, rfl⟩
    rw [← hH5] at s5 e5 ⊢
    refine ⟨_, rfl, tw, _, dxt, _, rfl, s5 _ _ htw4, T.cl_Sheet, T.n_Sheet_bonds, hf_len, ?_⟩
    rw [hf_put_bonds]
    have n1 : D1 ≠ tw := fun e => by
      rw [e, hS.ob] at hD1
      cases hD1
    have n3 : D3 ≠ tw := fun e => by
      rw [e, htw4] at hD3
      cases hD3
    refine ⟨_, rfl, q _ tw dxt D1 D2 D3 (fun b o e => get_ne (s5 _ _ (s4 _ _ e)) (ne_of_none e htw)) htw (s1.free hD1) (s3.free hD2) (s4.free hD3) ⟨upd_same, ⟨kv2, get_ne (s5 _ _ (k4 _ _ (k3 _ _ e2 n1) n1)) n1, Nat.le_trans l2 hb2, i2⟩, ⟨kv, get_ne (s5 _ _ hv4) n2⟩, ⟨kv5, get_ne e5 n3, Nat.le_trans l5 hb2', i5⟩⟩⟩
end
end Vb
set_option Elab.async false
set_option linter.all false
set_option maxRecDepth 100000
set_option maxHeartbeats 4000000
/-! state.py -/
namespace Vb
open PySem PySem.Spec PyProof.Rows L2
/-- the addresses of a state's parts -/
structure SA where
  dx : Addr
  sh : Addr
  dxs : Addr
  lse : Addr
  lsn : Addr
  dib : Addr
  dro : Addr
  dre : Addr
  lpa : Addr
  lfr : Addr
  dba : Addr
  dva : Addr
  dbo : Addr
def SA.adds (A : SA) : List Addr := [A.sh, A.lse, A.lsn, A.dib, A.dro, A.dre, A.lpa, A.lfr, A.dba, A.dva, A.dbo]
/-- what is delivered: the row's address, the height, the token, the units -/
abbrev Pa : Type := List (Addr × Int × Str × Int)
structure SS where
  high : Int
  inbox : List (Key × V)
  passed : Pa
  fresh : List V
  nb : Nat
structure StAt (K : PySem.W.Frag) (H : Hp) (p : Addr) (A : SA) (c ga : Addr) (S : SS) : Prop where
  ob : H p = some (.ins (cState K) A.dx (sf (.ref c) (.str "west") (.int S.high) (.ref A.sh) (.ref A.lse) (.ref A.lsn) (.ref A.dib) (.ref A.dro) (.ref A.dre) (.ref A.lpa) (.bl false) (.int 0) (.ref A.lfr)))
  sheet : ShAt K H A.sh A.dxs c A.dba A.dva A.dbo S.nb
  se : H A.lse = some (.lst [.ref ga])
  sn : ∃ xs, H A.lsn = some (.lst xs)
  ib : H A.dib = some (.dK S.inbox)
  ro : ∃ kvs, H A.dro = some (.dK kvs)
  re : ∃ kvs, H A.dre = some (.dK kvs)
  pa : H A.lpa = some (.lst (S.passed.map fun r => V.ref r.1))
  rows : ∀ r ∈ S.passed, H r.1 = some (.tup [.int r.2.1, .str r.2.2.1, .int r.2.2.2])
  fr : H A.lfr = some (.lst S.fresh)
  n1 : A.lpa ≠ A.lse
  n2 : A.lfr ≠ A.lse
  n3 : A.lpa ≠ A.lfr
theorem StAt.mono {K : PySem.W.Frag} {H H' : Hp} {p : Addr} {A : SA} {c ga : Addr} {S : SS} (x : StAt K H p A c ga S) (s : Same H H') : StAt K H' p A c ga S := by
  obtain ⟨h1, h2, h3, ⟨k1, h4⟩, h5, ⟨k2, h6⟩, ⟨k3, h7⟩, h8, h9, h10, n1, n2, n3⟩ := x
  exact ⟨s _ _ h1, h2.mono s, s _ _ h3, ⟨k1, s _ _ h4⟩, s _ _ h5, ⟨k2, s _ _ h6⟩, ⟨k3, s _ _ h7⟩, s _ _ h8, fun r hr => s _ _ (h9 r hr), s _ _ h10, n1, n2, n3⟩
theorem ShAt.kb {K : PySem.W.Frag} {H H' : Hp} {sh dx c dba dva dbo : Addr} {nb : Nat} (x : ShAt K H sh dx c dba dva dbo nb) {p : Addr} (k : ∀ b o, H b = some o → b ≠ p → H' b = some o) (n : sh ≠ p) {C d : Addr} {fs : List (Str × V)} (hp : H p = some (.ins C d fs)) : ShAt K H' sh dx c dba dva dbo nb := by
  obtain ⟨h1, ⟨k1, h2, h3⟩, ⟨k2, h4⟩, ⟨k3, h5, h6⟩⟩ := x
  exact ⟨k _ _ h1 n, ⟨k1, k _ _ h2 (ne_of h2 hp (fun z => nomatch z)), h3⟩, ⟨k2, k _ _ h4 (ne_of h4 hp (fun z => nomatch z))⟩, ⟨k3, k _ _ h5 (ne_of h5 hp (fun z => nomatch z)), h6⟩⟩
theorem fld_step {G : Hp} {p : Addr} {o0 : HO} (o : HO) (hp : G p = some o0) : ∃ G', G' = upd G p o ∧ (∀ b x, G b = some x → b ≠ p → G' b = some x) ∧ G' p = some o := ⟨_, rfl, fun b x e n => get_ne e n, upd_same⟩
theorem new_step {G : Hp} {p l : Addr} {o0 : HO} (u o : HO) (hp : G p = some o0) (hl : G l = none) : ∃ G', G' = upd (upd G l u) p o ∧ (∀ b x, G b = some x → b ≠ p → G' b = some x) ∧ G' p = some o ∧ G' l = some u ∧ l ≠ p := by
  have n : l ≠ p := fun e => by
    rw [e, hp] at hl
    cases hl
  exact ⟨_, rfl, fun b x e n => get_ne (get_old e hl) n, upd_same, get_ne upd_same n, n⟩
section
variable {P : Program} {w : World} {K : PySem.W.Frag} {mg : Str → Option Value} {base : Heap}
def S0 : SS := ⟨0, [], [], [], 0⟩
def spStInit (K : PySem.W.Frag) : Sp := fun vs H Q _ => ∃ (p dx c ga : Addr) (lim win : Int), vs = [.ref p, .ref c, .str "west"] ∧ H p = some (.ins (cState K) dx []) ∧ CfgAt K H c lim win ga ∧
  ∀ (H' : Hp) (A : SA), KB p H H' → (∀ b ∈ A.adds, H b = none) → StAt K H' p A c ga S0 → Q .non H'
theorem sc_State_init : FnScope ["self", "config", "side"] ["self", "config", "side"] (defScope s_State_init) := ⟨rfl, rfl, rfl, by decide +kernel, rfl, by decide +kernel, by decide +kernel⟩
theorem ok_State_init (T : Txt w K mg) : Ok P w K mg base CX0 6 ("State", some "__init__") ["self", "config", "side"] (spStInit K) := by
  obtain ⟨fd1, G_Sheet_init, b_Sheet_init, _⟩ := ok_Sheet_init (P := P) (base := base) T
  obtain ⟨fd2, G_Config_guards, b_Config_guards, _⟩ := ok_Config_guards (P := P) (base := base) T
  refine mk_ok T 37 (d := d_State_init) rfl sc_State_init rfl rfl (fun _ _ _ _ _ _ us hl => match us, hl with | [_, _, _], _ => rfl) (fun vs H Q E h => ?_) (fun cdv A outer s H vs Q E hr h => ?_)
  · obtain ⟨p, dx, c, ga, lim, win, rfl, _⟩ := h
    rfl
  · obtain ⟨p, dx, c, ga, lim, win, rfl, hp, hc, q⟩ := h
    refine ⟨_, (pss_cons (ps_fld (pv 0) (pv 1) rfl)
      (pss_cons (ps_fld (pv 0) (pv 2) rfl)
      (pss_cons (ps_fld (pv 0) pe_int rfl)
      (pss_cons (ps_fld (pv 0) (pe_make T.mk_Sheet G_Sheet_init (hr.mono (by decide)) rfl T.g_Sheet b_Sheet_init .nil pass0 (pa_cons (pv 1) (pa_cons (pv 2) pa_nil))) rfl)
      (pss_cons (ps_fld (pv 0) (pe_lst (pa_cons (pe_meth0 (pv 1) T.cl_Config T.m_Config_guards G_Config_guards (hr.mono (by decide)) b_Config_guards .nil pass0) pa_nil)) rfl)
      (pss_cons (ps_fld (pv 0) (pe_lst pa_nil) rfl)
      (pss_cons (ps_fld (pv 0) pe_dnewK rfl)
      (pss_cons (ps_fld (pv 0) pe_dnewK rfl)
      (pss_cons (ps_fld (pv 0) pe_dnewK rfl)
      (pss_cons (ps_fld (pv 0) (pe_lst pa_nil) rfl)
      (pss_cons (ps_fld (pv 0) pe_bl rfl)
      (pss_cons (ps_fld (pv 0) pe_int rfl)
      (pss_one (ps_fld (pv 0) (pe_lst pa_nil) rfl)))))))))))))), ?_⟩
    obtain ⟨_, _, _, _, _, hc1, _⟩ := id hc.ex
    have n_c : c ≠ p := ne_of hc1 hp fun z => by
      injection z with _ _ z3
      cases z3
    obtain ⟨G0, hG0⟩ : ∃ G, G = H := ⟨_, rfl⟩
    have kb0 : KB p H G0 := by
      rw [hG0]
      exact KB.refl p H
    have p0 : G0 p = some (.ins (cState K) dx []) := by
      rw [hG0]
      exact hp
    obtain ⟨F0, hF0⟩ : ∃ F : List (Str × V), F = [] := ⟨_, rfl⟩
    have lF0 : F0.length < 1 := by
      rw [hF0]
      exact Nat.succ_pos 0
    rw [← hG0]
    rw [← hF0] at p0
    refine ⟨_, rfl, ?_⟩
    refine ⟨_, rfl, p, _, dx, _, rfl, p0, T.cl_State, T.n_State_config, lt_of_lt lF0 (by decide), ?_⟩
    obtain ⟨F1, hF1⟩ : ∃ F, F = putF "config" (.ref c) F0 := ⟨_, rfl⟩
    have lF1 : F1.length < 2 := by
      rw [hF1]
      exact put_lt lF0
    rw [← hF1]
    obtain ⟨G1, hG1, k1, p1⟩ := fld_step (.ins (cState K) dx F1) p0
    rw [← hG1]
    have kb1 : KB p H G1 := fun b o e n => k1 _ _ (kb0 b o e n) n
    refine ⟨_, rfl, ?_⟩
    refine ⟨_, rfl, p, _, dx, _, rfl, p1, T.cl_State, T.n_State_place, lt_of_lt lF1 (by decide), ?_⟩
    obtain ⟨F2, hF2⟩ : ∃ F, F = putF "place" (.str "west") F1 := ⟨_, rfl⟩
    have lF2 : F2.length < 3 := by
      rw [hF2]
      exact put_lt lF1
    rw [← hF2]
    obtain ⟨G2, hG2, k2, p2⟩ := fld_step (.ins (cState K) dx F2) p1
    rw [← hG2]
    have kb2 : KB p H G2 := fun b o e n => k2 _ _ (kb1 b o e n) n
    refine ⟨_, rfl, p, _, dx, _, rfl, p2, T.cl_State, T.n_State_high, lt_of_lt lF2 (by decide), ?_⟩
    obtain ⟨F3, hF3⟩ : ∃ F, F = putF "high" (.int 0) F2 := ⟨_, rfl⟩
    have lF3 : F3.length < 4 := by
      rw [hF3]
      exact put_lt lF2
    rw [← hF3]
    obtain ⟨G3, hG3, k3, p3⟩ := fld_step (.ins (cState K) dx F3) p2
    rw [← hG3]
    have kb3 : KB p H G3 := fun b o e n => k3 _ _ (kb2 b o e n) n
    -- self.sheet = Sheet(config, side)
    refine ⟨_, rfl, _, rfl, fun sh dxs h_sh h_dxs ne => ?_⟩
    have s3 := same_made (C := cSheet K) h_sh h_dxs ne
    refine ⟨sh, dxs, c, ga, lim, win, rfl, upd_same, (hc.kb kb3 n_c hp).mono s3, fun G3' dba dva dbo k3' h_dba h_dva h_dbo hS => ⟨rfl, ?_⟩⟩
    have n_sh : sh ≠ p := fun e => by
      rw [e, p3] at h_sh
      cases h_sh
    have s3' : Same G3 G3' := fun b o e => k3' _ _ (s3 _ _ e) (ne_of_none e h_sh)
    have kb3' : KB p H G3' := kb3.step s3'
    have p3' := s3' _ _ p3
    have f_sh := kb3.free n_sh h_sh
    have n_dba : dba ≠ p := fun e => by
      rw [e, s3 _ _ p3] at h_dba
      cases h_dba
    have n_dva : dva ≠ p := fun e => by
      rw [e, s3 _ _ p3] at h_dva
      cases h_dva
    have n_dbo : dbo ≠ p := fun e => by
      rw [e, s3 _ _ p3] at h_dbo
      cases h_dbo
    have f_dba := (kb3.step s3).free n_dba h_dba
    have f_dva := (kb3.step s3).free n_dva h_dva
    have f_dbo := (kb3.step s3).free n_dbo h_dbo
    refine ⟨_, rfl, p, _, dx, _, rfl, p3', T.cl_State, T.n_State_sheet, lt_of_lt lF3 (by decide), ?_⟩
    obtain ⟨F4, hF4⟩ : ∃ F, F = putF "sheet" (.ref sh) F3 := ⟨_, rfl⟩
    have lF4 : F4.length < 5 := by
      rw [hF4]
      exact put_lt lF3
    rw [← hF4]
    obtain ⟨G4, hG4, k4, p4⟩ := fld_step (.ins (cState K) dx F4) p3'
    rw [← hG4]
    have kb4 : KB p H G4 := fun b o e n => k4 _ _ (kb3' b o e n) n
    have c4 := hc.kb kb4 n_c hp
    obtain ⟨dxc, _, _, _, _, hc4, _⟩ := id c4.ex
    refine ⟨_, rfl, c, dxc, _, rfl, hc4, cf_no_guards, c, ga, lim, win, rfl, c4, (by show 1 ≤ sizeLine; decide), fun lse h_lse => ⟨_, rfl, p, _, dx, _, rfl, get_old p4 h_lse, T.cl_State, T.n_State_sets, lt_of_lt lF4 (by decide), ?_⟩⟩
    obtain ⟨F5, hF5⟩ : ∃ F, F = putF "sets" (.ref lse) F4 := ⟨_, rfl⟩
    have lF5 : F5.length < 6 := by
      rw [hF5]
      exact put_lt lF4
    rw [← hF5]
    obtain ⟨G5, hG5, k5, p5, e_lse, n_lse⟩ := new_step (.lst [.ref ga]) (.ins (cState K) dx F5) p4 h_lse
    rw [← hG5]
    have f_lse := kb4.free n_lse h_lse
    have kb5 : KB p H G5 := fun b o e n => k5 _ _ (kb4 b o e n) n
    refine ⟨Nat.zero_le _, fun lsn h_lsn => ⟨_, rfl, p, _, dx, _, rfl, get_old p5 h_lsn, T.cl_State, T.n_State_sent, lt_of_lt lF5 (by decide), ?_⟩⟩
    obtain ⟨F6, hF6⟩ : ∃ F, F = putF "sent" (.ref lsn) F5 := ⟨_, rfl⟩
    have lF6 : F6.length < 7 := by
      rw [hF6]
      exact put_lt lF5
    rw [← hF6]
    obtain ⟨G6, hG6, k6, p6, e_lsn, n_lsn⟩ := new_step (.lst []) (.ins (cState K) dx F6) p5 h_lsn
    rw [← hG6]
    have f_lsn := kb5.free n_lsn h_lsn
    have kb6 : KB p H G6 := fun b o e n => k6 _ _ (kb5 b o e n) n
    refine fun dib h_dib => ⟨_, rfl, p, _, dx, _, rfl, get_old p6 h_dib, T.cl_State, T.n_State_inbox, lt_of_lt lF6 (by decide), ?_⟩
    obtain ⟨F7, hF7⟩ : ∃ F, F = putF "inbox" (.ref dib) F6 := ⟨_, rfl⟩
    have lF7 : F7.length < 8 := by
      rw [hF7]
      exact put_lt lF6
    rw [← hF7]
    obtain ⟨G7, hG7, k7, p7, e_dib, n_dib⟩ := new_step (.dK []) (.ins (cState K) dx F7) p6 h_dib
    rw [← hG7]
    have f_dib := kb6.free n_dib h_dib
    have kb7 : KB p H G7 := fun b o e n => k7 _ _ (kb6 b o e n) n
    refine fun dro h_dro => ⟨_, rfl, p, _, dx, _, rfl, get_old p7 h_dro, T.cl_State, T.n_State_rooms, lt_of_lt lF7 (by decide), ?_⟩
    obtain ⟨F8, hF8⟩ : ∃ F, F = putF "rooms" (.ref dro) F7 := ⟨_, rfl⟩
    have lF8 : F8.length < 9 := by
      rw [hF8]
      exact put_lt lF7
    rw [← hF8]
    obtain ⟨G8, hG8, k8, p8, e_dro, n_dro⟩ := new_step (.dK []) (.ins (cState K) dx F8) p7 h_dro
    rw [← hG8]
    have f_dro := kb7.free n_dro h_dro
    have kb8 : KB p H G8 := fun b o e n => k8 _ _ (kb7 b o e n) n
    refine fun dre h_dre => ⟨_, rfl, p, _, dx, _, rfl, get_old p8 h_dre, T.cl_State, T.n_State_returned, lt_of_lt lF8 (by decide), ?_⟩
    obtain ⟨F9, hF9⟩ : ∃ F, F = putF "returned" (.ref dre) F8 := ⟨_, rfl⟩
    have lF9 : F9.length < 10 := by
      rw [hF9]
      exact put_lt lF8
    rw [← hF9]
    obtain ⟨G9, hG9, k9, p9, e_dre, n_dre⟩ := new_step (.dK []) (.ins (cState K) dx F9) p8 h_dre
    rw [← hG9]
    have f_dre := kb8.free n_dre h_dre
    have kb9 : KB p H G9 := fun b o e n => k9 _ _ (kb8 b o e n) n
    refine ⟨Nat.zero_le _, fun lpa h_lpa => ⟨_, rfl, p, _, dx, _, rfl, get_old p9 h_lpa, T.cl_State, T.n_State_passed, lt_of_lt lF9 (by decide), ?_⟩⟩
    obtain ⟨F10, hF10⟩ : ∃ F, F = putF "passed" (.ref lpa) F9 := ⟨_, rfl⟩
    have lF10 : F10.length < 11 := by
      rw [hF10]
      exact put_lt lF9
    rw [← hF10]
    obtain ⟨G10, hG10, k10, p10, e_lpa, n_lpa⟩ := new_step (.lst []) (.ins (cState K) dx F10) p9 h_lpa
    rw [← hG10]
    have f_lpa := kb9.free n_lpa h_lpa
    have kb10 : KB p H G10 := fun b o e n => k10 _ _ (kb9 b o e n) n
    refine ⟨_, rfl, p, _, dx, _, rfl, p10, T.cl_State, T.n_State_stopped, lt_of_lt lF10 (by decide), ?_⟩
    obtain ⟨F11, hF11⟩ : ∃ F, F = putF "stopped" (.bl false) F10 := ⟨_, rfl⟩
    have lF11 : F11.length < 12 := by
      rw [hF11]
      exact put_lt lF10
    rw [← hF11]
    obtain ⟨G11, hG11, k11, p11⟩ := fld_step (.ins (cState K) dx F11) p10
    rw [← hG11]
    have kb11 : KB p H G11 := fun b o e n => k11 _ _ (kb10 b o e n) n
    refine ⟨_, rfl, p, _, dx, _, rfl, p11, T.cl_State, T.n_State_stop_count, lt_of_lt lF11 (by decide), ?_⟩
    obtain ⟨F12, hF12⟩ : ∃ F, F = putF "stop_count" (.int 0) F11 := ⟨_, rfl⟩
    have lF12 : F12.length < 13 := by
      rw [hF12]
      exact put_lt lF11
    rw [← hF12]
    obtain ⟨G12, hG12, k12, p12⟩ := fld_step (.ins (cState K) dx F12) p11
    rw [← hG12]
    have kb12 : KB p H G12 := fun b o e n => k12 _ _ (kb11 b o e n) n
    refine ⟨Nat.zero_le _, fun lfr h_lfr => ⟨_, rfl, p, _, dx, _, rfl, get_old p12 h_lfr, T.cl_State, T.n_State_fresh, lt_of_lt lF12 (by decide), ?_⟩⟩
    obtain ⟨F13, hF13⟩ : ∃ F, F = putF "fresh" (.ref lfr) F12 := ⟨_, rfl⟩
    have lF13 : F13.length < 14 := by
      rw [hF13]
      exact put_lt lF12
    rw [← hF13]
    obtain ⟨G13, hG13, k13, p13, e_lfr, n_lfr⟩ := new_step (.lst []) (.ins (cState K) dx F13) p12 h_lfr
    rw [← hG13]
    have f_lfr := kb12.free n_lfr h_lfr
    have kb13 : KB p H G13 := fun b o e n => k13 _ _ (kb12 b o e n) n
    have kk : ∀ b o, G3' b = some o → b ≠ p → G13 b = some o := fun b o e n => (k13 _ _ (k12 _ _ (k11 _ _ (k10 _ _ (k9 _ _ (k8 _ _ (k7 _ _ (k6 _ _ (k5 _ _ (k4 _ _ e n) n) n) n) n) n) n) n) n) n)
    have eF : F13 = sf (.ref c) (.str "west") (.int 0) (.ref sh) (.ref lse) (.ref lsn) (.ref dib) (.ref dro) (.ref dre) (.ref lpa) (.bl false) (.int 0) (.ref lfr) := by
      rw [hF13, hF12, hF11, hF10, hF9, hF8, hF7, hF6, hF5, hF4, hF3, hF2, hF1, hF0]
      exact sf_mk
    rw [eF] at p13
    refine q G13 ⟨dx, sh, dxs, lse, lsn, dib, dro, dre, lpa, lfr, dba, dva, dbo⟩ kb13 ?_ ⟨p13, hS.kb kk n_sh p3', (k13 _ _ (k12 _ _ (k11 _ _ (k10 _ _ (k9 _ _ (k8 _ _ (k7 _ _ (k6 _ _ e_lse n_lse) n_lse) n_lse) n_lse) n_lse) n_lse) n_lse) n_lse), ⟨_, (k13 _ _ (k12 _ _ (k11 _ _ (k10 _ _ (k9 _ _ (k8 _ _ (k7 _ _ e_lsn n_lsn) n_lsn) n_lsn) n_lsn) n_lsn) n_lsn) n_lsn)⟩, (k13 _ _ (k12 _ _ (k11 _ _ (k10 _ _ (k9 _ _ (k8 _ _ e_dib n_dib) n_dib) n_dib) n_dib) n_dib) n_dib), ⟨_, (k13 _ _ (k12 _ _ (k11 _ _ (k10 _ _ (k9 _ _ e_dro n_dro) n_dro) n_dro) n_dro) n_dro)⟩, ⟨_, (k13 _ _ (k12 _ _ (k11 _ _ (k10 _ _ e_dre n_dre) n_dre) n_dre) n_dre)⟩, (k13 _ _ (k12 _ _ (k11 _ _ e_lpa n_lpa) n_lpa) n_lpa), fun r hr => (by cases hr), e_lfr, ?_, ?_, ?_⟩
    · intro b hb
      simp only [SA.adds, List.mem_cons, List.mem_nil_iff, or_false] at hb
      rcases hb with rfl | rfl | rfl | rfl | rfl | rfl | rfl | rfl | rfl | rfl | rfl
      all_goals assumption
    · exact (ne_of_none (k9 _ _ (k8 _ _ (k7 _ _ (k6 _ _ e_lse n_lse) n_lse) n_lse) n_lse) h_lpa).symm
    · exact (ne_of_none (k12 _ _ (k11 _ _ (k10 _ _ (k9 _ _ (k8 _ _ (k7 _ _ (k6 _ _ e_lse n_lse) n_lse) n_lse) n_lse) n_lse) n_lse) n_lse) h_lfr).symm
    · exact ne_of_none (k12 _ _ (k11 _ _ e_lpa n_lpa) n_lpa) h_lfr
def spHeight (K : PySem.W.Frag) : Sp := fun vs H Q _ => ∃ (p c ga : Addr) (A : SA) (S : SS), vs = [.ref p] ∧ StAt K H p A c ga S ∧ Q (.int S.high) H
theorem sc_State_height : FnScope ["self"] ["self"] (defScope s_State_height) := ⟨rfl, rfl, rfl, by decide +kernel, rfl, by decide +kernel, by decide +kernel⟩
theorem ok_State_height (T : Txt w K mg) : Ok P w K mg base CX0 1 ("State", some "height") ["self"] (spHeight K) := by
  refine mk_ok T 39 (d := d_State_height) rfl sc_State_height rfl rfl (fun _ _ _ _ _ _ us hl => match us, hl with | [_], _ => rfl) (fun vs H Q E h => ?_) (fun cdv A0 outer s H vs Q E hr h => ?_)
  · obtain ⟨p, c, ga, A, S, rfl, _⟩ := h
    rfl
  · obtain ⟨p, c, ga, A, S, rfl, hs, q⟩ := h
    refine ⟨_, (pss_one (ps_ret (pe_fld (pv 0) rfl))), ?_⟩
    exact ⟨_, rfl, p, _, A.dx, _, _, rfl, hs.ob, T.cl_State, T.n_State_high, sf_high, q⟩
def spOpen (K : PySem.W.Frag) : Sp := fun vs H Q _ => ∃ (c ga : Addr) (lim win : Int), vs = [.ref c, .str "west"] ∧ CfgAt K H c lim win ga ∧
  ∀ (H' : Hp) (p : Addr) (A : SA), Same H H' → H p = none → (∀ b ∈ A.adds, H b = none) → StAt K H' p A c ga S0 → Q (.ref p) H'
theorem sc_opening_state : FnScope ["config", "side"] ["config", "side"] (defScope s_opening_state) := ⟨rfl, rfl, rfl, by decide +kernel, rfl, by decide +kernel, by decide +kernel⟩
theorem ok_opening_state (T : Txt w K mg) : Ok P w K mg base CX0 8 ("opening_state", none) ["config", "side"] (spOpen K) := by
  obtain ⟨fd1, G_State_init, b_State_init, _⟩ := ok_State_init (P := P) (base := base) T
  refine mk_ok T 40 (d := d_opening_state) rfl sc_opening_state rfl rfl (fun _ _ _ _ _ _ us hl => match us, hl with | [_, _], _ => rfl) (fun vs H Q E h => ?_) (fun cdv A0 outer s H vs Q E hr h => ?_)
  · obtain ⟨c, ga, lim, win, rfl, _⟩ := h
    rfl
  · obtain ⟨c, ga, lim, win, rfl, hc, q⟩ := h
    refine ⟨_, (pss_one (ps_ret (pe_make T.mk_State G_State_init (hr.mono (by decide)) rfl T.g_State b_State_init .nil pass0 (pa_cons (pv 0) (pa_cons (pv 1) pa_nil))))), ?_⟩
    refine ⟨_, rfl, _, rfl, fun p dx hp hdx ne => ?_⟩
    have s0 := same_made (C := cState K) hp hdx ne
    refine ⟨p, dx, c, ga, lim, win, rfl, upd_same, hc.mono s0, fun H' A k1 h1 h2 => ⟨rfl, ?_⟩⟩
    exact q H' p A (fun b o e => k1 _ _ (s0 _ _ e) (ne_of_none e hp)) hp (fun b hb => s0.free (h1 b hb)) h2
/-! ### twin -/
def spTwin (K : PySem.W.Frag) : Sp := fun vs H Q _ => ∃ (p c ga : Addr) (lim win : Int) (A : SA) (S : SS), vs = [.ref p] ∧ CfgAt K H c lim win ga ∧ StAt K H p A c ga S ∧ S.nb ≤ 1000 ∧
  ∀ (H' : Hp) (p' : Addr) (A' : SA), Same H H' → H p' = none → (∀ b ∈ A'.adds, H b = none) → StAt K H' p' A' c ga { S with fresh := [] } → Q (.ref p') H'
theorem sc_State_twin : FnScope ["self", "other"] ["self"] (defScope s_State_twin) := ⟨rfl, rfl, rfl, by decide +kernel, rfl, by decide +kernel, by decide +kernel⟩
theorem ok_State_twin (T : Txt w K mg) : Ok P w K mg base CX0 8 ("State", some "twin") ["self"] (spTwin K) := by
  obtain ⟨fd1, G_State_init, b_State_init, _⟩ := ok_State_init (P := P) (base := base) T
  obtain ⟨fd2, G_Sheet_copy, b_Sheet_copy, _⟩ := ok_Sheet_copy (P := P) (base := base) T
  refine mk_ok T 38 (d := d_State_twin) rfl sc_State_twin rfl rfl (fun _ _ _ _ _ _ us hl => match us, hl with | [_], _ => rfl) (fun vs H Q E h => ?_) (fun cdv A0 outer s H vs Q E hr h => ?_)
  · obtain ⟨p, c, ga, lim, win, A, S, rfl, _⟩ := h
    rfl
  · obtain ⟨p, c, ga, lim, win, A, S, rfl, hc, hs, hn, q⟩ := h
    refine ⟨_, (pss_cons (ps_set (i := 1) sc_State_twin.nd rfl (Or.inl rfl) (pe_make T.mk_State G_State_init (hr.mono (by decide)) rfl T.g_State b_State_init .nil pass0 (pa_cons (pe_fld (pv 0) rfl) (pa_cons (pe_fld (pv 0) rfl) pa_nil))))
      (pss_cons (ps_fld (pv 1) (pe_fld (pv 0) rfl) rfl)
      (pss_cons (ps_fld (pv 1) (pe_meth0 (pe_fld (pv 0) rfl) T.cl_Sheet T.m_Sheet_copy G_Sheet_copy (hr.mono (by decide)) b_Sheet_copy .nil pass0) rfl)
      (pss_cons (ps_fld (pv 1) (pe_callTy call_list_of (by rfl) T.f_list boot_list (pa_cons (pe_fld (pv 0) rfl) pa_nil)) rfl)
      (pss_cons (ps_fld (pv 1) (pe_callTy call_list_of (by rfl) T.f_list boot_list (pa_cons (pe_fld (pv 0) rfl) pa_nil)) rfl)
      (pss_cons (ps_fld (pv 1) (pe_callTy call_dictD (by rfl) T.f_dict boot_dict (pa_cons (pe_fld (pv 0) rfl) pa_nil)) rfl)
      (pss_cons (ps_fld (pv 1) (pe_callTy call_dictD (by rfl) T.f_dict boot_dict (pa_cons (pe_fld (pv 0) rfl) pa_nil)) rfl)
      (pss_cons (ps_fld (pv 1) (pe_callTy call_dictD (by rfl) T.f_dict boot_dict (pa_cons (pe_fld (pv 0) rfl) pa_nil)) rfl)
      (pss_cons (ps_fld (pv 1) (pe_callTy call_list_of (by rfl) T.f_list boot_list (pa_cons (pe_fld (pv 0) rfl) pa_nil)) rfl)
      (pss_cons (ps_fld (pv 1) (pe_fld (pv 0) rfl) rfl)
      (pss_cons (ps_fld (pv 1) (pe_fld (pv 0) rfl) rfl)
      (pss_one (ps_ret (pv 1)))))))))))))), ?_⟩
    refine ⟨_, rfl, p, _, A.dx, _, _, rfl, hs.ob, T.cl_State, T.n_State_config, sf_config, _, rfl, p, _, A.dx, _, _, rfl, hs.ob, T.cl_State, T.n_State_place, sf_place, fun tw dx h_tw hdx ne => ?_⟩
    have s0 := same_made (C := cState K) h_tw hdx ne
    refine ⟨tw, dx, c, ga, lim, win, rfl, upd_same, hc.mono s0, fun G0 B k0 hB hT => ⟨rfl, ?_⟩⟩
    have sm0 : Same H G0 := fun b o e => k0 _ _ (s0 _ _ e) (ne_of_none e h_tw)
    have p0 := hT.ob
    -- other.high
    have h0 := hs.mono sm0
    refine ⟨_, rfl, p, _, A.dx, _, _, rfl, h0.ob, T.cl_State, T.n_State_high, sf_high, _, rfl, tw, _, B.dx, _, rfl, p0, T.cl_State, T.n_State_high, sf_len, ?_⟩
    rw [sf_put_high]
    obtain ⟨G1, hG1, k1, p1⟩ := fld_step (.ins (cState K) B.dx (sf (.ref c) (.str "west") (.int S.high) (.ref B.sh) (.ref B.lse) (.ref B.lsn) (.ref B.dib) (.ref B.dro) (.ref B.dre) (.ref B.lpa) (.bl false) (.int 0) (.ref B.lfr))) p0
    rw [← hG1]
    have sm1 : Same H G1 := fun b o e => k1 _ _ (sm0 _ _ e) (ne_of_none e h_tw)
    -- other.sheet
    have h1 := hs.mono sm1
    refine ⟨_, rfl, p, _, A.dx, _, _, rfl, h1.ob, T.cl_State, T.n_State_sheet, sf_sheet, A.sh, A.dxs, _, rfl, h1.sheet.ob, hf_no_copy, A.sh, A.dxs, c, A.dba, A.dva, A.dbo, ga, lim, win, S.nb, rfl, h1.sheet, hc.mono sm1, hn, fun G1' sh' dxs' dba' dva' dbo' s1' h_sh h_dba h_dva h_dbo hS => ?_⟩
    have sm1' : Same H G1' := fun b o e => s1' _ _ (sm1 _ _ e)
    have p1' := s1' _ _ p1
    refine ⟨_, rfl, tw, _, B.dx, _, rfl, p1', T.cl_State, T.n_State_sheet, sf_len, ?_⟩
    rw [sf_put_sheet]
    obtain ⟨G2, hG2, k2, p2⟩ := fld_step (.ins (cState K) B.dx (sf (.ref c) (.str "west") (.int S.high) (.ref sh') (.ref B.lse) (.ref B.lsn) (.ref B.dib) (.ref B.dro) (.ref B.dre) (.ref B.lpa) (.bl false) (.int 0) (.ref B.lfr))) p1'
    rw [← hG2]
    have n_sh : sh' ≠ tw := fun e => by
      rw [e, p1] at h_sh
      cases h_sh
    have sm2 : Same H G2 := fun b o e => k2 _ _ (sm1' _ _ e) (ne_of_none e h_tw)
    -- other.sets
    have h2 := hs.mono sm2
    refine ⟨_, rfl, p, _, A.dx, _, _, rfl, h2.ob, T.cl_State, T.n_State_sets, sf_sets, A.lse, _, rfl, .inl (SqL.of h2.se), fun lse h_lse => ⟨_, rfl, tw, _, B.dx, _, rfl, get_old p2 h_lse, T.cl_State, T.n_State_sets, sf_len, ?_⟩⟩
    rw [sf_put_sets]
    obtain ⟨G3, hG3, k3, p3, e_lse, n_lse⟩ := new_step (.lst [.ref ga]) (.ins (cState K) B.dx (sf (.ref c) (.str "west") (.int S.high) (.ref sh') (.ref lse) (.ref B.lsn) (.ref B.dib) (.ref B.dro) (.ref B.dre) (.ref B.lpa) (.bl false) (.int 0) (.ref B.lfr))) p2 h_lse
    rw [← hG3]
    have f_lse := sm2.free h_lse
    have sm3 : Same H G3 := fun b o e => k3 _ _ (sm2 _ _ e) (ne_of_none e h_tw)
    obtain ⟨xsn, hsn⟩ := hs.sn
    -- other.sent
    have h3 := hs.mono sm3
    refine ⟨_, rfl, p, _, A.dx, _, _, rfl, h3.ob, T.cl_State, T.n_State_sent, sf_sent, A.lsn, _, rfl, .inl (SqL.of (sm3 _ _ hsn)), fun lsn h_lsn => ⟨_, rfl, tw, _, B.dx, _, rfl, get_old p3 h_lsn, T.cl_State, T.n_State_sent, sf_len, ?_⟩⟩
    rw [sf_put_sent]
    obtain ⟨G4, hG4, k4, p4, e_lsn, n_lsn⟩ := new_step (.lst xsn) (.ins (cState K) B.dx (sf (.ref c) (.str "west") (.int S.high) (.ref sh') (.ref lse) (.ref lsn) (.ref B.dib) (.ref B.dro) (.ref B.dre) (.ref B.lpa) (.bl false) (.int 0) (.ref B.lfr))) p3 h_lsn
    rw [← hG4]
    have f_lsn := sm3.free h_lsn
    have sm4 : Same H G4 := fun b o e => k4 _ _ (sm3 _ _ e) (ne_of_none e h_tw)
    -- other.inbox
    have h4 := hs.mono sm4
    refine ⟨_, rfl, p, _, A.dx, _, _, rfl, h4.ob, T.cl_State, T.n_State_inbox, sf_inbox, A.dib, _, rfl, .inl (h4.ib), fun dib h_dib => ⟨_, rfl, tw, _, B.dx, _, rfl, get_old p4 h_dib, T.cl_State, T.n_State_inbox, sf_len, ?_⟩⟩
    rw [sf_put_inbox]
    obtain ⟨G5, hG5, k5, p5, e_dib, n_dib⟩ := new_step (.dK S.inbox) (.ins (cState K) B.dx (sf (.ref c) (.str "west") (.int S.high) (.ref sh') (.ref lse) (.ref lsn) (.ref dib) (.ref B.dro) (.ref B.dre) (.ref B.lpa) (.bl false) (.int 0) (.ref B.lfr))) p4 h_dib
    rw [← hG5]
    have f_dib := sm4.free h_dib
    have sm5 : Same H G5 := fun b o e => k5 _ _ (sm4 _ _ e) (ne_of_none e h_tw)
    obtain ⟨xro, hro⟩ := hs.ro
    obtain ⟨xre, hre⟩ := hs.re
    -- other.rooms
    have h5 := hs.mono sm5
    refine ⟨_, rfl, p, _, A.dx, _, _, rfl, h5.ob, T.cl_State, T.n_State_rooms, sf_rooms, A.dro, _, rfl, .inl (sm5 _ _ hro), fun dro h_dro => ⟨_, rfl, tw, _, B.dx, _, rfl, get_old p5 h_dro, T.cl_State, T.n_State_rooms, sf_len, ?_⟩⟩
    rw [sf_put_rooms]
    obtain ⟨G6, hG6, k6, p6, e_dro, n_dro⟩ := new_step (.dK xro) (.ins (cState K) B.dx (sf (.ref c) (.str "west") (.int S.high) (.ref sh') (.ref lse) (.ref lsn) (.ref dib) (.ref dro) (.ref B.dre) (.ref B.lpa) (.bl false) (.int 0) (.ref B.lfr))) p5 h_dro
    rw [← hG6]
    have f_dro := sm5.free h_dro
    have sm6 : Same H G6 := fun b o e => k6 _ _ (sm5 _ _ e) (ne_of_none e h_tw)
    -- other.returned
    have h6 := hs.mono sm6
    refine ⟨_, rfl, p, _, A.dx, _, _, rfl, h6.ob, T.cl_State, T.n_State_returned, sf_returned, A.dre, _, rfl, .inl (sm6 _ _ hre), fun dre h_dre => ⟨_, rfl, tw, _, B.dx, _, rfl, get_old p6 h_dre, T.cl_State, T.n_State_returned, sf_len, ?_⟩⟩
    rw [sf_put_returned]
    obtain ⟨G7, hG7, k7, p7, e_dre, n_dre⟩ := new_step (.dK xre) (.ins (cState K) B.dx (sf (.ref c) (.str "west") (.int S.high) (.ref sh') (.ref lse) (.ref lsn) (.ref dib) (.ref dro) (.ref dre) (.ref B.lpa) (.bl false) (.int 0) (.ref B.lfr))) p6 h_dre
    rw [← hG7]
    have f_dre := sm6.free h_dre
    have sm7 : Same H G7 := fun b o e => k7 _ _ (sm6 _ _ e) (ne_of_none e h_tw)
    -- other.passed
    have h7 := hs.mono sm7
    refine ⟨_, rfl, p, _, A.dx, _, _, rfl, h7.ob, T.cl_State, T.n_State_passed, sf_passed, A.lpa, _, rfl, .inl (SqL.of h7.pa), fun lpa h_lpa => ⟨_, rfl, tw, _, B.dx, _, rfl, get_old p7 h_lpa, T.cl_State, T.n_State_passed, sf_len, ?_⟩⟩
    rw [sf_put_passed]
    obtain ⟨G8, hG8, k8, p8, e_lpa, n_lpa⟩ := new_step (.lst (S.passed.map fun r => V.ref r.1)) (.ins (cState K) B.dx (sf (.ref c) (.str "west") (.int S.high) (.ref sh') (.ref lse) (.ref lsn) (.ref dib) (.ref dro) (.ref dre) (.ref lpa) (.bl false) (.int 0) (.ref B.lfr))) p7 h_lpa
    rw [← hG8]
    have f_lpa := sm7.free h_lpa
    have sm8 : Same H G8 := fun b o e => k8 _ _ (sm7 _ _ e) (ne_of_none e h_tw)
    -- other.stopped
    have h8 := hs.mono sm8
    refine ⟨_, rfl, p, _, A.dx, _, _, rfl, h8.ob, T.cl_State, T.n_State_stopped, sf_stopped, _, rfl, tw, _, B.dx, _, rfl, p8, T.cl_State, T.n_State_stopped, sf_len, ?_⟩
    rw [sf_put_stopped]
    obtain ⟨G9, hG9, k9, p9⟩ := fld_step (.ins (cState K) B.dx (sf (.ref c) (.str "west") (.int S.high) (.ref sh') (.ref lse) (.ref lsn) (.ref dib) (.ref dro) (.ref dre) (.ref lpa) (.bl false) (.int 0) (.ref B.lfr))) p8
    rw [← hG9]
    have sm9 : Same H G9 := fun b o e => k9 _ _ (sm8 _ _ e) (ne_of_none e h_tw)
    -- other.stop_count
    have h9 := hs.mono sm9
    refine ⟨_, rfl, p, _, A.dx, _, _, rfl, h9.ob, T.cl_State, T.n_State_stop_count, sf_stop_count, _, rfl, tw, _, B.dx, _, rfl, p9, T.cl_State, T.n_State_stop_count, sf_len, ?_⟩
    rw [sf_put_stop_count]
    obtain ⟨G10, hG10, k10, p10⟩ := fld_step (.ins (cState K) B.dx (sf (.ref c) (.str "west") (.int S.high) (.ref sh') (.ref lse) (.ref lsn) (.ref dib) (.ref dro) (.ref dre) (.ref lpa) (.bl false) (.int 0) (.ref B.lfr))) p9
    rw [← hG10]
    have sm10 : Same H G10 := fun b o e => k10 _ _ (sm9 _ _ e) (ne_of_none e h_tw)
    have kk : ∀ b o, G1' b = some o → b ≠ tw → G10 b = some o := fun b o e n => (k10 _ _ (k9 _ _ (k8 _ _ (k7 _ _ (k6 _ _ (k5 _ _ (k4 _ _ (k3 _ _ (k2 _ _ e n) n) n) n) n) n) n) n) n)
    have n_B : ∀ b ∈ B.adds, b ≠ tw := fun b hb e => by
      have z := hB b hb
      rw [e, upd_same] at z
      cases z
    have f_B : ∀ b ∈ B.adds, H b = none := fun b hb => s0.free (hB b hb)
    have i_lfr : B.lfr ∈ B.adds := by simp [SA.adds]
    have e_lfr := k1 _ _ hT.fr (n_B _ i_lfr)
    have e_lfr1 := s1' _ _ e_lfr
    have fr2 := k2 _ _ e_lfr1 (n_B _ i_lfr)
    have fr7 := (k7 _ _ (k6 _ _ (k5 _ _ (k4 _ _ (k3 _ _ fr2 (n_B _ i_lfr)) (n_B _ i_lfr)) (n_B _ i_lfr)) (n_B _ i_lfr)) (n_B _ i_lfr))
    refine ⟨_, rfl, q G10 tw ⟨B.dx, sh', dxs', lse, lsn, dib, dro, dre, lpa, B.lfr, dba', dva', dbo'⟩ sm10 h_tw ?_ ⟨p10, hS.kb kk n_sh p1', (k10 _ _ (k9 _ _ (k8 _ _ (k7 _ _ (k6 _ _ (k5 _ _ (k4 _ _ e_lse n_lse) n_lse) n_lse) n_lse) n_lse) n_lse) n_lse), ⟨_, (k10 _ _ (k9 _ _ (k8 _ _ (k7 _ _ (k6 _ _ (k5 _ _ e_lsn n_lsn) n_lsn) n_lsn) n_lsn) n_lsn) n_lsn)⟩, (k10 _ _ (k9 _ _ (k8 _ _ (k7 _ _ (k6 _ _ e_dib n_dib) n_dib) n_dib) n_dib) n_dib), ⟨_, (k10 _ _ (k9 _ _ (k8 _ _ (k7 _ _ e_dro n_dro) n_dro) n_dro) n_dro)⟩, ⟨_, (k10 _ _ (k9 _ _ (k8 _ _ e_dre n_dre) n_dre) n_dre)⟩, (k10 _ _ (k9 _ _ e_lpa n_lpa) n_lpa), fun r hr => sm10 _ _ (hs.rows r hr), kk _ _ e_lfr1 (n_B _ i_lfr), ?_, ?_, ?_⟩⟩
    · have f_lfr := f_B _ i_lfr
      have f_sh := sm1.free h_sh
      have f_dba := sm1.free h_dba
      have f_dva := sm1.free h_dva
      have f_dbo := sm1.free h_dbo
      intro b hb
      simp only [SA.adds, List.mem_cons, List.mem_nil_iff, or_false] at hb
      rcases hb with rfl | rfl | rfl | rfl | rfl | rfl | rfl | rfl | rfl | rfl | rfl
      all_goals assumption
    · exact (ne_of_none (k7 _ _ (k6 _ _ (k5 _ _ (k4 _ _ e_lse n_lse) n_lse) n_lse) n_lse) h_lpa).symm
    · exact ne_of_none fr2 h_lse
    · exact (ne_of_none fr7 h_lpa).symm
end
end Vb
set_option Elab.async false
set_option linter.all false
set_option maxRecDepth 100000
set_option maxHeartbeats 4000000
/-! gateway.py, first part -/
namespace Vb
open PySem PySem.Spec PyProof.Rows L2
theorem pe_never {X : Cx} {e : Expr} : PE X e (fun _ _ _ => False) := ⟨fun _ _ _ _ _ _ h => h.elim⟩
theorem pt_never {X : Cx} {e : Expr} : PT X e (fun _ _ _ => False) := ⟨fun _ _ _ _ _ _ h => h.elim⟩
theorem ne_ew : ¬ (("east" : Str) = "west") := by decide +kernel
theorem cut_last (v : V) : cutV [v] (some (-2)) none = [v] := rfl
/-- the units of a token that were delivered above a height -/
def psum (ps : Pa) (first : Int) (tok : Str) : Int := ((ps.filter fun r => decide (first < r.2.1) && decide (r.2.2.1 = tok)).map (·.2.2.2)).sum
def bey (S : SS) (lim win : Int) (tok : Str) (un : Int) : Prop := limOf lim tok < psum S.passed (S.high - win) tok + un
section
variable {P : Program} {w : World} {K : PySem.W.Frag} {mg : Str → Option Value} {base : Heap}
/-! ### check_backed -/
def spBacked (w : World) (K : PySem.W.Frag) : Sp := fun vs H Q _ => ∃ (n lt dn p c ga sa : Addr) (A : SA) (S : SS) (te : Te) (gs : Gs) (L : Le), vs = [.ref n, .ref p, .ref L.a, .ref sa] ∧ NotAt w K H n lt dn te ∧ StAt K H p A c ga S ∧ LeAt H L ∧ GoodLe L ∧ GsAt H ga gs ∧ GoodGs gs ∧
  wsum gs ≤ 1000000 ∧ SlAt H sa gs L te ∧ ∀ H', Same H H' → Q .non H'
theorem sc_check_backed : FnScope ["notary", "state", "letter", "seals", "guards"] ["notary", "state", "letter", "seals"] (defScope s_check_backed) := ⟨rfl, rfl, rfl, by decide +kernel, rfl, by decide +kernel, by decide +kernel⟩
theorem ok_check_backed (T : Txt w K mg) : Ok P w K mg base CX0 3 ("check_backed", none) ["notary", "state", "letter", "seals"] (spBacked w K) := by
  obtain ⟨fd1, G_Notary_weight, b_Notary_weight, _⟩ := ok_Notary_weight (P := P) (base := base) T
  obtain ⟨fd2, G_threshold, b_threshold, k_threshold⟩ := ok_threshold (P := P) (base := base) T
  refine mk_ok T 16 (d := d_check_backed) rfl sc_check_backed rfl rfl (fun _ _ _ _ _ _ us hl => match us, hl with | [_, _, _, _], _ => rfl) (fun vs H Q E h => ?_) (fun cdv A0 outer s H vs Q E hr h => ?_)
  · obtain ⟨n, lt, dn, p, c, ga, sa, A, S, te, gs, L, rfl, _⟩ := h
    rfl
  · obtain ⟨n, lt, dn, p, c, ga, sa, A, S, te, gs, L, rfl, hN, hs, hL, hG, hA, hgood, hw, hsl, q⟩ := h
    refine ⟨_, (pss_cons (ps_for PassesOwn.never rfl (pi_list (pe_slice sl_list (pe_fld (pv 1) rfl) (po_some (pe_un un_neg pe_int)) po_none)) (pg_name (i := 4) sc_check_backed.nd rfl (Or.inl rfl)) (pss_one (ps_if (pt_cmpR op_ge (pe_meth (pv 0) T.cl_Notary T.m_Notary_weight G_Notary_weight (hr.mono (by decide)) b_Notary_weight .nil pass0 (pa_cons (pv 4) (pa_cons (pv 2) (pa_cons (pv 3) pa_nil)))) (pe_call G_threshold (hr.mono (by decide)) rfl T.g_threshold k_threshold b_threshold .nil pass0 (pa_cons (pv 4) pa_nil)) (nomark _)) (pss_one ps_retN) pss_nil)))
      (pss_one ps_never)), ?_⟩
    refine ⟨_, rfl, p, _, A.dx, _, _, rfl, hs.ob, T.cl_State, T.n_State_sets, sf_sets, _, rfl, _, rfl, A.lse, _, rfl, SqL.of hs.se, fun l hl => ?_⟩
    rw [cut_last]
    have s0 : Same H (upd H l (.lst [.ref ga])) := same_new hl
    refine ⟨l, rfl, ⟨_, SqL.of upd_same⟩, for_list (K := K) (a := l) (xs := [.ref ga]) (fun i σ H2 => i = 0 ∧ σ = [some (.ref n), some (.ref p), some (.ref L.a), some (.ref sa), none] ∧ H2 = upd H l (.lst [.ref ga]))
      ⟨rfl, rfl, rfl⟩ (fun i σ H2 _ ⟨_, _, e⟩ => by rw [e]; exact SqL.of upd_same) ?_ (fun σ H2 ⟨e, _⟩ => by cases e)⟩
    rintro i y σ H2 hi ⟨rfl, rfl, rfl⟩
    cases hi
    have N1 := hN.mono s0
    obtain ⟨⟨dxn, hn1⟩, _⟩ := id N1
    refine ⟨_, rfl, n, dxn, _, rfl, hn1, nf_no_weight, _, rfl, _, rfl, _, rfl, n, lt, dn, ga, sa, te, gs, L, rfl, N1, hL.mono s0, hG, hA.mono s0, hgood, hsl.mono s0, fun H3 s3 => ?_⟩
    refine ⟨_, rfl, ga, gs, rfl, (hA.mono s0).mono s3, hgood, hw, fun H4 t s4 ht => ?_⟩
    refine ⟨_, _, rfl, rfl, _, rfl, ?_⟩
    rw [decide_eq_true (show wsum gs ≥ t from ht)]
    refine iteT ?_
    exact q _ fun b o e => s4 _ _ (s3 _ _ (s0 _ _ e))
/-! ### pay_out, check_vault -/
theorem StAt.kbDba {H H' : Hp} {p : Addr} {A : SA} {c ga : Addr} {S : SS} (x : StAt K H p A c ga S) (k : KB A.dba H H') {nb : Nat} (hS : ShAt K H' A.sh A.dxs c A.dba A.dva A.dbo nb) : StAt K H' p A c ga { S with nb := nb } := by
  obtain ⟨h1, h2, h3, ⟨k1, h4⟩, h5, ⟨k2, h6⟩, ⟨k3, h7⟩, h8, h9, h10, n1, n2, n3⟩ := x
  obtain ⟨kb, hb, _⟩ := h2.ba
  exact ⟨k _ _ h1 (ne_of h1 hb (fun z => nomatch z)), hS, k _ _ h3 (ne_of h3 hb (fun z => nomatch z)), ⟨k1, k _ _ h4 (ne_of h4 hb (fun z => nomatch z))⟩, k _ _ h5 (ne_of h5 hb (fun z => nomatch z)), ⟨k2, k _ _ h6 (ne_of h6 hb (fun z => nomatch z))⟩, ⟨k3, k _ _ h7 (ne_of h7 hb (fun z => nomatch z))⟩,
    k _ _ h8 (ne_of h8 hb (fun z => nomatch z)), fun r hr => k _ _ (h9 r hr) (ne_of (h9 r hr) hb (fun z => nomatch z)), k _ _ h10 (ne_of h10 hb (fun z => nomatch z)), n1, n2, n3⟩
def spPay (K : PySem.W.Frag) : Sp := fun vs H Q _ => ∃ (p c ga : Addr) (lim win : Int) (A : SA) (S : SS) (a t : Str) (u : Int), vs = [.ref p, .str a, .str t, .int u] ∧ CfgAt K H c lim win ga ∧ StAt K H p A c ga S ∧ isTok t ∧ S.nb < 1000 ∧
  ∀ H', KB A.dba H H' → StAt K H' p A c ga { S with nb := S.nb + 1 } → Q .non H'
theorem sc_pay_out : FnScope ["state", "account", "token", "units"] ["state", "account", "token", "units"] (defScope s_pay_out) := ⟨rfl, rfl, rfl, by decide +kernel, rfl, by decide +kernel, by decide +kernel⟩
theorem ok_pay_out (T : Txt w K mg) : Ok P w K mg base CX0 4 ("pay_out", none) ["state", "account", "token", "units"] (spPay K) := by
  obtain ⟨fd1, G_Config_home, b_Config_home, _⟩ := ok_Config_home (P := P) (base := base) T
  obtain ⟨fd2, G_Sheet_mint, b_Sheet_mint, _⟩ := ok_Sheet_mint (P := P) (base := base) T
  refine mk_ok T 17 (d := d_pay_out) rfl sc_pay_out rfl rfl (fun _ _ _ _ _ _ us hl => match us, hl with | [_, _, _, _], _ => rfl) (fun vs H Q E h => ?_) (fun cdv A0 outer s H vs Q E hr h => ?_)
  · obtain ⟨p, c, ga, lim, win, A, S, a, t, u, rfl, _⟩ := h
    rfl
  · obtain ⟨p, c, ga, lim, win, A, S, a, t, u, rfl, hc, hs, ht, hn, q⟩ := h
    obtain ⟨dxc, dt, lb, u1, u2, hc1, _⟩ := id hc.ex
    refine ⟨_, (pss_one (ps_if (pt_cmpR op_eq (pe_meth (pe_fld (pv 0) rfl) T.cl_Config T.m_Config_home G_Config_home (hr.mono (by decide)) b_Config_home .nil pass0 (pa_cons (pv 2) pa_nil)) (pe_fld (pv 0) rfl) (nomark _)) (pss_one ps_never) (pss_one (ps_expr (pe_meth (pe_fld (pv 0) rfl) T.cl_Sheet T.m_Sheet_mint G_Sheet_mint (hr.mono (by decide)) b_Sheet_mint .nil pass0 (pa_cons (pv 1) (pa_cons (pv 2) (pa_cons (pv 3) pa_nil)))))))), ?_⟩
    refine ⟨_, rfl, p, _, A.dx, _, _, rfl, hs.ob, T.cl_State, T.n_State_config, sf_config, c, dxc, _, rfl, hc1, cf_no_home, _, rfl, c, ga, lim, win, t, rfl, hc, ht, ?_⟩
    refine ⟨_, rfl, p, _, A.dx, _, _, rfl, hs.ob, T.cl_State, T.n_State_place, sf_place, rfl, _, rfl, ?_⟩
    rw [decide_eq_false (fun e => ne_ew (V.str.inj e))]
    refine iteF ?_
    exact ⟨_, rfl, p, _, A.dx, _, _, rfl, hs.ob, T.cl_State, T.n_State_sheet, sf_sheet, A.sh, A.dxs, _, rfl, hs.sheet.ob, hf_no_mint, _, rfl, _, rfl, _, rfl, A.sh, A.dxs, c, A.dba, A.dva, A.dbo, S.nb, a, t, u, rfl, hs.sheet, hn, fun H' k h' => q H' k (hs.kbDba k h')⟩
def spVault (K : PySem.W.Frag) : Sp := fun vs H Q _ => ∃ (p c ga : Addr) (lim win : Int) (A : SA) (S : SS) (t : Str) (u : Int), vs = [.ref p, .str t, .int u] ∧ CfgAt K H c lim win ga ∧ StAt K H p A c ga S ∧ isTok t ∧ Q .non H
theorem sc_check_vault : FnScope ["state", "token", "units"] ["state", "token", "units"] (defScope s_check_vault) := ⟨rfl, rfl, rfl, by decide +kernel, rfl, by decide +kernel, by decide +kernel⟩
theorem ok_check_vault (T : Txt w K mg) : Ok P w K mg base CX0 3 ("check_vault", none) ["state", "token", "units"] (spVault K) := by
  obtain ⟨fd1, G_Config_home, b_Config_home, _⟩ := ok_Config_home (P := P) (base := base) T
  refine mk_ok T 18 (d := d_check_vault) rfl sc_check_vault rfl rfl (fun _ _ _ _ _ _ us hl => match us, hl with | [_, _, _], _ => rfl) (fun vs H Q E h => ?_) (fun cdv A0 outer s H vs Q E hr h => ?_)
  · obtain ⟨p, c, ga, lim, win, A, S, t, u, rfl, _⟩ := h
    rfl
  · obtain ⟨p, c, ga, lim, win, A, S, t, u, rfl, hc, hs, ht, q⟩ := h
    obtain ⟨dxc, dt, lb, u1, u2, hc1, _⟩ := id hc.ex
    refine ⟨_, (pss_one (ps_if (PW.pt (pw_and (pt_cmpR op_eq (pe_meth (pe_fld (pv 0) rfl) T.cl_Config T.m_Config_home G_Config_home (hr.mono (by decide)) b_Config_home .nil pass0 (pa_cons (pv 1) pa_nil)) (pe_fld (pv 0) rfl) (nomark _)) (pw_and1 pt_never))) (pss_one ps_never) pss_nil)), ?_⟩
    refine ⟨_, rfl, p, _, A.dx, _, _, rfl, hs.ob, T.cl_State, T.n_State_config, sf_config, c, dxc, _, rfl, hc1, cf_no_home, _, rfl, c, ga, lim, win, t, rfl, hc, ht, ?_⟩
    refine ⟨_, rfl, p, _, A.dx, _, _, rfl, hs.ob, T.cl_State, T.n_State_place, sf_place, rfl, _, rfl, ?_⟩
    rw [decide_eq_false (fun e => ne_ew (V.str.inj e))]
    exact iteF (iteF q)
/-! ### is_beyond, check_limit -/
instance {S : SS} {lim win : Int} {tok : Str} {un : Int} : Decidable (bey S lim win tok un) := inferInstanceAs (Decidable (_ < _))
def spBey (K : PySem.W.Frag) : Sp := fun vs H Q _ => ∃ (p c ga : Addr) (lim win : Int) (A : SA) (S : SS) (t : Str) (u : Int), vs = [.ref p, .str t, .int u] ∧ CfgAt K H c lim win ga ∧ StAt K H p A c ga S ∧ isTok t ∧ S.passed.length ≤ 1000 ∧
  ∀ H', Same H H' → Q (.bl (decide (bey S lim win t u))) H'
theorem sc_is_beyond : FnScope ["state", "token", "units", "first", "already", "row"] ["state", "token", "units"] (defScope s_is_beyond) := ⟨rfl, rfl, rfl, by decide +kernel, rfl, by decide +kernel, by decide +kernel⟩
theorem ok_is_beyond (T : Txt w K mg) : Ok P w K mg base CX0 3 ("is_beyond", none) ["state", "token", "units"] (spBey K) := by
  obtain ⟨fd1, G_Config_window, b_Config_window, _⟩ := ok_Config_window (P := P) (base := base) T
  obtain ⟨fd2, G_Config_limit, b_Config_limit, _⟩ := ok_Config_limit (P := P) (base := base) T
  refine mk_ok T 19 (d := d_is_beyond) rfl sc_is_beyond rfl rfl (fun _ _ _ _ _ _ us hl => match us, hl with | [_, _, _], _ => rfl) (fun vs H Q E h => ?_) (fun cdv A0 outer s H vs Q E hr h => ?_)
  · obtain ⟨p, c, ga, lim, win, A, S, t, u, rfl, _⟩ := h
    rfl
  · obtain ⟨p, c, ga, lim, win, A, S, t, u, rfl, hc, hs, ht, hl, q⟩ := h
    obtain ⟨dxc, dt, lb, u1, u2, hc1, _⟩ := id hc.ex
    refine ⟨_, (pss_cons (ps_set (i := 3) sc_is_beyond.nd rfl (Or.inr rfl) (pe_op op_sub (pe_fld (pv 0) rfl) (pe_meth0 (pe_fld (pv 0) rfl) T.cl_Config T.m_Config_window G_Config_window (hr.mono (by decide)) b_Config_window .nil pass0)))
      (pss_cons (ps_set (i := 4) sc_is_beyond.nd rfl (Or.inl rfl) (pe_callB (cr_sum rfl) (by rfl) T.f_sum boot_sum (pa_cons (pe_lc (own := [("row", 5)]) (g := (gName 5)) rfl sc_is_beyond.nd (pi_list (pe_fld (pv 0) rfl)) (blkOk_by (N := ["state", "token", "units", "first", "already", "row"]) (sc := defScope s_is_beyond) (by decide +kernel)) (fun _ _ _ _ _ => (pg_name (i := 5) sc_is_beyond.nd rfl (Or.inl rfl))) (fun _ _ _ _ _ => pts_one (PW.pt (pw_and (pt_cmpR op_gt (pe_ix (r := rIxT K) ix_tup (pv 5) pe_int (fun _ _ => rfl)) (pv 3) (nomark _)) (pw_and1 (pt_cmpR op_eq (pe_ix (r := rIxT K) ix_tup (pv 5) pe_int (fun _ _ => rfl)) (pv 1) (nomark _)))))) (fun _ _ _ _ _ => (pe_ix (r := rIxT K) ix_tup (pv 5) pe_int (fun _ _ => rfl)))) pa_nil)))
      (pss_one (ps_ret (pe_cmpR op_gt (pe_op op_add (pv 4) (pv 2)) (pe_meth (pe_fld (pv 0) rfl) T.cl_Config T.m_Config_limit G_Config_limit (hr.mono (by decide)) b_Config_limit .nil pass0 (pa_cons (pv 1) pa_nil)) (nomark _)))))), ?_⟩
    refine ⟨_, rfl, p, _, A.dx, _, _, rfl, hs.ob, T.cl_State, T.n_State_high, sf_high, _, rfl, p, _, A.dx, _, _, rfl, hs.ob, T.cl_State, T.n_State_config, sf_config, c, dxc, _, rfl, hc1, cf_no_window, c, ga, lim, win, rfl, hc, _, _, rfl, rfl, ?_⟩
    refine ⟨_, rfl, p, _, A.dx, _, _, rfl, hs.ob, T.cl_State, T.n_State_passed, sf_passed, A.lpa, rfl, ⟨_, SqL.of hs.pa⟩, fun D hD => lc_list (K := K) (a := A.lpa) (xs := S.passed.map fun r => V.ref r.1)
      (fun i H2 => Same H H2 ∧ H2 D = some (.lst ((((S.passed.take i).filter fun r => decide (S.high - win < r.2.1) && decide (r.2.2.1 = t)).map (·.2.2.2)).map V.int)))
      ⟨same_new hD, upd_same⟩ (fun i H2 _ ⟨s2, _⟩ => SqL.of (s2 _ _ hs.pa)) ?_ ?_⟩
    · rintro i y H2 hi ⟨s2, hD2⟩
      obtain ⟨r, hr', rfl⟩ := get_map hi
      have hp := s2 _ _ (hs.rows r (List.mem_of_getElem? hr'))
      refine ⟨rfl, ?_⟩
      have fin : ∀ b : Bool, (decide (S.high - win < r.2.1) && decide (r.2.2.1 = t)) = b → if b = true then
          (tOp (rIxT K) (tVar 5) (tC (.int 2))) [some (.ref p), some (.str t), some (.int u), some (.int (S.high - win)), none, some (.ref r.1)] H2 fun y H4 => ∃ acc, H4 D = some (.lst acc) ∧ acc.length < sizeLine ∧ Same H (upd H4 D (.lst (acc ++ [y]))) ∧ (upd H4 D (.lst (acc ++ [y]))) D = some (.lst ((((S.passed.take (i + 1)).filter fun r => decide (S.high - win < r.2.1) && decide (r.2.2.1 = t)).map (·.2.2.2)).map V.int))
        else Same H H2 ∧ H2 D = some (.lst ((((S.passed.take (i + 1)).filter fun r => decide (S.high - win < r.2.1) && decide (r.2.2.1 = t)).map (·.2.2.2)).map V.int)) := by
        intro b hb
        cases b with
        | true =>
          refine iteT ⟨_, rfl, _, _, _, _, rfl, rfl, SqT.of hp, at2 rfl, _, hD2, ?_, same_upd s2 hD, ?_⟩
          · rw [List.length_map, List.length_map]
            refine Nat.lt_of_le_of_lt (List.length_filter_le _ _) ?_
            rw [List.length_take]
            exact Nat.lt_of_le_of_lt (Nat.min_le_right _ _) (Nat.lt_of_le_of_lt hl (by decide))
          · rw [take_get hr', List.filter_append, List.filter_cons, if_pos hb, List.filter_nil, List.map_append, List.map_append]
            exact upd_same
        | false =>
          refine iteF ⟨s2, ?_⟩
          rw [take_get hr', List.filter_append, List.filter_cons, if_neg (by rw [hb]; decide), List.filter_nil, List.append_nil]
          exact hD2
      by_cases g1 : S.high - win < r.2.1
      · refine ⟨_, rfl, _, _, _, _, rfl, rfl, SqT.of hp, at0 rfl, _, rfl, _, _, rfl, rfl, true, congrArg V.bl (decide_eq_true g1), iteT ?_⟩
        by_cases g2 : r.2.2.1 = t
        · refine ⟨_, rfl, _, _, _, _, rfl, rfl, SqT.of hp, at1 rfl, _, rfl, rfl, true, congrArg V.bl (decide_eq_true (congrArg V.str g2)), ?_⟩
          exact fin true (by rw [decide_eq_true g1, decide_eq_true g2] <;> rfl)
        · refine ⟨_, rfl, _, _, _, _, rfl, rfl, SqT.of hp, at1 rfl, _, rfl, rfl, false, congrArg V.bl (decide_eq_false (fun e => g2 (V.str.inj e))), ?_⟩
          exact fin false (by rw [decide_eq_true g1, decide_eq_false g2] <;> rfl)
      · refine ⟨_, rfl, _, _, _, _, rfl, rfl, SqT.of hp, at0 rfl, _, rfl, _, _, rfl, rfl, false, congrArg V.bl (decide_eq_false g1), iteF ?_⟩
        exact fin false (by rw [decide_eq_false g1] <;> rfl)
    · rintro H2 ⟨s2, hD2⟩
      refine ⟨D, _, rfl, SqL.of hD2, ?_⟩
      rw [List.length_map, List.take_length]
      have hs2 := hs.mono s2
      have hc2 := hc.mono s2
      refine ⟨_, rfl, _, rfl, _, _, rfl, rfl, ?_⟩
      refine ⟨_, rfl, p, _, A.dx, _, _, rfl, hs2.ob, T.cl_State, T.n_State_config, sf_config, c, dxc, _, rfl, s2 _ _ hc1, cf_no_limit, _, rfl, c, ga, lim, win, t, rfl, hc2, ht, ?_⟩
      refine ⟨_, _, rfl, rfl, ?_⟩
      exact q _ s2
theorem E_of {E : XK} {C : Value} {H : Hp} (h : E C none H) : E C none H := h
def spChk (K : PySem.W.Frag) : Sp := fun vs H Q E => ∃ (p c ga : Addr) (lim win : Int) (A : SA) (S : SS) (t : Str) (u : Int), vs = [.ref p, .str t, .int u] ∧ CfgAt K H c lim win ga ∧ StAt K H p A c ga S ∧ isTok t ∧ S.passed.length ≤ 1000 ∧
  ∀ H', Same H H' → (bey S lim win t u → E (.ref (He.ga K "LimitReached")) none H') ∧ (¬ bey S lim win t u → Q .non H')
theorem sc_check_limit : FnScope ["state", "token", "units"] ["state", "token", "units"] (defScope s_check_limit) := ⟨rfl, rfl, rfl, by decide +kernel, rfl, by decide +kernel, by decide +kernel⟩
theorem ok_check_limit (T : Txt w K mg) : Ok P w K mg base (L2.CX P w) 4 ("check_limit", none) ["state", "token", "units"] (spChk K) := by
  obtain ⟨fd1, G_is_beyond, b_is_beyond, k_is_beyond⟩ := ok_is_beyond (P := P) (base := base) T
  refine mk_okX T 20 (d := d_check_limit) rfl sc_check_limit rfl rfl (fun _ _ _ _ _ _ us hl => match us, hl with | [_, _, _], _ => rfl) (fun vs H Q E h => ?_) (fun cdv A0 outer s H vs Q E hr h => ?_)
  · obtain ⟨p, c, ga, lim, win, A, S, t, u, rfl, _⟩ := h
    rfl
  · obtain ⟨p, c, ga, lim, win, A, S, t, u, rfl, hc, hs, ht, hl, q⟩ := h
    refine ⟨_, (pss_one (ps_if (pt_val (pe_call G_is_beyond (hr.mono (by decide)) rfl T.g_is_beyond k_is_beyond b_is_beyond .nil pass0 (pa_cons (pv 0) (pa_cons (pv 1) (pa_cons (pv 2) pa_nil))))) (pss_one (ps_raise rfl (takes_of rfl rfl rfl rfl) (pmk_own PySem.F.excBase_ValueError T.exc_LimitReached.1 T.g_LimitReached T.exc_LimitReached.2.1 (raises_own T.exc_LimitReached.2.2.1 T.exc_LimitReached.2.2.2) rfl))) pss_nil)), ?_⟩
    refine ⟨_, rfl, _, rfl, _, rfl, p, c, ga, lim, win, A, S, t, u, rfl, hc, hs, ht, hl, fun H' s' => ?_⟩
    by_cases g : bey S lim win t u
    · refine ⟨true, congrArg V.bl (decide_eq_true g), iteT ?_⟩
      exact (q H' s').1 g
    · refine ⟨false, congrArg V.bl (decide_eq_false g), iteF ?_⟩
      exact (q H' s').2 g
end
end Vb
set_option Elab.async false
set_option linter.all false
set_option maxRecDepth 100000
set_option maxHeartbeats 4000000
/-! gateway.py, second part -/
namespace Vb
open PySem PySem.Spec PyProof.Rows L2
/-- all stays but the four parts of a state that an order writes -/
def KW (A : SA) (H H' : Hp) : Prop := ∀ b o, H b = some o → b ≠ A.dba → b ≠ A.lpa → b ≠ A.dib → b ≠ A.lfr → H' b = some o
theorem KW.of_same {A : SA} {H H' : Hp} (s : Same H H') : KW A H H' := fun b o e _ _ _ _ => s _ _ e
theorem KW.of_kb {A : SA} {H H' : Hp} (s : KB A.dba H H') : KW A H H' := fun b o e n _ _ _ => s _ _ e n
theorem KW.trans {A : SA} {H H1 H2 : Hp} (a : KW A H H1) (b : KW A H1 H2) : KW A H H2 := fun x o e n1 n2 n3 n4 => b _ _ (a _ _ e n1 n2 n3 n4) n1 n2 n3 n4
theorem KW.lpa {A : SA} {H : Hp} {u : HO} : KW A H (upd H A.lpa u) := fun b o e _ n _ _ => get_ne e n
theorem KW.dib {A : SA} {H : Hp} {u : HO} : KW A H (upd H A.dib u) := fun b o e _ _ n _ => get_ne e n
theorem KW.lfr {A : SA} {H : Hp} {u : HO} : KW A H (upd H A.lfr u) := fun b o e _ _ _ n => get_ne e n
section
variable {K : PySem.W.Frag} {H H' : Hp} {p : Addr} {A : SA} {c ga : Addr} {S : SS}
theorem ShAt.upd {sh dx c dba dva dbo : Addr} {nb : Nat} (x : ShAt K H sh dx c dba dva dbo nb) {a : Addr} {u v : HO} (ha : H a = some u) (h1 : ∀ C d fs, HO.ins C d fs ≠ u) (h2 : ∀ k, HO.dT k ≠ u) (h3 : ∀ k, HO.dK k = u → ∃ k', v = .dK k') : ShAt K (upd H a v) sh dx c dba dva dbo nb := by
  obtain ⟨e1, ⟨k1, e2, e3⟩, ⟨k2, e4⟩, ⟨k3, e5, e6⟩⟩ := x
  refine ⟨get_ne e1 (ne_of e1 ha (h1 _ _ _)), ⟨k1, get_ne e2 (ne_of e2 ha (h2 _)), e3⟩, ?_, ⟨k3, get_ne e5 (ne_of e5 ha (h2 _)), e6⟩⟩
  by_cases z : dva = a
  · rw [z] at e4 ⊢
    rw [e4] at ha
    obtain ⟨k', e⟩ := h3 k2 (Option.some.inj ha)
    exact ⟨k', by rw [upd_same, e]⟩
  · exact ⟨k2, get_ne e4 z⟩
theorem StAt.putPa (x : StAt K H p A c ga S) {r : Addr} {h : Int} {tok : Str} {un : Int} (hr : H r = some (.tup [.int h, .str tok, .int un])) :
    StAt K (upd H A.lpa (.lst (S.passed.map (fun r => V.ref r.1) ++ [V.ref r]))) p A c ga { S with passed := S.passed ++ [(r, h, tok, un)] } := by
  obtain ⟨h1, h2, h3, ⟨k1, h4⟩, h5, ⟨k2, h6⟩, ⟨k3, h7⟩, h8, h9, h10, n1, n2, n3⟩ := x
  refine ⟨get_ne h1 (ne_of h1 h8 (fun z => nomatch z)), h2.upd h8 (fun _ _ _ z => nomatch z) (fun _ z => nomatch z) (fun _ z => nomatch z), get_ne h3 n1.symm, ?_, get_ne h5 (ne_of h5 h8 (fun z => nomatch z)), ⟨k2, get_ne h6 (ne_of h6 h8 (fun z => nomatch z))⟩, ⟨k3, get_ne h7 (ne_of h7 h8 (fun z => nomatch z))⟩, ?_, ?_, get_ne h10 n3.symm, n1, n2, n3⟩
  · by_cases z : A.lsn = A.lpa
    · rw [z]
      exact ⟨_, upd_same⟩
    · exact ⟨k1, get_ne h4 z⟩
  · rw [List.map_append]
    exact upd_same
  · intro q hq
    rcases List.mem_append.mp hq with hq | hq
    · exact get_ne (h9 q hq) (ne_of (h9 q hq) h8 (fun z => nomatch z))
    · rw [List.mem_singleton.mp hq]
      exact get_ne hr (ne_of hr h8 (fun z => nomatch z))
theorem StAt.putFr (x : StAt K H p A c ga S) (xs : List V) : StAt K (upd H A.lfr (.lst xs)) p A c ga { S with fresh := xs } := by
  obtain ⟨h1, h2, h3, ⟨k1, h4⟩, h5, ⟨k2, h6⟩, ⟨k3, h7⟩, h8, h9, h10, n1, n2, n3⟩ := x
  refine ⟨get_ne h1 (ne_of h1 h10 (fun z => nomatch z)), h2.upd h10 (fun _ _ _ z => nomatch z) (fun _ z => nomatch z) (fun _ z => nomatch z), get_ne h3 n2.symm, ?_, get_ne h5 (ne_of h5 h10 (fun z => nomatch z)), ⟨k2, get_ne h6 (ne_of h6 h10 (fun z => nomatch z))⟩, ⟨k3, get_ne h7 (ne_of h7 h10 (fun z => nomatch z))⟩, get_ne h8 n3, fun q hq => get_ne (h9 q hq) (ne_of (h9 q hq) h10 (fun z => nomatch z)), upd_same, n1, n2, n3⟩
  by_cases z : A.lsn = A.lfr
  · rw [z]
    exact ⟨_, upd_same⟩
  · exact ⟨k1, get_ne h4 z⟩
theorem StAt.putIb (x : StAt K H p A c ga S) (kvs : List (Key × V)) : StAt K (upd H A.dib (.dK kvs)) p A c ga { S with inbox := kvs } := by
  obtain ⟨h1, h2, h3, ⟨k1, h4⟩, h5, ⟨k2, h6⟩, ⟨k3, h7⟩, h8, h9, h10, n1, n2, n3⟩ := x
  refine ⟨get_ne h1 (ne_of h1 h5 (fun z => nomatch z)), h2.upd h5 (fun _ _ _ z => nomatch z) (fun _ z => nomatch z) (fun _ _ => ⟨_, rfl⟩), get_ne h3 (ne_of h3 h5 (fun z => nomatch z)), ⟨k1, get_ne h4 (ne_of h4 h5 (fun z => nomatch z))⟩, upd_same, ?_, ?_, get_ne h8 (ne_of h8 h5 (fun z => nomatch z)), fun q hq => get_ne (h9 q hq) (ne_of (h9 q hq) h5 (fun z => nomatch z)), get_ne h10 (ne_of h10 h5 (fun z => nomatch z)), n1, n2, n3⟩
  · by_cases z : A.dro = A.dib
    · rw [z]
      exact ⟨_, upd_same⟩
    · exact ⟨k2, get_ne h6 z⟩
  · by_cases z : A.dre = A.dib
    · rw [z]
      exact ⟨_, upd_same⟩
    · exact ⟨k3, get_ne h7 z⟩
end
structure SOk (S : SS) : Prop where
  nb : S.nb ≤ 998
  inbox : S.inbox.length ≤ 1000
  passed : S.passed.length ≤ 1000
  fresh : S.fresh.length ≤ 1000
def Deliv (K : PySem.W.Frag) (p : Addr) (A : SA) (c ga : Addr) (S : SS) (k : Int) (ta : Addr) (t : Tr) (H H' : Hp) : Prop := ∃ f r : Addr, KW A H H' ∧ H' f = some (.tup [.str "delivered", .int k, .ref ta]) ∧
  StAt K H' p A c ga ⟨S.high, putK S.inbox (Sum.inl k) (.str "delivered"), S.passed ++ [(r, S.high, t.tok, t.un)], S.fresh ++ [.ref f], S.nb + 2⟩
def Refus (K : PySem.W.Frag) (p : Addr) (A : SA) (c ga : Addr) (S : SS) (k : Int) (ta : Addr) (H H' : Hp) : Prop := ∃ f : Addr, KW A H H' ∧ H' f = some (.tup [.str "refused", .int k, .ref ta]) ∧
  StAt K H' p A c ga ⟨S.high, putK S.inbox (Sum.inl k) (.str "refused"), S.passed, S.fresh ++ [.ref f], S.nb⟩
section
variable {P : Program} {w : World} {K : PySem.W.Frag} {mg : Str → Option Value} {base : Heap}
def spHand (K : PySem.W.Frag) : Sp := fun vs H Q E => ∃ (p c ga ta : Addr) (lim win : Int) (A : SA) (S : SS) (rel : Str) (k : Int) (t : Tr), vs = [.ref p, .str rel, .int k, .ref ta] ∧ CfgAt K H c lim win ga ∧ StAt K H p A c ga S ∧ SOk S ∧ H ta = some (.tup (trV t)) ∧ GoodTr t ∧
  (bey S lim win t.tok t.un → ∀ H', Same H H' → E (.ref (He.ga K "LimitReached")) none H') ∧ (¬ bey S lim win t.tok t.un → ∀ H', Deliv K p A c ga S k ta t H H' → Q .non H')
theorem sc_hand_over : FnScope ["state", "relayer", "number", "transfer", "token", "units", "fee", "_", "receiver"] ["state", "relayer", "number", "transfer"] (defScope s_hand_over) := ⟨rfl, rfl, rfl, by decide +kernel, rfl, by decide +kernel, by decide +kernel⟩
theorem ok_hand_over (T : Txt w K mg) : Ok P w K mg base (L2.CX P w) 5 ("hand_over", none) ["state", "relayer", "number", "transfer"] (spHand K) := by
  obtain ⟨fd1, G_check_limit, b_check_limit, k_check_limit⟩ := ok_check_limit (P := P) (base := base) T
  obtain ⟨fd2, G_check_vault, b_check_vault, k_check_vault⟩ := ok_check_vault (P := P) (base := base) T
  obtain ⟨fd3, G_pay_out, b_pay_out, k_pay_out⟩ := ok_pay_out (P := P) (base := base) T
  refine mk_okX T 21 (d := d_hand_over) rfl sc_hand_over rfl rfl (fun _ _ _ _ _ _ us hl => match us, hl with | [_, _, _, _], _ => rfl) (fun vs H Q E h => ?_) (fun cdv A0 outer s H vs Q E hr h => ?_)
  · obtain ⟨p, c, ga, ta, lim, win, A, S, rel, k, t, rfl, _⟩ := h
    rfl
  · obtain ⟨p, c, ga, ta, lim, win, A, S, rel, k, t, rfl, hc, hs, hok, ht, hgt, qE, q⟩ := h
    have hu := hu_of hr
    refine ⟨_, (pss_cons (ps_asg (pv 3) (pg_tup (by rfl) (pgs_cons (pg_name (i := 4) sc_hand_over.nd rfl (Or.inl rfl)) (pgs_cons (pg_name (i := 5) sc_hand_over.nd rfl (Or.inl rfl)) (pgs_cons (pg_name (i := 6) sc_hand_over.nd rfl (Or.inl rfl)) (pgs_cons (pg_name (i := 7) sc_hand_over.nd rfl (Or.inl rfl)) (pgs_cons (pg_name (i := 8) sc_hand_over.nd rfl (Or.inl rfl)) (pgs_cons (pg_name (i := 7) sc_hand_over.nd rfl (Or.inl rfl)) pgs_nil))))))))
      (pss_cons (ps_expr (pe_call G_check_limit (hr.mono (by decide)) rfl T.g_check_limit k_check_limit b_check_limit .nil (passes_call (takes_of rfl rfl rfl rfl) (fun _ _ _ _ h => h)) (pa_cons (pv 0) (pa_cons (pv 4) (pa_cons (pv 5) pa_nil)))))
      (pss_cons (ps_expr (pe_call G_check_vault (hr.mono (by decide)) rfl T.g_check_vault k_check_vault b_check_vault .nil pass0 (pa_cons (pv 0) (pa_cons (pv 4) (pa_cons (pv 5) pa_nil)))))
      (pss_cons (ps_expr (pe_call G_pay_out (hr.mono (by decide)) rfl T.g_pay_out k_pay_out b_pay_out .nil pass0 (pa_cons (pv 0) (pa_cons (pv 8) (pa_cons (pv 4) (pa_cons (pe_op op_sub (pv 5) (pv 6)) pa_nil))))))
      (pss_cons (ps_expr (pe_call G_pay_out (hr.mono (by decide)) rfl T.g_pay_out k_pay_out b_pay_out .nil pass0 (pa_cons (pv 0) (pa_cons (pv 1) (pa_cons (pv 4) (pa_cons (pv 6) pa_nil))))))
      (pss_cons (ps_expr (pe_bm PySem.F.plainAttrs_list PySem.F.slot_list_append PySem.F.type_list_append mt_append (pe_fld (pv 0) rfl) (pa_cons (pe_tup (pa_cons (pe_fld (pv 0) rfl) (pa_cons (pv 4) (pa_cons (pv 5) pa_nil)))) pa_nil)))
      (pss_cons (ps_dput hu (pe_fld (pv 0) rfl) (pv 2) pe_str rfl)
      (pss_one (ps_expr (pe_bm PySem.F.plainAttrs_list PySem.F.slot_list_append PySem.F.type_list_append mt_append (pe_fld (pv 0) rfl) (pa_cons (pe_tup (pa_cons pe_str (pa_cons (pv 2) (pa_cons (pv 3) pa_nil)))) pa_nil))))))))))), ?_⟩
    refine ⟨_, rfl, ta, _, rfl, SqT.of ht, rfl, _, _, rfl, _, _, rfl, _, _, rfl, _, _, rfl, _, _, rfl, _, _, rfl, rfl, ?_⟩
    refine ⟨_, rfl, _, rfl, _, rfl, p, c, ga, lim, win, A, S, t.tok, t.un, rfl, hc, hs, hgt.tok, hok.passed, fun H1 s1 => ⟨fun g => qE g H1 s1, fun g => ?_⟩⟩
    refine ⟨_, rfl, _, rfl, _, rfl, p, c, ga, lim, win, A, S, t.tok, t.un, rfl, hc.mono s1, hs.mono s1, hgt.tok, ?_⟩
    have kw1 : KW A H H1 := .of_same s1
    have hn := hok.nb
    refine ⟨_, rfl, _, rfl, _, rfl, _, rfl, _, rfl, _, _, rfl, rfl, p, c, ga, lim, win, A, S, "bob", t.tok, t.un - 0, rfl, hc.mono s1, hs.mono s1, hgt.tok, (by omega), fun H2 k2 hs2 => ?_⟩
    have cfg2 : CfgAt K H2 c lim win ga := by
      obtain ⟨kb, hb, _⟩ := (hs.mono s1).sheet.ba
      exact (hc.mono s1).kbT k2 hb
    refine ⟨_, rfl, _, rfl, _, rfl, _, rfl, p, c, ga, lim, win, A, _, rel, t.tok, 0, rfl, cfg2, hs2, hgt.tok, (by show S.nb + 1 < 1000; omega), fun H3 k3 hs3 => ?_⟩
    have kw3 : KW A H H3 := (kw1.trans (.of_kb k2)).trans (.of_kb k3)
    -- state.passed.append((state.high, token, units))
    refine ⟨_, rfl, p, _, A.dx, _, _, rfl, hs3.ob, T.cl_State, T.n_State_passed, sf_passed, .inl ⟨rfl, _, SqL.of hs3.pa⟩, _, rfl, p, _, A.dx, _, _, rfl, hs3.ob, T.cl_State, T.n_State_high, sf_high, _, rfl, _, rfl, (by show 3 ≤ sizeLine; decide), fun r hr' => ?_⟩
    have s4 : Same H3 (upd H3 r (.tup [.int S.high, .str t.tok, .int t.un])) := same_new hr'
    have hs4 := hs3.mono s4
    refine ⟨A.lpa, _, _, rfl, rfl, hs4.pa, ?_, ?_⟩
    · rw [List.length_map]
      exact Nat.lt_of_le_of_lt hok.passed (by decide)
    have hs5 := hs4.putPa (r := r) (h := S.high) (tok := t.tok) (un := t.un) upd_same
    have kw5 : KW A H _ := (kw3.trans (.of_same s4)).trans (.lpa (u := .lst (S.passed.map (fun r => V.ref r.1) ++ [V.ref r])))
    obtain ⟨H5, hH5⟩ : ∃ H5, H5 = upd (upd H3 r (.tup [.int S.high, .str t.tok, .int t.un])) A.lpa (.lst (S.passed.map (fun r => V.ref r.1) ++ [V.ref r])) := ⟨_, rfl⟩
    rw [← hH5] at hs5 kw5 ⊢
    -- state.inbox[number] = "delivered"
    refine ⟨_, rfl, p, _, A.dx, _, _, rfl, hs5.ob, T.cl_State, T.n_State_inbox, sf_inbox, _, rfl, A.dib, _, rfl, DPut.k (k := Sum.inl k) hs5.ib (Nat.lt_of_le_of_lt hok.inbox (by decide)), ?_⟩
    have hs6 := hs5.putIb (putK S.inbox (Sum.inl k) (.str "delivered"))
    have kw6 : KW A H _ := kw5.trans (.dib (u := .dK (putK S.inbox (Sum.inl k) (.str "delivered"))))
    obtain ⟨H6, hH6⟩ : ∃ H6, H6 = upd H5 A.dib (.dK (putK S.inbox (Sum.inl k) (.str "delivered"))) := ⟨_, rfl⟩
    rw [← hH6] at hs6 kw6 ⊢
    -- state.fresh.append(("delivered", number, transfer))
    refine ⟨_, rfl, p, _, A.dx, _, _, rfl, hs6.ob, T.cl_State, T.n_State_fresh, sf_fresh, .inl ⟨rfl, _, SqL.of hs6.fr⟩, _, rfl, _, rfl, (by show 3 ≤ sizeLine; decide), fun f hf => ?_⟩
    have s7 : Same H6 (upd H6 f (.tup [.str "delivered", .int k, .ref ta])) := same_new hf
    have hs7 := hs6.mono s7
    refine ⟨A.lfr, _, _, rfl, rfl, hs7.fr, Nat.lt_of_le_of_lt hok.fresh (by decide), ?_⟩
    have hs8 := hs7.putFr (S.fresh ++ [.ref f])
    refine q g _ ⟨f, r, (kw6.trans (.of_same s7)).trans .lfr, get_ne upd_same ?_, hs8⟩
    exact (ne_of_none hs6.fr hf).symm
/-! ### take_in, deliver -/
def TkE (K : PySem.W.Frag) (lim win : Int) (S : SS) (t : Tr) (H : Hp) (E : XK) : Prop := ¬ t.dl < S.high → bey S lim win t.tok t.un → ∀ H', Same H H' → E (.ref (He.ga K "LimitReached")) none H'
def TkQ (K : PySem.W.Frag) (lim win : Int) (p : Addr) (A : SA) (c ga : Addr) (S : SS) (k : Int) (ta : Addr) (t : Tr) (H : Hp) (Q : Hp → Prop) : Prop :=
  (t.dl < S.high → ∀ H', Refus K p A c ga S k ta H H' → Q H') ∧ (¬ t.dl < S.high → ¬ bey S lim win t.tok t.un → ∀ H', Deliv K p A c ga S k ta t H H' → Q H')
theorem TkE.mono {lim win : Int} {S : SS} {t : Tr} {H H1 : Hp} {E : XK} (x : TkE K lim win S t H E) (s : Same H H1) : TkE K lim win S t H1 E := fun g1 g2 H' s' => x g1 g2 H' fun b o e => s' _ _ (s _ _ e)
theorem TkQ.mono {lim win : Int} {p : Addr} {A : SA} {c ga : Addr} {S : SS} {k : Int} {ta : Addr} {t : Tr} {H H1 : Hp} {Q : Hp → Prop} (x : TkQ K lim win p A c ga S k ta t H Q) (s : Same H H1) : TkQ K lim win p A c ga S k ta t H1 Q :=
  ⟨fun g H' ⟨f, h1, h2, h3⟩ => x.1 g H' ⟨f, (KW.of_same s).trans h1, h2, h3⟩, fun g1 g2 H' ⟨f, r, h1, h2, h3⟩ => x.2 g1 g2 H' ⟨f, r, (KW.of_same s).trans h1, h2, h3⟩⟩
def spTakeIn (K : PySem.W.Frag) : Sp := fun vs H Q E => ∃ (p c ga ta : Addr) (lim win : Int) (A : SA) (S : SS) (rel : Str) (k : Int) (t : Tr), vs = [.ref p, .str rel, .int k, .ref ta] ∧ CfgAt K H c lim win ga ∧ StAt K H p A c ga S ∧ SOk S ∧ H ta = some (.tup (trV t)) ∧ GoodTr t ∧
  valV S.inbox (Sum.inl k) = none ∧ TkE K lim win S t H E ∧ TkQ K lim win p A c ga S k ta t H fun H' => Q .non H'
theorem sc_take_in : FnScope ["state", "relayer", "number", "transfer", "token", "units", "_", "deadline"] ["state", "relayer", "number", "transfer"] (defScope s_take_in) := ⟨rfl, rfl, rfl, by decide +kernel, rfl, by decide +kernel, by decide +kernel⟩
theorem ok_take_in (T : Txt w K mg) : Ok P w K mg base (L2.CX P w) 6 ("take_in", none) ["state", "relayer", "number", "transfer"] (spTakeIn K) := by
  obtain ⟨fd1, G_hand_over, b_hand_over, k_hand_over⟩ := ok_hand_over (P := P) (base := base) T
  obtain ⟨fd2, G_Config_home, b_Config_home, _⟩ := ok_Config_home (P := P) (base := base) T
  obtain ⟨fd3, G_Config_large, b_Config_large, _⟩ := ok_Config_large (P := P) (base := base) T
  refine mk_okX T 23 (d := d_take_in) rfl sc_take_in rfl rfl (fun _ _ _ _ _ _ us hl => match us, hl with | [_, _, _, _], _ => rfl) (fun vs H Q E h => ?_) (fun cdv A0 outer s H vs Q E hr h => ?_)
  · obtain ⟨p, c, ga, ta, lim, win, A, S, rel, k, t, rfl, _⟩ := h
    rfl
  · obtain ⟨p, c, ga, ta, lim, win, A, S, rel, k, t, rfl, hc, hs, hok, ht, hgt, hnew, qE, q1, q2⟩ := h
    have hu := hu_of hr
    obtain ⟨dxc, dt, lb, u1, u2, hc1, _⟩ := id hc.ex
    refine ⟨_, (pss_cons (ps_asg (pv 3) (pg_tup (by rfl) (pgs_cons (pg_name (i := 4) sc_take_in.nd rfl (Or.inl rfl)) (pgs_cons (pg_name (i := 5) sc_take_in.nd rfl (Or.inl rfl)) (pgs_cons (pg_name (i := 6) sc_take_in.nd rfl (Or.inl rfl)) (pgs_cons (pg_name (i := 6) sc_take_in.nd rfl (Or.inl rfl)) (pgs_cons (pg_name (i := 6) sc_take_in.nd rfl (Or.inl rfl)) (pgs_cons (pg_name (i := 7) sc_take_in.nd rfl (Or.inl rfl)) pgs_nil))))))))
      (pss_cons (ps_expr (pe_meth (pe_fld (pv 0) rfl) T.cl_Config T.m_Config_home G_Config_home (hr.mono (by decide)) b_Config_home .nil pass0 (pa_cons (pv 4) pa_nil)))
      (pss_cons (ps_if (pt_cmp (pc_din hu (pv 2) (pe_fld (pv 0) rfl))) (pss_one ps_never) pss_nil)
      (pss_one (ps_if (pt_cmpR op_gt (pe_fld (pv 0) rfl) (pv 7) (nomark _)) (pss_cons (ps_dput hu (pe_fld (pv 0) rfl) (pv 2) pe_str rfl)
      (pss_one (ps_expr (pe_bm PySem.F.plainAttrs_list PySem.F.slot_list_append PySem.F.type_list_append mt_append (pe_fld (pv 0) rfl) (pa_cons (pe_tup (pa_cons pe_str (pa_cons (pv 2) (pa_cons (pv 3) pa_nil)))) pa_nil))))) (pss_one (ps_if (pt_cmpR op_ge (pv 5) (pe_meth (pe_fld (pv 0) rfl) T.cl_Config T.m_Config_large G_Config_large (hr.mono (by decide)) b_Config_large .nil pass0 (pa_cons (pv 4) pa_nil)) (nomark _)) (pss_cons ps_never
      (pss_cons ps_never
      (pss_one ps_never))) (pss_one (ps_expr (pe_call G_hand_over (hr.mono (by decide)) rfl T.g_hand_over k_hand_over b_hand_over .nil (passes_call (takes_of rfl rfl rfl rfl) (fun _ _ _ _ h => h)) (pa_cons (pv 0) (pa_cons (pv 1) (pa_cons (pv 2) (pa_cons (pv 3) pa_nil)))))))))))))), ?_⟩
    refine ⟨_, rfl, ta, _, rfl, SqT.of ht, rfl, _, _, rfl, _, _, rfl, _, _, rfl, _, _, rfl, _, _, rfl, _, _, rfl, rfl, ?_⟩
    refine ⟨_, rfl, p, _, A.dx, _, _, rfl, hs.ob, T.cl_State, T.n_State_config, sf_config, c, dxc, _, rfl, hc1, cf_no_home, _, rfl, c, ga, lim, win, t.tok, rfl, hc, hgt.tok, ?_⟩
    refine ⟨_, rfl, _, rfl, p, _, A.dx, _, _, rfl, hs.ob, T.cl_State, T.n_State_inbox, sf_inbox, A.dib, _, rfl, DGet.k (k := Sum.inl k) hs.ib, _, rfl, ?_⟩
    rw [hnew]
    refine iteF ?_
    refine ⟨_, rfl, p, _, A.dx, _, _, rfl, hs.ob, T.cl_State, T.n_State_high, sf_high, _, rfl, _, _, rfl, rfl, _, rfl, ?_⟩
    by_cases g : t.dl < S.high
    · rw [decide_eq_true (show S.high > t.dl from g)]
      refine iteT ?_
      -- refused
      refine ⟨_, rfl, p, _, A.dx, _, _, rfl, hs.ob, T.cl_State, T.n_State_inbox, sf_inbox, _, rfl, A.dib, _, rfl, DPut.k (k := Sum.inl k) hs.ib (Nat.lt_of_le_of_lt hok.inbox (by decide)), ?_⟩
      have hs6 := hs.putIb (putK S.inbox (Sum.inl k) (.str "refused"))
      obtain ⟨H6, hH6⟩ : ∃ H6, H6 = upd H A.dib (.dK (putK S.inbox (Sum.inl k) (.str "refused"))) := ⟨_, rfl⟩
      have kw6 : KW A H H6 := by
        rw [hH6]
        exact .dib
      rw [← hH6] at hs6 ⊢
      refine ⟨_, rfl, p, _, A.dx, _, _, rfl, hs6.ob, T.cl_State, T.n_State_fresh, sf_fresh, .inl ⟨rfl, _, SqL.of hs6.fr⟩, _, rfl, _, rfl, (by show 3 ≤ sizeLine; decide), fun f hf => ?_⟩
      have s7 : Same H6 (upd H6 f (.tup [.str "refused", .int k, .ref ta])) := same_new hf
      have hs7 := hs6.mono s7
      refine ⟨A.lfr, _, _, rfl, rfl, hs7.fr, Nat.lt_of_le_of_lt hok.fresh (by decide), ?_⟩
      refine q1 g _ ⟨f, (kw6.trans (.of_same s7)).trans .lfr, get_ne upd_same ?_, hs7.putFr (S.fresh ++ [.ref f])⟩
      exact (ne_of_none hs6.fr hf).symm
    · rw [decide_eq_false (show ¬ S.high > t.dl from g)]
      refine iteF ?_
      refine ⟨_, rfl, _, rfl, p, _, A.dx, _, _, rfl, hs.ob, T.cl_State, T.n_State_config, sf_config, c, dxc, _, rfl, hc1, cf_no_large, _, rfl, c, ga, lim, win, t.tok, rfl, hc, hgt.tok, _, _, rfl, rfl, _, rfl, ?_⟩
      rw [decide_eq_false (show ¬ t.un ≥ (1000000 : Int) by have := hgt.un.2; omega)]
      refine iteF ?_
      exact ⟨_, rfl, _, rfl, _, rfl, _, rfl, p, c, ga, ta, lim, win, A, S, rel, k, t, rfl, hc, hs, hok, ht, hgt, qE g, q2 g⟩
def spDeliver (w : World) (K : PySem.W.Frag) : Sp := fun vs H Q E => ∃ (n lt dn p c ga sa : Addr) (lim win : Int) (A : SA) (S : SS) (te : Te) (gs : Gs) (L : Le) (rel : Str), vs = [.ref n, .ref p, .str rel, .ref L.a, .ref sa] ∧ CfgAt K H c lim win ga ∧ NotAt w K H n lt dn te ∧ StAt K H p A c ga S ∧ SOk S ∧ LeAt H L ∧ GoodLe L ∧ GsAt H ga gs ∧ GoodGs gs ∧
  wsum gs ≤ 1000000 ∧ SlAt H sa gs L te ∧ valV S.inbox (Sum.inl L.k) = none ∧ TkE K lim win S L.t H E ∧ TkQ K lim win p A c ga S L.k L.ta L.t H fun H' => Q .non H'
theorem sc_deliver : FnScope ["notary", "state", "relayer", "letter", "seals"] ["notary", "state", "relayer", "letter", "seals"] (defScope s_deliver) := ⟨rfl, rfl, rfl, by decide +kernel, rfl, by decide +kernel, by decide +kernel⟩
theorem ok_deliver (T : Txt w K mg) : Ok P w K mg base (L2.CX P w) 7 ("deliver", none) ["notary", "state", "relayer", "letter", "seals"] (spDeliver w K) := by
  obtain ⟨fd1, G_check_backed, b_check_backed, k_check_backed⟩ := ok_check_backed (P := P) (base := base) T
  obtain ⟨fd2, G_take_in, b_take_in, k_take_in⟩ := ok_take_in (P := P) (base := base) T
  refine mk_okX T 22 (d := d_deliver) rfl sc_deliver rfl rfl (fun _ _ _ _ _ _ us hl => match us, hl with | [_, _, _, _, _], _ => rfl) (fun vs H Q E h => ?_) (fun cdv A0 outer s H vs Q E hr h => ?_)
  · obtain ⟨n, lt, dn, p, c, ga, sa, lim, win, A, S, te, gs, L, rel, rfl, _⟩ := h
    rfl
  · obtain ⟨n, lt, dn, p, c, ga, sa, lim, win, A, S, te, gs, L, rel, rfl, hc, hN, hs, hok, hL, hG, hA, hgood, hw, hsl, hnew, qE, q⟩ := h
    refine ⟨_, (pss_cons (ps_expr (pe_call G_check_backed (hr.mono (by decide)) rfl T.g_check_backed k_check_backed b_check_backed .nil pass0 (pa_cons (pv 0) (pa_cons (pv 1) (pa_cons (pv 3) (pa_cons (pv 4) pa_nil))))))
      (pss_one (ps_expr (pe_call G_take_in (hr.mono (by decide)) rfl T.g_take_in k_take_in b_take_in .nil (passes_call (takes_of rfl rfl rfl rfl) (fun _ _ _ _ h => h)) (pa_cons (pv 1) (pa_cons (pv 2) (pa_cons (pe_ix ix_tup (pv 3) pe_int (fun _ _ => rfl)) (pa_cons (pe_ix ix_tup (pv 3) pe_int (fun _ _ => rfl)) pa_nil)))))))), ?_⟩
    refine ⟨_, rfl, _, rfl, _, rfl, _, rfl, n, lt, dn, p, c, ga, sa, A, S, te, gs, L, rfl, hN, hs, hL, hG, hA, hgood, hw, hsl, fun H1 s1 => ?_⟩
    have L1 := hL.mono s1
    refine ⟨_, rfl, _, rfl, _, rfl, _, _, _, _, rfl, rfl, SqT.of L1.1, at2 rfl, _, rfl, _, _, _, _, rfl, rfl, SqT.of L1.1, at3 rfl, ?_⟩
    exact ⟨p, c, ga, L.ta, lim, win, A, S, rel, L.k, L.t, rfl, hc.mono s1, hs.mono s1, hok, L1.2, hG.t, hnew, qE.mono s1, q.mono s1⟩
end
end Vb
set_option Elab.async false
set_option linter.all false
set_option maxRecDepth 100000
set_option maxHeartbeats 4000000
/-! gateway.py, third part: take, apply, outcome, next_height -/
namespace Vb
open PySem PySem.Spec PyProof.Rows L2
theorem in_kinds2 : inV (.str "deliver") [.str "deliver", .str "bundle", .str "cancel"] = true := by kernel_rfl
theorem ne_take_pay : ¬ (("take" : Str) = "pay") := by decide +kernel
theorem ne_take_send : ¬ (("take" : Str) = "send") := by decide +kernel
def odV (rel : Str) (L : Le) (sa : Addr) : List V := [.str "take", .str rel, .ref L.a, .ref sa]
section
variable {P : Program} {w : World} {K : PySem.W.Frag} {mg : Str → Option Value} {base : Heap}
def spTake (w : World) (K : PySem.W.Frag) : Sp := fun vs H Q E => ∃ (n lt dn p c ga sa od : Addr) (lim win : Int) (A : SA) (S : SS) (te : Te) (gs : Gs) (L : Le) (rel : Str), vs = [.ref n, .ref p, .ref od] ∧ H od = some (.tup (odV rel L sa)) ∧ CfgAt K H c lim win ga ∧ NotAt w K H n lt dn te ∧ StAt K H p A c ga S ∧ SOk S ∧ LeAt H L ∧ GoodLe L ∧ GsAt H ga gs ∧ GoodGs gs ∧
  wsum gs ≤ 1000000 ∧ SlAt H sa gs L te ∧ valV S.inbox (Sum.inl L.k) = none ∧ TkE K lim win S L.t H E ∧ TkQ K lim win p A c ga S L.k L.ta L.t H fun H' => Q .non H'
theorem sc_take : FnScope ["notary", "state", "order", "kind", "wanted", "relayer", "letter", "seals"] ["notary", "state", "order"] (defScope s_take) := ⟨rfl, rfl, rfl, by decide +kernel, rfl, by decide +kernel, by decide +kernel⟩
theorem ok_take (T : Txt w K mg) : Ok P w K mg base (L2.CX P w) 8 ("take", none) ["notary", "state", "order"] (spTake w K) := by
  obtain ⟨fd1, G_is_letter, b_is_letter, k_is_letter⟩ := ok_is_letter (P := P) (base := base) T
  obtain ⟨fd2, G_other_side, b_other_side, k_other_side⟩ := ok_other_side (P := P) (base := base) T
  obtain ⟨fd3, G_deliver, b_deliver, k_deliver⟩ := ok_deliver (P := P) (base := base) T
  refine mk_okX T 24 (d := d_take) rfl sc_take rfl rfl (fun _ _ _ _ _ _ us hl => match us, hl with | [_, _, _], _ => rfl) (fun vs H Q E h => ?_) (fun cdv A0 outer s H vs Q E hr h => ?_)
  · obtain ⟨n, lt, dn, p, c, ga, sa, od, lim, win, A, S, te, gs, L, rel, rfl, _⟩ := h
    rfl
  · obtain ⟨n, lt, dn, p, c, ga, sa, od, lim, win, A, S, te, gs, L, rel, rfl, hod, hc, hN, hs, hok, hL, hG, hA, hgood, hw, hsl, hnew, qE, q⟩ := h
    refine ⟨_, (pss_cons (ps_asg (pe_slice sl_tup (pv 2) (po_some pe_int) po_none) (pg_tup (by rfl) (pgs_cons (pg_name (i := 5) sc_take.nd rfl (Or.inl rfl)) (pgs_cons (pg_name (i := 6) sc_take.nd rfl (Or.inl rfl)) (pgs_cons (pg_name (i := 7) sc_take.nd rfl (Or.inl rfl)) pgs_nil)))))
      (pss_cons (ps_if (pt_not (pt_val (pe_call G_is_letter (hr.mono (by decide)) rfl T.g_is_letter k_is_letter b_is_letter .nil pass0 (pa_cons (pv 6) pa_nil)))) (pss_one ps_never) pss_nil)
      (pss_cons (ps_set (i := 3) sc_take.nd rfl (Or.inl rfl) (pe_ix ix_tup (pv 6) pe_int (fun _ _ => rfl)))
      (pss_cons (ps_if (PW.pt (pw_and (pt_val (pe_fld (pv 1) rfl)) (pw_and1 (pt_cmpR op_in_seq (pv 3) (pe_tup (pa_cons pe_str (pa_cons pe_str (pa_cons pe_str pa_nil)))) (by rfl))))) (pss_one ps_never) pss_nil)
      (pss_cons (ps_set (i := 4) sc_take.nd rfl (Or.inl rfl) (pe_ifExp (pt_cmpR op_in_seq (pv 3) (pe_tup (pa_cons pe_str (pa_cons pe_str (pa_cons pe_str pa_nil)))) (by rfl)) (pe_call G_other_side (hr.mono (by decide)) rfl T.g_other_side k_other_side b_other_side .nil pass0 (pa_cons (pe_fld (pv 1) rfl) pa_nil)) (pe_fld (pv 1) rfl)))
      (pss_cons (ps_if (PW.pt (pw_and (pt_cmpR op_ne (pv 3) pe_str (nomark _)) (pw_and1 (pt_cmpR op_ne (pe_ix ix_tup (pv 6) pe_int (fun _ _ => rfl)) (pv 4) (nomark _))))) (pss_one ps_never) pss_nil)
      (pss_one (ps_if (pt_cmpR op_eq (pv 3) pe_str (nomark _)) (pss_one (ps_expr (pe_call G_deliver (hr.mono (by decide)) rfl T.g_deliver k_deliver b_deliver .nil (passes_call (takes_of rfl rfl rfl rfl) (fun _ _ _ _ h => h)) (pa_cons (pv 0) (pa_cons (pv 1) (pa_cons (pv 5) (pa_cons (pv 6) (pa_cons (pv 7) pa_nil)))))))) (pss_one ps_never))))))))), ?_⟩
    -- relayer, letter, seals = order[1:]
    refine ⟨_, rfl, _, rfl, od, _, rfl, SqT.of hod, fun z => absurd z.1 (by show ¬ ((1 : Nat) = 0); decide), fun o2 ho2 => ?_⟩
    have s1 : Same H (upd H o2 (.tup (cutV (odV rel L sa) (some 1) none))) := same_new ho2
    have e2 : upd H o2 (.tup (cutV (odV rel L sa) (some 1) none)) o2 = some (.tup [.str rel, .ref L.a, .ref sa]) := upd_same
    obtain ⟨H1, hH1⟩ : ∃ H1, H1 = upd H o2 (.tup (cutV (odV rel L sa) (some 1) none)) := ⟨_, rfl⟩
    rw [← hH1] at s1 e2 ⊢
    refine ⟨o2, _, rfl, SqT.of e2, rfl, _, _, rfl, _, _, rfl, _, _, rfl, rfl, ?_⟩
    refine ⟨_, rfl, L, rfl, hL.mono s1, hG, fun H2 s2 => ⟨true, rfl, iteF ?_⟩⟩
    have s02 : Same H H2 := fun b o e => s2 _ _ (s1 _ _ e)
    have L2' := hL.mono s02
    have hs2 := hs.mono s02
    refine ⟨_, rfl, _, _, _, _, rfl, rfl, SqT.of L2'.1, at0 rfl, ?_⟩
    refine ⟨_, rfl, p, _, A.dx, _, _, rfl, hs2.ob, T.cl_State, T.n_State_stopped, sf_stopped, false, rfl, iteF (iteF ?_)⟩
    refine ⟨_, rfl, (by show 3 ≤ sizeLine; decide), fun o3 ho3 => ⟨o3, _, rfl, .inr (SqT.of upd_same), rfl, rfl, _, rfl, ?_⟩⟩
    rw [in_kinds2]
    refine iteT ?_
    have s3 : Same H2 (upd H2 o3 (.tup [.str "deliver", .str "bundle", .str "cancel"])) := same_new ho3
    obtain ⟨H3, hH3⟩ : ∃ H3, H3 = upd H2 o3 (.tup [.str "deliver", .str "bundle", .str "cancel"]) := ⟨_, rfl⟩
    rw [← hH3] at s3 ⊢
    have s03 : Same H H3 := fun b o e => s3 _ _ (s02 _ _ e)
    have L3 := hL.mono s03
    have hs3 := hs.mono s03
    refine ⟨_, rfl, p, _, A.dx, _, _, rfl, hs3.ob, T.cl_State, T.n_State_place, sf_place, rfl, ?_⟩
    refine ⟨_, rfl, rfl, true, congrArg (fun b => V.bl (!b)) (decide_eq_false (fun e => ne_dr (V.str.inj e))), iteT ?_⟩
    refine ⟨_, rfl, _, _, _, _, rfl, rfl, SqT.of L3.1, at1 rfl, _, rfl, rfl, false, congrArg (fun b => V.bl (!b)) (decide_eq_true rfl), iteF ?_⟩
    refine ⟨_, rfl, rfl, true, congrArg V.bl (decide_eq_true rfl), iteT ?_⟩
    exact ⟨_, rfl, _, rfl, _, rfl, _, rfl, _, rfl, n, lt, dn, p, c, ga, sa, lim, win, A, S, te, gs, L, rel, rfl, hc.mono s03, hN.mono s03, hs3, hok, L3, hG, hA.mono s03, hgood, hw, hsl.mono s03, hnew, qE.mono s03, q.mono s03⟩
/-! ### apply -/
theorem sc_apply : FnScope ["notary", "state", "order"] ["notary", "state", "order"] (defScope s_apply) := ⟨rfl, rfl, rfl, by decide +kernel, rfl, by decide +kernel, by decide +kernel⟩
theorem ok_apply (T : Txt w K mg) : Ok P w K mg base (L2.CX P w) 9 ("apply", none) ["notary", "state", "order"] (spTake w K) := by
  obtain ⟨fd3, G_take, b_take, k_take⟩ := ok_take (P := P) (base := base) T
  have h_FORMS := T.g_FORMS
  obtain ⟨es, nn, DF⟩ := T.tab
  obtain ⟨uv, hv1, hv2⟩ := He.valsB_ok (exB_split T.ex).2.2.1 (q := ("take", .int 4)) (List.mem_cons_of_mem _ (List.mem_cons_of_mem _ List.mem_cons_self))
  refine mk_okX T 25 (d := d_apply) rfl sc_apply rfl rfl (fun _ _ _ _ _ _ us hl => match us, hl with | [_, _, _], _ => rfl) (fun vs H Q E h => ?_) (fun cdv A0 outer s H vs Q E hr h => ?_)
  · obtain ⟨n, lt, dn, p, c, ga, sa, od, lim, win, A, S, te, gs, L, rel, rfl, _⟩ := h
    rfl
  · obtain ⟨n, lt, dn, p, c, ga, sa, od, lim, win, A, S, te, gs, L, rel, rfl, hod, hc, hN, hs, hok, hL, hG, hA, hgood, hw, hsl, hnew, qE, q⟩ := h
    refine ⟨_, (pss_cons (ps_if (PW.pt (pw_or (pt_cmpR op_eq (pe_callB call_len_seq (by rfl) T.f_len boot_len (pa_cons (pv 2) pa_nil)) pe_int (nomark _)) (pw_or (pt_cmpR (op_notIn_kd DF) (pe_ix ix_tup (pv 2) pe_int (fun _ _ => rfl)) (pe_glob (v := .ref (He.ga K "FORMS")) rfl h_FORMS rfl) (by rfl)) (pw_or1 (pt_cmpR op_ne (pe_ix ix_kdict (pe_glob (v := .ref (He.ga K "FORMS")) rfl h_FORMS rfl) (pe_ix ix_tup (pv 2) pe_int (fun _ _ => rfl)) (fun _ _ => rfl)) (pe_callB call_len_seq (by rfl) T.f_len boot_len (pa_cons (pv 2) pa_nil)) (nomark _)))))) (pss_one ps_never) pss_nil)
      (pss_one (ps_if (pt_cmpR op_eq (pe_ix ix_tup (pv 2) pe_int (fun _ _ => rfl)) pe_str (nomark _)) (pss_one ps_never) (pss_one (ps_if (pt_cmpR op_eq (pe_ix ix_tup (pv 2) pe_int (fun _ _ => rfl)) pe_str (nomark _)) (pss_one ps_never) (pss_one (ps_if (pt_cmpR op_eq (pe_ix ix_tup (pv 2) pe_int (fun _ _ => rfl)) pe_str (nomark _)) (pss_one (ps_expr (pe_call G_take (hr.mono (by decide)) rfl T.g_take k_take b_take .nil (passes_call (takes_of rfl rfl rfl rfl) (fun _ _ _ _ h => h)) (pa_cons (pv 0) (pa_cons (pv 1) (pa_cons (pv 2) pa_nil)))))) (pss_one ps_never)))))))), ?_⟩
    refine ⟨_, rfl, _, _, rfl, .inr (SqT.of hod), rfl, false, congrArg V.bl (decide_eq_false (by intro z; cases z)), iteF ?_⟩
    refine ⟨_, rfl, _, _, _, _, rfl, rfl, SqT.of hod, at0 rfl, "take", _, rfl, rfl, hv1, false, rfl, iteF ?_⟩
    refine ⟨_, rfl, _, _, _, _, rfl, rfl, SqT.of hod, at0 rfl, _, "take", .int 4, rfl, rfl, ⟨es, nn, uv, DF.at_, DF.lit, hv1, hv2⟩, _, rfl, _, _, rfl, .inr (SqT.of hod), rfl, false, congrArg (fun b => V.bl (!b)) (decide_eq_true rfl), iteF ?_⟩
    refine ⟨_, rfl, _, _, _, _, rfl, rfl, SqT.of hod, at0 rfl, rfl, false, congrArg V.bl (decide_eq_false (fun e => ne_take_pay (V.str.inj e))), iteF ?_⟩
    refine ⟨_, rfl, _, _, _, _, rfl, rfl, SqT.of hod, at0 rfl, rfl, false, congrArg V.bl (decide_eq_false (fun e => ne_take_send (V.str.inj e))), iteF ?_⟩
    refine ⟨_, rfl, _, _, _, _, rfl, rfl, SqT.of hod, at0 rfl, rfl, true, congrArg V.bl (decide_eq_true rfl), iteT ?_⟩
    exact ⟨_, rfl, _, rfl, _, rfl, n, lt, dn, p, c, ga, sa, od, lim, win, A, S, te, gs, L, rel, rfl, hod, hc, hN, hs, hok, hL, hG, hA, hgood, hw, hsl, hnew, qE, q⟩
/-! ### outcome, next_height -/
theorem StAt.setOb {H : Hp} {p : Addr} {A : SA} {c ga : Addr} {S : SS} (x : StAt K H p A c ga S) (h : Int) {l : Addr} (hl : H l = some (.lst [])) (m1 : l ≠ A.lse) (m2 : A.lpa ≠ l) :
    StAt K (upd H p (.ins (cState K) A.dx (sf (.ref c) (.str "west") (.int h) (.ref A.sh) (.ref A.lse) (.ref A.lsn) (.ref A.dib) (.ref A.dro) (.ref A.dre) (.ref A.lpa) (.bl false) (.int 0) (.ref l)))) p { A with lfr := l } c ga { S with high := h, fresh := [] } := by
  obtain ⟨h1, h2, h3, ⟨k1, h4⟩, h5, ⟨k2, h6⟩, ⟨k3, h7⟩, h8, h9, h10, n1, n2, n3⟩ := x
  have n_sh : A.sh ≠ p := ne_of h2.ob h1 fun z => by
    injection z with _ _ z3
    exact absurd (show (5 : Nat) = 13 from congrArg List.length z3) (by decide)
  exact ⟨upd_same, h2.kb (fun b o e n => get_ne e n) n_sh h1, get_ne h3 (ne_of h3 h1 (fun z => nomatch z)), ⟨k1, get_ne h4 (ne_of h4 h1 (fun z => nomatch z))⟩, get_ne h5 (ne_of h5 h1 (fun z => nomatch z)), ⟨k2, get_ne h6 (ne_of h6 h1 (fun z => nomatch z))⟩, ⟨k3, get_ne h7 (ne_of h7 h1 (fun z => nomatch z))⟩,
    get_ne h8 (ne_of h8 h1 (fun z => nomatch z)), fun r hr => get_ne (h9 r hr) (ne_of (h9 r hr) h1 (fun z => nomatch z)), get_ne hl (ne_of hl h1 (fun z => nomatch z)), n1, m1, m2⟩
/-- the state and the events behind an order that is kept -/
def Out (K : PySem.W.Frag) (c ga : Addr) (S' : SS) (word : Str) (k : Int) (ta : Addr) (H : Hp) (v : V) (H' : Hp) : Prop := ∃ (q le f p' : Addr) (A' : SA), v = .ref q ∧ Same H H' ∧ H' q = some (.tup [.ref p', .ref le]) ∧ H' le = some (.lst [.ref f]) ∧ H' f = some (.tup [.str word, .int k, .ref ta]) ∧
  H p' = none ∧ (∀ b ∈ A'.adds, H b = none) ∧ StAt K H' p' A' c ga S'
def spOut (w : World) (K : PySem.W.Frag) : Sp := fun vs H Q E => ∃ (n lt dn p c ga sa od : Addr) (lim win : Int) (A : SA) (S : SS) (te : Te) (gs : Gs) (L : Le) (rel : Str), vs = [.ref c, .ref n, .ref p, .ref od] ∧ H od = some (.tup (odV rel L sa)) ∧ CfgAt K H c lim win ga ∧ NotAt w K H n lt dn te ∧ StAt K H p A c ga S ∧ SOk S ∧ LeAt H L ∧ GoodLe L ∧ GsAt H ga gs ∧ GoodGs gs ∧
  wsum gs ≤ 1000000 ∧ SlAt H sa gs L te ∧ valV S.inbox (Sum.inl L.k) = none ∧ TkE K lim win S L.t H E ∧
  (L.t.dl < S.high → ∀ v H', Out K c ga ⟨S.high, putK S.inbox (Sum.inl L.k) (.str "refused"), S.passed, [], S.nb⟩ "refused" L.k L.ta H v H' → Q v H') ∧
  (¬ L.t.dl < S.high → ¬ bey S lim win L.t.tok L.t.un → ∀ r v H', Out K c ga ⟨S.high, putK S.inbox (Sum.inl L.k) (.str "delivered"), S.passed ++ [(r, S.high, L.t.tok, L.t.un)], [], S.nb + 2⟩ "delivered" L.k L.ta H v H' → Q v H')
theorem sc_outcome : FnScope ["config", "notary", "state", "order", "new", "events"] ["config", "notary", "state", "order"] (defScope s_outcome) := ⟨rfl, rfl, rfl, by decide +kernel, rfl, by decide +kernel, by decide +kernel⟩
theorem ok_outcome (T : Txt w K mg) : Ok P w K mg base (L2.CX P w) 10 ("outcome", none) ["config", "notary", "state", "order"] (spOut w K) := by
  obtain ⟨fd1, G_State_twin, b_State_twin, _⟩ := ok_State_twin (P := P) (base := base) T
  obtain ⟨fd2, G_apply, b_apply, k_apply⟩ := ok_apply (P := P) (base := base) T
  refine mk_okX T 26 (d := d_outcome) rfl sc_outcome rfl rfl (fun _ _ _ _ _ _ us hl => match us, hl with | [_, _, _, _], _ => rfl) (fun vs H Q E h => ?_) (fun cdv A0 outer s H vs Q E hr h => ?_)
  · obtain ⟨n, lt, dn, p, c, ga, sa, od, lim, win, A, S, te, gs, L, rel, rfl, _⟩ := h
    rfl
  · obtain ⟨n, lt, dn, p, c, ga, sa, od, lim, win, A, S, te, gs, L, rel, rfl, hod, hc, hN, hs, hok, hL, hG, hA, hgood, hw, hsl, hnew, qE, q1, q2⟩ := h
    refine ⟨_, (pss_cons (ps_set (i := 4) sc_outcome.nd rfl (Or.inl rfl) (pe_meth0 (pv 2) T.cl_State T.m_State_twin G_State_twin (hr.mono (by decide)) b_State_twin .nil pass0))
      (pss_cons (ps_expr (pe_call G_apply (hr.mono (by decide)) rfl T.g_apply k_apply b_apply .nil (passes_call (takes_of rfl rfl rfl rfl) (fun _ _ _ _ h => h)) (pa_cons (pv 1) (pa_cons (pv 4) (pa_cons (pv 3) pa_nil)))))
      (pss_cons (ps_set (i := 5) sc_outcome.nd rfl (Or.inl rfl) (pe_callTy call_list_of (by rfl) T.f_list boot_list (pa_cons (pe_fld (pv 4) rfl) pa_nil)))
      (pss_cons (ps_fld (pv 4) (pe_lst pa_nil) rfl)
      (pss_one (ps_ret (pe_tup (pa_cons (pv 4) (pa_cons (pv 5) pa_nil))))))))), ?_⟩
    refine ⟨_, rfl, p, A.dx, _, rfl, hs.ob, sf_no_twin, p, c, ga, lim, win, A, S, rfl, hc, hs, Nat.le_trans hok.nb (by decide), fun H1 p' A' s1 fp fA hs1 => ?_⟩
    have i_dba : A'.dba ∈ A'.adds := by simp [SA.adds]
    have i_lpa : A'.lpa ∈ A'.adds := by simp [SA.adds]
    have i_dib : A'.dib ∈ A'.adds := by simp [SA.adds]
    have i_lfr : A'.lfr ∈ A'.adds := by simp [SA.adds]
    have kw_same : ∀ {H2 : Hp}, KW A' H1 H2 → Same H H2 := fun {H2} kw b o e => kw _ _ (s1 _ _ e) (ne_of_none e (fA _ i_dba)) (ne_of_none e (fA _ i_lpa)) (ne_of_none e (fA _ i_dib)) (ne_of_none e (fA _ i_lfr))
    refine ⟨_, rfl, _, rfl, _, rfl, n, lt, dn, p', c, ga, sa, od, lim, win, A', { S with fresh := [] }, te, gs, L, rel, rfl, s1 _ _ hod, hc.mono s1, hN.mono s1, hs1, ⟨hok.nb, hok.inbox, hok.passed, Nat.zero_le _⟩, hL.mono s1, hG, hA.mono s1, hgood, hw, hsl.mono s1, hnew, fun g1 g2 H' s' => qE g1 g2 H' (fun b o e => s' _ _ (s1 _ _ e)), ?_⟩
    -- behind apply
    have tail : ∀ (H2 : Hp) (S2 : SS) (f : Addr) (word : Str), KW A' H1 H2 → H2 f = some (.tup [.str word, .int L.k, .ref L.ta]) → StAt K H2 p' A' c ga S2 → S2.fresh = [.ref f] → (∀ v H', Out K c ga { S2 with fresh := [] } word L.k L.ta H v H' → Q v H') →
        (tSeq (tAsg (tCB (fun xs H Q => ∃ p ys, xs = [V.ref p] ∧ (SqL K H p ys ∨ SqT K H p ys) ∧ ∀ l, H l = none → Q (.ref l) (upd H l (.lst ys))) (tCons (tFld K (tVar 4) "fresh") tNil)) (gName 5)) (tSeq (sFld K (tVar 4) (tLst tNil) "fresh") (tRet (tTup (tCons (tVar 4) (tCons (tVar 5) tNil))))))
          { nx := fun x H' => Q V.non H', rt := Q } [some (.ref c), some (.ref n), some (.ref p), some (.ref od), some (.ref p'), none] H2 := by
      intro H2 S2 f word kw hf h2 hfr qq
      have sm2 := kw_same kw
      have efr := h2.fr
      rw [hfr] at efr
      -- events = list(new.fresh)
      refine ⟨_, rfl, p', _, A'.dx, _, _, rfl, h2.ob, T.cl_State, T.n_State_fresh, sf_fresh, A'.lfr, _, rfl, .inl (SqL.of efr), fun le hle => ?_⟩
      -- new.fresh = []
      refine ⟨Nat.zero_le _, fun l hl => ⟨_, rfl, p', _, A'.dx, _, rfl, get_old (get_old h2.ob hle) hl, T.cl_State, T.n_State_fresh, sf_len, ?_⟩⟩
      rw [sf_put_fresh]
      have s3 : Same H2 (upd (upd H2 le (.lst [.ref f])) l (.lst [])) := fun b o e => get_old (get_old e hle) hl
      have h3 := (h2.mono s3).setOb S2.high (l := l) upd_same ?_ ?_
      rotate_left
      · exact (ne_of_none (get_old h2.se hle) hl).symm
      · exact ne_of_none (get_old h2.pa hle) hl
      have e_le : upd (upd H2 le (.lst [.ref f])) l (.lst []) le = some (.lst [.ref f]) := get_old upd_same hl
      obtain ⟨H3, hH3⟩ : ∃ H3, H3 = upd (upd H2 le (.lst [.ref f])) l (.lst []) := ⟨_, rfl⟩
      rw [← hH3] at s3 h3 e_le ⊢
      have p3 := s3 _ _ h2.ob
      have f_l : H l = none := by
        cases z : H l with
        | none => rfl
        | some o =>
          rw [get_old (sm2 _ _ z) hle] at hl
          cases hl
      have sm3 : Same H H3 := fun b o e => s3 _ _ (sm2 _ _ e)
      -- return (new, events)
      refine ⟨_, rfl, _, rfl, (by show 2 ≤ sizeLine; decide), fun q hq => ?_⟩
      refine qq _ _ ⟨q, le, f, p', { A' with lfr := l }, rfl, fun b o e => get_old (get_ne (sm3 _ _ e) (ne_of_none e fp)) hq, upd_same, get_old (get_ne e_le (ne_of e_le p3 (fun z => nomatch z))) hq, get_old (get_ne (s3 _ _ hf) (ne_of (s3 _ _ hf) p3 (fun z => nomatch z))) hq, fp, ?_, h3.mono (same_new hq)⟩
      intro b hb
      by_cases z : b = l
      · rw [z]
        exact f_l
      · refine fA b ?_
        simp only [SA.adds, List.mem_cons, List.mem_nil_iff, or_false] at hb ⊢
        rcases hb with h | h | h | h | h | h | h | h | h | h | h
        all_goals first | exact absurd h z | simp [h]
    refine ⟨fun g H2 ⟨f, kw, hf, h2⟩ => ?_, fun g1 g2 H2 ⟨f, r, kw, hf, h2⟩ => ?_⟩
    · exact tail H2 _ f "refused" kw hf h2 rfl (q1 g)
    · exact tail H2 _ f "delivered" kw hf h2 rfl (q2 g1 g2 r)
def spNext (K : PySem.W.Frag) : Sp := fun vs H Q _ => ∃ (p c ga : Addr) (lim win : Int) (A : SA) (S : SS), vs = [.ref p] ∧ CfgAt K H c lim win ga ∧ StAt K H p A c ga S ∧ S.nb ≤ 1000 ∧
  ∀ (H' : Hp) (p' : Addr) (A' : SA), Same H H' → H p' = none → (∀ b ∈ A'.adds, H b = none) → StAt K H' p' A' c ga { S with high := S.high + 1, fresh := [] } → Q (.ref p') H'
theorem sc_next_height : FnScope ["state", "new"] ["state"] (defScope s_next_height) := ⟨rfl, rfl, rfl, by decide +kernel, rfl, by decide +kernel, by decide +kernel⟩
theorem ok_next_height (T : Txt w K mg) : Ok P w K mg base CX0 9 ("next_height", none) ["state"] (spNext K) := by
  obtain ⟨fd1, G_State_twin, b_State_twin, _⟩ := ok_State_twin (P := P) (base := base) T
  refine mk_ok T 27 (d := d_next_height) rfl sc_next_height rfl rfl (fun _ _ _ _ _ _ us hl => match us, hl with | [_], _ => rfl) (fun vs H Q E h => ?_) (fun cdv A0 outer s H vs Q E hr h => ?_)
  · obtain ⟨p, c, ga, lim, win, A, S, rfl, _⟩ := h
    rfl
  · obtain ⟨p, c, ga, lim, win, A, S, rfl, hc, hs, hn, q⟩ := h
    refine ⟨_, (pss_cons (ps_set (i := 1) sc_next_height.nd rfl (Or.inl rfl) (pe_meth0 (pv 0) T.cl_State T.m_State_twin G_State_twin (hr.mono (by decide)) b_State_twin .nil pass0))
      (pss_cons (ps_fld (pv 1) (pe_op op_add (pe_fld (pv 1) rfl) pe_int) rfl)
      (pss_one (ps_ret (pv 1))))), ?_⟩
    refine ⟨_, rfl, p, A.dx, _, rfl, hs.ob, sf_no_twin, p, c, ga, lim, win, A, S, rfl, hc, hs, hn, fun H1 p' A' s1 fp fA hs1 => ?_⟩
    refine ⟨_, rfl, p', _, A'.dx, _, _, rfl, hs1.ob, T.cl_State, T.n_State_high, sf_high, _, _, rfl, rfl, ?_⟩
    refine ⟨_, rfl, p', _, A'.dx, _, rfl, hs1.ob, T.cl_State, T.n_State_high, sf_len, ?_⟩
    rw [sf_put_high]
    exact ⟨_, rfl, q _ p' A' (fun b o e => get_ne (s1 _ _ e) (ne_of_none e fp)) fp fA (hs1.setOb (S.high + 1) hs1.fr hs1.n2 hs1.n3)⟩
end
end Vb
set_option Elab.async false
set_option linter.all false
set_option maxRecDepth 100000
set_option maxHeartbeats 4000000
/-! the law's own helpers: _law_pot, _law_next, _law_set -/
namespace Vb
open PySem PySem.Spec PyProof.Rows L2
theorem Same.lst {K : PySem.W.Frag} {H H' : Hp} {a : Addr} {xs : List V} (e : Same H H') (h : SqL K H a xs) : SqL K H' a xs := by
  rcases h with (h | ⟨o, h⟩) | h
  · exact .inl (.inl (e _ _ h))
  · exact .inl (.inr ⟨o, e _ _ h⟩)
  · exact .inr h
structure PotAt (H : Hp) (lp ls : Addr) (ns : List Int) : Prop where
  ex : ∃ (i : Nat) (v s : Int), H lp = some (.lst [.ref ls, .int i, .int v, .int s]) ∧ 0 ≤ v ∧ 0 ≤ s
  sc : H ls = some (.lst (ns.map V.int))
  ne : ls ≠ lp
theorem PotAt.other {H H' : Hp} {lp ls : Addr} {ns : List Int} (x : PotAt H lp ls ns) (h1 : ∀ {o}, H lp = some o → H' lp = some o) (h2 : ∀ {o}, H ls = some o → H' ls = some o) : PotAt H' lp ls ns := by
  obtain ⟨⟨i, v, z, h, r⟩, h3, n⟩ := x
  exact ⟨⟨i, v, z, h1 h, r⟩, h2 h3, n⟩
theorem PotAt.mono {H H' : Hp} {lp ls : Addr} {ns : List Int} (x : PotAt H lp ls ns) (s : Same H H') : PotAt H' lp ls ns := by
  obtain ⟨⟨i, v, z, h, r⟩, h2, n⟩ := x
  exact ⟨⟨i, v, z, s _ _ h, r⟩, s _ _ h2, n⟩
section
variable {P : Program} {w : World} {K : PySem.W.Frag} {mg : Str → Option Value} {base : Heap}
def spPot (K : PySem.W.Frag) : Sp := fun vs H Q _ => ∃ (a : Addr) (ns : List Int), vs = [.ref a] ∧ SqL K H a (ns.map V.int) ∧ ∀ (H' : Hp) (lp ls : Addr), Same H H' → H lp = none → PotAt H' lp ls ns → Q (.ref lp) H'
theorem sc_law_pot : FnScope ["_law_script", "_law_seed", "_law_cell"] ["_law_script"] (defScope s_law_pot) := ⟨rfl, rfl, rfl, by decide +kernel, rfl, by decide +kernel, by decide +kernel⟩
theorem ok_law_pot (T : Txt w K mg) : Ok P w K mg base CX0 1 ("_law_pot", none) ["_law_script"] (spPot K) := by
  refine mk_ok T 41 (d := d_law_pot) rfl sc_law_pot rfl rfl (fun _ _ _ _ _ _ us hl => match us, hl with | [_], _ => rfl) (fun vs H Q E h => ?_) (fun cdv A0 outer s H vs Q E hr h => ?_)
  · obtain ⟨a, ns, rfl, _⟩ := h
    rfl
  · obtain ⟨a, ns, rfl, ha, q⟩ := h
    refine ⟨_, (pss_cons (ps_set (i := 1) sc_law_pot.nd rfl (Or.inl rfl) pe_int)
      (pss_cons (ps_for PassesOwn.never rfl (pi_list (pv 0)) (pg_name (i := 2) sc_law_pot.nd rfl (Or.inl rfl)) (pss_one (ps_set (i := 1) sc_law_pot.nd rfl (Or.inl rfl) (pe_op op_mod (pe_callTy call_int1 (by rfl) T.f_int boot_int (pa_cons (pe_op op_add (pe_op op_mul (pv 1) pe_int) (pv 2)) pa_nil)) pe_int))))
      (pss_one (ps_ret (pe_lst (pa_cons (pe_callTy call_list_of (by rfl) T.f_list boot_list (pa_cons (pv 0) pa_nil)) (pa_cons pe_int (pa_cons pe_int (pa_cons (pv 1) pa_nil))))))))), ?_⟩
    refine ⟨_, rfl, a, rfl, ⟨_, ha⟩, for_list (K := K) (a := a) (xs := ns.map V.int) (fun i σ H2 => ∃ (s : Int) (v2 : Option V), σ = [some (.ref a), some (.int s), v2] ∧ 0 ≤ s ∧ H2 = H)
      ⟨1, none, rfl, by decide, rfl⟩ (fun i σ H2 _ ⟨_, _, _, _, e⟩ => by rw [e]; exact ha) ?_ ?_⟩
    · rintro i y σ H2 hi ⟨s, v2, rfl, hs, rfl⟩
      obtain ⟨z, hz, rfl⟩ := get_map hi
      refine ⟨_, rfl, _, _, rfl, rfl, .inr ⟨by decide, by decide⟩, _, rfl, _, _, rfl, rfl, .inl ⟨_, rfl, _, _, rfl, rfl, (by show (0 : Int) < 2147483647; decide), ?_⟩⟩
      exact ⟨_, _, rfl, Int.emod_nonneg _ (by decide), rfl⟩
    · rintro σ H2 ⟨s, v2, rfl, hs, rfl⟩
      refine ⟨_, rfl, a, _, rfl, .inl ha, fun ls hls => ⟨_, rfl, (by show 4 ≤ sizeLine; decide), fun lp hlp => ?_⟩⟩
      refine q _ lp ls (fun b o e => get_old (get_old e hls) hlp) ((same_new hls).free hlp) ⟨⟨0, 0, s, upd_same, Int.le_refl _, hs⟩, get_old upd_same hlp, ?_⟩
      intro e
      rw [e, upd_same] at hlp
      cases hlp
/-! ### _law_next -/
def spNextD : Sp := fun vs H Q _ => ∃ (lp ls : Addr) (ns : List Int) (m : Int), vs = [.ref lp, .int m] ∧ PotAt H lp ls ns ∧ 1 ≤ m ∧ m ≤ 1000000 ∧ ∀ (H' : Hp) (v : Int), KB lp H H' → PotAt H' lp ls ns → 0 ≤ v → v < m → Q (.int v) H'
theorem sc_law_next : FnScope ["_law_pot_here", "_law_limit", "_law_mixed", "_law_cell", "_law_found"] ["_law_pot_here", "_law_limit"] (defScope s_law_next) := ⟨rfl, rfl, rfl, by decide +kernel, rfl, by decide +kernel, by decide +kernel⟩
theorem ok_law_next (T : Txt w K mg) : Ok P w K mg base CX0 1 ("_law_next", none) ["_law_pot_here", "_law_limit"] spNextD := by
  refine mk_ok T 42 (d := d_law_next) rfl sc_law_next rfl rfl (fun _ _ _ _ _ _ us hl => match us, hl with | [_, _], _ => rfl) (fun vs H Q E h => ?_) (fun cdv A0 outer s H vs Q E hr h => ?_)
  · obtain ⟨lp, ls, ns, m, rfl, _⟩ := h
    rfl
  · obtain ⟨lp, ls, ns, m, rfl, ⟨⟨i, v, sd, hlp, hv, hsd⟩, hls, hne⟩, hm, hm2, q⟩ := h
    refine ⟨_, (Evl.pss_cut (ps_if (PW.pt (pw_and (pt_cmpR op_eq (pe_ix ix_list (pv 0) pe_int (fun _ _ => rfl)) pe_int (nomark _)) (pw_and1 (pt_cmpR op_lt (pe_ix ix_list (pv 0) pe_int (fun _ _ => rfl)) (pe_callB call_len_seq (by rfl) T.f_len boot_len (pa_cons (pe_ix ix_list (pv 0) pe_int (fun _ _ => rfl)) pa_nil)) (nomark _))))) (pss_cons (ps_set (i := 3) sc_law_next.nd rfl (Or.inl rfl) (pe_callB call_abs (by rfl) T.f_abs boot_abs (pa_cons (pe_callTy call_int1 (by rfl) T.f_int boot_int (pa_cons (pe_ix ix_list (pe_ix ix_list (pv 0) pe_int (fun _ _ => rfl)) (pe_ix ix_list (pv 0) pe_int (fun _ _ => rfl)) (fun _ _ => rfl)) pa_nil)) pa_nil)))
      (pss_cons (ps_asg (pe_op op_add (pe_ix ix_list (pv 0) pe_int (fun _ _ => rfl)) pe_int) (pg_sub (pv 0) pe_int set_list))
      (pss_cons (ps_if (pt_cmpR op_lt (pv 3) (pe_op op_pow pe_int pe_int) (nomark _)) (pss_one (ps_ret (pe_op op_mod (pe_callTy call_int1 (by rfl) T.f_int boot_int (pa_cons (pv 3) pa_nil)) (pv 1)))) pss_nil)
      (pss_one (ps_asg (pv 3) (pg_sub (pv 0) pe_int set_list)))))) pss_nil)
      (pss_cons (ps_if (pt_cmpR op_gt (pe_ix ix_list (pv 0) pe_int (fun _ _ => rfl)) pe_int (nomark _)) (pss_cons (ps_set (i := 4) sc_law_next.nd rfl (Or.inl rfl) (pe_op op_mod (pe_callTy call_int1 (by rfl) T.f_int boot_int (pa_cons (pe_ix ix_list (pv 0) pe_int (fun _ _ => rfl)) pa_nil)) (pv 1)))
      (pss_cons (ps_asg (pe_op op_fdiv (pe_ix ix_list (pv 0) pe_int (fun _ _ => rfl)) (pv 1)) (pg_sub (pv 0) pe_int set_list))
      (pss_one (ps_ret (pv 4))))) pss_nil)
      (pss_cons (ps_asg (pe_op op_mod (pe_callTy call_int1 (by rfl) T.f_int boot_int (pa_cons (pe_op op_add (pe_op op_mul (pe_ix ix_list (pv 0) pe_int (fun _ _ => rfl)) pe_int) pe_int) pa_nil)) pe_int) (pg_sub (pv 0) pe_int set_list))
      (pss_cons (ps_set (i := 2) sc_law_next.nd rfl (Or.inl rfl) (pe_op op_mod (pe_callTy call_int1 (by rfl) T.f_int boot_int (pa_cons (pe_op op_add (pe_op op_mul (pe_ix ix_list (pv 0) pe_int (fun _ _ => rfl)) pe_int) (pe_op op_fdiv (pe_ix ix_list (pv 0) pe_int (fun _ _ => rfl)) pe_int)) pa_nil)) pe_int))
      (pss_one (ps_ret (pe_op op_mod (pe_callTy call_int1 (by rfl) T.f_int boot_int (pa_cons (pv 2) pa_nil)) (pv 1)))))))), ?_⟩
    refine ⟨fun σ H1 => ∃ (x3 : Option V) (i v : Nat) , σ = [some (.ref lp), some (.int m), none, x3, none] ∧ KB lp H H1 ∧ H1 lp = some (.lst [.ref ls, .int i, .int v, .int sd]), ?_, ?_⟩
    · by_cases g1 : v = 0
      · refine ⟨_, rfl, _, _, _, _, rfl, rfl, SqL.of hlp, at2 rfl, rfl, true, congrArg V.bl (decide_eq_true (congrArg V.int g1)), iteT ?_⟩
        by_cases g2 : (i : Int) < ((ns.map V.int).length : Nat)
        · refine ⟨_, rfl, _, _, _, _, rfl, rfl, SqL.of hlp, at1 rfl, _, rfl, _, _, _, _, rfl, rfl, SqL.of hlp, at0 rfl, ls, _, rfl, .inl (SqL.of hls), _, _, rfl, rfl, true, congrArg V.bl (decide_eq_true g2), iteT ?_⟩
          have hi : i < ns.length := by
            rw [List.length_map] at g2
            omega
          obtain ⟨z, hz⟩ : ∃ z, ns[i]? = some z := ⟨ns[i], List.getElem?_eq_getElem hi⟩
          refine ⟨_, rfl, _, _, _, _, rfl, rfl, SqL.of hlp, at0 rfl, _, rfl, _, _, _, _, rfl, rfl, SqL.of hlp, at1 rfl, _, _, _, _, rfl, rfl, SqL.of hls, (atI_nat (by rw [List.getElem?_map, hz] <;> rfl)), .inl ⟨_, rfl, _, rfl, ?_⟩⟩
          obtain ⟨c, hc⟩ : ∃ c : Nat, (if z < 0 then -z else z) = (c : Int) := ⟨z.natAbs, by split <;> omega⟩
          rw [hc]
          -- pot[1] = pot[1] + 1
          refine ⟨_, rfl, _, _, _, _, rfl, rfl, SqL.of hlp, at1 rfl, _, _, rfl, rfl, _, rfl, lp, _, _, 1, rfl, rfl, hlp, rfl, ?_⟩
          have h1 : upd H lp (.lst [.ref ls, .int (i + 1 : Nat), .int v, .int sd]) lp = some (.lst [.ref ls, .int (i + 1 : Nat), .int v, .int sd]) := upd_same
          have k1 : KB lp H (upd H lp (.lst [.ref ls, .int (i + 1 : Nat), .int v, .int sd])) := (KB.refl _ _).own
          obtain ⟨H1, hH1⟩ : ∃ H1, H1 = upd H lp (.lst [.ref ls, .int (i + 1 : Nat), .int v, .int sd]) := ⟨_, rfl⟩
          rw [← hH1] at h1 k1
          have e1 : upd H lp (.lst ([V.ref ls, V.int i, V.int v, V.int sd].set 1 (.int ((i : Int) + 1)))) = H1 := by
            rw [hH1] <;> rfl
          rw [e1]
          -- if cell < 10 ** 18
          refine ⟨_, rfl, _, _, rfl, rfl, ⟨by decide, by decide, by decide⟩, _, _, rfl, rfl, ?_⟩
          by_cases g3 : (c : Int) < 10 ^ (18 : Int).toNat
          · refine ⟨true, congrArg V.bl (decide_eq_true g3), iteT ?_⟩
            refine ⟨_, rfl, .inl ⟨_, rfl, _, rfl, _, _, rfl, rfl, (by omega), ?_⟩⟩
            exact q _ _ k1 ⟨⟨i + 1, v, sd, h1, hv, hsd⟩, k1 _ _ hls hne, hne⟩ (Int.emod_nonneg _ (by omega)) (Int.emod_lt_of_pos _ (by omega))
          · refine ⟨false, congrArg V.bl (decide_eq_false g3), iteF ?_⟩
            refine ⟨_, rfl, _, rfl, lp, _, _, 2, rfl, rfl, h1, rfl, ?_⟩
            exact ⟨_, i + 1, c, rfl, k1.own, upd_same⟩
        · refine ⟨_, rfl, _, _, _, _, rfl, rfl, SqL.of hlp, at1 rfl, _, rfl, _, _, _, _, rfl, rfl, SqL.of hlp, at0 rfl, ls, _, rfl, .inl (SqL.of hls), _, _, rfl, rfl, false, congrArg V.bl (decide_eq_false g2), iteF ?_⟩
          exact ⟨_, i, v.toNat, rfl, KB.refl _ _, by rw [Int.toNat_of_nonneg hv]; exact hlp⟩
      · refine ⟨_, rfl, _, _, _, _, rfl, rfl, SqL.of hlp, at2 rfl, rfl, false, congrArg V.bl (decide_eq_false (fun e => g1 (V.int.inj e))), iteF (iteF ?_)⟩
        exact ⟨_, i, v.toNat, rfl, KB.refl _ _, by rw [Int.toNat_of_nonneg hv]; exact hlp⟩
    · rintro σ H1 ⟨x3, i, v, rfl, k1, h1⟩
      have hls1 := k1 _ _ hls hne
      by_cases g1 : (v : Int) > 0
      · refine ⟨_, rfl, _, _, _, _, rfl, rfl, SqL.of h1, at2 rfl, _, _, rfl, rfl, true, congrArg V.bl (decide_eq_true g1), iteT ?_⟩
        refine ⟨_, rfl, _, _, _, _, rfl, rfl, SqL.of h1, at2 rfl, .inl ⟨_, rfl, _, rfl, _, _, rfl, rfl, (by omega), ?_⟩⟩
        refine ⟨_, rfl, _, _, _, _, rfl, rfl, SqL.of h1, at2 rfl, _, rfl, _, _, rfl, rfl, ⟨by omega, by omega⟩, _, rfl, lp, _, _, 2, rfl, rfl, h1, rfl, ?_⟩
        refine ⟨_, rfl, ?_⟩
        exact q _ _ k1.own ⟨⟨i, (v : Int) / m, sd, upd_same, Int.ediv_nonneg (by omega) (by omega), hsd⟩, get_ne hls1 hne, hne⟩ (Int.emod_nonneg _ (by omega)) (Int.emod_lt_of_pos _ (by omega))
      · refine ⟨_, rfl, _, _, _, _, rfl, rfl, SqL.of h1, at2 rfl, _, _, rfl, rfl, false, congrArg V.bl (decide_eq_false g1), iteF ?_⟩
        -- pot[3] = ..
        refine ⟨_, rfl, _, _, _, _, rfl, rfl, SqL.of h1, at3 rfl, _, _, rfl, rfl, .inr ⟨by decide, by decide⟩, _, _, rfl, rfl, .inl ⟨_, rfl, _, _, rfl, rfl, (by show (0 : Int) < 2147483647; decide), _, rfl, lp, _, _, 3, rfl, rfl, h1, rfl, ?_⟩⟩
        obtain ⟨sd2, hs2⟩ : ∃ x : Int, x = (sd * 48271 + 12345) % 2147483647 := ⟨_, rfl⟩
        have hs2n : 0 ≤ sd2 := by
          rw [hs2]
          exact Int.emod_nonneg _ (by decide)
        have h2 : upd H1 lp (.lst [.ref ls, .int i, .int v, .int sd2]) lp = some (.lst [.ref ls, .int i, .int v, .int sd2]) := upd_same
        have k2 : KB lp H (upd H1 lp (.lst [.ref ls, .int i, .int v, .int sd2])) := k1.own
        have hls2 : upd H1 lp (.lst [.ref ls, .int i, .int v, .int sd2]) ls = some (.lst (ns.map V.int)) := get_ne hls1 hne
        obtain ⟨H2, hH2⟩ : ∃ H2, H2 = upd H1 lp (.lst [.ref ls, .int i, .int v, .int sd2]) := ⟨_, rfl⟩
        rw [← hH2] at h2 k2 hls2
        have e2 : upd H1 lp (.lst ([V.ref ls, V.int i, V.int v, V.int sd].set 3 (.int ((sd * 48271 + 12345) % 2147483647)))) = H2 := by
          rw [hH2, hs2] <;> rfl
        rw [e2]
        refine ⟨_, rfl, _, _, _, _, rfl, rfl, SqL.of h2, at3 rfl, _, _, rfl, rfl, .inr ⟨by decide, by decide⟩, _, rfl, _, _, _, _, rfl, rfl, SqL.of h2, at3 rfl, _, _, rfl, rfl, ⟨by decide, by decide⟩, _, _, rfl, rfl, .inl ⟨_, rfl, _, _, rfl, rfl, (by show (0 : Int) < 2147483629; decide), ?_⟩⟩
        refine ⟨_, rfl, .inl ⟨_, rfl, _, rfl, _, _, rfl, rfl, (by omega), ?_⟩⟩
        exact q _ _ k2 ⟨⟨i, v, sd2, h2, by omega, hs2n⟩, hls2, hne⟩ (Int.emod_nonneg _ (by omega)) (Int.emod_lt_of_pos _ (by omega))
/-! ### _law_set -/
def gname (k : Nat) : Str := "g" ++ (toString ((0 : Int) + (k : Int)) : String)
theorem gnames_nd : ((List.range 7).map gname).Nodup := by decide +kernel
theorem gnames_len : ∀ x ∈ (List.range 7).map gname, 1 ≤ x.length ∧ x.length ≤ 20 := by decide +kernel
theorem gnames_sz : ∀ j : Nat, j < 7 → ("g" : Str).length + (Str.ofString (toString ((0 : Int) + (j : Int)))).length ≤ 20 := by decide +kernel
theorem perm_erase {α : Type} : ∀ {l : List α} {i : Nat} {y : α}, l[i]? = some y → (y :: l.eraseIdx i).Perm l
  | [], i, y, h => by cases h
  | a :: r, 0, y, h => by
    cases h
    exact List.Perm.refl _
  | a :: r, i + 1, y, h => by
    have h' : r[i]? = some y := h
    show (y :: a :: r.eraseIdx i).Perm (a :: r)
    exact (List.Perm.swap a y _).trans ((perm_erase h').cons a)
theorem map_erase {α β : Type} (f : α → β) : ∀ (l : List α) (i : Nat), (l.eraseIdx i).map f = (l.map f).eraseIdx i
  | [], _ => rfl
  | _ :: _, 0 => rfl
  | a :: r, i + 1 => congrArg (f a :: ·) (map_erase f r i)
theorem perm_pop {rem : List Str} {k : Nat} {y : Str} (h : rem[k]? = some y) (l : List Str) : (rem.eraseIdx k ++ (l ++ [y])).Perm (rem ++ l) := by
  have p1 : (rem.eraseIdx k ++ (l ++ [y])).Perm ((l ++ [y]) ++ rem.eraseIdx k) := List.perm_append_comm
  have p2 : ((l ++ [y]) ++ rem.eraseIdx k).Perm (l ++ rem) := by
    rw [List.append_assoc]
    exact List.Perm.append_left _ (perm_erase h)
  exact p1.trans (p2.trans List.perm_append_comm)
theorem seqIx {n k : Nat} (h : k < n) : seqIndex? (k : Int) n = some k := by
  have := (ixN_seq (Evl.ixN_nat h)).1
  exact this
theorem wsum_le {gs : Gs} (h : ∀ g ∈ gs, g.2.2 ≤ 50) : wsum gs ≤ 50 * (gs.length : Int) := by
  induction gs with
  | nil => exact Int.le_refl _
  | cons g r ih =>
    have h1 := h g List.mem_cons_self
    have h2 := ih fun x hx => h x (List.mem_cons_of_mem _ hx)
    have e : wsum (g :: r) = g.2.2 + wsum r := by
      show ((g :: r).map (·.2.2)).sum = _
      rw [List.map_cons, List.sum_cons] <;> rfl
    rw [e, List.length_cons]
    omega
def spSetD : Sp := fun vs H Q _ => ∃ (lp ls : Addr) (ns : List Int), vs = [.ref lp, .int 3] ∧ PotAt H lp ls ns ∧ ∀ (H' : Hp) (ga : Addr) (gs : Gs), KB lp H H' → PotAt H' lp ls ns → GsAt H' ga gs → GoodGs gs → wsum gs ≤ 1000 → gs.length ≤ 3 → Q (.ref ga) H'
theorem sc_law_set : FnScope ["_law_pot_here", "_law_most", "_law_names", "_law_found", "_law_k"] ["_law_pot_here", "_law_most"] (defScope s_law_set) := ⟨rfl, rfl, rfl, by decide +kernel, rfl, by decide +kernel, by decide +kernel⟩
theorem ok_law_set (T : Txt w K mg) : Ok P w K mg base CX0 2 ("_law_set", none) ["_law_pot_here", "_law_most"] spSetD := by
  obtain ⟨fd1, G_law_next, b_law_next, k_law_next⟩ := ok_law_next (P := P) (base := base) T
  refine mk_ok T 43 (d := d_law_set) rfl sc_law_set rfl rfl (fun _ _ _ _ _ _ us hl => match us, hl with | [_, _], _ => rfl) (fun vs H Q E h => ?_) (fun cdv A0 outer s H vs Q E hr h => ?_)
  · obtain ⟨lp, ls, ns, rfl, _⟩ := h
    rfl
  · obtain ⟨lp, ls, ns, rfl, hpot, q⟩ := h
    refine ⟨_, (pss_cons (ps_setLc (i := 2) (own := [("_law_k", 4)]) (g := (gName 4)) (tt := tYes) rfl sc_law_set.nd rfl rfl (sw_true rfl rfl rfl (by decide +kernel)) (pi_range1 rfl T.f_range (pa_cons pe_int pa_nil)) (blkOk_by (N := ["_law_pot_here", "_law_most", "_law_names", "_law_found", "_law_k"]) (sc := defScope s_law_set) (by decide +kernel)) (fun _ _ _ _ _ => (pg_name (i := 4) sc_law_set.nd rfl (Or.inl rfl))) (fun _ _ _ _ _ => pts_nil) (fun _ _ _ _ _ => (pe_op op_add_str pe_str (pe_callTy call_str_int (by rfl) T.f_str boot_str (pa_cons (pv 4) pa_nil)))))
      (pss_cons (ps_set (i := 3) sc_law_set.nd rfl (Or.inl rfl) (pe_lst pa_nil))
      (pss_cons (ps_for PassesOwn.never rfl (pi_range1 rfl T.f_range (pa_cons (pe_op op_add pe_int (pe_call G_law_next (hr.mono (by decide)) rfl T.g_law_next k_law_next b_law_next .nil pass0 (pa_cons (pv 0) (pa_cons (pv 1) pa_nil)))) pa_nil)) (pg_name (i := 4) sc_law_set.nd rfl (Or.inl rfl)) (pss_one (ps_expr (pe_bm PySem.F.plainAttrs_list PySem.F.slot_list_append PySem.F.type_list_append mt_append (pv 3) (pa_cons (pe_tup (pa_cons (pe_bm PySem.F.plainAttrs_list PySem.F.slot_list_pop PySem.F.type_list_pop mt_popAt (pv 2) (pa_cons (pe_call G_law_next (hr.mono (by decide)) rfl T.g_law_next k_law_next b_law_next .nil pass0 (pa_cons (pv 0) (pa_cons (pe_callB call_len_seq (by rfl) T.f_len boot_len (pa_cons (pv 2) pa_nil)) pa_nil))) pa_nil)) (pa_cons (pe_op op_add pe_int (pe_call G_law_next (hr.mono (by decide)) rfl T.g_law_next k_law_next b_law_next .nil pass0 (pa_cons (pv 0) (pa_cons (pe_ix ix_list (pe_lst (pa_cons pe_int (pa_cons pe_int (pa_cons pe_int pa_nil)))) (pe_call G_law_next (hr.mono (by decide)) rfl T.g_law_next k_law_next b_law_next .nil pass0 (pa_cons (pv 0) (pa_cons pe_int pa_nil))) (fun _ _ => rfl)) pa_nil)))) pa_nil))) pa_nil)))))
      (pss_one (ps_ret (pe_callTy call_tuple_of (by rfl) T.f_tuple boot_tuple (pa_cons (pv 3) pa_nil))))))), ?_⟩
    refine ⟨7, rfl, by decide, by decide, fun D hD => lc_range (lo := 0) (n := 7) (fun i H2 => Same H H2 ∧ H2 D = some (.lst (((List.range i).map gname).map V.str)))
      ⟨same_new hD, upd_same⟩ ?_ ?_⟩
    · rintro i H2 hi ⟨s2, hD2⟩
      refine ⟨rfl, _, rfl, _, rfl, ?_, _, _, rfl, rfl, ?_, _, hD2, ?_, same_upd s2 hD, ?_⟩
      · have e : ((0 : Int) + (i : Int)).natAbs = i := by omega
        rw [e]
        exact Nat.lt_of_le_of_lt (Nat.log2_le_self i) (by omega)
      · exact Nat.le_trans (gnames_sz i hi) (by decide)
      · rw [List.length_map, List.length_map, List.length_range]
        exact Nat.lt_trans hi (by decide)
      · rw [List.range_succ, List.map_append, List.map_append]
        exact upd_same
    · rintro H2 ⟨s2, hD2⟩
      refine ⟨Nat.zero_le _, fun F hF => ?_⟩
      have sF : Same H2 (upd H2 F (.lst [])) := same_new hF
      have pot0 := (hpot.mono s2).mono sF
      have hD3 := sF _ _ hD2
      have hF3 : upd H2 F (.lst []) F = some (.lst []) := upd_same
      have n_DF : D ≠ F := ne_of_none hD2 hF
      obtain ⟨⟨i0, v0, s0, hlp0, _⟩, _⟩ := id hpot
      have n_D : D ≠ lp := (ne_of_none hlp0 hD).symm
      have n_lD : ls ≠ D := ne_of_none hpot.sc hD
      have n_lF : ls ≠ F := ne_of_none (s2 _ _ hpot.sc) hF
      have n_F : F ≠ lp := (ne_of_none (s2 _ _ hlp0) hF).symm
      have kb0 : KB lp H (upd H2 F (.lst [])) := fun b o e _ => sF _ _ (s2 _ _ e)
      obtain ⟨H3, hH3⟩ : ∃ H3, H3 = upd H2 F (.lst []) := ⟨_, rfl⟩
      rw [← hH3] at sF pot0 hD3 hF3 kb0 ⊢
      -- for k in range(1 + next(pot, most))
      refine ⟨_, rfl, _, rfl, lp, ls, ns, 3, rfl, pot0, by decide, by decide, fun H4 v k4 pot4 hv0 hv3 => ⟨_, _, rfl, rfl, _, rfl, by omega, by omega, ?_⟩⟩
      refine for_range (lo := 0) (n := (1 + v).toNat) (fun i σ H5 => ∃ (x4 : Option V) (rem : List Str) (gs : Gs), σ = [some (.ref lp), some (.int 3), some (.ref D), some (.ref F), x4] ∧ KB lp H H5 ∧ PotAt H5 lp ls ns ∧ H5 D = some (.lst (rem.map V.str)) ∧
          H5 F = some (.lst (gs.map fun g => V.ref g.1)) ∧ (∀ g ∈ gs, H5 g.1 = some (.tup [.str g.2.1, .int g.2.2])) ∧ rem.length + i = 7 ∧ gs.length = i ∧ (rem ++ gs.map (·.2.1)).Nodup ∧ (∀ x ∈ rem, 1 ≤ x.length ∧ x.length ≤ 20) ∧ (∀ g ∈ gs, (1 ≤ g.2.1.length ∧ g.2.1.length ≤ 20) ∧ 1 ≤ g.2.2 ∧ g.2.2 ≤ 50))
        ⟨none, (List.range 7).map gname, [], rfl, fun b o e n => k4 _ _ (kb0 _ _ e n) n, pot4, k4 _ _ hD3 n_D, k4 _ _ hF3 n_F, (fun g hg => nomatch hg), by rw [List.length_map, List.length_range], rfl, by rw [List.map_nil, List.append_nil]; exact gnames_nd, gnames_len, (fun g hg => nomatch hg)⟩ ?_ ?_
      · rintro i σ H5 hi ⟨x4, rem, gs, rfl, k5, pot5, hD5, hF5, hg5, hrl, hgl, hnd, hrs, hgs⟩
        have hr4 : 4 ≤ rem.length := by omega
        -- found.append((names.pop(next(pot, len(names))), ..
        refine ⟨_, rfl, .inl ⟨rfl, _, SqL.of hF5⟩, _, rfl, .inl ⟨rfl, _, SqL.of hD5⟩, _, rfl, _, rfl, D, _, rfl, .inl (SqL.of hD5), lp, ls, ns, _, rfl, pot5, ?_, ?_, fun H6 v6 k6 pot6 h60 h61 => ?_⟩
        · rw [List.length_map]
          omega
        · rw [List.length_map]
          omega
        rw [List.length_map] at h61
        obtain ⟨j, rfl⟩ : ∃ j : Nat, v6 = j := ⟨v6.toNat, (Int.toNat_of_nonneg h60).symm⟩
        have hj : j < rem.length := by omega
        obtain ⟨y, hy⟩ : ∃ y, rem[j]? = some y := ⟨rem[j], List.getElem?_eq_getElem hj⟩
        have hD6 := k6 _ _ hD5 n_D
        have hF6 := k6 _ _ hF5 n_F
        refine ⟨D, _, _, j, .str y, rfl, rfl, hD6, by omega, by omega, ?_, ?_, ?_⟩
        · rw [List.length_map]
          exact seqIx hj
        · rw [List.getElem?_map, hy] <;> rfl
        -- 1 + next(pot, [1, 4, 50][next(pot, 3)])
        have p7 : PotAt (upd H6 D (.lst ((rem.map V.str).eraseIdx j))) lp ls ns := pot6.other (get_ne · n_D.symm) (get_ne · n_lD)
        have hD7 : upd H6 D (.lst ((rem.map V.str).eraseIdx j)) D = some (.lst ((rem.map V.str).eraseIdx j)) := upd_same
        have k7 : ∀ b o, H5 b = some o → b ≠ lp → b ≠ D → upd H6 D (.lst ((rem.map V.str).eraseIdx j)) b = some o := fun b o e n1 n2 => get_ne (k6 _ _ e n1) n2
        obtain ⟨H7, hH7⟩ : ∃ H7, H7 = upd H6 D (.lst ((rem.map V.str).eraseIdx j)) := ⟨_, rfl⟩
        rw [← hH7] at p7 hD7 k7 ⊢
        have hF7 := k7 _ _ hF5 n_F n_DF.symm
        refine ⟨_, rfl, (by show 3 ≤ sizeLine; decide), fun l hl => ?_⟩
        have s8 : Same H7 (upd H7 l (.lst [.int 1, .int 4, .int 50])) := same_new hl
        refine ⟨_, rfl, lp, ls, ns, 3, rfl, p7.mono s8, by decide, by decide, fun H9 v9 k9 pot9 h90 h93 => ?_⟩
        have n_l : l ≠ lp := by
          obtain ⟨⟨a1, a2, a3, a4, a5⟩, a6, a7⟩ := p7
          exact (ne_of_none a4 hl).symm
        obtain ⟨m2, hm2, hm2a, hm2b⟩ : ∃ m2 : Int, atI [V.int 1, V.int 4, V.int 50] v9 = some (.int m2) ∧ 1 ≤ m2 ∧ m2 ≤ 50 := by
          have c : v9 = 0 ∨ v9 = 1 ∨ v9 = 2 := by omega
          rcases c with rfl | rfl | rfl
          · exact ⟨1, rfl, by decide, by decide⟩
          · exact ⟨4, rfl, by decide, by decide⟩
          · exact ⟨50, rfl, by decide, by decide⟩
        refine ⟨l, _, v9, _, rfl, rfl, SqL.of (k9 _ _ upd_same n_l), hm2, lp, ls, ns, m2, rfl, pot9, hm2a, by omega, fun H10 v10 k10 pot10 h100 h101 => ?_⟩
        have k70 : ∀ b o, H7 b = some o → b ≠ lp → H10 b = some o := fun b o e n => k10 _ _ (k9 _ _ (s8 _ _ e) n) n
        refine ⟨_, _, rfl, rfl, (by show 2 ≤ sizeLine; decide), fun q1 hq1 => ?_⟩
        have s11 : Same H10 (upd H10 q1 (.tup [.str y, .int (1 + v10)])) := same_new hq1
        have hF11 := s11 _ _ (k70 _ _ hF7 n_F)
        refine ⟨F, _, _, rfl, rfl, hF11, ?_, ?_⟩
        · rw [List.length_map]
          exact Nat.lt_of_le_of_lt (show gs.length ≤ 7 by omega) (by decide)
        have n_qF : q1 ≠ F := (ne_of_none (k70 _ _ hF7 n_F) hq1).symm
        have tup12 : ∀ b xs, H5 b = some (.tup xs) → (upd (upd H10 q1 (.tup [.str y, .int (1 + v10)])) F (.lst (gs.map (fun g => V.ref g.1) ++ [V.ref q1]))) b = some (.tup xs) := fun b xs e => by
          obtain ⟨⟨a1, a2, a3, a4, a5⟩, a6, a7⟩ := pot5
          exact get_ne (s11 _ _ (k70 _ _ (k7 _ _ e (ne_of e a4 (fun z => nomatch z)) (ne_of e hD5 (fun z => nomatch z))) (ne_of e a4 (fun z => nomatch z)))) (ne_of e hF5 (fun z => nomatch z))
        refine ⟨_, rem.eraseIdx j, gs ++ [(q1, y, 1 + v10)], rfl, ?_, ?_, ?_, ?_, ?_, ?_, ?_, ?_, ?_, ?_⟩
        · intro b o e n
          have nD : b ≠ D := ne_of_none e hD
          have nF : b ≠ F := ne_of_none (s2 _ _ e) hF
          exact get_ne (s11 _ _ (k70 _ _ (k7 _ _ (k5 _ _ e n) n nD) n)) nF
        · exact (pot10.mono s11).other (get_ne · n_F.symm) (get_ne · n_lF)
        · rw [map_erase]
          exact get_ne (s11 _ _ (k70 _ _ hD7 n_D)) n_DF
        · rw [List.map_append]
          exact upd_same
        · intro g hg
          rcases List.mem_append.mp hg with hg | hg
          · exact tup12 _ _ (hg5 g hg)
          · rw [List.mem_singleton.mp hg]
            exact get_ne upd_same n_qF
        · rw [List.length_eraseIdx, if_pos hj]
          omega
        · rw [List.length_append, hgl] <;> rfl
        · rw [List.map_append]
          exact (perm_pop hy _).nodup_iff.mpr hnd
        · intro x hx
          exact hrs x (List.mem_of_mem_eraseIdx hx)
        · intro g hg
          rcases List.mem_append.mp hg with hg | hg
          · exact hgs g hg
          · rw [List.mem_singleton.mp hg]
            exact ⟨hrs y (List.mem_of_getElem? hy), show 1 ≤ 1 + v10 by omega, show 1 + v10 ≤ 50 by omega⟩
      · rintro σ H5 ⟨x4, rem, gs, rfl, k5, pot5, hD5, hF5, hg5, hrl, hgl, hnd, hrs, hgs⟩
        refine ⟨_, rfl, F, _, rfl, .inl ⟨SqL.of hF5, fun ga hga => ?_⟩⟩
        have s6 : Same H5 (upd H5 ga (.tup (gs.map fun g => V.ref g.1))) := same_new hga
        have hw := wsum_le (gs := gs) fun g hg => (hgs g hg).2.2
        refine q _ ga gs (fun b o e n => s6 _ _ (k5 _ _ e n)) (pot5.mono s6) ⟨upd_same, fun g hg => s6 _ _ (hg5 g hg)⟩ ⟨⟨by omega, by omega⟩, fun g hg => ⟨(hgs g hg).1, (hgs g hg).2.1⟩, ?_⟩ (by omega) (by omega)
        rw [List.nodup_append] at hnd
        exact hnd.2.1
end
end Vb
set_option Elab.async false
set_option linter.all false
set_option maxRecDepth 100000
set_option maxHeartbeats 4000000
/-! _law_try -/
namespace Vb
open PySem PySem.Spec PyProof.Rows L2
theorem excC_of {K : PySem.W.Frag} {x : Str} (h : excB K x = true) : ExcC K (He.ga K x) := by
  unfold excB at h
  obtain ⟨h1, h⟩ := He.ba h
  obtain ⟨h2, h⟩ := He.ba h
  obtain ⟨h3, h⟩ := He.ba h
  obtain ⟨h4, h⟩ := He.ba h
  obtain ⟨h5, h⟩ := He.ba h
  obtain ⟨h6, h⟩ := He.ba h
  obtain ⟨h7, h8⟩ := He.ba h
  exact ⟨He.eqO_ok h1, He.eqO_ok h2, of_decide_eq_true h3, h4, He.eqO_ok h5, He.eqO_ok h6, of_decide_eq_true h7, of_decide_eq_true h8⟩
section
variable {P : Program} {w : World} {K : PySem.W.Frag} {mg : Str → Option Value} {base : Heap}
def spTry (w : World) (K : PySem.W.Frag) : Sp := fun vs H Q _ => ∃ (n lt dn p c ga sa od : Addr) (lim win : Int) (A : SA) (S : SS) (te : Te) (gs : Gs) (L : Le) (rel : Str), vs = [.ref c, .ref n, .ref p, .ref od] ∧ H od = some (.tup (odV rel L sa)) ∧ CfgAt K H c lim win ga ∧ NotAt w K H n lt dn te ∧ StAt K H p A c ga S ∧ SOk S ∧ LeAt H L ∧ GoodLe L ∧ GsAt H ga gs ∧ GoodGs gs ∧
  wsum gs ≤ 1000000 ∧ SlAt H sa gs L te ∧ valV S.inbox (Sum.inl L.k) = none ∧
  (¬ L.t.dl < S.high → bey S lim win L.t.tok L.t.un → ∀ H', Same H H' → Q (.bl true) H') ∧
  (L.t.dl < S.high → ∀ v H', Out K c ga ⟨S.high, putK S.inbox (Sum.inl L.k) (.str "refused"), S.passed, [], S.nb⟩ "refused" L.k L.ta H v H' → Q v H') ∧
  (¬ L.t.dl < S.high → ¬ bey S lim win L.t.tok L.t.un → ∀ r v H', Out K c ga ⟨S.high, putK S.inbox (Sum.inl L.k) (.str "delivered"), S.passed ++ [(r, S.high, L.t.tok, L.t.un)], [], S.nb + 2⟩ "delivered" L.k L.ta H v H' → Q v H')
def tIsLR (K : PySem.W.Frag) (a : Addr) (cls : Value) (d : Option Addr) : TS := fun D σ H => (cls = .ref (He.ga K "LimitReached") ∧ d = none) ∧ tRet (tCB (rIsE K (He.ga K "LimitReached") a) (tCons (tVar 4) (tCons (tC (.ref (He.ga K "LimitReached"))) tNil))) D σ H
theorem sc_law_try : FnScope ["_law_config_here", "_law_notary", "_law_state", "_law_order", "e"] ["_law_config_here", "_law_notary", "_law_state", "_law_order"] (defScope s_law_try) := ⟨rfl, rfl, rfl, by decide +kernel, rfl, by decide +kernel, by decide +kernel⟩
theorem ok_law_try (T : Txt w K mg) : Ok P w K mg base CX0 11 ("_law_try", none) ["_law_config_here", "_law_notary", "_law_state", "_law_order"] (spTry w K) := by
  obtain ⟨fd1, G_outcome, b_outcome, k_outcome⟩ := ok_outcome (P := P) (base := base) T
  have CE := excC_of (exB_split T.ex).2.2.2.1
  have hkit := (exB_split T.ex).2.2.2.2
  have hexm := T.exm_LimitReached_BridgeError
  refine mk_ok T 44 (d := d_law_try) rfl sc_law_try rfl rfl (fun _ _ _ _ _ _ us hl => match us, hl with | [_, _, _, _], _ => rfl) (fun vs H Q E h => ?_) (fun cdv A0 outer s H vs Q E hr h => ?_)
  · obtain ⟨n, lt, dn, p, c, ga, sa, od, lim, win, A, S, te, gs, L, rel, rfl, _⟩ := h
    rfl
  · obtain ⟨n, lt, dn, p, c, ga, sa, od, lim, win, A, S, te, gs, L, rel, rfl, hod, hc, hN, hs, hok, hL, hG, hA, hgood, hw, hsl, hnew, q0, q1, q2⟩ := h
    refine ⟨_, pss_one (ps_try_as (i := 4) rfl rfl sc_law_try.nd rfl rfl ⟨rfl, by decide, .inl T.g_BridgeError⟩ takes0
      (tb := fun W => tRet (tCall (spOut w K) [] (fun cls d H => ∀ σ : L2.St, σ.length = 5 → W cls d σ H) (tCons (tVar 0) (tCons (tVar 1) (tCons (tVar 2) (tCons (tVar 3) tNil))))))
      (ts := tIsLR K)
      (fun W pn xe tk _ => pss_one (ps_ret (pe_call G_outcome (hr.mono (by decide)) rfl T.g_outcome k_outcome b_outcome .nil (fun _ σ _ _ e s' I cc => tk e s' (XE.of_call I (fun cls d H' h => h σ I.len) cc)) (pa_cons (pv 0) (pa_cons (pv 1) (pa_cons (pv 2) (pa_cons (pv 3) pa_nil)))))))
      (fun a oe cls d pn hz hf => ⟨fun pins s σ H D I h => ?_⟩)), ?_⟩
    · obtain ⟨⟨rfl, rfl⟩, h⟩ := h
      refine PSs.run ?_ pins s σ H D I h
      exact pss_one (ps_ret (pe_callB (call_isE CE hz hf) (by rfl) T.f_isinstance boot_isinstance (pa_cons (pv 4) (pa_cons (pe_glob (v := .ref (He.ga K "LimitReached")) rfl T.g_LimitReached rfl) pa_nil))))
    · refine ⟨_, rfl, _, rfl, _, rfl, _, rfl, n, lt, dn, p, c, ga, sa, od, lim, win, A, S, te, gs, L, rel, rfl, hod, hc, hN, hs, hok, hL, hG, hA, hgood, hw, hsl, hnew, ?_, q1, q2⟩
      intro g1 g2 H' s' σ hσ
      refine ⟨true, hexm, fun _ a ha => ⟨⟨rfl, rfl⟩, _, ?_, _, _, true, rfl, ?_, hkit, q0 g1 g2 H' s'⟩, fun z => nomatch z⟩
      · rw [List.getElem?_set_self (by omega)]
      · intro u e
        exact e
end
end Vb
set_option Elab.async false
set_option linter.all false
set_option maxRecDepth 100000
set_option maxHeartbeats 4000000
/-! the law's world: what is where, what stays; the plain law -/
namespace Vb
open PySem PySem.Spec PyProof.Rows L2
/-! ### sums over rows -/
abbrev Row : Type := Int × Str × Int
def psq (l : List Row) (first : Int) (tok : Str) : Int := ((l.filter fun r => decide (first < r.1) && decide (r.2.1 = tok)).map (·.2.2)).sum
def wsq (l : List Row) (x win : Int) (tok : Str) : Int := ((l.filter fun r => decide (r.2.1 = tok) && (decide (x - win < r.1) && decide (r.1 ≤ x))).map (·.2.2)).sum
theorem psum_psq (ps : Pa) (first : Int) (tok : Str) : psum ps first tok = psq (ps.map (·.2)) first tok := by
  unfold psum psq
  rw [List.filter_map, List.map_map] <;> rfl
theorem sum_mono (p q : Row → Bool) : ∀ l : List Row, (∀ r ∈ l, p r = true → q r = true) → (∀ r ∈ l, 0 ≤ r.2.2) → ((l.filter p).map (·.2.2)).sum ≤ ((l.filter q).map (·.2.2)).sum
  | [], _, _ => Int.le_refl _
  | r :: l, h1, h2 => by
    have ih := sum_mono p q l (fun x hx => h1 x (List.mem_cons_of_mem _ hx)) (fun x hx => h2 x (List.mem_cons_of_mem _ hx))
    have hr := h2 r List.mem_cons_self
    have hpq := h1 r List.mem_cons_self
    rw [List.filter_cons, List.filter_cons]
    cases hp : p r with
    | true =>
      rw [hpq hp, if_pos rfl, if_pos rfl, List.map_cons, List.map_cons, List.sum_cons, List.sum_cons]
      omega
    | false =>
      rw [if_neg (by decide)]
      cases hq : q r with
      | true =>
        rw [if_pos rfl, List.map_cons, List.sum_cons]
        omega
      | false =>
        rw [if_neg (by decide)]
        exact ih
structure WinOk (lim win : Int) (l : List Row) (h : Int) : Prop where
  hb : ∀ r ∈ l, r.1 ≤ h
  un : ∀ r ∈ l, 0 ≤ r.2.2
  ok : ∀ (x : Int) (tok : Str), isTok tok → wsq l x win tok ≤ limOf lim tok
theorem limOf_nn {lim : Int} (h : 0 ≤ lim) (tok : Str) : 0 ≤ limOf lim tok := by
  unfold limOf
  split <;> omega
theorem WinOk.nil {lim win h : Int} (hl : 0 ≤ lim) : WinOk lim win [] h := ⟨(fun _ hr => nomatch hr), (fun _ hr => nomatch hr), fun _ tok _ => limOf_nn hl tok⟩
theorem WinOk.up {lim win h h' : Int} {l : List Row} (x : WinOk lim win l h) (e : h ≤ h') : WinOk lim win l h' := ⟨fun r hr => Int.le_trans (x.hb r hr) e, x.un, x.ok⟩
theorem WinOk.add {lim win h : Int} {l : List Row} (x : WinOk lim win l h) {tok : Str} {u : Int} (hu : 0 ≤ u) (hw : psq l (h - win) tok + u ≤ limOf lim tok) : WinOk lim win (l ++ [(h, tok, u)]) h := by
  refine ⟨fun r hr => ?_, fun r hr => ?_, fun y tk ht => ?_⟩
  · rcases List.mem_append.mp hr with hr | hr
    · exact x.hb r hr
    · rw [List.mem_singleton.mp hr]
      exact Int.le_refl _
  · rcases List.mem_append.mp hr with hr | hr
    · exact x.un r hr
    · rw [List.mem_singleton.mp hr]
      exact hu
  · unfold wsq
    rw [List.filter_append, List.map_append, List.sum_append, List.filter_cons, List.filter_nil]
    have old := x.ok y tk ht
    unfold wsq at old
    by_cases g : tok = tk ∧ y - win < h ∧ h ≤ y
    · obtain ⟨rfl, g1, g2⟩ := g
      have le : ((l.filter fun r => decide (r.2.1 = tok) && (decide (y - win < r.1) && decide (r.1 ≤ y))).map (·.2.2)).sum ≤ psq l (h - win) tok := by
        refine sum_mono _ _ l (fun r hr hp => ?_) x.un
        simp only [Bool.and_eq_true, decide_eq_true_eq] at hp ⊢
        exact ⟨by omega, hp.1⟩
      have e : (decide (tok = tok) && (decide (y - win < h) && decide (h ≤ y))) = true := by
        simp [g1, g2]
      rw [if_pos e, List.map_cons, List.map_nil, List.sum_cons, List.sum_nil]
      show _ + (u + 0) ≤ _
      omega
    · have e : ¬ (decide (tok = tk) && (decide (y - win < h) && decide (h ≤ y))) = true := by
        simp only [Bool.and_eq_true, decide_eq_true_eq]
        exact g
      rw [if_neg e, List.map_nil, List.sum_nil]
      omega
/-! ### the world of the law -/
structure Wd where
  lp : Addr
  ls : Addr
  c : Addr
  ga : Addr
  n : Addr
  lt : Addr
  dn : Addr
  pa : Addr
  wa : Addr
  lim : Int
  win : Int
  ns : List Int
  gs : Gs
/-- what the law changes itself -/
def Wd.X (d : Wd) : Addr → Prop := fun b => b = d.lp ∨ b = d.lt ∨ b = d.dn ∨ b = d.pa ∨ b = d.wa
structure Wd.Ok (d : Wd) : Prop where
  n1 : d.lp ≠ d.lt
  n2 : d.lp ≠ d.pa
  n3 : d.lp ≠ d.wa
  n4 : d.lt ≠ d.pa
  n5 : d.lt ≠ d.wa
  n6 : d.pa ≠ d.wa
  xs : ¬ d.X d.ls
  lim : 0 ≤ d.lim
  win : 1 ≤ d.win
  gs : GoodGs d.gs
  g3 : d.gs.length ≤ 3
  gw : wsum d.gs ≤ 1000
def Fr (X : Addr → Prop) (H H' : Hp) : Prop := ∀ b o, H b = some o → ¬ X b → H' b = some o
def CfgX (K : PySem.W.Frag) (H : Hp) (c : Addr) (lim win : Int) (ga : Addr) (X : Addr → Prop) : Prop :=
  ∃ dx dt lb u1 u2 : Addr, H c = some (.ins (cConfig K) dx (cf (.ref dt) (.ref lb) (.ref ga) (.int 1) (.int win) (.int 2) (.int 4))) ∧ H dt = some (.dK (tabKv u1 u2)) ∧ H u1 = some (.tup (rowC lim)) ∧ H u2 = some (.tup rowG) ∧ H lb = some (.lst []) ∧ ¬ X lb
def SxAt (X : Addr → Prop) (A : SA) : Prop := ¬ X A.lse ∧ ¬ X A.lsn ∧ ¬ X A.lpa ∧ ¬ X A.lfr
structure At (w : World) (K : PySem.W.Frag) (d : Wd) (H : Hp) (p : Addr) (A : SA) (S : SS) (te : Te) (R : Pa) (wl : List Le) : Prop where
  pot : PotAt H d.lp d.ls d.ns
  cfx : CfgX K H d.c d.lim d.win d.ga d.X
  gs : GsAt H d.ga d.gs
  no : NotAt w K H d.n d.lt d.dn te
  st : StAt K H p A d.c d.ga S
  sx : SxAt d.X A
  pa : H d.pa = some (.lst (R.map fun r => V.ref r.1))
  rows : ∀ r ∈ R, H r.1 = some (.tup [.int r.2.1, .str r.2.2.1, .int r.2.2.2])
  wa : H d.wa = some (.lst (wl.map fun L => V.ref L.a))
  le : ∀ L ∈ wl, LeAt H L
section
variable {w : World} {K : PySem.W.Frag} {d : Wd} {H H' : Hp} {p : Addr} {A : SA} {S : SS} {te te' : Te} {R R' : Pa} {wl wl' : List Le}
theorem At.cfg (x : At w K d H p A S te R wl) : CfgAt K H d.c d.lim d.win d.ga := by
  obtain ⟨dx, dt, lb, u1, u2, h1, h2, h3, h4, h5, _⟩ := x.cfx
  exact ⟨dx, dt, lb, u1, u2, h1, h2, h3, h4, h5⟩
theorem At.nx (x : At w K d H p A S te R wl) {b : Addr} {o : HO} (hb : H b = some o) (h1 : ∀ xs, o ≠ .lst xs) (h2 : ∀ φ, o ≠ .ext φ) : ¬ d.X b := by
  obtain ⟨⟨i, v, z, hp, _⟩, _⟩ := id x.pot
  obtain ⟨_, hl, _, kvs, ⟨_, _, _, xs, hd, _⟩, _⟩ := id x.no
  intro z
  rcases z with rfl | rfl | rfl | rfl | rfl
  · rw [hp] at hb
    exact h1 _ (Option.some.inj hb).symm
  · rw [hl] at hb
    exact h1 _ (Option.some.inj hb).symm
  · rw [hd] at hb
    exact h2 _ (Option.some.inj hb).symm
  · rw [x.pa] at hb
    exact h1 _ (Option.some.inj hb).symm
  · rw [x.wa] at hb
    exact h1 _ (Option.some.inj hb).symm
theorem StAt.frame (x : StAt K H p A c ga S) {X : Addr → Prop} (f : Fr X H H') (sx : SxAt X A) (nx : ∀ {b o}, H b = some o → (∀ xs, o ≠ .lst xs) → (∀ φ, o ≠ .ext φ) → ¬ X b) : StAt K H' p A c ga S := by
  obtain ⟨h1, ⟨e1, ⟨q1, e2, e3⟩, ⟨q2, e4⟩, ⟨q3, e5, e6⟩⟩, h3, ⟨k1, h4⟩, h5, ⟨k2, h6⟩, ⟨k3, h7⟩, h8, h9, h10, n1, n2, n3⟩ := x
  have g : ∀ {b o}, H b = some o → (∀ xs, o ≠ .lst xs) → (∀ φ, o ≠ .ext φ) → H' b = some o := fun h a1 a2 => f _ _ h (nx h a1 a2)
  exact ⟨g h1 (fun _ z => nomatch z) (fun _ z => nomatch z), ⟨g e1 (fun _ z => nomatch z) (fun _ z => nomatch z), ⟨q1, g e2 (fun _ z => nomatch z) (fun _ z => nomatch z), e3⟩, ⟨q2, g e4 (fun _ z => nomatch z) (fun _ z => nomatch z)⟩, ⟨q3, g e5 (fun _ z => nomatch z) (fun _ z => nomatch z), e6⟩⟩,
    f _ _ h3 sx.1, ⟨k1, f _ _ h4 sx.2.1⟩, g h5 (fun _ z => nomatch z) (fun _ z => nomatch z), ⟨k2, g h6 (fun _ z => nomatch z) (fun _ z => nomatch z)⟩, ⟨k3, g h7 (fun _ z => nomatch z) (fun _ z => nomatch z)⟩, f _ _ h8 sx.2.2.1, fun r hr => g (h9 r hr) (fun _ z => nomatch z) (fun _ z => nomatch z), f _ _ h10 sx.2.2.2, n1, n2, n3⟩
theorem At.fr (x : At w K d H p A S te R wl) (f : Fr d.X H H') (pot' : PotAt H' d.lp d.ls d.ns) (no' : NotAt w K H' d.n d.lt d.dn te') (pa' : H' d.pa = some (.lst (R'.map fun r => V.ref r.1))) (rows' : ∀ r ∈ R', H' r.1 = some (.tup [.int r.2.1, .str r.2.2.1, .int r.2.2.2]))
    (wa' : H' d.wa = some (.lst (wl'.map fun L => V.ref L.a))) (le' : ∀ L ∈ wl', LeAt H' L) : At w K d H' p A S te' R' wl' := by
  have g : ∀ {b o}, H b = some o → (∀ xs, o ≠ .lst xs) → (∀ φ, o ≠ .ext φ) → H' b = some o := fun h a1 a2 => f _ _ h (x.nx h a1 a2)
  refine ⟨pot', ?_, ?_, no', x.st.frame f x.sx x.nx, x.sx, pa', rows', wa', le'⟩
  · obtain ⟨dx, dt, lb, u1, u2, h1, h2, h3, h4, h5, h6⟩ := x.cfx
    exact ⟨dx, dt, lb, u1, u2, g h1 (fun _ z => nomatch z) (fun _ z => nomatch z), g h2 (fun _ z => nomatch z) (fun _ z => nomatch z), g h3 (fun _ z => nomatch z) (fun _ z => nomatch z), g h4 (fun _ z => nomatch z) (fun _ z => nomatch z), f _ _ h5 h6, h6⟩
  · exact ⟨g x.gs.1 (fun _ z => nomatch z) (fun _ z => nomatch z), fun q hq => g (x.gs.2 q hq) (fun _ z => nomatch z) (fun _ z => nomatch z)⟩
theorem At.mono (x : At w K d H p A S te R wl) (s : Same H H') : At w K d H' p A S te R wl :=
  x.fr (fun b o e _ => s _ _ e) (x.pot.mono s) (x.no.mono s) (s _ _ x.pa) (fun r hr => s _ _ (x.rows r hr)) (s _ _ x.wa) (fun L hL => (x.le L hL).mono s)
/-- a list of the law's own changed: the notary stays -/
theorem NotAt.kbL {n lt dn : Addr} (x : NotAt w K H n lt dn te) {a : Addr} {xs : List V} (k : KB a H H') (ha : H a = some (.lst xs)) (n1 : lt ≠ a) (m : ∀ b ys, H b = some (.tup ys) → H' b = some (.tup ys)) : NotAt w K H' n lt dn te := by
  obtain ⟨⟨dx, h1⟩, h2, h3, kvs, h4, h5, h6⟩ := x
  refine ⟨⟨dx, k _ _ h1 (ne_of h1 ha (fun z => nomatch z))⟩, k _ _ h2 n1, fun e he => ⟨m _ _ (h3 e he).1, m _ _ (h3 e he).2.1, m _ _ (h3 e he).2.2⟩, kvs, h4.keep ?_ m, h5, h6⟩
  obtain ⟨_, _, _, xs', hd, _⟩ := id h4
  rw [hd, k _ _ hd (ne_of hd ha (fun z => nomatch z))]
theorem KB.tup {a : Addr} {xs : List V} (k : KB a H H') (ha : H a = some (.lst xs)) : ∀ b ys, H b = some (.tup ys) → H' b = some (.tup ys) := fun b ys e => k _ _ e (ne_of e ha (fun z => nomatch z))
theorem At.next (o : d.Ok) (x : At w K d H p A S te R wl) (k : KB d.lp H H') (pot' : PotAt H' d.lp d.ls d.ns) : At w K d H' p A S te R wl := by
  obtain ⟨⟨i, v, z, hp, _⟩, _⟩ := id x.pot
  have m := k.tup hp
  exact x.fr (fun b u e nx => k _ _ e fun z => nx (.inl z)) pot' (x.no.kbL k hp o.n1.symm m) (k _ _ x.pa o.n2.symm) (fun r hr => m _ _ (x.rows r hr)) (k _ _ x.wa o.n3.symm) fun L hL => ⟨m _ _ (x.le L hL).1, m _ _ (x.le L hL).2⟩
theorem At.pushPa (o : d.Ok) (x : At w K d H p A S te R wl) {r : Addr} {h : Int} {tok : Str} {un : Int} (hr : H r = some (.tup [.int h, .str tok, .int un])) : At w K d (upd H d.pa (.lst (R.map (fun r => V.ref r.1) ++ [V.ref r]))) p A S te (R ++ [(r, h, tok, un)]) wl := by
  have k : KB d.pa H (upd H d.pa (.lst (R.map (fun r => V.ref r.1) ++ [V.ref r]))) := (KB.refl _ _).own
  have m := k.tup x.pa
  refine x.fr (fun b u e nx => k _ _ e fun z => nx (.inr (.inr (.inr (.inl z))))) (x.pot.other (fun e => k _ _ e o.n2) (fun e => k _ _ e fun z => o.xs (.inr (.inr (.inr (.inl z)))))) (x.no.kbL k x.pa o.n4 m) ?_ ?_ (k _ _ x.wa o.n6.symm) fun L hL => ⟨m _ _ (x.le L hL).1, m _ _ (x.le L hL).2⟩
  · rw [List.map_append]
    exact upd_same
  · intro q hq
    rcases List.mem_append.mp hq with hq | hq
    · exact m _ _ (x.rows q hq)
    · rw [List.mem_singleton.mp hq]
      exact m _ _ hr
theorem At.setWa (o : d.Ok) (x : At w K d H p A S te R wl) (wl' : List Le) (hl : ∀ L ∈ wl', LeAt H L) : At w K d (upd H d.wa (.lst (wl'.map fun L => V.ref L.a))) p A S te R wl' := by
  have k : KB d.wa H (upd H d.wa (.lst (wl'.map fun L => V.ref L.a))) := (KB.refl _ _).own
  have m := k.tup x.wa
  exact x.fr (fun b u e nx => k _ _ e fun z => nx (.inr (.inr (.inr (.inr z))))) (x.pot.other (fun e => k _ _ e o.n3) (fun e => k _ _ e fun z => o.xs (.inr (.inr (.inr (.inr z)))))) (x.no.kbL k x.wa o.n5 m) (k _ _ x.pa o.n6) (fun r hr => m _ _ (x.rows r hr)) upd_same
    fun L hL => ⟨m _ _ (hl L hL).1, m _ _ (hl L hL).2⟩
theorem At.seal (o : d.Ok) (x : At w K d H p A S te R wl) (k : KB2 d.lt d.dn H H') (no' : NotAt w K H' d.n d.lt d.dn te') : At w K d H' p A S te' R wl := by
  obtain ⟨_, hl, _, kvs, ⟨_, _, _, xs, hd, _⟩, _⟩ := id x.no
  have m : ∀ b ys, H b = some (.tup ys) → H' b = some (.tup ys) := fun b ys e => k _ _ e (ne_of e hl (fun z => nomatch z)) (ne_of e hd (fun z => nomatch z))
  have l : ∀ b ys, H b = some (.lst ys) → b ≠ d.lt → H' b = some (.lst ys) := fun b ys e n => k _ _ e n (ne_of e hd (fun z => nomatch z))
  obtain ⟨⟨i, v, z, hp, hv⟩, hs, hn⟩ := id x.pot
  exact x.fr (fun b u e nx => k _ _ e (fun z => nx (.inr (.inl z))) (fun z => nx (.inr (.inr (.inl z))))) ⟨⟨i, v, z, l _ _ hp o.n1, hv⟩, l _ _ hs (fun z => o.xs (.inr (.inl z))), hn⟩ no' (l _ _ x.pa o.n4.symm) (fun r hr => m _ _ (x.rows r hr)) (l _ _ x.wa o.n5.symm)
    fun L hL => ⟨m _ _ (x.le L hL).1, m _ _ (x.le L hL).2⟩
/-- another state in its place -/
theorem At.state (x : At w K d H p A S te R wl) {p' : Addr} {A' : SA} {S' : SS} (st' : StAt K H p' A' d.c d.ga S') (sx' : SxAt d.X A') : At w K d H p' A' S' te R wl := ⟨x.pot, x.cfx, x.gs, x.no, st', sx', x.pa, x.rows, x.wa, x.le⟩
theorem At.xsome (x : At w K d H p A S te R wl) {b : Addr} (h : d.X b) : ∃ o, H b = some o := by
  obtain ⟨⟨i, v, z, hp, _⟩, _⟩ := id x.pot
  obtain ⟨_, hl, _, kvs, ⟨_, _, _, xs, hd, _⟩, _⟩ := id x.no
  rcases h with rfl | rfl | rfl | rfl | rfl
  · exact ⟨_, hp⟩
  · exact ⟨_, hl⟩
  · exact ⟨_, hd⟩
  · exact ⟨_, x.pa⟩
  · exact ⟨_, x.wa⟩
theorem At.sxNew (x : At w K d H p A S te R wl) {A' : SA} (h : ∀ b ∈ A'.adds, H b = none) : SxAt d.X A' := by
  have g : ∀ b ∈ A'.adds, ¬ d.X b := fun b hb z => by
    obtain ⟨o, e⟩ := x.xsome z
    rw [h b hb] at e
    cases e
  exact ⟨g _ (by simp [SA.adds]), g _ (by simp [SA.adds]), g _ (by simp [SA.adds]), g _ (by simp [SA.adds])⟩
theorem At.nlp (x : At w K d H p A S te R wl) {l : Addr} (hl : H l = none) : l ≠ d.lp := fun e => by
  obtain ⟨⟨i, v, z, hp, _⟩, _⟩ := id x.pot
  rw [e, hp] at hl
  cases hl
/-- a new object, then a draw -/
theorem At.lit (o : d.Ok) (x : At w K d H p A S te R wl) {l : Addr} {u : HO} (hl : H l = none) (k : KB d.lp (upd H l u) H') (pot' : PotAt H' d.lp d.ls d.ns) : At w K d H' p A S te R wl ∧ H' l = some u :=
  ⟨(x.mono (same_new hl)).next o k pot', k _ _ upd_same (x.nlp hl)⟩
theorem At.nX (x : At w K d H p A S te R wl) {l : Addr} (hl : H l = none) : ¬ d.X l := fun z => by
  obtain ⟨o, e⟩ := x.xsome z
  rw [hl] at e
  cases e
/-- the state and the events that an order gave -/
def FState (K : PySem.W.Frag) (d : Wd) (H : Hp) (S' : SS) (word : Str) (L : Le) (v : V) : Prop := ∃ (q le f p' : Addr) (A' : SA), v = .ref q ∧ H q = some (.tup [.ref p', .ref le]) ∧ H le = some (.lst [.ref f]) ∧ H f = some (.tup [.str word, .int L.k, .ref L.ta]) ∧ StAt K H p' A' d.c d.ga S' ∧ SxAt d.X A'
theorem FState.mono {S' : SS} {word : Str} {L : Le} {v : V} (x : FState K d H S' word L v) (s : Same H H') : FState K d H' S' word L v := by
  obtain ⟨q, le, f, p', A', h1, h2, h3, h4, h5, h6⟩ := x
  exact ⟨q, le, f, p', A', h1, s _ _ h2, s _ _ h3, s _ _ h4, h5.mono s, h6⟩
def Fnd (K : PySem.W.Frag) (d : Wd) (H : Hp) (S : SS) (L : Le) (v : V) : Prop :=
  (L.t.dl < S.high ∧ FState K d H ⟨S.high, putK S.inbox (Sum.inl L.k) (.str "refused"), S.passed, [], S.nb⟩ "refused" L v) ∨
  (¬ L.t.dl < S.high ∧ bey S d.lim d.win L.t.tok L.t.un ∧ v = .bl true) ∨
  (¬ L.t.dl < S.high ∧ ¬ bey S d.lim d.win L.t.tok L.t.un ∧ ∃ r, FState K d H ⟨S.high, putK S.inbox (Sum.inl L.k) (.str "delivered"), S.passed ++ [(r, S.high, L.t.tok, L.t.un)], [], S.nb + 2⟩ "delivered" L v)
theorem Fnd.mono {L : Le} {v : V} (x : Fnd K d H S L v) (s : Same H H') : Fnd K d H' S L v := by
  rcases x with ⟨h1, h2⟩ | h | ⟨h1, h2, r, h3⟩
  · exact .inl ⟨h1, h2.mono s⟩
  · exact .inr (.inl h)
  · exact .inr (.inr ⟨h1, h2, r, h3.mono s⟩)
end
end Vb
set_option Elab.async false
set_option linter.all false
set_option maxRecDepth 100000
set_option maxHeartbeats 4000000
/-! the plain law: what a turn keeps -/
namespace Vb
open PySem PySem.Spec PyProof.Rows L2
structure Pl (d : Wd) (i m : Nat) (hb : Int) (S : SS) (R : Pa) (wl : List Le) : Prop where
  hi : 0 ≤ S.high ∧ S.high ≤ hb
  rel : R.map (·.2) = S.passed.map (·.2)
  win : WinOk d.lim d.win (R.map (·.2)) S.high
  nb : S.nb ≤ 2 * i
  ib : S.inbox.length ≤ i
  pl : S.passed.length ≤ i
  fr : S.fresh = []
  wz : wl.length ≤ m
  good : ∀ L ∈ wl, GoodLe L ∧ L.k < m ∧ valV S.inbox (Sum.inl L.k) = none
  nd : (wl.map (·.k)).Nodup
  new : ∀ j : Int, (m : Int) ≤ j → valV S.inbox (Sum.inl j) = none
section
variable {d : Wd} {i m : Nat} {hb : Int} {S : SS} {R : Pa} {wl : List Le}
theorem Pl.zero (hl : 0 ≤ d.lim) : Pl d 0 0 0 S0 [] [] := ⟨⟨Int.le_refl _, Int.le_refl _⟩, rfl, .nil hl, Nat.le_refl _, Nat.le_refl _, Nat.le_refl _, rfl, Nat.le_refl _, (fun _ h => nomatch h), List.nodup_nil, fun _ _ => rfl⟩
theorem Pl.high (x : Pl d i m hb S R wl) : Pl d i m (hb + 1) { S with high := S.high + 1, fresh := [] } R wl :=
  ⟨⟨by have := x.hi.1; show 0 ≤ S.high + 1; omega, by have := x.hi.2; show S.high + 1 ≤ hb + 1; omega⟩, x.rel, x.win.up (by show S.high ≤ S.high + 1; omega), x.nb, x.ib, x.pl, rfl, x.wz, x.good, x.nd, x.new⟩
theorem Pl.hbLe (x : Pl d i m hb S R wl) {hb' : Int} (h : hb ≤ hb') : Pl d i m hb' S R wl := ⟨⟨x.hi.1, Int.le_trans x.hi.2 h⟩, x.rel, x.win, x.nb, x.ib, x.pl, x.fr, x.wz, x.good, x.nd, x.new⟩
theorem Pl.push (x : Pl d i m hb S R wl) {L : Le} (hG : GoodLe L) (hk : L.k = m) : Pl d i (m + 1) hb S R (wl ++ [L]) := by
  refine ⟨x.hi, x.rel, x.win, x.nb, x.ib, x.pl, x.fr, ?_, fun L' hL' => ?_, ?_, fun j hj => x.new j (by omega)⟩
  · rw [List.length_append]
    exact Nat.succ_le_succ x.wz
  · rcases List.mem_append.mp hL' with h | h
    · obtain ⟨g1, g2, g3⟩ := x.good L' h
      exact ⟨g1, by omega, g3⟩
    · rw [List.mem_singleton.mp h]
      exact ⟨hG, by omega, x.new _ (by omega)⟩
  · rw [List.map_append, List.nodup_append]
    refine ⟨x.nd, by simp, ?_⟩
    rintro a ha b hb' rfl
    obtain ⟨L', h', rfl⟩ := List.mem_map.mp ha
    rw [List.map_cons, List.map_nil, List.mem_singleton] at hb'
    have := (x.good L' h').2.1
    omega
theorem Pl.step (x : Pl d i m hb S R wl) : Pl d (i + 1) m hb S R wl := ⟨x.hi, x.rel, x.win, by have := x.nb; omega, by have := x.ib; omega, by have := x.pl; omega, x.fr, x.wz, x.good, x.nd, x.new⟩
theorem erase_ne (hnd : (wl.map (·.k)).Nodup) {j : Nat} {L L' : Le} (hj : wl[j]? = some L) (h' : L' ∈ wl.eraseIdx j) : L'.k ≠ L.k := fun e => by
  have p := ((perm_erase hj).map (·.k)).nodup_iff.mpr hnd
  rw [List.map_cons, List.nodup_cons] at p
  exact p.1 (e ▸ List.mem_map.mpr ⟨L', h', rfl⟩)
theorem Pl.taken (x : Pl d i m hb S R wl) {j : Nat} {L : Le} (hj : wl[j]? = some L) (word : Str) {S' : SS} {R' : Pa} (e1 : S'.high = S.high) (e2 : S'.inbox = putK S.inbox (Sum.inl L.k) (.str word)) (e3 : S'.fresh = []) (e4 : S'.nb ≤ S.nb + 2) (e5 : S'.passed.length ≤ S.passed.length + 1)
    (rel' : R'.map (·.2) = S'.passed.map (·.2)) (win' : WinOk d.lim d.win (R'.map (·.2)) S'.high) : Pl d (i + 1) m hb S' R' (wl.eraseIdx j) := by
  have hm : L ∈ wl := List.mem_of_getElem? hj
  refine ⟨by rw [e1]; exact x.hi, rel', win', by have := x.nb; omega, ?_, by have := x.pl; omega, e3, ?_, fun L' h' => ?_, ?_, fun k hk => ?_⟩
  · rw [e2]
    have := length_putK S.inbox (Sum.inl L.k) (.str word)
    have := x.ib
    omega
  · have := x.wz
    rw [List.length_eraseIdx]
    split <;> omega
  · have hw := List.mem_of_mem_eraseIdx h'
    obtain ⟨g1, g2, g3⟩ := x.good L' hw
    refine ⟨g1, g2, ?_⟩
    rw [e2, valV_put, if_neg (fun e => erase_ne x.nd hj h' (Sum.inl.inj e))]
    exact g3
  · have p := ((perm_erase hj).map (·.k)).nodup_iff.mpr x.nd
    rw [List.map_cons, List.nodup_cons] at p
    exact p.2
  · have := (x.good L hm).2.1
    rw [e2, valV_put, if_neg (fun e => by have := Sum.inl.inj e; omega)]
    exact x.new k hk
theorem bey_iff (x : Pl d i m hb S R wl) (tok : Str) (un : Int) : bey S d.lim d.win tok un ↔ limOf d.lim tok < psq (R.map (·.2)) (S.high - d.win) tok + un := by
  unfold bey
  rw [psum_psq, x.rel]
theorem Pl.sok (x : Pl d i m hb S R wl) (hi : i ≤ 40) : SOk S := ⟨by have := x.nb; omega, by have := x.ib; omega, by have := x.pl; omega, by rw [x.fr]; exact Nat.zero_le _⟩
theorem Pl.refused (x : Pl d i m hb S R wl) {j : Nat} {L : Le} (hj : wl[j]? = some L) : Pl d (i + 1) m hb ⟨S.high, putK S.inbox (Sum.inl L.k) (.str "refused"), S.passed, [], S.nb⟩ R (wl.eraseIdx j) :=
  x.taken hj "refused" rfl rfl rfl (Nat.le_add_right _ _) (Nat.le_succ _) x.rel x.win
theorem Pl.delivered (x : Pl d i m hb S R wl) {j : Nat} {L : Le} (hj : wl[j]? = some L) (hn : ¬ bey S d.lim d.win L.t.tok L.t.un) (r r2 : Addr) :
    Pl d (i + 1) m hb ⟨S.high, putK S.inbox (Sum.inl L.k) (.str "delivered"), S.passed ++ [(r, S.high, L.t.tok, L.t.un)], [], S.nb + 2⟩ (R ++ [(r2, S.high, L.t.tok, L.t.un)]) (wl.eraseIdx j) := by
  have hG := (x.good L (List.mem_of_getElem? hj)).1
  refine x.taken hj "delivered" rfl rfl rfl (Nat.le_refl _) (by rw [List.length_append] <;> exact Nat.le_refl _) ?_ ?_
  · rw [List.map_append, List.map_append, x.rel] <;> rfl
  · rw [List.map_append]
    refine x.win.add (by have := hG.t.un.1; omega) ?_
    rw [bey_iff x] at hn
    omega
theorem recent_psq (R : Pa) (f : Int) (tok : Str) : ((R.filter fun r => decide (r.2.2.1 = tok) && decide (f < r.2.1)).map (·.2.2.2)).sum = psq (R.map (·.2)) f tok := by
  rw [← psum_psq]
  unfold psum
  have e : (fun r : Addr × Int × Str × Int => decide (r.2.2.1 = tok) && decide (f < r.2.1)) = fun r => decide (f < r.2.1) && decide (r.2.2.1 = tok) := by
    funext r
    exact Bool.and_comm _ _
  rw [e]
theorem rows_wsq (R : Pa) (x win : Int) (tok : Str) : ((R.filter fun r => decide (r.2.2.1 = tok) && (decide (x - win < r.2.1) && decide (r.2.1 ≤ x))).map (·.2.2.2)).sum = wsq (R.map (·.2)) x win tok := by
  unfold wsq
  rw [List.filter_map, List.map_map] <;> rfl
theorem lim_at (lim : Int) {tok : Str} (h : isTok tok) : atI [V.int lim, V.int 1000] (if decide (V.str tok = V.str "gold") = true then 1 else 0) = some (.int (limOf lim tok)) := by
  rcases h with rfl | rfl
  · rw [decide_eq_false (fun e => ne_cg (V.str.inj e)), if_neg (by decide)]
    show some (V.int lim) = _
    unfold limOf
    rw [if_pos rfl]
  · rw [decide_eq_true rfl, if_pos rfl]
    show some (V.int 1000) = _
    unfold limOf
    rw [if_neg ne_gc]
/-! ### the data that is compared -/
def evD (word : Str) (k : Int) (t : Tr) : PyData := .list [.tuple [.str word, .int k, trD t]]
theorem okT_refused : PyData.strOk "refused" = true := by decide +kernel
theorem okT_delivered : PyData.strOk "delivered" = true := by decide +kernel
theorem evD_shaped {word : Str} (hw : PyData.strOk word = true) (k : Int) {t : Tr} (g : GoodTr t) : SeqAt.shaped (evD word k t) = true := by
  have := tok_ok g
  simp [SeqAt.shaped, evD, trD, PyData.canLay0, PyData.canLayAll0, PyData.depth, PyData.depthAll, this, okT_ann, okT_bob, hw]
theorem evD_eqv (word : Str) (k : Int) (t : Tr) : PyData.eqv (evD word k t) (evD word k t) = true := by
  have h := trD_eqv t t
  simp [evD, PyData.eqv, PyData.eqvAll, h]
theorem evD_dp {K : PySem.W.Frag} {H : Hp} {le f ta : Addr} {word : Str} {k : Int} {t : Tr} (h1 : H le = some (.lst [.ref f])) (h2 : H f = some (.tup [.str word, .int k, .ref ta])) (h3 : H ta = some (.tup (trV t))) : Dp K H (.ref le) (evD word k t) :=
  .lst (SqL.of h1) (.cons (.tup (SqT.of h2) (.cons (.str _) (.cons (.int _) (.cons (tr_dp h3) .nil)))) .nil)
def wlD (wl : List Le) : List PyData := wl.map fun L => leD L.k L.t
theorem wlD_dp {K : PySem.W.Frag} {H : Hp} : ∀ {wl : List Le}, (∀ L ∈ wl, LeAt H L) → DpAll K H (wl.map fun L => V.ref L.a) (wlD wl)
  | [], _ => .nil
  | L :: r, h => .cons (h L List.mem_cons_self).dp (wlD_dp fun x hx => h x (List.mem_cons_of_mem _ hx))
theorem leD_parts (k : Int) {t : Tr} (g : GoodTr t) : (leD k t).canLay0 = true ∧ (leD k t).depth ≤ 8 := by
  have := tok_ok g
  constructor
  · simp [leD, trD, PyData.canLay0, PyData.canLayAll0, this, okT_ann, okT_bob, okT_deliver, okT_east]
  · simp [leD, trD, PyData.depth, PyData.depthAll]
theorem wlD_parts : ∀ {wl : List Le}, (∀ L ∈ wl, GoodLe L) → PyData.canLayAll0 (wlD wl) = true ∧ PyData.depthAll (wlD wl) ≤ 8
  | [], _ => ⟨rfl, Nat.zero_le _⟩
  | L :: r, h => by
    obtain ⟨h1, h2⟩ := leD_parts L.k (h L List.mem_cons_self).t
    obtain ⟨h3, h4⟩ := wlD_parts (wl := r) fun x hx => h x (List.mem_cons_of_mem _ hx)
    constructor
    · show (PyData.canLay0 (leD L.k L.t) && PyData.canLayAll0 (wlD r)) = true
      rw [h1, h3] <;> rfl
    · show PyData.depthAll (leD L.k L.t :: wlD r) ≤ 8
      simp only [PyData.depthAll]
      omega
theorem wlD_shaped {wl : List Le} (h : ∀ L ∈ wl, GoodLe L) : SeqAt.shaped (.list (wlD wl)) = true := by
  obtain ⟨h1, h2⟩ := wlD_parts h
  show (PyData.canLayAll0 (wlD wl) && decide (PyData.depth (.list (wlD wl)) ≤ 64)) = true
  rw [h1, decide_eq_true (by simp only [PyData.depth]; omega)]
  rfl
theorem wlD_before {wl : List Le} (hnd : (wl.map (·.k)).Nodup) {j : Nat} {L : Le} (hj : wl[j]? = some L) (m : Nat) (z : PyData) (hm : m < j) (hz : (wlD wl)[m]? = some z) : PyData.eqv z (leD L.k L.t) = false := by
  obtain ⟨L', h', rfl⟩ := get_map hz
  rw [leD_eqv]
  have e : L'.k ≠ L.k := fun e => by
    have h1 : (wl.map (·.k))[m]? = some L.k := by rw [List.getElem?_map, h', ← e] <;> rfl
    have h2 : (wl.map (·.k))[j]? = some L.k := by rw [List.getElem?_map, hj] <;> rfl
    obtain ⟨a1, b1⟩ := List.getElem?_eq_some_iff.mp h1
    obtain ⟨a2, b2⟩ := List.getElem?_eq_some_iff.mp h2
    exact List.pairwise_iff_getElem.mp hnd m j a1 a2 hm (b1.trans b2.symm)
  rw [decide_eq_false e, Bool.false_and]
end
end Vb
set_option Elab.async false
set_option linter.all false
set_option maxRecDepth 100000
set_option maxHeartbeats 4000000
/-! the law, walked -/
namespace Vb
open PySem PySem.Spec PyProof.Rows L2
section
variable {P : Program} {w : World} {K : PySem.W.Frag} {mg : Str → Option Value} {base : Heap}
def spLawD (K : PySem.W.Frag) : Sp := fun vs H Q _ => ∃ (a : Addr) (ns : List Int), vs = [.ref a] ∧ SqL K H a (ns.map V.int) ∧ ns.length ≤ 63 ∧ ∀ H', Q (.bl true) H'
theorem sc_law : FnScope ["_law_script", "_law_pot_here", "_law_limit", "_law_window", "_law_guards", "_law_config_here", "_law_notary", "_law_state", "_law_passed", "_law_waiting", "_law_k", "_law_j", "_law_transfer", "_law_letter", "_law_seals", "_law_found", "_law_recent", "_law_most", "_law_height", "_law_token", "_law_units", "_law_name", "_law_rows", "_law_pair", "_law_row"] ["_law_script"] (defScope s_law) := ⟨rfl, rfl, rfl, by decide +kernel, rfl, by decide +kernel, by decide +kernel⟩
/-- no exception leaves the def; of the very function object -/
theorem mk_okF {d : He.DefD} {fd : FuncData} (F : FunD K d.name d.qual d.params d.body d.scope (d.dvs K) (d.kws K) (He.fAd K d.at_) fd) {N ps : List Str} {k : Nat} {sp : Sp} (S : FnScope N ps d.scope) (nd : d.dfl = [])
    (len : ∀ vs H Q E, sp vs H Q E → vs.length = ps.length)
    (hbody : ∀ (cdv : Value) (A : Around) (outer : List Env) (s : Shared) (H : Hp) (vs : List V) (Q : VK) (E : XK), Room k (A.deeper (envOfC d.qual d.scope s.heap.objs.size (He.fAd K d.at_) cdv)) → sp vs H Q E →
      ∃ t, PSs (cxOf CX0 P w K mg base N d.qual d.scope (He.fAd K d.at_) cdv A outer s H E).nox d.body t ∧ t { nx := fun _ H' => Q .non H', rt := Q } (start N vs) H) : FnOk P w K mg base CX0 (k + 1) (He.fAd K d.at_) fd ps sp := by
  have e1 : d.dvs K = [] := by unfold He.DefD.dvs; rw [nd] <;> rfl
  rw [e1] at F
  refine F.ok S len fun cdv A outer s H vs Q E hr hsp => ?_
  obtain ⟨t, h, q⟩ := hbody cdv A outer s H vs Q E hr hsp
  exact ⟨t, h.nox, q⟩
theorem ok_law (T : Txt w K mg) {fd : FuncData} (F : FunD K d_law.name d_law.qual d_law.params d_law.body d_law.scope (d_law.dvs K) (d_law.kws K) (He.fAd K d_law.at_) fd) : FnOk P w K mg base CX0 12 (He.fAd K ("law", none)) fd ["_law_script"] (spLawD K) := by
  obtain ⟨fd1, G_law_pot, b_law_pot, k_law_pot⟩ := ok_law_pot (P := P) (base := base) T
  obtain ⟨fd2, G_law_next, b_law_next, k_law_next⟩ := ok_law_next (P := P) (base := base) T
  obtain ⟨fd3, G_law_set, b_law_set, k_law_set⟩ := ok_law_set (P := P) (base := base) T
  obtain ⟨fd4, G_Config_init, mvc, b_Config_kw⟩ := ok_Config_init (P := P) (base := base) T
  obtain ⟨fd5, G_Notary_init, b_Notary_init, _⟩ := ok_Notary_init (P := P) (base := base) T
  obtain ⟨fd6, G_opening_state, b_opening_state, k_opening_state⟩ := ok_opening_state (P := P) (base := base) T
  obtain ⟨fd7, G_next_height, b_next_height, k_next_height⟩ := ok_next_height (P := P) (base := base) T
  obtain ⟨fd8, G_State_height, b_State_height, _⟩ := ok_State_height (P := P) (base := base) T
  obtain ⟨fd9, G_Notary_seal, b_Notary_seal, _⟩ := ok_Notary_seal (P := P) (base := base) T
  obtain ⟨fd10, G_law_try, b_law_try, k_law_try⟩ := ok_law_try (P := P) (base := base) T
  refine mk_okF (d := d_law) F sc_law rfl (fun vs H Q E h => ?_) (fun cdv A0 outer s H vs Q E hr h => ?_)
  · obtain ⟨a, ns, rfl, _⟩ := h
    rfl
  · obtain ⟨a, ns, rfl, ha, hlen, q⟩ := h
    have hu65 : A0.units + 3 + 65 < cLine := by
      have := hr.un
      have e : (A0.deeper (envOfC d_law.qual d_law.scope s.heap.objs.size (He.fAd K d_law.at_) cdv)).units = A0.units + 3 := rfl
      omega
    refine ⟨_, (pss_cons (ps_set (i := 1) sc_law.nd rfl (Or.inl rfl) (pe_call G_law_pot (hr.mono (by decide)) rfl T.g_law_pot k_law_pot b_law_pot .nil pass0 (pa_cons (pv 0) pa_nil)))
      (pss_cons (ps_set (i := 2) sc_law.nd rfl (Or.inl rfl) (pe_ix ix_list (pe_lst (pa_cons pe_int (pa_cons pe_int (pa_cons pe_int (pa_cons pe_int pa_nil))))) (pe_call G_law_next (hr.mono (by decide)) rfl T.g_law_next k_law_next b_law_next .nil pass0 (pa_cons (pv 1) (pa_cons pe_int pa_nil))) (fun _ _ => rfl)))
      (pss_cons (ps_set (i := 3) sc_law.nd rfl (Or.inr rfl) (pe_op op_add pe_int (pe_call G_law_next (hr.mono (by decide)) rfl T.g_law_next k_law_next b_law_next .nil pass0 (pa_cons (pv 1) (pa_cons pe_int pa_nil)))))
      (pss_cons (ps_set (i := 4) sc_law.nd rfl (Or.inl rfl) (pe_call G_law_set (hr.mono (by decide)) rfl T.g_law_set k_law_set b_law_set .nil pass0 (pa_cons (pv 1) (pa_cons pe_int pa_nil))))
      (pss_cons (ps_set (i := 5) sc_law.nd rfl (Or.inl rfl) (pe_makeK0 T.mk_Config G_Config_init (hr.mono (by decide)) rfl T.g_Config b_Config_kw pass0 (pk_cons (pe_lst (pa_cons (pe_tup (pa_cons pe_str (pa_cons pe_str (pa_cons pe_int (pa_cons (pv 2) (pa_cons (pe_op op_pow pe_int pe_int) pa_nil)))))) (pa_cons (pe_tup (pa_cons pe_str (pa_cons pe_str (pa_cons pe_int (pa_cons pe_int (pa_cons (pe_op op_pow pe_int pe_int) pa_nil)))))) pa_nil))) (pk_cons (pe_lst pa_nil) (pk_cons (pv 4) (pk_cons pe_int (pk_cons (pv 3) pk_nil)))))))
      (pss_cons (ps_set (i := 6) sc_law.nd rfl (Or.inr rfl) (pe_make0 T.mk_Notary G_Notary_init (hr.mono (by decide)) rfl T.g_Notary b_Notary_init .nil pass0))
      (pss_cons (ps_set (i := 7) sc_law.nd rfl (Or.inr rfl) (pe_call G_opening_state (hr.mono (by decide)) rfl T.g_opening_state k_opening_state b_opening_state .nil pass0 (pa_cons (pv 5) (pa_cons pe_str pa_nil))))
      (pss_cons (ps_set (i := 8) sc_law.nd rfl (Or.inl rfl) (pe_lst pa_nil))
      (Evl.pss_cut (ps_set (i := 9) sc_law.nd rfl (Or.inl rfl) (pe_lst pa_nil))
      (pss_cons (ps_for PassesOwn.never rfl (pi_range1 rfl T.f_range (pa_cons (pe_op op_add pe_int (pe_callB (call_min2 rfl) (by rfl) T.f_min boot_min (pa_cons (pe_callB call_len_seq (by rfl) T.f_len boot_len (pa_cons (pv 0) pa_nil)) (pa_cons pe_int pa_nil)))) pa_nil)) (pg_name (i := 10) sc_law.nd rfl (Or.inl rfl)) (pss_cons (ps_for PassesOwn.never rfl (pi_range1 rfl T.f_range (pa_cons (pe_call G_law_next (hr.mono (by decide)) rfl T.g_law_next k_law_next b_law_next .nil pass0 (pa_cons (pv 1) (pa_cons pe_int pa_nil))) pa_nil)) (pg_name (i := 11) sc_law.nd rfl (Or.inl rfl)) (pss_one (ps_set (i := 7) sc_law.nd rfl (Or.inr rfl) (pe_call G_next_height (hr.mono (by decide)) rfl T.g_next_height k_next_height b_next_height .nil pass0 (pa_cons (pv 7) pa_nil)))))
      (pss_cons (ps_set (i := 12) sc_law.nd rfl (Or.inl rfl) (pe_tup (pa_cons (pe_ix ix_list (pe_lst (pa_cons pe_str (pa_cons pe_str (pa_cons pe_str pa_nil)))) (pe_call G_law_next (hr.mono (by decide)) rfl T.g_law_next k_law_next b_law_next .nil pass0 (pa_cons (pv 1) (pa_cons pe_int pa_nil))) (fun _ _ => rfl)) (pa_cons (pe_op op_add pe_int (pe_call G_law_next (hr.mono (by decide)) rfl T.g_law_next k_law_next b_law_next .nil pass0 (pa_cons (pv 1) (pa_cons (pe_ix ix_list (pe_lst (pa_cons pe_int (pa_cons pe_int (pa_cons pe_int pa_nil)))) (pe_call G_law_next (hr.mono (by decide)) rfl T.g_law_next k_law_next b_law_next .nil pass0 (pa_cons (pv 1) (pa_cons pe_int pa_nil))) (fun _ _ => rfl)) pa_nil)))) (pa_cons pe_int (pa_cons pe_str (pa_cons pe_str (pa_cons (pe_ix ix_list (pe_lst (pa_cons pe_int (pa_cons (pe_op op_add (pe_meth0 (pv 7) T.cl_State T.m_State_height G_State_height (hr.mono (by decide)) b_State_height .nil pass0) (pe_call G_law_next (hr.mono (by decide)) rfl T.g_law_next k_law_next b_law_next .nil pass0 (pa_cons (pv 1) (pa_cons pe_int pa_nil)))) pa_nil))) (pe_call G_law_next (hr.mono (by decide)) rfl T.g_law_next k_law_next b_law_next .nil pass0 (pa_cons (pv 1) (pa_cons pe_int pa_nil))) (fun _ _ => rfl)) pa_nil))))))))
      (pss_cons (ps_expr (pe_bm PySem.F.plainAttrs_list PySem.F.slot_list_append PySem.F.type_list_append mt_append (pv 9) (pa_cons (pe_tup (pa_cons pe_str (pa_cons pe_str (pa_cons (pv 10) (pa_cons (pv 12) pa_nil))))) pa_nil)))
      (pss_cons (ps_set (i := 13) sc_law.nd rfl (Or.inr rfl) (pe_ix ix_list (pv 9) (pe_call G_law_next (hr.mono (by decide)) rfl T.g_law_next k_law_next b_law_next .nil pass0 (pa_cons (pv 1) (pa_cons (pe_callB call_len_seq (by rfl) T.f_len boot_len (pa_cons (pv 9) pa_nil)) pa_nil))) (fun _ _ => rfl)))
      (pss_cons (ps_set (i := 14) sc_law.nd rfl (Or.inl rfl) (pe_callTy call_tuple_of (by rfl) T.f_tuple boot_tuple (pa_cons (pe_lc (own := [("_law_pair", 23)]) (g := (gName 23)) (tt := tYes) rfl sc_law.nd (pi_tup (pv 4)) (blkOk_by (N := ["_law_script", "_law_pot_here", "_law_limit", "_law_window", "_law_guards", "_law_config_here", "_law_notary", "_law_state", "_law_passed", "_law_waiting", "_law_k", "_law_j", "_law_transfer", "_law_letter", "_law_seals", "_law_found", "_law_recent", "_law_most", "_law_height", "_law_token", "_law_units", "_law_name", "_law_rows", "_law_pair", "_law_row"]) (sc := defScope s_law) (by decide +kernel)) (fun _ _ _ _ _ => (pg_name (i := 23) sc_law.nd rfl (Or.inl rfl))) (fun _ _ _ _ _ => pts_nil) (fun _ _ _ _ _ => (pe_meth (pv 6) T.cl_Notary T.m_Notary_seal G_Notary_seal (hr.mono (by decide)) b_Notary_seal .nil pass0 (pa_cons (pe_ix (r := rIxT K) ix_tup (pv 23) pe_int (fun _ _ => rfl)) (pa_cons (pv 13) pa_nil))))) pa_nil)))
      (Evl.pss_cut (ps_set (i := 15) sc_law.nd rfl (Or.inl rfl) (pe_call G_law_try (hr.mono (by decide)) rfl T.g_law_try k_law_try b_law_try .nil pass0 (pa_cons (pv 5) (pa_cons (pv 6) (pa_cons (pv 7) (pa_cons (pe_tup (pa_cons pe_str (pa_cons pe_str (pa_cons (pv 13) (pa_cons (pv 14) pa_nil))))) pa_nil))))))
      (pss_cons (ps_asg (pe_slice sl_tup (pe_ix ix_tup (pv 13) pe_int (fun _ _ => rfl)) po_none (po_some pe_int)) (pg_tup (by rfl) (pgs_cons (pg_name (i := 19) sc_law.nd rfl (Or.inr rfl)) (pgs_cons (pg_name (i := 20) sc_law.nd rfl (Or.inl rfl)) pgs_nil))))
      (pss_cons (ps_set (i := 16) sc_law.nd rfl (Or.inl rfl) (pe_callB (cr_sum rfl) (by rfl) T.f_sum boot_sum (pa_cons (pe_lc (own := [("_law_row", 24)]) (g := (gName 24)) rfl sc_law.nd (pi_list (pv 8)) (blkOk_by (N := ["_law_script", "_law_pot_here", "_law_limit", "_law_window", "_law_guards", "_law_config_here", "_law_notary", "_law_state", "_law_passed", "_law_waiting", "_law_k", "_law_j", "_law_transfer", "_law_letter", "_law_seals", "_law_found", "_law_recent", "_law_most", "_law_height", "_law_token", "_law_units", "_law_name", "_law_rows", "_law_pair", "_law_row"]) (sc := defScope s_law) (by decide +kernel)) (fun _ _ _ _ _ => (pg_name (i := 24) sc_law.nd rfl (Or.inl rfl))) (fun _ _ _ _ _ => pts_one (PW.pt (pw_and (pt_cmpR op_eq (pe_ix (r := rIxT K) ix_tup (pv 24) pe_int (fun _ _ => rfl)) (pv 19) (nomark _)) (pw_and1 (pt_cmpR op_gt (pe_ix (r := rIxT K) ix_tup (pv 24) pe_int (fun _ _ => rfl)) (pe_op op_sub (pe_meth0 (pv 7) T.cl_State T.m_State_height G_State_height (hr.mono (by decide)) b_State_height .nil pass0) (pv 3)) (nomark _)))))) (fun _ _ _ _ _ => (pe_ix (r := rIxT K) ix_tup (pv 24) pe_int (fun _ _ => rfl)))) pa_nil)))
      (pss_cons (ps_set (i := 17) sc_law.nd rfl (Or.inl rfl) (pe_ix ix_list (pe_lst (pa_cons (pv 2) (pa_cons pe_int pa_nil))) (pe_callTy call_int1 (by rfl) T.f_int boot_int (pa_cons (pe_cmpR op_eq (pv 19) pe_str (nomark _)) pa_nil)) (fun _ _ => rfl)))
      (Evl.pss_cut (ps_if (pt_cmpR op_gt (pe_meth0 (pv 7) T.cl_State T.m_State_height G_State_height (hr.mono (by decide)) b_State_height .nil pass0) (pe_ix ix_tup (pe_ix ix_tup (pv 13) pe_int (fun _ _ => rfl)) pe_int (fun _ _ => rfl)) (nomark _)) (pss_one (ps_if (PW.pt (pw_or (pt_cmpR op_isT (pv 15) pe_bl (nomark _)) (pw_or (pt_cmpR op_isT (pv 15) pe_bl (nomark _)) (pw_or1 (pt_cmpR (op_neD hr.units) (pe_ix ix_tup (pv 15) pe_int (fun _ _ => rfl)) (pe_lst (pa_cons (pe_tup (pa_cons pe_str (pa_cons (pe_ix ix_tup (pv 13) pe_int (fun _ _ => rfl)) (pa_cons (pe_ix ix_tup (pv 13) pe_int (fun _ _ => rfl)) pa_nil)))) pa_nil)) (nomark _)))))) (pss_one (ps_ret pe_bl)) pss_nil)) (pss_one (ps_if (pt_cmpR op_gt (pe_op op_add (pv 16) (pv 20)) (pv 17) (nomark _)) (pss_one (ps_if (pt_cmpR op_isNotT (pv 15) pe_bl (nomark _)) (pss_one (ps_ret pe_bl)) pss_nil)) (pss_one (ps_if (PW.pt (pw_or (pt_cmpR op_isT (pv 15) pe_bl (nomark _)) (pw_or (pt_cmpR op_isT (pv 15) pe_bl (nomark _)) (pw_or1 (pt_cmpR (op_neD hr.units) (pe_ix ix_tup (pv 15) pe_int (fun _ _ => rfl)) (pe_lst (pa_cons (pe_tup (pa_cons pe_str (pa_cons (pe_ix ix_tup (pv 13) pe_int (fun _ _ => rfl)) (pa_cons (pe_ix ix_tup (pv 13) pe_int (fun _ _ => rfl)) pa_nil)))) pa_nil)) (nomark _)))))) (pss_one (ps_ret pe_bl)) (pss_one (ps_expr (pe_bm PySem.F.plainAttrs_list PySem.F.slot_list_append PySem.F.type_list_append mt_append (pv 8) (pa_cons (pe_tup (pa_cons (pe_meth0 (pv 7) T.cl_State T.m_State_height G_State_height (hr.mono (by decide)) b_State_height .nil pass0) (pa_cons (pv 19) (pa_cons (pv 20) pa_nil)))) pa_nil)))))))))
      (Evl.pss_cut (ps_if (pt_cmpR op_isNotT (pv 15) pe_bl (nomark _)) (pss_cons (ps_set (i := 7) sc_law.nd rfl (Or.inr rfl) (pe_ix ix_tup (pv 15) pe_int (fun _ _ => rfl)))
      (pss_one (ps_expr (pe_bm PySem.F.plainAttrs_list PySem.F.slot_list_remove PySem.F.type_list_remove (mt_removeD hu65) (pv 9) (pa_cons (pv 13) pa_nil))))) pss_nil)
      (pss_one (ps_for PassesOwn.never rfl (pi_range2 rfl T.f_range (pa_cons (pe_callB (call_max2 rfl) (by rfl) T.f_max boot_max (pa_cons pe_int (pa_cons (pe_op op_sub (pe_meth0 (pv 7) T.cl_State T.m_State_height G_State_height (hr.mono (by decide)) b_State_height .nil pass0) pe_int) pa_nil))) (pa_cons (pe_op op_add (pe_meth0 (pv 7) T.cl_State T.m_State_height G_State_height (hr.mono (by decide)) b_State_height .nil pass0) pe_int) pa_nil))) (pg_name (i := 18) sc_law.nd rfl (Or.inr rfl)) (pss_one (ps_for PassesOwn.never rfl (pi_list (pe_lst (pa_cons pe_str (pa_cons pe_str pa_nil)))) (pg_name (i := 21) sc_law.nd rfl (Or.inr rfl)) (pss_cons (ps_setLc (i := 22) (own := [("_law_row", 24)]) (g := (gName 24)) rfl sc_law.nd rfl rfl (sw_true rfl rfl rfl (by decide +kernel)) (pi_list (pv 8)) (blkOk_by (N := ["_law_script", "_law_pot_here", "_law_limit", "_law_window", "_law_guards", "_law_config_here", "_law_notary", "_law_state", "_law_passed", "_law_waiting", "_law_k", "_law_j", "_law_transfer", "_law_letter", "_law_seals", "_law_found", "_law_recent", "_law_most", "_law_height", "_law_token", "_law_units", "_law_name", "_law_rows", "_law_pair", "_law_row"]) (sc := defScope s_law) (by decide +kernel)) (fun _ _ _ _ _ => (pg_name (i := 24) sc_law.nd rfl (Or.inl rfl))) (fun _ _ _ _ _ => pts_one (PW.pt (pw_and (pt_cmpR op_eq (pe_ix (r := rIxT K) ix_tup (pv 24) pe_int (fun _ _ => rfl)) (pv 21) (nomark _)) (pw_and1 (pt_chain op_lt op_le (pe_op op_sub (pv 18) (pv 3)) (pe_ix (r := rIxT K) ix_tup (pv 24) pe_int (fun _ _ => rfl)) (pv 18)))))) (fun _ _ _ _ _ => (pe_ix (r := rIxT K) ix_tup (pv 24) pe_int (fun _ _ => rfl))))
      (pss_one (ps_if (pt_cmpR op_gt (pe_callB (cr_sum rfl) (by rfl) T.f_sum boot_sum (pa_cons (pv 22) pa_nil)) (pe_ix ix_list (pe_lst (pa_cons (pv 2) (pa_cons pe_int pa_nil))) (pe_callTy call_int1 (by rfl) T.f_int boot_int (pa_cons (pe_cmpR op_eq (pv 21) pe_str (nomark _)) pa_nil)) (fun _ _ => rfl)) (nomark _)) (pss_one (ps_ret pe_bl)) pss_nil)))))))))))))))))))
      (pss_one (ps_ret pe_bl)))))))))))), ?_⟩
    -- the pot
    refine ⟨_, rfl, a, ns, rfl, ha, fun H1 lp ls s1 f_lp pot1 => ?_⟩
    have keep : ∀ {G G' : Hp}, Same H G → KB lp G G' → Same H G' := fun {G G'} s k b o e => k _ _ (s _ _ e) (ne_of_none e f_lp)
    -- the limit
    refine ⟨(by show 4 ≤ sizeLine; decide), fun l1 hl1 => ?_⟩
    have n_l1 : l1 ≠ lp := by
      obtain ⟨⟨_, _, _, e, _⟩, _⟩ := id pot1
      exact (ne_of_none e hl1).symm
    refine ⟨_, rfl, lp, ls, ns, 4, rfl, pot1.mono (same_new hl1), by decide, by decide, fun H2 v2 k2 pot2 h20 h24 => ?_⟩
    have s2 : Same H H2 := keep (fun b o e => same_new hl1 _ _ (s1 _ _ e)) k2
    obtain ⟨lim, hlim, hlim0⟩ : ∃ m : Int, atI [V.int 0, V.int 5, V.int 40, V.int 1000] v2 = some (.int m) ∧ 0 ≤ m := by
      have c : v2 = 0 ∨ v2 = 1 ∨ v2 = 2 ∨ v2 = 3 := by omega
      rcases c with rfl | rfl | rfl | rfl
      · exact ⟨0, rfl, by decide⟩
      · exact ⟨5, rfl, by decide⟩
      · exact ⟨40, rfl, by decide⟩
      · exact ⟨1000, rfl, by decide⟩
    refine ⟨l1, _, v2, _, rfl, rfl, SqL.of (k2 _ _ upd_same n_l1), hlim, ?_⟩
    -- the window
    refine ⟨_, rfl, lp, ls, ns, 4, rfl, pot2, by decide, by decide, fun H3 v3 k3 pot3 h30 h34 => ⟨_, _, rfl, rfl, ?_⟩⟩
    have s3 := keep s2 k3
    -- the guards
    refine ⟨_, rfl, lp, ls, ns, rfl, pot3, fun H4 ga gs k4 pot4 hA hgood hw hg3 => ?_⟩
    have s4 := keep s3 k4
    obtain ⟨win, hwin⟩ : ∃ x : Int, x = 1 + v3 := ⟨_, rfl⟩
    -- the configuration
    refine ⟨_, rfl, _, _, rfl, rfl, ⟨by decide, by decide, by decide⟩, (by show 5 ≤ sizeLine; decide), fun t1 ht1 => ?_⟩
    refine ⟨_, _, rfl, rfl, ⟨by decide, by decide, by decide⟩, (by show 5 ≤ sizeLine; decide), fun t2 ht2 => ?_⟩
    refine ⟨(by show 2 ≤ sizeLine; decide), fun lt0 hlt0 => ?_⟩
    refine ⟨Nat.zero_le _, fun lb0 hlb0 => ⟨_, rfl, _, rfl, rfl, rfl, fun c dxc hc hdxc ne => ?_⟩⟩
    -- the heap at the making of the configuration
    have e6 : (10 : Int) ^ (6 : Int).toNat = 1000000 := by decide
    have q1 : Same H4 (upd (upd (upd (upd (upd (upd H4 t1 (.tup [.str "coin", .str "east", .int 3, .int lim, .int ((10 : Int) ^ (6 : Int).toNat)])) t2 (.tup [.str "gold", .str "east", .int 1, .int 1000, .int ((10 : Int) ^ (6 : Int).toNat)])) lt0 (.lst [.ref t1, .ref t2])) lb0 (.lst [])) dxc (.own c)) c (.ins (cConfig K) dxc [])) :=
      fun b o e => same_made hc hdxc ne _ _ (get_old (get_old (get_old (get_old e ht1) ht2) hlt0) hlb0)
    refine ⟨c, dxc, lt0, lb0, ga, t1, t2, gs, lim, 1 + v3, rfl, upd_same, ?_, ?_, ?_, ?_, ⟨q1 _ _ hA.1, fun g hg => q1 _ _ (hA.2 g hg)⟩, hgood, hlim0, by omega, fun H5 k5 cfg5 => ⟨rfl, ?_⟩⟩
    · exact same_made hc hdxc ne _ _ (get_old upd_same hlb0)
    · exact same_made hc hdxc ne _ _ upd_same
    · refine (same_made hc hdxc ne _ _ (get_old (get_old (get_old upd_same ht2) hlt0) hlb0)).trans ?_
      show some (HO.tup [.str "coin", .str "east", .int 3, .int lim, .int ((10 : Int) ^ (6 : Int).toNat)]) = _
      rw [e6] <;> rfl
    · refine (same_made hc hdxc ne _ _ (get_old (get_old upd_same hlt0) hlb0)).trans ?_
      show some (HO.tup [.str "gold", .str "east", .int 1, .int 1000, .int ((10 : Int) ^ (6 : Int).toNat)]) = _
      rw [e6] <;> rfl
    rw [← hwin] at cfg5
    have n_c : ∀ {b o}, H4 b = some o → b ≠ c := fun e z => by
      have := get_old (u := .lst []) (get_old (u := .lst [.ref t1, .ref t2]) (get_old (u := .tup [.str "gold", .str "east", .int 1, .int 1000, .int ((10 : Int) ^ (6 : Int).toNat)]) (get_old (u := .tup [.str "coin", .str "east", .int 3, .int lim, .int ((10 : Int) ^ (6 : Int).toNat)]) e ht1) ht2) hlt0) hlb0
      rw [z, hc] at this
      cases this
    have s45 : Same H4 H5 := fun b o e => k5 _ _ (q1 _ _ e) (n_c e)
    have s5 : Same H H5 := fun b o e => s45 _ _ (s4 _ _ e)
    have pot5 := pot4.mono s45
    have hA5 := hA.mono s45
    -- the notary
    refine fun n dxn hn hdxn nen => ?_
    have s5m := same_made (C := cNotary K) hn hdxn nen
    refine ⟨n, dxn, rfl, upd_same, fun H6 lt dn k6 hlt hdn hN => ⟨rfl, ?_⟩⟩
    have s56 : Same H5 H6 := fun b o e => k6 _ _ (s5m _ _ e) (ne_of_none e hn)
    have f_lt : H5 lt = none := s5m.free hlt
    have f_dn : H5 dn = none := s5m.free hdn
    have cfg6 := cfg5.mono s56
    -- the state
    refine ⟨_, rfl, c, ga, lim, win, rfl, cfg6, fun H7 p A s67 fp fA hS => ?_⟩
    -- passed, waiting
    refine ⟨Nat.zero_le _, fun pa hpa => ?_⟩
    have s78 : Same H7 (upd H7 pa (.lst [])) := same_new hpa
    refine ⟨fun σ H' => ∃ (d : Wd) (p : Addr) (A : SA), d.Ok ∧ σ = [some (.ref a), some (.ref d.lp), some (.int d.lim), some (.int d.win), some (.ref d.ga), some (.ref d.c), some (.ref d.n), some (.ref p), some (.ref d.pa), some (.ref d.wa), none, none, none, none, none, none, none, none, none, none, none, none, none, none, none] ∧ SqL K H' a (ns.map V.int) ∧ At w K d H' p A S0 [] [] [], ⟨Nat.zero_le _, fun wa hwa => ?_⟩, ?_⟩
    · have s89 : Same (upd H7 pa (.lst [])) (upd (upd H7 pa (.lst [])) wa (.lst [])) := same_new hwa
      have s79 : Same H7 (upd (upd H7 pa (.lst [])) wa (.lst [])) := fun b o e => s89 _ _ (s78 _ _ e)
      have s69 : Same H6 _ := fun b o e => s79 _ _ (s67 _ _ e)
      have s59 : Same H5 _ := fun b o e => s69 _ _ (s56 _ _ e)
      have pot9 := pot5.mono s59
      obtain ⟨dx, dt, lb, u1, u2, c1, c2, c3, c4, c5⟩ := id cfg5.ex
      obtain ⟨⟨pi, pv, pz, hlp5, _⟩, hls5, hne⟩ := id pot5
      obtain ⟨_, hl6, _, kv6, ⟨_, _, _, x6, hd6, _⟩, _⟩ := id hN
      have f_pa : ∀ {b o}, H7 b = some o → b ≠ pa := fun e => ne_of_none e hpa
      have f_wa : ∀ {b o}, H7 b = some o → b ≠ wa := fun e => ne_of_none (s78 _ _ e) hwa
      have up57 : Same H5 H7 := fun b o e => s67 _ _ (s56 _ _ e)
      have lp7 := up57 _ _ hlp5
      have ls7 := up57 _ _ hls5
      have lt7 := s67 _ _ hl6
      have dn7 := s67 _ _ hd6
      refine ⟨⟨lp, ls, c, ga, n, lt, dn, pa, wa, lim, win, ns, gs⟩, p, A, ⟨ne_of_none hlp5 f_lt, f_pa lp7, f_wa lp7, f_pa lt7, f_wa lt7, ne_of_none upd_same hwa, ?_, hlim0, by show 1 ≤ win; omega, hgood, hg3, hw⟩, ?_, Same.lst s59 (Same.lst s5 ha), ?_⟩
      · intro z
        rcases z with z | z | z | z | z
        · exact hne z
        · exact ne_of_none hls5 f_lt z
        · exact ne_of_none hls5 f_dn z
        · exact f_pa ls7 z
        · exact f_wa ls7 z
      · show _ = _
        rw [hwin] <;> rfl
      · have out : ∀ b, b ∈ A.adds → ¬ (b = lp ∨ b = lt ∨ b = dn ∨ b = pa ∨ b = wa) := by
          intro b hb z
          have fb := fA b hb
          have h7 : ∃ o, H7 b = some o := by
            simp only [SA.adds, List.mem_cons, List.mem_nil_iff, or_false] at hb
            obtain ⟨g1, ⟨g2, ⟨_, g3, _⟩, ⟨_, g4⟩, ⟨_, g5, _⟩⟩, g6, ⟨_, g7⟩, g8, ⟨_, g9⟩, ⟨_, g10⟩, g11, _, g12, _⟩ := hS
            rcases hb with rfl | rfl | rfl | rfl | rfl | rfl | rfl | rfl | rfl | rfl | rfl
            all_goals exact ⟨_, by assumption⟩
          obtain ⟨o7, h7⟩ := h7
          rcases z with z | z | z | z | z
          · rw [z, s56 _ _ hlp5] at fb
            cases fb
          · rw [z, hl6] at fb
            cases fb
          · rw [z, hd6] at fb
            cases fb
          · exact f_pa h7 z
          · exact f_wa h7 z
        refine ⟨pot9, ⟨dx, dt, lb, u1, u2, s59 _ _ c1, s59 _ _ c2, s59 _ _ c3, s59 _ _ c4, s59 _ _ c5, ?_⟩, hA5.mono s59, hN.mono s69, hS.mono s79, ⟨out _ (by simp [SA.adds]), out _ (by simp [SA.adds]), out _ (by simp [SA.adds]), out _ (by simp [SA.adds])⟩, s89 _ _ upd_same, (fun r hr => nomatch hr), upd_same, fun L hL => nomatch hL⟩
        intro z
        rcases z with z | z | z | z | z
        · rw [z, hlp5] at c5
          cases c5
        · exact ne_of_none c5 f_lt z
        · exact ne_of_none c5 f_dn z
        · exact f_pa (up57 _ _ c5) z
        · exact f_wa (up57 _ _ c5) z
    · rintro σ H0' ⟨d, p, A, hok, rfl, ha', hAt⟩
      obtain ⟨cnt, hcnt⟩ : ∃ c : Int, c = 4 + (if (36 : Int) < (((ns.map V.int).length : Nat) : Int) then (36 : Int) else (((ns.map V.int).length : Nat) : Int)) := ⟨_, rfl⟩
      have hcnt40 : 0 ≤ cnt ∧ cnt ≤ 40 := by
        rw [hcnt]
        split <;> omega
      refine ⟨_, rfl, a, _, rfl, .inl ha', _, _, rfl, _, _, rfl, rfl, cnt, congrArg (fun x => [V.int x]) hcnt.symm, by omega, by omega, ?_⟩
      refine for_range (lo := 0) (n := cnt.toNat) (fun i σ H => ∃ (v10 v11 v12 v13 v14 v15 v16 v17 v18 v19 v20 v21 v22 v23 v24 : Option V) (p : Addr) (A : SA) (S : SS) (te : Te) (R : Pa) (wl : List Le), σ = [some (.ref a), some (.ref d.lp), some (.int d.lim), some (.int d.win), some (.ref d.ga), some (.ref d.c), some (.ref d.n), some (.ref p), some (.ref d.pa), some (.ref d.wa), v10, v11, v12, v13, v14, v15, v16, v17, v18, v19, v20, v21, v22, v23, v24] ∧ At w K d H p A S te R wl ∧ Pl d i i ((2 * i : Nat) : Int) S R wl ∧ te.length ≤ 3 * i)
        ⟨none, none, none, none, none, none, none, none, none, none, none, none, none, none, none, p, A, S0, [], [], [], rfl, hAt, Pl.zero hok.lim, Nat.le_refl _⟩ ?_ ?_
      · clear hAt
        rintro i σ H0 hi ⟨v10, v11, v12, v13, v14, v15, v16, v17, v18, v19, v20, v21, v22, v23, v24, p, A, S, te, R, wl, rfl, hAt, hPl, hte⟩
        -- for j in range(next(pot, 3)): state = next_height(state)
        refine ⟨_, rfl, d.lp, d.ls, d.ns, 3, rfl, hAt.pot, by decide, by decide, fun H1 x1 k1 pot1 h10 h13 => ⟨_, rfl, by omega, by omega, ?_⟩⟩
        have hAt1 := hAt.next hok k1 pot1
        have hi40 : i < 40 := by omega
        refine for_range (lo := 0) (n := x1.toNat) (fun j σ H2 => ∃ (v11 : Option V) (p : Addr) (A : SA) (S : SS), σ = [some (.ref a), some (.ref d.lp), some (.int d.lim), some (.int d.win), some (.ref d.ga), some (.ref d.c), some (.ref d.n), some (.ref p), some (.ref d.pa), some (.ref d.wa), some (.int (0 + (i : Int))), v11, v12, v13, v14, v15, v16, v17, v18, v19, v20, v21, v22, v23, v24] ∧ At w K d H2 p A S te R wl ∧ Pl d i i ((2 * i + j : Nat) : Int) S R wl)
          ⟨v11, p, A, S, rfl, hAt1, hPl⟩ ?_ ?_
        · rintro j σ H2 hj ⟨v11, p, A, S, rfl, hAt, hPl⟩
          refine ⟨_, rfl, p, d.c, d.ga, d.lim, d.win, A, S, rfl, hAt.cfg, hAt.st, by have := hPl.nb; omega, fun H3 p' A' s3 fp fA hS => ?_⟩
          refine ⟨_, p', A', _, rfl, (hAt.mono s3).state hS (hAt.sxNew fA), ?_⟩
          have e : ((2 * i + (j + 1) : Nat) : Int) = ((2 * i + j : Nat) : Int) + 1 := by omega
          rw [e]
          exact hPl.high
        · clear hAt1 hAt hPl
          rintro σ H2 ⟨v11, p, A, S, rfl, hAt, hPl⟩
          have hPl := hPl.hbLe (hb' := ((2 * (i + 1) : Nat) : Int)) (by omega)
          -- the transfer
          refine ⟨(by show 3 ≤ sizeLine; decide), fun l1 hl1 => ?_⟩
          refine ⟨_, rfl, d.lp, d.ls, d.ns, 3, rfl, hAt.pot.mono (same_new hl1), by decide, by decide, fun H3 x3 k3 pot3 h30 h33 => ?_⟩
          obtain ⟨At3, e3⟩ := hAt.lit hok hl1 k3 pot3
          obtain ⟨tok, htok, hist⟩ : ∃ t : Str, atI [V.str "coin", V.str "coin", V.str "gold"] x3 = some (.str t) ∧ isTok t := by
            have c : x3 = 0 ∨ x3 = 1 ∨ x3 = 2 := by omega
            rcases c with rfl | rfl | rfl
            · exact ⟨_, rfl, .inl rfl⟩
            · exact ⟨_, rfl, .inl rfl⟩
            · exact ⟨_, rfl, .inr rfl⟩
          refine ⟨l1, _, x3, _, rfl, rfl, SqL.of e3, htok, ?_⟩
          refine ⟨_, rfl, (by show 3 ≤ sizeLine; decide), fun l2 hl2 => ?_⟩
          refine ⟨_, rfl, d.lp, d.ls, d.ns, 3, rfl, At3.pot.mono (same_new hl2), by decide, by decide, fun H4 x4 k4 pot4 h40 h43 => ?_⟩
          obtain ⟨At4, e4⟩ := At3.lit hok hl2 k4 pot4
          obtain ⟨m, hm, hm1, hm7⟩ : ∃ m : Int, atI [V.int 3, V.int 30, V.int 700] x4 = some (.int m) ∧ 1 ≤ m ∧ m ≤ 700 := by
            have c : x4 = 0 ∨ x4 = 1 ∨ x4 = 2 := by omega
            rcases c with rfl | rfl | rfl
            · exact ⟨_, rfl, by decide, by decide⟩
            · exact ⟨_, rfl, by decide, by decide⟩
            · exact ⟨_, rfl, by decide, by decide⟩
          refine ⟨l2, _, x4, _, rfl, rfl, SqL.of e4, hm, d.lp, d.ls, d.ns, m, rfl, pot4, hm1, by omega, fun H5 x5 k5 pot5 h50 h51 => ⟨_, _, rfl, rfl, ?_⟩⟩
          have At5 := At4.next hok k5 pot5
          refine ⟨_, rfl, p, A.dx, _, rfl, At5.st.ob, sf_no_height, p, d.c, d.ga, A, S, rfl, At5.st, ?_⟩
          refine ⟨_, rfl, d.lp, d.ls, d.ns, 6, rfl, pot5, by decide, by decide, fun H6 x6 k6 pot6 h60 h66 => ⟨_, _, rfl, rfl, (by show 2 ≤ sizeLine; decide), fun l3 hl3 => ?_⟩⟩
          have At6 := At5.next hok k6 pot6
          refine ⟨_, rfl, d.lp, d.ls, d.ns, 2, rfl, At6.pot.mono (same_new hl3), by decide, by decide, fun H7 x7 k7 pot7 h70 h72 => ?_⟩
          obtain ⟨At7, e7⟩ := At6.lit hok hl3 k7 pot7
          obtain ⟨dl, hdl, hdl0⟩ : ∃ m : Int, atI [V.int 900, V.int (S.high + x6)] x7 = some (.int m) ∧ 0 ≤ m := by
            have := hPl.hi.1
            have c : x7 = 0 ∨ x7 = 1 := by omega
            rcases c with rfl | rfl
            · exact ⟨_, rfl, by decide⟩
            · exact ⟨_, rfl, by omega⟩
          refine ⟨l3, _, x7, _, rfl, rfl, SqL.of e7, hdl, (by show 6 ≤ sizeLine; decide), fun ta hta => ?_⟩
          obtain ⟨t, ht⟩ : ∃ t : Tr, t = ⟨tok, 1 + x5, dl⟩ := ⟨_, rfl⟩
          have gt : GoodTr t := by
            rw [ht]
            exact ⟨hist, ⟨show 1 ≤ 1 + x5 by omega, show 1 + x5 ≤ 700 by omega⟩, hdl0⟩
          have et : trV t = [.str tok, .int (1 + x5), .int 0, .str "ann", .str "bob", .int dl] := by
            rw [ht] <;> rfl
          have s8 : Same H7 (upd H7 ta (.tup (trV t))) := same_new hta
          have e8 : upd H7 ta (.tup (trV t)) ta = some (.tup (trV t)) := upd_same
          have At8 := At7.mono s8
          rw [et] at s8 e8 At8
          obtain ⟨H8, hH8⟩ : ∃ H8, H8 = upd H7 ta (.tup [.str tok, .int (1 + x5), .int 0, .str "ann", .str "bob", .int dl]) := ⟨_, rfl⟩
          rw [← hH8] at s8 e8 At8
          rw [← et] at e8
          show (tSeq _ _) _ _ _
          rw [← hH8]
          -- waiting.append(..)
          refine ⟨_, rfl, .inl ⟨rfl, _, SqL.of At8.wa⟩, _, rfl, _, rfl, (by show 4 ≤ sizeLine; decide), fun la hla => ?_⟩
          obtain ⟨L0, hL0⟩ : ∃ L : Le, L = ⟨la, ta, 0 + (i : Int), t⟩ := ⟨_, rfl⟩
          have s9 : Same H8 (upd H8 la (.tup [.str "deliver", .str "east", .int (0 + (i : Int)), .ref ta])) := same_new hla
          have At9 := At8.mono s9
          have hLe9 : LeAt (upd H8 la (.tup [.str "deliver", .str "east", .int (0 + (i : Int)), .ref ta])) L0 := by
            rw [hL0]
            exact ⟨upd_same, s9 _ _ e8⟩
          refine ⟨d.wa, _, _, rfl, rfl, At9.wa, ?_, ?_⟩
          · rw [List.length_map]
            have := hPl.wz
            exact Nat.lt_of_le_of_lt (show wl.length ≤ 40 by omega) (by decide)
          have ew : wl.map (fun L => V.ref L.a) ++ [V.ref la] = (wl ++ [L0]).map (fun L => V.ref L.a) := by
            rw [List.map_append, hL0] <;> rfl
          rw [ew]
          have At10 := At9.setWa hok (wl ++ [L0]) (fun L' h' => (List.mem_append.mp h').elim (At9.le L') (fun h' => List.mem_singleton.mp h' ▸ hLe9))
          have hPl2 := hPl.push (L := L0) (by rw [hL0]; exact ⟨show 0 ≤ 0 + (i : Int) by omega, gt⟩) (by rw [hL0]; show 0 + (i : Int) = i; omega)
          obtain ⟨wl2, hwl2⟩ : ∃ l, l = wl ++ [L0] := ⟨_, rfl⟩
          have hwl2n : 1 ≤ wl2.length := by
            rw [hwl2, List.length_append]
            exact Nat.le_add_left _ _
          rw [← hwl2] at At10 hPl2 ⊢
          obtain ⟨H10, hH10⟩ : ∃ H10, H10 = upd (upd H8 la (.tup [.str "deliver", .str "east", .int (0 + (i : Int)), .ref ta])) d.wa (.lst (wl2.map fun L => V.ref L.a)) := ⟨_, rfl⟩
          rw [← hH10] at At10 ⊢
          -- letter = waiting[next(pot, len(waiting))]
          have hwz := hPl2.wz
          refine ⟨_, rfl, _, rfl, _, rfl, d.wa, _, rfl, .inl (SqL.of At10.wa), d.lp, d.ls, d.ns, _, rfl, At10.pot, (by rw [List.length_map]; omega), (by rw [List.length_map]; omega), fun H11 x11 k11 pot11 h110 h111 => ?_⟩
          rw [List.length_map] at h111
          have At11 := At10.next hok k11 pot11
          obtain ⟨j, rfl⟩ : ∃ j : Nat, x11 = j := ⟨x11.toNat, (Int.toNat_of_nonneg h110).symm⟩
          have hj : j < wl2.length := by omega
          obtain ⟨L, hL⟩ : ∃ L, wl2[j]? = some L := ⟨wl2[j], List.getElem?_eq_getElem hj⟩
          have hLm := List.mem_of_getElem? hL
          obtain ⟨gL, kL, nL⟩ := hPl2.good L hLm
          refine ⟨d.wa, _, _, _, rfl, rfl, SqL.of At11.wa, atI_nat (by rw [List.getElem?_map, hL] <;> rfl), ?_⟩
          -- the seals
          refine ⟨_, rfl, d.ga, rfl, ⟨_, SqT.of At11.gs.1⟩, fun D hD => lc_tup (K := K) (a := d.ga) (xs := d.gs.map fun g => V.ref g.1) (fun j H2 => ∃ (te' : Te) (is : List Nat), KB2 d.lt d.dn H11 H2 ∧ NotAt w K H2 d.n d.lt d.dn te' ∧ H2 D = some (.lst (is.map fun i => V.int (i : Nat))) ∧ is.length = j ∧ te'.length ≤ te.length + j ∧
              ∀ (q i : Nat) (g : Addr × Str × Int), is[q]? = some i → d.gs[q]? = some g → ∃ e, te'[i]? = some e ∧ e.2.1 = g.2.1 ∧ e.2.2.k = L.k ∧ e.2.2.t = L.t)
            ⟨te, [], fun b o e _ _ => same_new hD _ _ e, At11.no.mono (same_new hD), upd_same, rfl, Nat.le_refl _, (fun q i g h => by cases h)⟩ ?_ ?_ ?_⟩
          · rintro j2 H2 hj2 ⟨te', is, kb, no, hD2, _⟩
            exact SqT.of (At11.seal hok kb no).gs.1
          · rintro j2 y H2 hj2 ⟨te', is, kb, no, hD2, hil, htl, hie⟩
            obtain ⟨g, hg, rfl⟩ := get_map hj2
            have At2 := At11.seal hok kb no
            obtain ⟨⟨dxn, hn⟩, _⟩ := id no
            have hp := At2.gs.2 g (List.mem_of_getElem? hg)
            have hg3 := hok.g3
            have hjl := lt_of_get hg
            refine ⟨rfl, _, rfl, d.n, dxn, _, rfl, hn, nf_no_seal, _, rfl, _, _, _, _, rfl, rfl, SqT.of hp, at0 rfl, _, rfl, d.n, d.lt, d.dn, te', g.2.1, L, rfl, no, At2.le L hLm, gL, by omega, fun H3 te3 idx e kb3 no3 hl3 hpre hidx e1 e2 e3 => ?_⟩
            have n_lt : D ≠ d.lt := fun z => At11.nX hD (.inr (.inl z))
            have n_dn : D ≠ d.dn := fun z => At11.nX hD (.inr (.inr (.inl z)))
            have hD3 := kb3 _ _ hD2 n_lt n_dn
            have kD : KB D H3 (upd H3 D (.lst (is.map (fun i => V.int (i : Nat)) ++ [V.int idx]))) := (KB.refl _ _).own
            refine ⟨_, hD3, ?_, te3, is ++ [idx], fun b o e n1 n2 => kD _ _ (kb3 _ _ (kb _ _ e n1 n2) n1 n2) (ne_of_none e hD), no3.kbL kD hD3 n_lt.symm (kD.tup hD3), ?_, ?_, by omega, ?_⟩
            · rw [List.length_map]
              exact Nat.lt_of_le_of_lt (show is.length ≤ 7 by omega) (by decide)
            · rw [List.map_append]
              exact upd_same
            · rw [List.length_append, hil] <;> rfl
            · intro q2 i2 g2 h1 h2
              by_cases hq : q2 < is.length
              · rw [List.getElem?_append_left hq] at h1
                obtain ⟨e', he', r⟩ := hie q2 i2 g2 h1 h2
                exact ⟨e', hpre _ _ he', r⟩
              · have hq2 := lt_of_get h1
                rw [List.length_append] at hq2
                have e0 : q2 = is.length := by
                  have : ([idx] : List Nat).length = 1 := rfl
                  omega
                rw [e0, List.getElem?_append_right (Nat.le_refl _), Nat.sub_self] at h1
                cases h1
                rw [e0, hil, hg] at h2
                cases h2
                exact ⟨e, hidx, e1, e2, e3⟩
          rintro H12 ⟨te2, is, kb, no, hD12, hil, htl, hie⟩
          have At12 := At11.seal hok kb no
          refine ⟨D, _, rfl, .inl ⟨SqL.of hD12, fun sa hsa => ?_⟩⟩
          have s13 := same_new (u := .tup (is.map fun i => V.int (i : Nat))) hsa
          have At13 := At12.mono s13
          rw [List.length_map] at hil htl
          have hte2 : te2.length ≤ 3 * (i + 1) := by
            have := hok.g3
            omega
          have hsl : SlAt (upd H12 sa (.tup (is.map fun i => V.int (i : Nat)))) sa d.gs L te2 := ⟨is, upd_same, hil, hie⟩
          obtain ⟨H13, hH13⟩ : ∃ H13, H13 = upd H12 sa (.tup (is.map fun i => V.int (i : Nat))) := ⟨_, rfl⟩
          rw [← hH13] at At13 hsl ⊢
          -- found = _law_try(..)
          refine ⟨fun σ H => ∃ (v11 v12 v14 v16 v17 v18 v19 v20 v21 v22 v23 v24 : Option V) (v : V), σ = [some (.ref a), some (.ref d.lp), some (.int d.lim), some (.int d.win), some (.ref d.ga), some (.ref d.c), some (.ref d.n), some (.ref p), some (.ref d.pa), some (.ref d.wa), some (.int (0 + (i : Int))), v11, v12, some (.ref L.a), v14, some v, v16, v17, v18, v19, v20, v21, v22, v23, v24] ∧ At w K d H p A S te2 R wl2 ∧ Fnd K d H S L v, ?_, ?_⟩
          · refine ⟨_, rfl, _, rfl, _, rfl, _, rfl, _, rfl, (by show 4 ≤ sizeLine; decide), fun od hod => ?_⟩
            have s14 := same_new (u := .tup (odV "bob" L sa)) hod
            have At14 := At13.mono s14
            refine ⟨d.n, d.lt, d.dn, p, d.c, d.ga, sa, od, d.lim, d.win, A, S, te2, d.gs, L, "bob", rfl, upd_same, At14.cfg, At14.no, At14.st, hPl2.sok (by omega), At14.le L hLm, gL, At14.gs, hok.gs, (by have := hok.gw; omega), hsl.mono s14, nL, ?_, ?_, ?_⟩
            · intro g1 g2 H' s'
              exact ⟨_, _, _, _, _, _, _, _, _, _, _, _, _, rfl, At14.mono s', .inr (.inl ⟨g1, g2, rfl⟩)⟩
            · rintro g1 v H' ⟨q, le, f, p', A', rfl, s', e1, e2, e3, fp, fA, hS⟩
              exact ⟨_, _, _, _, _, _, _, _, _, _, _, _, _, rfl, At14.mono s', .inl ⟨g1, q, le, f, p', A', rfl, e1, e2, e3, hS, At14.sxNew fA⟩⟩
            · rintro g1 g2 r v H' ⟨q, le, f, p', A', rfl, s', e1, e2, e3, fp, fA, hS⟩
              exact ⟨_, _, _, _, _, _, _, _, _, _, _, _, _, rfl, At14.mono s', .inr (.inr ⟨g1, g2, r, q, le, f, p', A', rfl, e1, e2, e3, hS, At14.sxNew fA⟩)⟩
          clear At13 At12 hsl s13
          rintro σ H14 ⟨v11, v12, v14, v16, v17, v18, v19, v20, v21, v22, v23, v24, v, rfl, hAt, hF⟩
          have hLe := hAt.le L hLm
          -- token, units = letter[3][:2]
          refine ⟨_, rfl, _, _, _, _, rfl, rfl, SqT.of hLe.1, at3 rfl, _, rfl, L.ta, _, rfl, SqT.of hLe.2, fun z => absurd z.2 (by show ¬ ((2 : Nat) = 6); decide), fun o2 ho2 => ?_⟩
          have s15 : Same H14 (upd H14 o2 (.tup (cutV (trV L.t) none (some 2)))) := same_new ho2
          have e15 : upd H14 o2 (.tup (cutV (trV L.t) none (some 2))) o2 = some (.tup [.str L.t.tok, .int L.t.un]) := upd_same
          have At15 := hAt.mono s15
          have F15 := hF.mono s15
          obtain ⟨H15, hH15⟩ : ∃ H15, H15 = upd H14 o2 (.tup (cutV (trV L.t) none (some 2))) := ⟨_, rfl⟩
          rw [← hH15] at s15 e15 At15 F15 ⊢
          refine ⟨o2, _, rfl, SqT.of e15, rfl, _, _, rfl, _, _, rfl, rfl, ?_⟩
          -- recent = sum(..)
          have hR40 : R.length ≤ 40 := by
            have h1 := congrArg List.length hPl2.rel
            rw [List.length_map, List.length_map] at h1
            have := hPl2.pl
            omega
          refine ⟨_, rfl, d.pa, rfl, ⟨_, SqL.of At15.pa⟩, fun D hD => lc_list (K := K) (a := d.pa) (xs := R.map fun r => V.ref r.1)
            (fun i H2 => Same H15 H2 ∧ H2 D = some (.lst ((((R.take i).filter fun r => decide (r.2.2.1 = L.t.tok) && decide (S.high - d.win < r.2.1)).map (·.2.2.2)).map V.int)))
            ⟨same_new hD, upd_same⟩ (fun i H2 _ ⟨s2, _⟩ => SqL.of (s2 _ _ At15.pa)) ?_ ?_⟩
          · rintro i2 y H2 hi2 ⟨s2, hD2⟩
            obtain ⟨r, hr', rfl⟩ := get_map hi2
            have hp := s2 _ _ (At15.rows r (List.mem_of_getElem? hr'))
            have St2 := At15.st.mono s2
            refine ⟨rfl, ?_⟩
            have fin : ∀ (b : Bool) (σ : L2.St), (decide (r.2.2.1 = L.t.tok) && decide (S.high - d.win < r.2.1)) = b → σ[24]? = some (some (.ref r.1)) → if b = true then
                (tOp (rIxT K) (tVar 24) (tC (.int 2))) σ H2 fun y H4 => ∃ acc, H4 D = some (.lst acc) ∧ acc.length < sizeLine ∧ Same H15 (upd H4 D (.lst (acc ++ [y]))) ∧ (upd H4 D (.lst (acc ++ [y]))) D = some (.lst ((((R.take (i2 + 1)).filter fun r => decide (r.2.2.1 = L.t.tok) && decide (S.high - d.win < r.2.1)).map (·.2.2.2)).map V.int))
              else Same H15 H2 ∧ H2 D = some (.lst ((((R.take (i2 + 1)).filter fun r => decide (r.2.2.1 = L.t.tok) && decide (S.high - d.win < r.2.1)).map (·.2.2.2)).map V.int)) := by
              intro b σ hb hσ
              cases b with
              | true =>
                refine iteT ⟨_, hσ, _, _, _, _, rfl, rfl, SqT.of hp, at2 rfl, _, hD2, ?_, same_upd s2 hD, ?_⟩
                · rw [List.length_map, List.length_map]
                  refine Nat.lt_of_le_of_lt (List.length_filter_le _ _) ?_
                  rw [List.length_take]
                  exact Nat.lt_of_le_of_lt (Nat.min_le_right _ _) (Nat.lt_of_le_of_lt hR40 (by decide))
                · rw [take_get hr', List.filter_append, List.filter_cons, if_pos hb, List.filter_nil, List.map_append, List.map_append]
                  exact upd_same
              | false =>
                refine iteF ⟨s2, ?_⟩
                rw [take_get hr', List.filter_append, List.filter_cons, if_neg (by rw [hb]; decide), List.filter_nil, List.append_nil]
                exact hD2
            by_cases g1 : r.2.2.1 = L.t.tok
            · refine ⟨_, rfl, _, _, _, _, rfl, rfl, SqT.of hp, at1 rfl, _, rfl, rfl, true, congrArg V.bl (decide_eq_true (congrArg V.str g1)), iteT ?_⟩
              by_cases g2 : S.high - d.win < r.2.1
              · refine ⟨_, rfl, _, _, _, _, rfl, rfl, SqT.of hp, at0 rfl, _, rfl, p, A.dx, _, rfl, St2.ob, sf_no_height, p, d.c, d.ga, A, S, rfl, St2, _, rfl, _, _, rfl, rfl, _, _, rfl, rfl, true, congrArg V.bl (decide_eq_true g2), ?_⟩
                exact fin true _ (by rw [decide_eq_true g1, decide_eq_true g2] <;> rfl) rfl
              · refine ⟨_, rfl, _, _, _, _, rfl, rfl, SqT.of hp, at0 rfl, _, rfl, p, A.dx, _, rfl, St2.ob, sf_no_height, p, d.c, d.ga, A, S, rfl, St2, _, rfl, _, _, rfl, rfl, _, _, rfl, rfl, false, congrArg V.bl (decide_eq_false g2), ?_⟩
                exact fin false _ (by rw [decide_eq_true g1, decide_eq_false g2] <;> rfl) rfl
            · refine ⟨_, rfl, _, _, _, _, rfl, rfl, SqT.of hp, at1 rfl, _, rfl, rfl, false, congrArg V.bl (decide_eq_false (fun e => g1 (V.str.inj e))), iteF ?_⟩
              exact fin false _ (by rw [decide_eq_false g1] <;> rfl) rfl
          rintro H16 ⟨s16, hD16⟩
          refine ⟨D, _, rfl, SqL.of hD16, ?_⟩
          rw [List.length_map, List.take_length]
          have At16 := At15.mono s16
          have F16 := F15.mono s16
          -- most
          refine ⟨_, rfl, (by show 2 ≤ sizeLine; decide), fun l4 hl4 => ?_⟩
          refine ⟨_, rfl, rfl, .inr ⟨_, rfl, l4, _, _, _, rfl, rfl, SqL.of upd_same, lim_at d.lim gL.t.tok, ?_⟩⟩
          have s17 := same_new (u := .lst [V.int d.lim, V.int 1000]) hl4
          have At17 := At16.mono s17
          have F17 := F16.mono s17
          obtain ⟨H17, hH17⟩ : ∃ H17, H17 = upd H16 l4 (.lst [V.int d.lim, V.int 1000]) := ⟨_, rfl⟩
          rw [← hH17] at s17 At17 F17 ⊢
          have hLe17 := At17.le L hLm
          have hrec := recent_psq R (S.high - d.win) L.t.tok
          have hbey := bey_iff hPl2 L.t.tok L.t.un
          rw [← hrec] at hbey
          refine ⟨fun σ H => ∃ (v11 v12 v14 v16 v17 v18 v19 v20 v21 v22 v23 v24 : Option V) (v : V) (R' : Pa), σ = [some (.ref a), some (.ref d.lp), some (.int d.lim), some (.int d.win), some (.ref d.ga), some (.ref d.c), some (.ref d.n), some (.ref p), some (.ref d.pa), some (.ref d.wa), some (.int (0 + (i : Int))), v11, v12, some (.ref L.a), v14, some v, v16, v17, v18, v19, v20, v21, v22, v23, v24] ∧ At w K d H p A S te2 R' wl2 ∧ ((v = .bl true ∧ Pl d (i + 1) (i + 1) ((2 * (i + 1) : Nat) : Int) S R' wl2) ∨
              ∃ (q : Addr) (p' : Addr) (A' : SA) (S' : SS) (x : V), v = .ref q ∧ H q = some (.tup [.ref p', x]) ∧ StAt K H p' A' d.c d.ga S' ∧ SxAt d.X A' ∧ Pl d (i + 1) (i + 1) ((2 * (i + 1) : Nat) : Int) S' R' (wl2.eraseIdx j)), ?_, ?_⟩
          · -- if state.height() > letter[3][5]
            refine ⟨_, rfl, p, A.dx, _, rfl, At17.st.ob, sf_no_height, p, d.c, d.ga, A, S, rfl, At17.st, _, rfl, _, _, _, _, rfl, rfl, SqT.of hLe17.1, at3 rfl, _, _, _, _, rfl, rfl, SqT.of hLe17.2, at5 rfl, _, _, rfl, rfl, ?_⟩
            by_cases g1 : L.t.dl < S.high
            · refine ⟨true, congrArg V.bl (decide_eq_true g1), iteT ?_⟩
              rcases F17 with ⟨_, q, le, f, p', A', rfl, eq, el, ef, hS', hsx⟩ | ⟨n, _⟩ | ⟨n, _⟩
              rotate_left
              · exact absurd g1 n
              · exact absurd g1 n
              refine ⟨_, rfl, true, rfl, .inr ⟨q, rfl, false, rfl, iteF ?_⟩⟩
              refine ⟨_, rfl, false, rfl, .inr ⟨q, rfl, false, rfl, iteF ?_⟩⟩
              refine ⟨_, rfl, _, _, _, _, rfl, rfl, SqT.of eq, at1 rfl, _, rfl, _, _, _, _, rfl, rfl, SqT.of hLe17.1, at2 rfl, _, rfl, _, _, _, _, rfl, rfl, SqT.of hLe17.1, at3 rfl, (by show 3 ≤ sizeLine; decide), fun t5 ht5 => ⟨(by show 1 ≤ sizeLine; decide), fun l5 hl5 => ?_⟩⟩
              have s18 : Same H17 (upd (upd H17 t5 (.tup [.str "refused", .int L.k, .ref L.ta])) l5 (.lst [.ref t5])) := fun b o e => get_old (get_old e ht5) hl5
              have e5 : upd (upd H17 t5 (.tup [.str "refused", .int L.k, .ref L.ta])) l5 (.lst [.ref t5]) t5 = some (.tup [.str "refused", .int L.k, .ref L.ta]) := get_old upd_same hl5
              have e6 : upd (upd H17 t5 (.tup [.str "refused", .int L.k, .ref L.ta])) l5 (.lst [.ref t5]) l5 = some (.lst [.ref t5]) := upd_same
              refine ⟨evD "refused" L.k L.t, evD "refused" L.k L.t, evD_dp (s18 _ _ el) (s18 _ _ ef) (s18 _ _ hLe17.2), evD_dp e6 e5 (s18 _ _ hLe17.2), evD_shaped okT_refused _ gL.t, evD_shaped okT_refused _ gL.t, false, congrArg (fun b => V.bl (!b)) (evD_eqv _ _ _), iteF ?_⟩
              exact ⟨_, _, _, _, _, _, _, _, _, _, _, _, _, R, rfl, At17.mono s18, .inr ⟨q, p', A', _, _, rfl, s18 _ _ eq, hS'.mono s18, hsx, hPl2.refused hL⟩⟩
            · refine ⟨false, congrArg V.bl (decide_eq_false g1), iteF ?_⟩
              refine ⟨_, rfl, _, rfl, _, _, rfl, rfl, _, rfl, _, _, rfl, rfl, ?_⟩
              by_cases g2 : limOf d.lim L.t.tok < ((R.filter fun r => decide (r.2.2.1 = L.t.tok) && decide (S.high - d.win < r.2.1)).map (·.2.2.2)).sum + L.t.un
              · refine ⟨true, congrArg V.bl (decide_eq_true g2), iteT ?_⟩
                rcases F17 with ⟨y, _⟩ | ⟨_, _, rfl⟩ | ⟨_, n, _⟩
                · exact absurd y g1
                · refine ⟨_, rfl, true, rfl, .inl ⟨true, rfl, false, rfl, iteF ?_⟩⟩
                  exact ⟨_, _, _, _, _, _, _, _, _, _, _, _, _, R, rfl, At17, .inl ⟨rfl, hPl2.step⟩⟩
                · exact absurd (hbey.mpr g2) n
              · refine ⟨false, congrArg V.bl (decide_eq_false g2), iteF ?_⟩
                rcases F17 with ⟨y, _⟩ | ⟨_, y, _⟩ | ⟨_, nb, r, q, le, f, p', A', rfl, eq, el, ef, hS', hsx⟩
                · exact absurd y g1
                · exact absurd (hbey.mp y) g2
                refine ⟨_, rfl, true, rfl, .inr ⟨q, rfl, false, rfl, iteF ?_⟩⟩
                refine ⟨_, rfl, false, rfl, .inr ⟨q, rfl, false, rfl, iteF ?_⟩⟩
                refine ⟨_, rfl, _, _, _, _, rfl, rfl, SqT.of eq, at1 rfl, _, rfl, _, _, _, _, rfl, rfl, SqT.of hLe17.1, at2 rfl, _, rfl, _, _, _, _, rfl, rfl, SqT.of hLe17.1, at3 rfl, (by show 3 ≤ sizeLine; decide), fun t5 ht5 => ⟨(by show 1 ≤ sizeLine; decide), fun l5 hl5 => ?_⟩⟩
                have s18 : Same H17 (upd (upd H17 t5 (.tup [.str "delivered", .int L.k, .ref L.ta])) l5 (.lst [.ref t5])) := fun b o e => get_old (get_old e ht5) hl5
                have e5 : upd (upd H17 t5 (.tup [.str "delivered", .int L.k, .ref L.ta])) l5 (.lst [.ref t5]) t5 = some (.tup [.str "delivered", .int L.k, .ref L.ta]) := get_old upd_same hl5
                have e6 : upd (upd H17 t5 (.tup [.str "delivered", .int L.k, .ref L.ta])) l5 (.lst [.ref t5]) l5 = some (.lst [.ref t5]) := upd_same
                refine ⟨evD "delivered" L.k L.t, evD "delivered" L.k L.t, evD_dp (s18 _ _ el) (s18 _ _ ef) (s18 _ _ hLe17.2), evD_dp e6 e5 (s18 _ _ hLe17.2), evD_shaped okT_delivered _ gL.t, evD_shaped okT_delivered _ gL.t, false, congrArg (fun b => V.bl (!b)) (evD_eqv _ _ _), iteF ?_⟩
                have At18 := At17.mono s18
                have eq18 := s18 _ _ eq
                have hS18 := hS'.mono s18
                obtain ⟨H18, hH18⟩ : ∃ H18, H18 = upd (upd H17 t5 (.tup [.str "delivered", .int L.k, .ref L.ta])) l5 (.lst [.ref t5]) := ⟨_, rfl⟩
                rw [← hH18] at At18 eq18 hS18 ⊢
                -- passed.append(..)
                refine ⟨_, rfl, .inl ⟨rfl, _, SqL.of At18.pa⟩, _, rfl, p, A.dx, _, rfl, At18.st.ob, sf_no_height, p, d.c, d.ga, A, S, rfl, At18.st, _, rfl, _, rfl, (by show 3 ≤ sizeLine; decide), fun r2 hr2 => ?_⟩
                have s19 : Same H18 (upd H18 r2 (.tup [.int S.high, .str L.t.tok, .int L.t.un])) := same_new hr2
                have At19 := At18.mono s19
                refine ⟨d.pa, _, _, rfl, rfl, At19.pa, ?_, ?_⟩
                · rw [List.length_map]
                  exact Nat.lt_of_le_of_lt hR40 (by decide)
                have fr : Fr d.X (upd H18 r2 (.tup [.int S.high, .str L.t.tok, .int L.t.un])) (upd (upd H18 r2 (.tup [.int S.high, .str L.t.tok, .int L.t.un])) d.pa (.lst (R.map (fun r => V.ref r.1) ++ [V.ref r2]))) := fun b o e n => get_ne e fun z => n (.inr (.inr (.inr (.inl z))))
                exact ⟨_, _, _, _, _, _, _, _, _, _, _, _, _, _, rfl, At19.pushPa hok (r := r2) (h := S.high) (tok := L.t.tok) (un := L.t.un) upd_same,
                  .inr ⟨q, p', A', _, _, rfl, get_ne (s19 _ _ eq18) (ne_of (s19 _ _ eq18) At19.pa (fun z => nomatch z)), (hS18.mono s19).frame fr hsx At19.nx, hsx, hPl2.delivered hL nb r r2⟩⟩
          clear At17 F17 At16 F16 At15 F15 hAt hF hLe hLe17 hrec hbey
          rintro σ H19 ⟨v11, v12, v14, v16, v17, v18, v19, v20, v21, v22, v23, v24, v, R', rfl, hAt, hcase⟩
          -- if found is not True
          refine ⟨fun σ H => ∃ (v11 v12 v13 v14 v15 v16 v17 v18 v19 v20 v21 v22 v23 v24 : Option V) (p : Addr) (A : SA) (S : SS) (wl' : List Le), σ = [some (.ref a), some (.ref d.lp), some (.int d.lim), some (.int d.win), some (.ref d.ga), some (.ref d.c), some (.ref d.n), some (.ref p), some (.ref d.pa), some (.ref d.wa), some (.int (0 + (i : Int))), v11, v12, v13, v14, v15, v16, v17, v18, v19, v20, v21, v22, v23, v24] ∧ At w K d H p A S te2 R' wl' ∧ Pl d (i + 1) (i + 1) ((2 * (i + 1) : Nat) : Int) S R' wl', ?_, ?_⟩
          · rcases hcase with ⟨rfl, hP⟩ | ⟨q, p', A', S', x, rfl, eq, hS', hsx, hP⟩
            · refine ⟨_, rfl, true, rfl, .inl ⟨true, rfl, false, rfl, iteF ?_⟩⟩
              exact ⟨_, _, _, _, _, _, _, _, _, _, _, _, _, _, p, A, S, wl2, rfl, hAt, hP⟩
            · refine ⟨_, rfl, true, rfl, .inr ⟨q, rfl, true, rfl, iteT ?_⟩⟩
              refine ⟨_, rfl, _, _, _, _, rfl, rfl, SqT.of eq, at0 rfl, ?_⟩
              have hAt' := hAt.state hS' hsx
              refine ⟨_, rfl, .inl ⟨rfl, _, SqL.of hAt'.wa⟩, _, rfl, d.wa, _, .ref L.a, leD L.k L.t, wlD wl2, j, leD L.k L.t, rfl, rfl, hAt'.wa, wlD_dp hAt'.le, (hAt'.le L hLm).dp, wlD_shaped (fun L' h' => (hPl2.good L' h').1), leD_shaped _ gL.t, by rw [wlD, List.getElem?_map, hL] <;> rfl, by rw [leD_eqv] <;> simp, wlD_before hPl2.nd hL, ?_⟩
              rw [← map_erase]
              exact ⟨_, _, _, _, _, _, _, _, _, _, _, _, _, _, p', A', S', _, rfl, hAt'.setWa hok (wl2.eraseIdx j) (fun L' h' => hAt'.le L' (List.mem_of_mem_eraseIdx h')), hP⟩
          clear hAt hcase
          rintro σ H20 ⟨v11, v12, v13, v14, v15, v16, v17, v18, v19, v20, v21, v22, v23, v24, p, A, S, wl', rfl, hAt, hP⟩
          -- for height in range(max(0, state.height() - 6), state.height() + 1)
          obtain ⟨lo, hlo⟩ : ∃ x : Int, x = (if S.high - 6 > (0 : Int) then S.high - 6 else 0) := ⟨_, rfl⟩
          have hlo0 : 0 ≤ lo ∧ lo ≤ S.high := by
            have := hP.hi
            rw [hlo]
            split <;> omega
          have hhi := hP.hi
          refine ⟨_, rfl, p, A.dx, _, rfl, hAt.st.ob, sf_no_height, p, d.c, d.ga, A, S, rfl, hAt.st, _, _, rfl, rfl, _, _, rfl, _, rfl, p, A.dx, _, rfl, hAt.st.ob, sf_no_height, p, d.c, d.ga, A, S, rfl, hAt.st, _, _, rfl, rfl, lo, S.high + 1, congrArg (fun x => [V.int x, V.int (S.high + 1)]) hlo.symm, ⟨by omega, by omega, by omega, by omega⟩, ?_⟩
          have hR40 : R'.length ≤ 41 := by
            have h1 := congrArg List.length hP.rel
            rw [List.length_map, List.length_map] at h1
            have := hP.pl
            omega
          refine for_range (lo := lo) (n := (S.high + 1 - lo).toNat) (fun q σ H2 => ∃ (v11 v12 v13 v14 v15 v16 v17 v18 v19 v20 v21 v22 v23 v24 : Option V), σ = [some (.ref a), some (.ref d.lp), some (.int d.lim), some (.int d.win), some (.ref d.ga), some (.ref d.c), some (.ref d.n), some (.ref p), some (.ref d.pa), some (.ref d.wa), some (.int (0 + (i : Int))), v11, v12, v13, v14, v15, v16, v17, v18, v19, v20, v21, v22, v23, v24] ∧ At w K d H2 p A S te2 R' wl') ⟨v11, v12, v13, v14, v15, v16, v17, v18, v19, v20, v21, v22, v23, v24, rfl, hAt⟩ ?_ ?_
          · clear hAt
            rintro q σ H2 hq ⟨v11, v12, v13, v14, v15, v16, v17, v18, v19, v20, v21, v22, v23, v24, rfl, hAt⟩
            refine ⟨(by show 2 ≤ sizeLine; decide), fun l hl => ?_⟩
            have sl : Same H2 (upd H2 l (.lst [.str "coin", .str "gold"])) := same_new hl
            have el : upd H2 l (.lst [.str "coin", .str "gold"]) l = some (.lst [.str "coin", .str "gold"]) := upd_same
            have At3 := hAt.mono sl
            obtain ⟨H3, hH3⟩ : ∃ H3, H3 = upd H2 l (.lst [.str "coin", .str "gold"]) := ⟨_, rfl⟩
            rw [← hH3] at sl el At3 ⊢
            refine ⟨l, rfl, ⟨_, SqL.of el⟩, for_list (K := K) (a := l) (xs := [.str "coin", .str "gold"]) (fun _ σ H4 => ∃ (v11 v12 v13 v14 v15 v16 v17 v19 v20 v21 v22 v23 v24 : Option V), σ = [some (.ref a), some (.ref d.lp), some (.int d.lim), some (.int d.win), some (.ref d.ga), some (.ref d.c), some (.ref d.n), some (.ref p), some (.ref d.pa), some (.ref d.wa), some (.int (0 + (i : Int))), v11, v12, v13, v14, v15, v16, v17, some (.int (lo + (q : Int))), v19, v20, v21, v22, v23, v24] ∧ Same H3 H4) ⟨v11, v12, v13, v14, v15, v16, v17, v19, v20, v21, v22, v23, v24, rfl, fun _ _ e => e⟩ (fun i2 σ H4 _ ⟨_, _, _, _, _, _, _, _, _, _, _, _, _, _, s4⟩ => SqL.of (s4 _ _ el)) ?_ ?_⟩
            · rintro i2 y σ H4 hi2 ⟨v11, v12, v13, v14, v15, v16, v17, v19, v20, v21, v22, v23, v24, rfl, s4⟩
              obtain ⟨nm, rfl, hnm⟩ : ∃ nm : Str, y = .str nm ∧ isTok nm := by
                match i2, hi2 with
                | 0, h =>
                  cases h
                  exact ⟨_, rfl, .inl rfl⟩
                | 1, h =>
                  cases h
                  exact ⟨_, rfl, .inr rfl⟩
                | i2 + 2, h => cases h
              have At4 := At3.mono s4
              obtain ⟨x, hx⟩ : ∃ x : Int, x = lo + (q : Int) := ⟨_, rfl⟩
              -- rows
              refine ⟨_, rfl, d.pa, rfl, ⟨_, SqL.of At4.pa⟩, fun D hD => lc_list (K := K) (a := d.pa) (xs := R'.map fun r => V.ref r.1)
                (fun i H5 => Same H4 H5 ∧ H5 D = some (.lst ((((R'.take i).filter fun r => decide (r.2.2.1 = nm) && (decide ((lo + (q : Int)) - d.win < r.2.1) && decide (r.2.1 ≤ (lo + (q : Int))))).map (·.2.2.2)).map V.int)))
                ⟨same_new hD, upd_same⟩ (fun i H5 _ ⟨s5, _⟩ => SqL.of (s5 _ _ At4.pa)) ?_ ?_⟩
              · rintro i3 y H5 hi3 ⟨s5, hD5⟩
                obtain ⟨r, hr', rfl⟩ := get_map hi3
                have hp := s5 _ _ (At4.rows r (List.mem_of_getElem? hr'))
                refine ⟨rfl, ?_⟩
                have fin : ∀ (b : Bool) (σ : L2.St), (decide (r.2.2.1 = nm) && (decide ((lo + (q : Int)) - d.win < r.2.1) && decide (r.2.1 ≤ (lo + (q : Int))))) = b → σ[24]? = some (some (.ref r.1)) → if b = true then
                    (tOp (rIxT K) (tVar 24) (tC (.int 2))) σ H5 fun y H6 => ∃ acc, H6 D = some (.lst acc) ∧ acc.length < sizeLine ∧ Same H4 (upd H6 D (.lst (acc ++ [y]))) ∧ (upd H6 D (.lst (acc ++ [y]))) D = some (.lst ((((R'.take (i3 + 1)).filter fun r => decide (r.2.2.1 = nm) && (decide ((lo + (q : Int)) - d.win < r.2.1) && decide (r.2.1 ≤ (lo + (q : Int))))).map (·.2.2.2)).map V.int))
                  else Same H4 H5 ∧ H5 D = some (.lst ((((R'.take (i3 + 1)).filter fun r => decide (r.2.2.1 = nm) && (decide ((lo + (q : Int)) - d.win < r.2.1) && decide (r.2.1 ≤ (lo + (q : Int))))).map (·.2.2.2)).map V.int)) := by
                  intro b σ hb hσ
                  cases b with
                  | true =>
                    refine iteT ⟨_, hσ, _, _, _, _, rfl, rfl, SqT.of hp, at2 rfl, _, hD5, ?_, same_upd s5 hD, ?_⟩
                    · rw [List.length_map, List.length_map]
                      refine Nat.lt_of_le_of_lt (List.length_filter_le _ _) ?_
                      rw [List.length_take]
                      exact Nat.lt_of_le_of_lt (Nat.min_le_right _ _) (Nat.lt_of_le_of_lt hR40 (by decide))
                    · rw [take_get hr', List.filter_append, List.filter_cons, if_pos hb, List.filter_nil, List.map_append, List.map_append]
                      exact upd_same
                  | false =>
                    refine iteF ⟨s5, ?_⟩
                    rw [take_get hr', List.filter_append, List.filter_cons, if_neg (by rw [hb]; decide), List.filter_nil, List.append_nil]
                    exact hD5
                by_cases g1 : r.2.2.1 = nm
                · refine ⟨_, rfl, _, _, _, _, rfl, rfl, SqT.of hp, at1 rfl, _, rfl, rfl, true, congrArg V.bl (decide_eq_true (congrArg V.str g1)), iteT ?_⟩
                  by_cases g2 : (lo + (q : Int)) - d.win < r.2.1
                  · refine ⟨_, rfl, _, rfl, _, _, rfl, rfl, _, rfl, _, _, _, _, rfl, rfl, SqT.of hp, at0 rfl, _, _, rfl, rfl, true, congrArg V.bl (decide_eq_true g2), iteT ?_⟩
                    by_cases g3 : r.2.1 ≤ (lo + (q : Int))
                    · refine ⟨_, rfl, _, _, rfl, rfl, true, congrArg V.bl (decide_eq_true g3), ?_⟩
                      exact fin true _ (by rw [decide_eq_true g1, decide_eq_true g2, decide_eq_true g3] <;> rfl) rfl
                    · refine ⟨_, rfl, _, _, rfl, rfl, false, congrArg V.bl (decide_eq_false g3), ?_⟩
                      exact fin false _ (by rw [decide_eq_true g1, decide_eq_true g2, decide_eq_false g3] <;> rfl) rfl
                  · refine ⟨_, rfl, _, rfl, _, _, rfl, rfl, _, rfl, _, _, _, _, rfl, rfl, SqT.of hp, at0 rfl, _, _, rfl, rfl, false, congrArg V.bl (decide_eq_false g2), iteF ?_⟩
                    exact ⟨false, rfl, fin false _ (by rw [decide_eq_true g1, decide_eq_false g2] <;> rfl) rfl⟩
                · refine ⟨_, rfl, _, _, _, _, rfl, rfl, SqT.of hp, at1 rfl, _, rfl, rfl, false, congrArg V.bl (decide_eq_false (fun e => g1 (V.str.inj e))), iteF ?_⟩
                  exact fin false _ (by rw [decide_eq_false g1] <;> rfl) rfl
              · rintro H5 ⟨s5, hD5⟩
                have hwin := hP.win.ok (lo + (q : Int)) nm hnm
                rw [← rows_wsq] at hwin
                rw [List.length_map, List.take_length] at hD5
                refine ⟨_, rfl, D, _, rfl, SqL.of hD5, _, rfl, (by show 2 ≤ sizeLine; decide), fun l4 hl4 => ?_⟩
                refine ⟨_, rfl, rfl, .inr ⟨_, rfl, l4, _, _, _, rfl, rfl, SqL.of upd_same, lim_at d.lim hnm, _, _, rfl, rfl, false, congrArg V.bl (decide_eq_false (by omega)), iteF ?_⟩⟩
                exact ⟨_, _, _, _, _, _, _, _, _, _, _, _, _, rfl, fun b o e => same_new hl4 _ _ (s5 _ _ (s4 _ _ e))⟩
            · rintro σ H4 ⟨v11, v12, v13, v14, v15, v16, v17, v19, v20, v21, v22, v23, v24, rfl, s4⟩
              exact ⟨_, _, _, _, _, _, _, _, _, _, _, _, _, _, rfl, At3.mono s4⟩
          · rintro σ H2 ⟨v11, v12, v13, v14, v15, v16, v17, v18, v19, v20, v21, v22, v23, v24, rfl, hAt⟩
            exact ⟨_, _, _, _, _, _, _, _, _, _, _, _, _, _, _, p, A, S, te2, R', wl', rfl, hAt, hP, hte2⟩
      · rintro σ H1 ⟨v10, v11, v12, v13, v14, v15, v16, v17, v18, v19, v20, v21, v22, v23, v24, p, A, S, te, R, wl, rfl, hAt, hPl, hte⟩
        exact q _
end
end Vb
set_option Elab.async false
set_option linter.all false
set_option maxRecDepth 100000
set_option maxHeartbeats 0
/-! the end: the head, the facts, the law -/
namespace Vb
open PySem PySem.Spec PyProof.Rows L2
theorem txt_of {w : World} {K : PySem.W.Frag} {h : Heap} {mg : Str → Option Value} (X : K.In h) (G : h.Ns mainGlobals mg) (c : He.SaysT fa fn tabs w K) (e : exB K = true) : Txt w K mg where
  glo := fun z => He.glo_ok X G z
  fre := fun z => He.free_ok X G z
  int := fun z => He.int_ok X G z
  fac := fun i {f} hf => c.d.fact i hf
  dfn := fun i {d} hd => c.d.def_ i hd
  tab := c.tab 0 (t := ((fun K => He.ga K "FORMS"), forms.map (·.1))) rfl
  ex := e
theorem facts {P : Program} {w : World} {K : PySem.W.Frag} {h : Heap} {mg : Str → Option Value} {f : Addr} (X : K.In h) (G : h.Ns mainGlobals mg) (hfa : mg ("law" : Str) = some (.ref f)) (c : He.SaysT fa fn tabs w K) (e : exB K = true) :
    ∃ fd : FuncData, (∀ (s : Shared) (v : Value), BindsTo s fd ⟨[v], []⟩ [("_law_script", v)]) ∧ ∀ base : Heap, K.In base → base.Ns mainGlobals mg → FnOk P w K mg base CX0 12 f fd ["_law_script"] (spLawD K) := by
  have T := txt_of X G c e
  obtain ⟨fd0, F⟩ := c.d.def_ 45 (d := d_law) rfl
  have eg := hfa.symm.trans T.g_law
  cases eg
  have F' : FunD K d_law.name d_law.qual d_law.params d_law.body d_law.scope [] [] (He.fAd K d_law.at_) fd0 := F
  have b := FunD.bindsA (ps := ["_law_script"]) F' fun _ _ _ _ _ _ us hl => match us, hl with | [_], _ => rfl
  refine ⟨fd0, fun s v => b s [v] rfl, fun base _ _ => ?_⟩
  exact ok_law T F
end Vb
open PySem PySem.W PySem.Calls PyProof.Rows
theorem PySem.Challenge.cw_vaultbridge_k95_whole_limits_holds : PySem.Challenge.rw_vaultbridge_k95_whole_limits.Holds := by
  w_on; o_law
  refine HandSHeadRun.head_any (r := OpenLaw.row PySem.Challenge.rw_vaultbridge_k95_whole_limits) (q := view (OpenLaw.row PySem.Challenge.rw_vaultbridge_k95_whole_limits).prog [81]) (H := Vb.hk) (ob := Vb.ob) (M := 9000) (loose := Vb.nms)
    (d := HandSHeadRun.topDef (OpenLaw.row PySem.Challenge.rw_vaultbridge_k95_whole_limits).prog 81) (kwd := []) Vb.ob_eq
    (by kernel_rfl) (fun s => by kernel_rfl) Vb.run (by kernel_rfl) (by kernel_rfl) (by kernel_rfl) (by rfl) (by first | assumption | decide +kernel) (by decide +kernel) ⟨rfl, rfl, rfl, rfl, rfl, by decide +kernel⟩ ?hw ?hc
  case hw => w_witness2
  case hc =>
    refine L2.walk_ofE (l := PySem.Challenge.rw_vaultbridge_k95_whole_limits) (n := 63) (k := 12) (x := "_law_script") (CX := L2.CX0) rfl (by decide) (by kernel_rfl) ⟨rfl, by decide, by decide⟩ ?F (fun _ _ _ _ z => z)
    intro w mg fa h Y G hmg0
    obtain ⟨K, KX, c, e⟩ := Y
    have hmg : mg ("law" : PySem.Str) = some (.ref fa) := by
      have e : (HandSHeadRun.topDef (OpenLaw.row PySem.Challenge.rw_vaultbridge_k95_whole_limits).prog 81).name = ("law" : PySem.Str) := by kernel_rfl
      rw [← e]
      exact hmg0
    obtain ⟨fd, hb, hF⟩ := Vb.facts (P := (PySem.Challenge.rw_vaultbridge_k95_whole_limits).prog) (w := w) KX G hmg c e
    exact ⟨K, fd, Vb.spLawD K, KX, hb, fun H a ns hl _ hS => ⟨a, ns, rfl, hS, hl, fun _ => rfl⟩, hF⟩
