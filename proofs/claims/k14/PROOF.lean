import PyProof.Rows.All
import Wide.All
import OpenK.AllK
import Wide.FinOn
import HandS.ForMost
import HandS.Defaults
import HandS.HeadHook2
import KE.KStateDown
import HandS.Head0
import HandS.Head1
import HandS.Head2
import HandS.Head3
import HandS.HeadEnd
import HandS.HeadHook1
import KE.KMathG
import HandS.Wide
import HandS.Flt
import HandS.Gcd
import Flt.RightSqrt
import PySem.Challenge.RW_orrery_k14_whole_journeys_hold_every_mot
set_option Elab.async false
set_option linter.all false
set_option maxRecDepth 100000
set_option maxHeartbeats 0
/-! the defs of the text by place; the data of the head (printed by gen_txt.py) -/
namespace Tx
open PySem PySem.Spec PyProof.Rows L2
abbrev prog : Program := PySem.Challenge.pw_orrery_k14_whole_journeys_hold_every_mot
def topS (i : Nat) : Stmt := prog.main.body.getD i (.Pass ⟨0, 0, 0, 0⟩)
abbrev s_add : Stmt := topS 2
abbrev s_subtract : Stmt := topS 3
abbrev s_scaled : Stmt := topS 4
abbrev s_multiply : Stmt := topS 5
abbrev s_square : Stmt := topS 6
abbrev s_quotient : Stmt := topS 7
abbrev s_root : Stmt := topS 8
abbrev s_meet : Stmt := topS 9
abbrev s_hull : Stmt := topS 10
abbrev s_widened : Stmt := topS 11
abbrev s_middle : Stmt := topS 12
abbrev s_width : Stmt := topS 13
abbrev s_size : Stmt := topS 14
abbrev s_has : Stmt := topS 15
abbrev s_box_add : Stmt := topS 17
abbrev s_box_hull : Stmt := topS 18
abbrev s_box_widened : Stmt := topS 19
abbrev s_box_meet : Stmt := topS 20
abbrev s_box_has : Stmt := topS 21
abbrev s_square_length : Stmt := topS 22
abbrev s_box_size : Stmt := topS 23
abbrev s_pull_over : Stmt := topS 26
abbrev s_push_at : Stmt := topS 29
abbrev s_State_init : Stmt := inClass (topS 31) 0
abbrev s_put : Stmt := topS 32
abbrev s_split : Stmt := topS 33
abbrev s_parts_of : Stmt := topS 34
abbrev s_state_has : Stmt := topS 35
abbrev s_step : Stmt := topS 38
abbrev s_cut : Stmt := topS 39
abbrev s_Moment_init : Stmt := inClass (topS 41) 0
abbrev s_Moment_place : Stmt := inClass (topS 41) 1
abbrev s_Moment_speed : Stmt := inClass (topS 41) 2
abbrev s_Journey_init : Stmt := inClass (topS 42) 0
abbrev s_sighting_at : Stmt := topS 43
abbrev s_cut_all : Stmt := topS 44
abbrev s_step_all : Stmt := topS 45
abbrev s_first_states : Stmt := topS 46
abbrev s_journey : Stmt := topS 47
abbrev s_check : Stmt := topS 55
abbrev s_is_name : Stmt := topS 56
abbrev s_is_tick : Stmt := topS 57
abbrev s_is_box : Stmt := topS 58
abbrev s_Body_init : Stmt := inClass (topS 59) 0
abbrev s_Burn_init : Stmt := inClass (topS 60) 0
abbrev s_Sighting_init : Stmt := inClass (topS 61) 0
abbrev s_Craft_init : Stmt := inClass (topS 62) 0
abbrev s__law_row : Stmt := topS 64
abbrev s__law_spread : Stmt := topS 65
abbrev s__law_box : Stmt := topS 66
abbrev s__law_member : Stmt := topS 67
abbrev s__law_root : Stmt := topS 68
abbrev s__law_pull : Stmt := topS 69
abbrev s__law_push : Stmt := topS 70
abbrev s__law_world : Stmt := topS 71
abbrev s__law_motion : Stmt := topS 72
abbrev s__law_seen : Stmt := topS 73
abbrev s__law_craft : Stmt := topS 74
abbrev s__law_in : Stmt := topS 75
abbrev s_law : Stmt := topS 76
def d_add : He.DefD := ⟨("add", none), "add", "add", defArgs s_add, defBody s_add, defScope s_add, [], []⟩
def d_subtract : He.DefD := ⟨("subtract", none), "subtract", "subtract", defArgs s_subtract, defBody s_subtract, defScope s_subtract, [], []⟩
def d_scaled : He.DefD := ⟨("scaled", none), "scaled", "scaled", defArgs s_scaled, defBody s_scaled, defScope s_scaled, [], []⟩
def d_multiply : He.DefD := ⟨("multiply", none), "multiply", "multiply", defArgs s_multiply, defBody s_multiply, defScope s_multiply, [], []⟩
def d_square : He.DefD := ⟨("square", none), "square", "square", defArgs s_square, defBody s_square, defScope s_square, [], []⟩
def d_quotient : He.DefD := ⟨("quotient", none), "quotient", "quotient", defArgs s_quotient, defBody s_quotient, defScope s_quotient, [], []⟩
def d_root : He.DefD := ⟨("root", none), "root", "root", defArgs s_root, defBody s_root, defScope s_root, [], []⟩
def d_meet : He.DefD := ⟨("meet", none), "meet", "meet", defArgs s_meet, defBody s_meet, defScope s_meet, [], []⟩
def d_hull : He.DefD := ⟨("hull", none), "hull", "hull", defArgs s_hull, defBody s_hull, defScope s_hull, [], []⟩
def d_widened : He.DefD := ⟨("widened", none), "widened", "widened", defArgs s_widened, defBody s_widened, defScope s_widened, [], []⟩
def d_middle : He.DefD := ⟨("middle", none), "middle", "middle", defArgs s_middle, defBody s_middle, defScope s_middle, [], []⟩
def d_width : He.DefD := ⟨("width", none), "width", "width", defArgs s_width, defBody s_width, defScope s_width, [], []⟩
def d_size : He.DefD := ⟨("size", none), "size", "size", defArgs s_size, defBody s_size, defScope s_size, [], []⟩
def d_has : He.DefD := ⟨("has", none), "has", "has", defArgs s_has, defBody s_has, defScope s_has, [], []⟩
def d_box_add : He.DefD := ⟨("box_add", none), "box_add", "box_add", defArgs s_box_add, defBody s_box_add, defScope s_box_add, [], []⟩
def d_box_hull : He.DefD := ⟨("box_hull", none), "box_hull", "box_hull", defArgs s_box_hull, defBody s_box_hull, defScope s_box_hull, [], []⟩
def d_box_widened : He.DefD := ⟨("box_widened", none), "box_widened", "box_widened", defArgs s_box_widened, defBody s_box_widened, defScope s_box_widened, [], []⟩
def d_box_meet : He.DefD := ⟨("box_meet", none), "box_meet", "box_meet", defArgs s_box_meet, defBody s_box_meet, defScope s_box_meet, [], []⟩
def d_box_has : He.DefD := ⟨("box_has", none), "box_has", "box_has", defArgs s_box_has, defBody s_box_has, defScope s_box_has, [], []⟩
def d_square_length : He.DefD := ⟨("square_length", none), "square_length", "square_length", defArgs s_square_length, defBody s_square_length, defScope s_square_length, [], []⟩
def d_box_size : He.DefD := ⟨("box_size", none), "box_size", "box_size", defArgs s_box_size, defBody s_box_size, defScope s_box_size, [], []⟩
def d_pull_over : He.DefD := ⟨("pull_over", none), "pull_over", "pull_over", defArgs s_pull_over, defBody s_pull_over, defScope s_pull_over, [], []⟩
def d_push_at : He.DefD := ⟨("push_at", none), "push_at", "push_at", defArgs s_push_at, defBody s_push_at, defScope s_push_at, [], []⟩
def d_State_init : He.DefD := ⟨("State", some "__init__"), "__init__", "State.__init__", defArgs s_State_init, defBody s_State_init, defScope s_State_init, [], []⟩
def d_put : He.DefD := ⟨("put", none), "put", "put", defArgs s_put, defBody s_put, defScope s_put, [], []⟩
def d_split : He.DefD := ⟨("split", none), "split", "split", defArgs s_split, defBody s_split, defScope s_split, [], []⟩
def d_parts_of : He.DefD := ⟨("parts_of", none), "parts_of", "parts_of", defArgs s_parts_of, defBody s_parts_of, defScope s_parts_of, [], []⟩
def d_state_has : He.DefD := ⟨("state_has", none), "state_has", "state_has", defArgs s_state_has, defBody s_state_has, defScope s_state_has, [], []⟩
def d_step : He.DefD := ⟨("step", none), "step", "step", defArgs s_step, defBody s_step, defScope s_step, [], []⟩
def d_cut : He.DefD := ⟨("cut", none), "cut", "cut", defArgs s_cut, defBody s_cut, defScope s_cut, [], []⟩
def d_Moment_init : He.DefD := ⟨("Moment", some "__init__"), "__init__", "Moment.__init__", defArgs s_Moment_init, defBody s_Moment_init, defScope s_Moment_init, [], []⟩
def d_Moment_place : He.DefD := ⟨("Moment", some "place"), "place", "Moment.place", defArgs s_Moment_place, defBody s_Moment_place, defScope s_Moment_place, [], []⟩
def d_Moment_speed : He.DefD := ⟨("Moment", some "speed"), "speed", "Moment.speed", defArgs s_Moment_speed, defBody s_Moment_speed, defScope s_Moment_speed, [], []⟩
def d_Journey_init : He.DefD := ⟨("Journey", some "__init__"), "__init__", "Journey.__init__", defArgs s_Journey_init, defBody s_Journey_init, defScope s_Journey_init, [], []⟩
def d_sighting_at : He.DefD := ⟨("sighting_at", none), "sighting_at", "sighting_at", defArgs s_sighting_at, defBody s_sighting_at, defScope s_sighting_at, [], []⟩
def d_cut_all : He.DefD := ⟨("cut_all", none), "cut_all", "cut_all", defArgs s_cut_all, defBody s_cut_all, defScope s_cut_all, [], []⟩
def d_step_all : He.DefD := ⟨("step_all", none), "step_all", "step_all", defArgs s_step_all, defBody s_step_all, defScope s_step_all, [], []⟩
def d_first_states : He.DefD := ⟨("first_states", none), "first_states", "first_states", defArgs s_first_states, defBody s_first_states, defScope s_first_states, [], []⟩
def d_journey : He.DefD := ⟨("journey", none), "journey", "journey", defArgs s_journey, defBody s_journey, defScope s_journey, [], []⟩
def d_check : He.DefD := ⟨("check", none), "check", "check", defArgs s_check, defBody s_check, defScope s_check, [], []⟩
def d_is_name : He.DefD := ⟨("is_name", none), "is_name", "is_name", defArgs s_is_name, defBody s_is_name, defScope s_is_name, [], []⟩
def d_is_tick : He.DefD := ⟨("is_tick", none), "is_tick", "is_tick", defArgs s_is_tick, defBody s_is_tick, defScope s_is_tick, [], []⟩
def d_is_box : He.DefD := ⟨("is_box", none), "is_box", "is_box", defArgs s_is_box, defBody s_is_box, defScope s_is_box, [], []⟩
def d_Body_init : He.DefD := ⟨("Body", some "__init__"), "__init__", "Body.__init__", defArgs s_Body_init, defBody s_Body_init, defScope s_Body_init, [], []⟩
def d_Burn_init : He.DefD := ⟨("Burn", some "__init__"), "__init__", "Burn.__init__", defArgs s_Burn_init, defBody s_Burn_init, defScope s_Burn_init, [], []⟩
def d_Sighting_init : He.DefD := ⟨("Sighting", some "__init__"), "__init__", "Sighting.__init__", defArgs s_Sighting_init, defBody s_Sighting_init, defScope s_Sighting_init, [], []⟩
def d_Craft_init : He.DefD := ⟨("Craft", some "__init__"), "__init__", "Craft.__init__", defArgs s_Craft_init, defBody s_Craft_init, defScope s_Craft_init, [.adr (He.dflAt ("Craft", some "__init__") 0), .adr (He.dflAt ("Craft", some "__init__") 1)], []⟩
def d__law_row : He.DefD := ⟨("_law_row", none), "_law_row", "_law_row", defArgs s__law_row, defBody s__law_row, defScope s__law_row, [], []⟩
def d__law_spread : He.DefD := ⟨("_law_spread", none), "_law_spread", "_law_spread", defArgs s__law_spread, defBody s__law_spread, defScope s__law_spread, [], []⟩
def d__law_box : He.DefD := ⟨("_law_box", none), "_law_box", "_law_box", defArgs s__law_box, defBody s__law_box, defScope s__law_box, [], []⟩
def d__law_member : He.DefD := ⟨("_law_member", none), "_law_member", "_law_member", defArgs s__law_member, defBody s__law_member, defScope s__law_member, [], []⟩
def d__law_root : He.DefD := ⟨("_law_root", none), "_law_root", "_law_root", defArgs s__law_root, defBody s__law_root, defScope s__law_root, [], []⟩
def d__law_pull : He.DefD := ⟨("_law_pull", none), "_law_pull", "_law_pull", defArgs s__law_pull, defBody s__law_pull, defScope s__law_pull, [], []⟩
def d__law_push : He.DefD := ⟨("_law_push", none), "_law_push", "_law_push", defArgs s__law_push, defBody s__law_push, defScope s__law_push, [], []⟩
def d__law_world : He.DefD := ⟨("_law_world", none), "_law_world", "_law_world", defArgs s__law_world, defBody s__law_world, defScope s__law_world, [], []⟩
def d__law_motion : He.DefD := ⟨("_law_motion", none), "_law_motion", "_law_motion", defArgs s__law_motion, defBody s__law_motion, defScope s__law_motion, [], []⟩
def d__law_seen : He.DefD := ⟨("_law_seen", none), "_law_seen", "_law_seen", defArgs s__law_seen, defBody s__law_seen, defScope s__law_seen, [], []⟩
def d__law_craft : He.DefD := ⟨("_law_craft", none), "_law_craft", "_law_craft", defArgs s__law_craft, defBody s__law_craft, defScope s__law_craft, [], []⟩
def d__law_in : He.DefD := ⟨("_law_in", none), "_law_in", "_law_in", defArgs s__law_in, defBody s__law_in, defScope s__law_in, [], []⟩
def d_law : He.DefD := ⟨("law", none), "law", "law", defArgs s_law, defBody s_law, defScope s_law, [], []⟩
def fn : List He.DefD := [d_add, d_subtract, d_scaled, d_multiply, d_square, d_quotient, d_root, d_meet, d_hull, d_widened, d_middle, d_width, d_size, d_has, d_box_add, d_box_hull, d_box_widened, d_box_meet, d_box_has, d_square_length, d_box_size, d_pull_over, d_push_at, d_State_init, d_put, d_split, d_parts_of, d_state_has, d_step, d_cut, d_Moment_init, d_Moment_place, d_Moment_speed, d_Journey_init, d_sighting_at, d_cut_all, d_step_all, d_first_states, d_journey, d_check, d_is_name, d_is_tick, d_is_box, d_Body_init, d_Burn_init, d_Sighting_init, d_Craft_init, d__law_row, d__law_spread, d__law_box, d__law_member, d__law_root, d__law_pull, d__law_push, d__law_world, d__law_motion, d__law_seen, d__law_craft, d__law_in, d_law]
def fa0 : List He.Fa := [.glo "add", .glo "subtract", .glo "scaled", .glo "multiply", .glo "square", .glo "quotient", .glo "root", .glo "meet", .glo "hull", .glo "widened", .glo "middle", .glo "width", .glo "size", .glo "has", .glo "box_add", .glo "box_hull", .glo "box_widened", .glo "box_meet", .glo "box_has", .glo "square_length", .glo "box_size", .glo "pull_over", .glo "push_at", .glo "put", .glo "split", .glo "parts_of", .glo "state_has", .glo "step", .glo "cut", .glo "sighting_at"]
def fa1 : List He.Fa := [.glo "cut_all", .glo "step_all", .glo "first_states", .glo "journey", .glo "check", .glo "is_name", .glo "is_tick", .glo "is_box", .glo "_law_row", .glo "_law_spread", .glo "_law_box", .glo "_law_member", .glo "_law_root", .glo "_law_pull", .glo "_law_push", .glo "_law_world", .glo "_law_motion", .glo "_law_seen", .glo "_law_craft", .glo "_law_in", .glo "law", .glo "State", .cls "State", .mkr "State", .noat "State" "place", .noat "State" "speed", .glo "Moment", .cls "Moment", .mkr "Moment", .noat "Moment" "at"]
def fa2 : List He.Fa := [.noat "Moment" "states", .glo "Journey", .cls "Journey", .mkr "Journey", .noat "Journey" "moments", .noat "Journey" "ending", .noat "Journey" "broken", .glo "Body", .cls "Body", .mkr "Body", .noat "Body" "mu", .noat "Body" "oblateness", .noat "Body" "turn", .glo "Burn", .cls "Burn", .mkr "Burn", .noat "Burn" "begin", .noat "Burn" "end", .noat "Burn" "push", .glo "Sighting", .cls "Sighting", .mkr "Sighting", .noat "Sighting" "at", .noat "Sighting" "place", .glo "Craft", .cls "Craft", .mkr "Craft", .noat "Craft" "name", .noat "Craft" "start", .noat "Craft" "place"]
def fa3 : List He.Fa := [.noat "Craft" "speed", .noat "Craft" "drift", .noat "Craft" "burns", .noat "Craft" "sightings", .meth "Moment" "place", .meth "Moment" "speed", .free "tuple", .free "list", .free "len", .free "range", .free "min", .free "max", .free "abs", .free "int", .free "sum", .int "LIMIT" (10 ^ 40), .int "LAST_TICK" 100000, .int "MOST" (10 ^ 15), .int "MOST_DRIFT" (10 ^ 12), .glo "FACTORS", .glo "NOTHING"]
def fa : List He.Fa := fa0 ++ fa1 ++ fa2 ++ fa3
/-- the three inner tuples of NOTHING -/
def nothAt (i : Nat) (K : PySem.W.Frag) : Addr := match K.lookup (He.ga K "NOTHING") with
  | some ⟨_, _, .seq its _, _⟩ => (match its.toList[i]? with
    | some (.ref a) => a
    | _ => 0)
  | _ => 0
def pairB (K : PySem.W.Frag) (a : Addr) : Bool := match K.lookup a with
  | some ⟨.type c, _, .seq its _, _⟩ => decide (c = "tuple") && (decide (its.size ≤ sizeLine) && He.relAll [V.int 0, V.int 0] its.toList)
  | _ => false
/-- what no fact of the kit says: isqrt, FACTORS, NOTHING -/
def ex (K : PySem.W.Frag) : Bool := He.eqO (PySem.W.nsIn K mainGlobals "isqrt") (some (some (.builtin "math.isqrt"))) &&
  (He.tupB K "FACTORS" [.int 1, .int 1, .int 3] && (He.tupB K "NOTHING" [.adr (nothAt 0), .adr (nothAt 1), .adr (nothAt 2)] && (pairB K (nothAt 0 K) && (pairB K (nothAt 1 K) && pairB K (nothAt 2 K)))))
end Tx
namespace Hd
open PySem PySem.Spec PyProof.Rows L2
abbrev R : PySem.W.OpenRow := PySem.W.OpenLaw.row PySem.Challenge.rw_orrery_k14_whole_journeys_hold_every_mot
/-- what the end leans on -/
def Says (K : PySem.W.Frag) : Prop := He.SaysD Tx.fa Tx.fn K ∧ Tx.ex K = true
abbrev Al : Type := He.AlD × Bool
def obsG (n : Nat) (g : Addr → Option Obj) : Al := (He.obsDG n Tx.fa Tx.fn g, Tx.ex (He.frG g (He.asD g n)))
def hk : PySem.W.Hook where
  α := Al
  obs := fun s => obsG 5 s.heap.get?
  val := fun _ => (He.valD Tx.fn, true)
  says := fun _ h => ∃ K : PySem.W.Frag, K.In h ∧ Says K
  of := fun _ _ e => ⟨_, He.frG_in, congrArg (fun z : Al => z.1) e, congrArg (fun z : Al => z.2) e⟩
  keeps := fun _ _ _ ⟨K, hK, c⟩ k => ⟨K, PySem.W.Frag.In.keeps hK k, c⟩
def ob (s : PySem.W.SharedT) : Al := obsG 5 (HandSHeadRun.getT s)
theorem ob_eq (s : PySem.W.SharedT) : ob s = hk.obs s.abs := by
  have e : HandSHeadRun.getT s = s.abs.heap.get? := funext fun a => HandSHeadRun.getT_eq s a
  show obsG 5 (HandSHeadRun.getT s) = obsG 5 s.abs.heap.get?
  rw [e]
/-- the other names that the top binds -/
def names1 : List PySem.Str := ["add", "subtract", "scaled", "multiply", "square", "quotient", "root", "meet", "hull", "widened", "middle", "width", "size", "has", "box_add", "box_hull", "box_widened", "box_meet", "box_has", "square_length", "box_size", "FACTORS", "pull_over", "NOTHING", "push_at"]
def names2 : List PySem.Str := ["State", "put", "split", "parts_of", "state_has", "LIMIT", "step", "cut", "Moment", "Journey", "sighting_at", "cut_all", "step_all", "first_states", "journey", "OrreryError", "BadArgument", "LAST_TICK", "MOST", "MOST_DRIFT", "check", "is_name", "is_tick", "is_box", "Body", "Burn", "Sighting", "Craft"]
def names3 : List PySem.Str := ["_law_row", "_law_spread", "_law_box", "_law_member", "_law_root", "_law_pull", "_law_push", "_law_world", "_law_motion", "_law_seen", "_law_craft", "_law_in"]
def names : List PySem.Str := names1 ++ (names2 ++ names3)
abbrev qv : Program := PySem.W.view R.prog [0, 76]
theorem run (w : World) : HandSHeadRun.RunEqI R qv hk ob 4000 names w := by
  unfold HandSHeadRun.RunEqI
  kernel_rfl
end Hd
/-! DL: a layer of immutable data over the hand layer. -/
namespace DL
open PySem PySem.Spec PyProof.Rows L2

/-! ### data -/
inductive Dt where
  | non | bl (b : Bool) | int (i : Int) | str (x : Str) | tup (ds : List Dt) | lst (ds : List Dt) | scr (ns : List Int) | ins (C : Addr) (ks : List Str) (ds : List Dt)

mutual
inductive Rp (K : PySem.W.Frag) (G : Hp) : V → Dt → Prop
  | non : Rp K G .non .non
  | bl (b : Bool) : Rp K G (.bl b) (.bl b)
  | int (i : Int) : Rp K G (.int i) (.int i)
  | str (x : Str) : Rp K G (.str x) (.str x)
  | tup {a : Addr} {xs : List V} {ds : List Dt} : SqT K G a xs → Rps K G xs ds → Rp K G (.ref a) (.tup ds)
  | lst {a : Addr} {xs : List V} {ds : List Dt} : G a = some (.lst xs) → Rps K G xs ds → Rp K G (.ref a) (.lst ds)
  | scr {a : Addr} {ns : List Int} : SqL K G a (ns.map V.int) → Rp K G (.ref a) (.scr ns)
  | ins {a C dx : Addr} {ks : List Str} {xs : List V} {ds : List Dt} : G a = some (.ins C dx (ks.zip xs)) → ks.length = ds.length → Rps K G xs ds → Rp K G (.ref a) (.ins C ks ds)
inductive Rps (K : PySem.W.Frag) (G : Hp) : List V → List Dt → Prop
  | nil : Rps K G [] []
  | cons {v : V} {vs : List V} {d : Dt} {ds : List Dt} : Rp K G v d → Rps K G vs ds → Rps K G (v :: vs) (d :: ds)
end

theorem same_t {K : PySem.W.Frag} {H H' : Hp} {a : Addr} {xs : List V} (e : Same H H') (h : SqT K H a xs) : SqT K H' a xs := by
  rcases h with (h | ⟨o, h⟩) | h
  · exact .inl (.inl (e _ _ h))
  · exact .inl (.inr ⟨o, e _ _ h⟩)
  · exact .inr h

section
variable {K : PySem.W.Frag} {G G' : Hp}
mutual
theorem Rp.mono (e : Same G G') : ∀ (d : Dt) (v : V), Rp K G v d → Rp K G' v d
  | .non, _, h => by cases h; exact .non
  | .bl b, _, h => by cases h; exact .bl b
  | .int b, _, h => by cases h; exact .int b
  | .str b, _, h => by cases h; exact .str b
  | .tup ds, _, h => by
    cases h with
    | tup h1 h2 => exact .tup (same_t e h1) (Rps.mono e ds _ h2)
  | .lst ds, _, h => by
    cases h with
    | lst h1 h2 => exact .lst (e _ _ h1) (Rps.mono e ds _ h2)
  | .scr ns, _, h => by
    cases h with
    | scr h1 => exact .scr (e.seq h1)
  | .ins C ks ds, _, h => by
    cases h with
    | ins h1 h2 h3 => exact .ins (e _ _ h1) h2 (Rps.mono e ds _ h3)
theorem Rps.mono (e : Same G G') : ∀ (ds : List Dt) (vs : List V), Rps K G vs ds → Rps K G' vs ds
  | [], _, h => by cases h; exact .nil
  | d :: ds, _, h => by
    cases h with
    | cons h1 h2 => exact .cons (Rp.mono e d _ h1) (Rps.mono e ds _ h2)
end
theorem Rps.length : ∀ {vs : List V} {ds : List Dt}, Rps K G vs ds → vs.length = ds.length
  | _, _, .nil => rfl
  | _, _, .cons _ t => congrArg (· + 1) (Rps.length t)
theorem Rps.get : ∀ {vs : List V} {ds : List Dt} {i : Nat} {d : Dt}, Rps K G vs ds → ds[i]? = some d → ∃ v, vs[i]? = some v ∧ Rp K G v d
  | _, _, _, _, .nil, h => by simp at h
  | _, _, 0, _, .cons r _, h => by simp at h; subst h; exact ⟨_, rfl, r⟩
  | _, _, i + 1, _, .cons _ t, h => by
    obtain ⟨v, h1, h2⟩ := Rps.get (i := i) t (by simpa using h)
    exact ⟨v, by simpa using h1, h2⟩
theorem Rps.get' : ∀ {vs : List V} {ds : List Dt} {i : Nat} {v : V}, Rps K G vs ds → vs[i]? = some v → ∃ d, ds[i]? = some d ∧ Rp K G v d
  | _, _, _, _, .nil, h => by simp at h
  | _, _, 0, _, .cons r _, h => by simp at h; subst h; exact ⟨_, rfl, r⟩
  | _, _, i + 1, _, .cons _ t, h => by
    obtain ⟨v, h1, h2⟩ := Rps.get' (i := i) t (by simpa using h)
    exact ⟨v, by simpa using h1, h2⟩
theorem Rps.append : ∀ {vs ws : List V} {ds es : List Dt}, Rps K G vs ds → Rps K G ws es → Rps K G (vs ++ ws) (ds ++ es)
  | _, _, _, _, .nil, h => h
  | _, _, _, _, .cons r t, h => .cons r (Rps.append t h)
theorem Rps.one {v : V} {d : Dt} (h : Rp K G v d) : Rps K G [v] [d] := .cons h .nil
end

/-! ### a step: what is frozen grows, what is not frozen stays as it is -/
structure Stp (G H G' H' : Hp) : Prop where
  g : Same G G'
  h : Same G' H'
  m : ∀ l o, G l = none → H l = some o → G' l = none ∧ H' l = some o
theorem Stp.refl {G H : Hp} (e : Same G H) : Stp G H G H := ⟨Same.refl G, e, fun _ _ a b => ⟨a, b⟩⟩
theorem Stp.trans {G H G1 H1 G2 H2 : Hp} (a : Stp G H G1 H1) (b : Stp G1 H1 G2 H2) : Stp G H G2 H2 :=
  ⟨a.g.trans b.g, b.h, fun l o x y => let ⟨p, q⟩ := a.m l o x y; b.m l o p q⟩
theorem same_upd {H : Hp} {p : Addr} {o : HO} (h : H p = none) : Same H (upd H p o) := fun b x e => by
  rw [upd_ne (ne_of_none e h)]
  exact e
theorem same_upd2 {G H : Hp} {p : Addr} {o : HO} (e : Same G H) : Same (upd G p o) (upd H p o) := fun b x h => by
  by_cases q : b = p
  · subst q
    rw [upd_same] at h ⊢
    exact h
  · rw [upd_ne q] at h ⊢
    exact e _ _ h
theorem Stp.new {G H : Hp} {p : Addr} {o : HO} (e : Same G H) (n : H p = none) : Stp G H (upd G p o) (upd H p o) := by
  have gn : G p = none := e.free n
  refine ⟨same_upd gn, same_upd2 e, fun l u x y => ?_⟩
  have ne : l ≠ p := ne_of_none y n
  rw [upd_ne ne, upd_ne ne]
  exact ⟨x, y⟩
/-- what is not frozen may grow freely, where the start does not know it -/
theorem Stp.lay {G0 H0 G H : Hp} {p : Addr} {o : HO} (s : Stp G0 H0 G H) (n : H0 p = none) (gn : G p = none) : Stp G0 H0 G (upd H p o) := by
  refine ⟨s.g, fun b x e => ?_, fun l u x y => ?_⟩
  · rw [upd_ne (ne_of_none e gn)]
    exact s.h _ _ e
  · have ne : l ≠ p := ne_of_none y n
    rw [upd_ne ne]
    exact s.m l u x y
/-- freezing -/
theorem Stp.frz {G0 H0 G H : Hp} {p : Addr} {o : HO} (s : Stp G0 H0 G H) (n : H0 p = none) (gn : G p = none) (hp : H p = some o) : Stp G0 H0 (upd G p o) H := by
  refine ⟨s.g.trans (same_upd gn), fun b x e => ?_, fun l u x y => ?_⟩
  · by_cases q : b = p
    · subst q
      rw [upd_same] at e
      rw [hp]
      exact e
    · rw [upd_ne q] at e
      exact s.h _ _ e
  · have ne : l ≠ p := ne_of_none y n
    rw [upd_ne ne]
    exact s.m l u x y
theorem Stp.same {G H G' H' : Hp} (e : Same G H) (s : Stp G H G' H') : Same H H' := fun b o h => by
  cases q : G b with
  | none => exact (s.m b o q h).2
  | some u =>
    have h1 := e b u q
    rw [h] at h1
    cases h1
    exact s.h _ _ (s.g _ _ q)

theorem Stp.free {G H G' H' : Hp} (s : Stp G H G' H') {p : Addr} (n : H' p = none) : H p = none := by
  cases q : H p with
  | none => rfl
  | some o =>
    cases g : G p with
    | none =>
      rw [(s.m p o g q).2] at n
      cases n
    | some u =>
      rw [s.h _ _ (s.g _ _ g)] at n
      cases n

/-! ### slots -/
inductive SD where
  | imm (d : Dt) | mls (ds : List Dt) | obj (x C : Addr) (ks : List Str) (ds : List Dt)
def RS (K : PySem.W.Frag) (H0 G H : Hp) (v : V) : SD → Prop
  | .imm d => Rp K G v d
  | .mls ds => ∃ l xs, v = .ref l ∧ H0 l = none ∧ G l = none ∧ H l = some (.lst xs) ∧ Rps K G xs ds
  | .obj x C ks ds => ∃ dx xs, v = .ref x ∧ H0 x = none ∧ G x = none ∧ H x = some (.ins C dx (ks.zip xs)) ∧ ks.length = ds.length ∧ Rps K G xs ds
abbrev EnvD := List (Option SD)
abbrev im (d : Dt) : Option SD := some (.imm d)
structure Rs (K : PySem.W.Frag) (H0 G H : Hp) (σ : L2.St) (δ : EnvD) : Prop where
  len : σ.length = δ.length
  at_ : ∀ (i : Nat) (s : SD), δ[i]? = some (some s) → ∃ v, σ[i]? = some (some v) ∧ RS K H0 G H v s
section
variable {K : PySem.W.Frag} {H0 G H G' H' : Hp} {σ : L2.St} {δ : EnvD}
theorem RS.mono {v : V} {s : SD} (t : Stp G H G' H') (h : RS K H0 G H v s) : RS K H0 G' H' v s := by
  cases s with
  | imm d => exact Rp.mono t.g d v h
  | mls ds =>
    obtain ⟨l, xs, e, n, gn, hl, r⟩ := h
    obtain ⟨a, b⟩ := t.m l _ gn hl
    exact ⟨l, xs, e, n, a, b, Rps.mono t.g ds xs r⟩
  | obj x C ks ds =>
    obtain ⟨dx, xs, e, n, gn, hl, lk, r⟩ := h
    obtain ⟨a, b⟩ := t.m x _ gn hl
    exact ⟨dx, xs, e, n, a, b, lk, Rps.mono t.g ds xs r⟩
theorem Rs.mono (t : Stp G H G' H') (r : Rs K H0 G H σ δ) : Rs K H0 G' H' σ δ := ⟨r.len, fun i s h => by
  obtain ⟨v, a, b⟩ := r.at_ i s h
  exact ⟨v, a, b.mono t⟩⟩
theorem Rs.set {i : Nat} {v : V} {s : SD} (r : Rs K H0 G H σ δ) (h : RS K H0 G H v s) : Rs K H0 G H (σ.set i (some v)) (δ.set i (some s)) := by
  refine ⟨by rw [List.length_set, List.length_set]; exact r.len, fun j t e => ?_⟩
  by_cases q : i = j
  · subst q
    have lt : i < δ.length := by
      have := (List.getElem?_eq_some_iff.mp e).1
      rw [List.length_set] at this
      exact this
    rw [List.getElem?_set_self lt] at e
    cases e
    exact ⟨v, List.getElem?_set_self (by rw [r.len]; exact lt), h⟩
  · rw [List.getElem?_set_ne q] at e
    obtain ⟨u, a, b⟩ := r.at_ j t e
    exact ⟨u, by rw [List.getElem?_set_ne q]; exact a, b⟩
theorem Rs.none_ {i : Nat} (r : Rs K H0 G H σ δ) : Rs K H0 G H (σ.set i none) (δ.set i none) := by
  refine ⟨by rw [List.length_set, List.length_set]; exact r.len, fun j t e => ?_⟩
  by_cases q : i = j
  · subst q
    have lt : i < δ.length := by
      have := (List.getElem?_eq_some_iff.mp e).1
      rw [List.length_set] at this
      exact this
    rw [List.getElem?_set_self lt] at e
    cases e
  · rw [List.getElem?_set_ne q] at e
    obtain ⟨u, a, b⟩ := r.at_ j t e
    exact ⟨u, by rw [List.getElem?_set_ne q]; exact a, b⟩
end
/-- all slots but the i-th hold immutable data -/
def onlyAt (i : Nat) : EnvD → Nat → Bool
  | [], _ => true
  | none :: r, j => onlyAt i r (j + 1)
  | some (.imm _) :: r, j => onlyAt i r (j + 1)
  | some _ :: r, j => Nat.beq j i && onlyAt i r (j + 1)
theorem onlyAt_ok {i : Nat} : ∀ {δ : EnvD} {k j : Nat} {s : SD}, onlyAt i δ k = true → δ[j]? = some (some s) → k + j ≠ i → ∃ d, s = .imm d
  | [], _, _, _, _, h, _ => by simp at h
  | none :: r, k, 0, s, _, h, _ => by simp at h
  | none :: r, k, j + 1, s, o, h, n => onlyAt_ok (δ := r) (k := k + 1) (j := j) o (by simpa using h) (by omega)
  | some (.imm d) :: r, k, 0, s, _, h, _ => by
    simp at h
    exact ⟨d, h.symm⟩
  | some (.imm d) :: r, k, j + 1, s, o, h, n => onlyAt_ok (δ := r) (k := k + 1) (j := j) o (by simpa using h) (by omega)
  | some (.mls ds) :: r, k, 0, s, o, h, n => by
    have o1 : (Nat.beq k i && onlyAt i r (k + 1)) = true := o
    rw [Bool.and_eq_true] at o1
    exact absurd (Nat.eq_of_beq_eq_true o1.1) n
  | some (.mls ds) :: r, k, j + 1, s, o, h, n => by
    have o1 : (Nat.beq k i && onlyAt i r (k + 1)) = true := o
    rw [Bool.and_eq_true] at o1
    exact onlyAt_ok (δ := r) (k := k + 1) (j := j) o1.2 (by simpa using h) (by omega)
  | some (.obj x C ks ds) :: r, k, 0, s, o, h, n => by
    have o1 : (Nat.beq k i && onlyAt i r (k + 1)) = true := o
    rw [Bool.and_eq_true] at o1
    exact absurd (Nat.eq_of_beq_eq_true o1.1) n
  | some (.obj x C ks ds) :: r, k, j + 1, s, o, h, n => by
    have o1 : (Nat.beq k i && onlyAt i r (k + 1)) = true := o
    rw [Bool.and_eq_true] at o1
    exact onlyAt_ok (δ := r) (k := k + 1) (j := j) o1.2 (by simpa using h) (by omega)
section
variable {K : PySem.W.Frag} {H0 G H G' H' : Hp} {σ : L2.St} {δ : EnvD}
/-- the one mutable thing has changed: the others stand -/
theorem Rs.only {i : Nat} {v : V} {s : SD} (r : Rs K H0 G H σ δ) (o : onlyAt i δ 0 = true) (hv : σ[i]? = some (some v)) (hi : i < δ.length) (e : Same G G') (h : RS K H0 G' H' v s) : Rs K H0 G' H' σ (δ.set i (some s)) := by
  refine ⟨by rw [List.length_set]; exact r.len, fun j t ej => ?_⟩
  by_cases q : i = j
  · subst q
    rw [List.getElem?_set_self hi] at ej
    cases ej
    exact ⟨v, hv, h⟩
  · rw [List.getElem?_set_ne q] at ej
    obtain ⟨u, a, b⟩ := r.at_ j t ej
    obtain ⟨d, rfl⟩ := onlyAt_ok (k := 0) o ej (by omega)
    exact ⟨u, a, Rp.mono e d u b⟩
end

/-! ### what a reading gives in data -/
def ER (K : PySem.W.Frag) (te : TE) (δ : EnvD) (d : Dt) : Prop := ∀ (H0 G H : Hp) (σ : L2.St), Same G H → Rs K H0 G H σ δ → ∀ Q : VK, (∀ v G' H', Stp G H G' H' → Rp K G' v d → Q v H') → te σ H Q
def ETR (K : PySem.W.Frag) (tt : TT) (δ : EnvD) (b : Bool) : Prop := ∀ (H0 G H : Hp) (σ : L2.St), Same G H → Rs K H0 G H σ δ → ∀ Q : Bool → Hp → Prop, (∀ G' H', Stp G H G' H' → Q b H') → tt σ H Q
def EAR (K : PySem.W.Frag) (ta : TA) (δ : EnvD) (ds : List Dt) : Prop := ∀ (H0 G H : Hp) (σ : L2.St), Same G H → Rs K H0 G H σ δ → ∀ Q : List V → Hp → Prop, (∀ vs G' H', Stp G H G' H' → Rps K G' vs ds → Q vs H') → ta σ H Q
/-- the end of a statement in data -/
structure DE where
  nx : EnvD → Prop
  rt : Dt → Prop
  bk : EnvD → Prop := fun _ => False
  ct : EnvD → Prop := fun _ => False
structure Real (K : PySem.W.Frag) (G0 H0 : Hp) (E : DE) (D : Ends) : Prop where
  nx : ∀ σ G H δ, Stp G0 H0 G H → Rs K H0 G H σ δ → E.nx δ → D.nx σ H
  rt : ∀ v G H d, Stp G0 H0 G H → Rp K G v d → E.rt d → D.rt v H
  bk : ∀ σ G H δ, Stp G0 H0 G H → Rs K H0 G H σ δ → E.bk δ → D.bk σ H
  ct : ∀ σ G H δ, Stp G0 H0 G H → Rs K H0 G H σ δ → E.ct δ → D.ct σ H
def SR (K : PySem.W.Frag) (ts : TS) (δ : EnvD) (E : DE) : Prop := ∀ (G0 H0 G H : Hp) (σ : L2.St), Stp G0 H0 G H → Rs K H0 G H σ δ → ∀ D : Ends, Real K G0 H0 E D → ts D σ H

/-! ### the weakest readings -/
section
variable (X : Cx)
def wE (e : Expr) : TE := fun σ H Q => ∀ pins s, Inv X pins σ H s → wpAny (model X.prog X.w) X.A (eval e X.env) (EP X pins σ Q) X.xe s
def wT (e : Expr) : TT := fun σ H Q => ∀ pins s, Inv X pins σ H s → wpAny (model X.prog X.w) X.A (isTrue e X.env (eval e X.env)) (TP X pins σ Q) X.xe s
def wW (e : Expr) : TT := fun σ H Q => ∀ (whole : Sem Value) pins s, Inv X pins σ H s → wpAny (model X.prog X.w) X.A (isTrue e X.env whole) (TP X pins σ Q) X.xe s
def wA (es : List Expr) : TA := fun σ H Q => ∀ (pos : Pos) pins s, Inv X pins σ H s → wpAny (model X.prog X.w) X.A (spliced (backTo pos (starEach es X.env))) (AP X pins σ Q) X.xe s
def wS (st : Stmt) : TS := fun D σ H => ∀ pins s, Inv X pins σ H s → wpAny (model X.prog X.w) X.A (exec st X.env) (SP X pins D) X.xe s
def wSs (st : List Stmt) : TS := fun D σ H => ∀ pins s, Inv X pins σ H s → wpAny (model X.prog X.w) X.A (execs st X.env) (SP X pins D) X.xe s
theorem pe_w {e : Expr} : PE X e (wE X e) := ⟨fun pins s _ _ _ I h => h pins s I⟩
theorem pt_w {e : Expr} : PT X e (wT X e) := ⟨fun pins s _ _ _ I h => h pins s I⟩
theorem pw_w {e : Expr} : PW X e (wW X e) := ⟨fun wh pins s _ _ _ I h => h wh pins s I⟩
theorem pa_w {es : List Expr} : PA X es (wA X es) := ⟨fun pos pins s _ _ _ I h => h pos pins s I⟩
theorem ps_w {st : Stmt} : PS X st (wS X st) := ⟨fun pins s _ _ _ I h => h pins s I⟩
theorem pss_w {st : List Stmt} : PSs X st (wSs X st) := ⟨fun pins s _ _ _ I h => h pins s I⟩
def PD (e : Expr) (δ : EnvD) (d : Dt) : Prop := ER X.K (wE X e) δ d
def PTD (e : Expr) (δ : EnvD) (b : Bool) : Prop := ETR X.K (wT X e) δ b
def PWD (e : Expr) (δ : EnvD) (b : Bool) : Prop := ETR X.K (wW X e) δ b
def PAD (es : List Expr) (δ : EnvD) (ds : List Dt) : Prop := EAR X.K (wA X es) δ ds
def SDD (st : Stmt) (δ : EnvD) (E : DE) : Prop := SR X.K (wS X st) δ E
def SDs (sts : List Stmt) (δ : EnvD) (E : DE) : Prop := SR X.K (wSs X sts) δ E
end
section
variable {X : Cx} {δ : EnvD}
theorem PD.of {e : Expr} {t : TE} {d : Dt} (h : PE X e t) (r : ER X.K t δ d) : PD X e δ d := fun H0 G H σ a b Q q pins s I => h.run pins s σ H Q I (r H0 G H σ a b Q q)
theorem PTD.of {e : Expr} {t : TT} {b : Bool} (h : PT X e t) (r : ETR X.K t δ b) : PTD X e δ b := fun H0 G H σ a b Q q pins s I => h.run pins s σ H Q I (r H0 G H σ a b Q q)
theorem PWD.of {e : Expr} {t : TT} {b : Bool} (h : PW X e t) (r : ETR X.K t δ b) : PWD X e δ b := fun H0 G H σ a b Q q wh pins s I => h.run wh pins s σ H Q I (r H0 G H σ a b Q q)
theorem PAD.of {es : List Expr} {t : TA} {ds : List Dt} (h : PA X es t) (r : EAR X.K t δ ds) : PAD X es δ ds := fun H0 G H σ a b Q q pos pins s I => h.run pos pins s σ H Q I (r H0 G H σ a b Q q)
theorem SDD.of {st : Stmt} {t : TS} {E : DE} (h : PS X st t) (r : SR X.K t δ E) : SDD X st δ E := fun G0 H0 G H σ a b D q pins s I => h.run pins s σ H D I (r G0 H0 G H σ a b D q)
theorem SDs.of {st : List Stmt} {t : TS} {E : DE} (h : PSs X st t) (r : SR X.K t δ E) : SDs X st δ E := fun G0 H0 G H σ a b D q pins s I => h.run pins s σ H D I (r G0 H0 G H σ a b D q)

/-! ### names and constants -/
theorem er_c {K : PySem.W.Frag} {v : V} {d : Dt} (h : ∀ G, Rp K G v d) : ER K (tC v) δ d := fun H0 G H σ e r Q q => q v G H (.refl e) (h G)
theorem pd_var (i : Nat) {x : Str} {pos : Pos} {d : Dt} (h : δ[i]? = some (im d) := by rfl) (hN : X.N[i]? = some x := by rfl) (hv : Vis X.env.scope x := by first | exact Or.inl rfl | exact Or.inr (Or.inl rfl) | exact Or.inr (Or.inr rfl))
    (hd : (x == ("__debug__" : Str)) = false := by decide) (hcd : (x == ("__classdict__" : Str)) = false := by decide) : PD X (.Name x pos) δ d :=
  PD.of (pe_var hN hv hd hcd) fun H0 G H σ e r Q q => by
    obtain ⟨v, a, b⟩ := r.at_ i _ h
    exact ⟨v, a, q v G H (.refl e) b⟩
theorem pd_int {i : Int} {j : Nat} {pos : Pos} : PD X (.Constant (.int i) j pos) δ (.int i) := PD.of pe_int (er_c fun _ => .int i)
theorem pd_bl {b : Bool} {j : Nat} {pos : Pos} : PD X (.Constant (.bool b) j pos) δ (.bl b) := PD.of pe_bl (er_c fun _ => .bl b)
theorem pd_non {j : Nat} {pos : Pos} : PD X (.Constant .none j pos) δ .non := PD.of pe_non (er_c fun _ => .non)
theorem pd_str {x j} {pos : Pos} : PD X (.Constant (.str x) j pos) δ (.str x) := PD.of pe_str (er_c fun _ => .str x)
theorem pd_gint {x : Str} {i : Int} {pos : Pos} (hm : ∃ t, X.mg x = some (.int i t)) (hg : Gl X x := by rfl) (hd : (x == ("__debug__" : Str)) = false := by decide) : PD X (.Name x pos) δ (.int i) := by
  obtain ⟨t, hm⟩ := hm
  exact PD.of (pe_glob hg hm (v := .int i) ⟨t, rfl⟩ hd) (er_c fun _ => .int i)
theorem pd_gref {x : Str} {a : Addr} {d : Dt} {pos : Pos} (hm : X.mg x = some (.ref a)) (h : ∀ G, Rp X.K G (.ref a) d) (hg : Gl X x := by rfl) (hd : (x == ("__debug__" : Str)) = false := by decide) : PD X (.Name x pos) δ d :=
  PD.of (pe_glob hg hm (v := .ref a) rfl hd) (er_c h)

/-! ### argument lists, displays -/
def notStar : Expr → Bool
  | .Starred _ _ => false
  | _ => true
theorem se {e : Expr} {es : List Expr} {env : Env} (h : notStar e = true) : starEach (e :: es) env = (false, eval e env) :: starEach es env := by
  cases e <;> first | rfl | cases h
theorem se1 {e : Expr} {env : Env} (h : notStar e = true) : starEach [e] env = [(false, eval e env)] := se h
theorem se2 {e e' : Expr} {env : Env} (h : notStar e = true) (h' : notStar e' = true) : starEach [e, e'] env = [(false, eval e env), (false, eval e' env)] := by
  rw [se h, se h']
  rfl
theorem pad_nil : PAD X [] δ [] := PAD.of pa_nil fun H0 G H σ e r Q q => q [] G H (.refl e) .nil
theorem pad_cons {e : Expr} {es : List Expr} {d : Dt} {ds : List Dt} (ha : PD X e δ d) (hr : PAD X es δ ds) (hs : notStar e = true := by rfl) : PAD X (e :: es) δ (d :: ds) :=
  PAD.of (pa_cons (pe_w X) (pa_w X) (se hs)) fun H0 G H σ a r Q q => ha H0 G H σ a r _ fun v G1 H1 s1 r1 =>
    hr H0 G1 H1 σ s1.h (r.mono s1) _ fun vs G2 H2 s2 r2 => q _ G2 H2 (s1.trans s2) (.cons (Rp.mono s2.g _ _ r1) r2)
theorem sz_le {n : Nat} (h : n ≤ 100000) : n ≤ sizeLine := Nat.le_trans h (by decide)
theorem pd_tup {es : List Expr} {n : Nat} {pos : Pos} {ds : List Dt} (h : PAD X es δ ds) (hl : Nat.ble ds.length 100000 = true := by rfl) : PD X (.Tuple es n pos) δ (.tup ds) :=
  PD.of (pe_tup (pa_w X)) fun H0 G H σ a r Q q => h H0 G H σ a r _ fun vs G1 H1 s1 r1 => by
    refine ⟨by rw [r1.length]; exact sz_le (Nat.le_of_ble_eq_true hl), fun p np => ?_⟩
    have s2 := Stp.new (o := .tup vs) s1.h np
    exact q _ _ _ (s1.trans s2) (.tup (.inl (.inl upd_same)) (Rps.mono s2.g _ _ r1))
theorem pd_lst {es : List Expr} {pos : Pos} {ds : List Dt} (h : PAD X es δ ds) (hl : Nat.ble ds.length 100000 = true := by rfl) : PD X (.List es pos) δ (.lst ds) :=
  PD.of (pe_lst (pa_w X)) fun H0 G H σ a r Q q => h H0 G H σ a r _ fun vs G1 H1 s1 r1 => by
    refine ⟨by rw [r1.length]; exact sz_le (Nat.le_of_ble_eq_true hl), fun p np => ?_⟩
    have s2 := Stp.new (o := .lst vs) s1.h np
    exact q _ _ _ (s1.trans s2) (.lst upd_same (Rps.mono s2.g _ _ r1))

/-! ### operators -/
theorem er_2 {K : PySem.W.Frag} {a b : Expr} {x y : Dt} {r : R2} {d : Dt} (hK : X.K = K) (ha : PD X a δ x) (hb : PD X b δ y)
    (h : ∀ G H u v, Same G H → Rp K G u x → Rp K G v y → ∀ Q : VK, (∀ w G' H', Stp G H G' H' → Rp K G' w d → Q w H') → r u v H Q) : ER K (tOp r (wE X a) (wE X b)) δ d := by
  subst hK
  intro H0 G H σ e rs Q q
  refine ha H0 G H σ e rs _ fun v G1 H1 s1 r1 => ?_
  refine hb H0 G1 H1 σ s1.h (rs.mono s1) _ fun w G2 H2 s2 r2 => ?_
  exact h G2 H2 v w s2.h (Rp.mono s2.g _ _ r1) r2 Q fun z G3 H3 s3 r3 => q z G3 H3 ((s1.trans s2).trans s3) r3
theorem pd_I {a b : Expr} {op : Operator} {C : Int → Int → Prop} {g : Int → Int → Int} {i j : Int} {pos : Pos} (ho : OpR X (binaryOp op) (rI C fun i j => .int (g i j))) (ha : PD X a δ (.int i)) (hb : PD X b δ (.int j)) (hc : C i j) : PD X (.BinOp a op b pos) δ (.int (g i j)) :=
  PD.of (pe_op ho (pe_w X) (pe_w X)) (er_2 rfl ha hb fun G H u v e hu hv Q q => by
    cases hu
    cases hv
    exact ⟨i, j, rfl, rfl, hc, q _ G H (.refl e) (.int _)⟩)
theorem pd_I0 {a b : Expr} {op : Operator} {g : Int → Int → Int} {i j : Int} {pos : Pos} (ho : OpR X (binaryOp op) (rI0 fun i j => .int (g i j))) (ha : PD X a δ (.int i)) (hb : PD X b δ (.int j)) : PD X (.BinOp a op b pos) δ (.int (g i j)) :=
  PD.of (pe_op ho (pe_w X) (pe_w X)) (er_2 rfl ha hb fun G H u v e hu hv Q q => by
    cases hu
    cases hv
    exact ⟨i, j, rfl, rfl, q _ G H (.refl e) (.int _)⟩)
variable {a b c : Expr} {i j k : Int} {pos : Pos}
theorem pd_add (ha : PD X a δ (.int i)) (hb : PD X b δ (.int j)) : PD X (.BinOp a .Add b pos) δ (.int (i + j)) := pd_I0 (g := fun i j => i + j) op_add ha hb
theorem pd_sub (ha : PD X a δ (.int i)) (hb : PD X b δ (.int j)) : PD X (.BinOp a .Sub b pos) δ (.int (i - j)) := pd_I0 (g := fun i j => i - j) op_sub ha hb
theorem pd_mul (ha : PD X a δ (.int i)) (hb : PD X b δ (.int j)) (hc : CMul i j ∨ CMulW i j) : PD X (.BinOp a .Mult b pos) δ (.int (i * j)) := by
  rcases hc with hc | hc
  · exact pd_I (g := fun i j => i * j) op_mul ha hb hc
  · exact pd_I (g := fun i j => i * j) op_mulW ha hb hc
theorem pd_fdiv (ha : PD X a δ (.int i)) (hb : PD X b δ (.int j)) (hc : CDivW i j) : PD X (.BinOp a .FloorDiv b pos) δ (.int (i / j)) := pd_I (g := fun i j => i / j) op_fdivW ha hb hc
theorem pd_mod (ha : PD X a δ (.int i)) (hb : PD X b δ (.int j)) (hc : 0 < j) : PD X (.BinOp a .Mod b pos) δ (.int (i % j)) := pd_I (g := fun i j => i % j) op_mod ha hb hc
theorem pd_pow (ha : PD X a δ (.int i)) (hb : PD X b δ (.int j)) (hc : CPow i j) : PD X (.BinOp a .Pow b pos) δ (.int (i ^ j.toNat)) := pd_I (g := fun i j => i ^ j.toNat) op_pow ha hb hc
theorem pd_neg (ha : PD X a δ (.int i)) : PD X (.UnaryOp .USub a pos) δ (.int (-i)) :=
  PD.of (pe_un un_neg (pe_w X)) fun H0 G H σ e rs Q q => ha H0 G H σ e rs _ fun v G1 H1 s1 r1 => by
    cases r1
    exact ⟨i, rfl, q _ G1 H1 s1 (.int _)⟩
theorem pd_cat {ds es : List Dt} (ha : PD X a δ (.lst ds)) (hb : PD X b δ (.lst es)) (hl : ds.length + es.length ≤ 100000) : PD X (.BinOp a .Add b pos) δ (.lst (ds ++ es)) :=
  PD.of (pe_op op_cat (pe_w X) (pe_w X)) (er_2 rfl ha hb fun G H u v e hu hv Q q => by
    cases hu with
    | lst h1 h2 =>
      cases hv with
      | lst h3 h4 =>
        refine ⟨_, _, _, _, rfl, rfl, e _ _ h1, e _ _ h3, by rw [h2.length, h4.length]; exact sz_le hl, fun p np => ?_⟩
        exact q _ _ _ (Stp.new e np) (.lst upd_same (Rps.mono (same_upd (e.free np)) _ _ (h2.append h4))))

/-! ### items -/
theorem atI_of {α : Type} {xs : List α} {i : Int} {j : Nat} {v : α} (hi : i = (j : Int)) (h : xs[j]? = some v) : atI xs i = some v := by
  subst hi
  exact atI_nat h
theorem pd_ixT (j : Nat) {ds : List Dt} {d : Dt} (ha : PD X a δ (.tup ds)) (hb : PD X b δ (.int i)) (hi : i = (j : Int) := by rfl) (h : ds[j]? = some d := by rfl) (hs : PlainIx b := by exact fun _ _ => rfl) : PD X (.Subscript a b pos) δ d :=
  PD.of (pe_ix ix_tup (pe_w X) (pe_w X) hs) (er_2 rfl ha hb fun G H u v e hu hv Q q => by
    cases hu with
    | tup h1 h2 =>
      cases hv
      obtain ⟨x, hx, rx⟩ := h2.get h
      exact ⟨_, _, _, x, rfl, rfl, same_t e h1, atI_of hi hx, q _ G H (.refl e) rx⟩)
theorem pd_ixL (j : Nat) {ds : List Dt} {d : Dt} (ha : PD X a δ (.lst ds)) (hb : PD X b δ (.int i)) (hi : i = (j : Int) := by rfl) (h : ds[j]? = some d := by rfl) (hs : PlainIx b := by exact fun _ _ => rfl) : PD X (.Subscript a b pos) δ d :=
  PD.of (pe_ix ix_list (pe_w X) (pe_w X) hs) (er_2 rfl ha hb fun G H u v e hu hv Q q => by
    cases hu with
    | lst h1 h2 =>
      cases hv
      obtain ⟨x, hx, rx⟩ := h2.get h
      exact ⟨_, _, _, x, rfl, rfl, .inl (.inl (e _ _ h1)), atI_of hi hx, q _ G H (.refl e) rx⟩)
theorem pd_ixS (j : Nat) {ns : List Int} {n : Int} (ha : PD X a δ (.scr ns)) (hb : PD X b δ (.int i)) (hi : i = (j : Int)) (h : ns[j]? = some n) (hs : PlainIx b := by exact fun _ _ => rfl) : PD X (.Subscript a b pos) δ (.int n) :=
  PD.of (pe_ix ix_list (pe_w X) (pe_w X) hs) (er_2 rfl ha hb fun G H u v e hu hv Q q => by
    cases hu with
    | scr h1 =>
      cases hv
      exact ⟨_, _, _, .int n, rfl, rfl, e.seq h1, atI_of hi (by rw [List.getElem?_map, h]; rfl), q _ G H (.refl e) (.int n)⟩)
/-- an item of the growing list in slot s -/
theorem pd_ixM (s j : Nat) {x : Str} {p0 : Pos} {ds : List Dt} {d : Dt} (hm : δ[s]? = some (some (.mls ds))) (hb : PD X b δ (.int i)) (hi : ∀ xs : List V, xs.length = ds.length → ∀ v, xs[j]? = some v → atI xs i = some v) (h : ds[j]? = some d)
    (hN : X.N[s]? = some x := by rfl) (hv : Vis X.env.scope x := by first | exact Or.inl rfl | exact Or.inr (Or.inl rfl) | exact Or.inr (Or.inr rfl))
    (hd : (x == ("__debug__" : Str)) = false := by decide) (hcd : (x == ("__classdict__" : Str)) = false := by decide) (hs : PlainIx b := by exact fun _ _ => rfl) : PD X (.Subscript (.Name x p0) b pos) δ d :=
  PD.of (pe_ix ix_list (pe_var hN hv hd hcd) (pe_w X) hs) fun H0 G H σ e rs Q q => by
    obtain ⟨v, e1, l, xs, rfl, n, gn, hl, r⟩ := rs.at_ s _ hm
    refine ⟨_, e1, hb H0 G H σ e rs _ fun w G1 H1 s1 r1 => ?_⟩
    cases r1
    obtain ⟨y, hy, ry⟩ := r.get h
    exact ⟨l, xs, i, y, rfl, rfl, .inl (.inl (s1.m _ _ gn hl).2), hi xs r.length y hy, q _ G1 H1 s1 (Rp.mono s1.g _ _ ry)⟩

/-! ### fields -/
def findK (f : Str) : List Str → Option Nat
  | [] => none
  | g :: r => if f == g then some 0 else (findK f r).map (· + 1)
theorem lookup_find {α : Type} {f : Str} : ∀ {ks : List Str} {xs : List α} {j : Nat} {v : α}, findK f ks = some j → xs[j]? = some v → (ks.zip xs).lookup f = some v
  | [], _, _, _, h, _ => by simp [findK] at h
  | g :: r, [], j, v, _, h => by simp at h
  | g :: r, x :: xs, j, v, h, hx => by
    unfold findK at h
    rw [List.zip_cons_cons, List.lookup_cons]
    cases q : f == g with
    | true =>
      rw [q, if_pos rfl] at h
      cases h
      simpa using hx
    | false =>
      rw [q, if_neg Bool.false_ne_true] at h
      cases e : findK f r with
      | none =>
        rw [e] at h
        cases h
      | some k =>
        rw [e] at h
        cases h
        exact lookup_find e (by simpa using hx)
theorem lookup_miss {α : Type} {f : Str} : ∀ {ks : List Str} {xs : List α}, findK f ks = none → (ks.zip xs).lookup f = none
  | [], _, _ => by simp
  | g :: r, [], _ => by simp
  | g :: r, x :: xs, h => by
    unfold findK at h
    rw [List.zip_cons_cons, List.lookup_cons]
    cases q : f == g with
    | true =>
      rw [q, if_pos rfl] at h
      cases h
    | false =>
      rw [q, if_neg Bool.false_ne_true] at h
      cases e : findK f r with
      | none => exact lookup_miss e
      | some k =>
        rw [e] at h
        cases h
theorem putF_new {f : Str} {v : V} : ∀ {ks : List Str} {xs : List V}, findK f ks = none → ks.length = xs.length → putF f v (ks.zip xs) = (ks ++ [f]).zip (xs ++ [v])
  | [], [], _, _ => rfl
  | [], _ :: _, _, h => by simp at h
  | _ :: _, [], _, h => by simp at h
  | g :: r, x :: xs, h, hl => by
    unfold findK at h
    cases q : f == g with
    | true =>
      rw [q, if_pos rfl] at h
      cases h
    | false =>
      rw [q, if_neg Bool.false_ne_true] at h
      have ne : ¬ g = f := fun z => by
        subst z
        rw [beq_self_eq_true] at q
        cases q
      cases e : findK f r with
      | none =>
        rw [List.zip_cons_cons]
        unfold putF
        rw [if_neg ne, putF_new e (by simpa using hl)]
        rfl
      | some k =>
        rw [e] at h
        cases h
/-- what of the text a class must have -/
structure KCls (K : PySem.W.Frag) (C : Addr) (ks : List Str) : Prop where
  cls : Cls K C
  noat : ∀ f ∈ ks, NoAttr K C f
theorem pd_fld (n : Nat) {C : Addr} {ks : List Str} {ds : List Dt} {d : Dt} {f : Str} (kc : KCls X.K C ks) (ha : PD X a δ (.ins C ks ds)) (hf : findK f ks = some n := by decide +kernel) (h : ds[n]? = some d := by rfl) (hm : f ∈ ks := by decide +kernel)
    (hb : attributeBase a f X.env (eval a X.env) = eval a X.env := by rfl) : PD X (.Attribute a f pos) δ d :=
  PD.of (pe_fld (pe_w X) hb) fun H0 G H σ e rs Q q => ha H0 G H σ e rs _ fun v G1 H1 s1 r1 => by
    cases r1 with
    | ins h1 h2 h3 =>
      obtain ⟨x, hx, rx⟩ := h3.get h
      exact ⟨_, _, _, _, x, rfl, s1.h _ _ h1, kc.cls, kc.noat f hm, lookup_find hf hx, q _ G1 H1 s1 rx⟩

/-! ### comparisons -/
theorem etr_test {K : PySem.W.Frag} {t : TE} {x : Bool} (h : ER K t δ (.bl x)) : ETR K (tTest t) δ x := fun H0 G H σ e rs Q q => h H0 G H σ e rs _ fun v G1 H1 s1 r1 => by
  cases r1
  exact ⟨x, rfl, q G1 H1 s1⟩
theorem er_cmp {op : CmpOp} {p : Int → Int → Bool} (ha : PD X a δ (.int i)) (hb : PD X b δ (.int j)) : ER X.K (tOp (rI0 fun i j => .bl (p i j)) (wE X a) (wE X b)) δ (.bl (p i j)) :=
  er_2 rfl ha hb fun G H u v e hu hv Q q => by
    cases hu
    cases hv
    exact ⟨i, j, rfl, rfl, q _ G H (.refl e) (.bl _)⟩
theorem ptd_I {op : CmpOp} {p : Int → Int → Bool} (ho : OpR X (compareOp op) (rI0 fun i j => .bl (p i j))) (h1 : op ≠ .In) (h2 : op ≠ .NotIn) (ha : PD X a δ (.int i)) (hb : PD X b δ (.int j)) : PTD X (.Compare a [op] [b] pos) δ (p i j) :=
  PTD.of (pt_cmpR ho (pe_w X) (pe_w X) (nomark b h1 h2)) (etr_test (er_cmp (op := op) ha hb))
theorem pd_I2 {op : CmpOp} {p : Int → Int → Bool} (ho : OpR X (compareOp op) (rI0 fun i j => .bl (p i j))) (h1 : op ≠ .In) (h2 : op ≠ .NotIn) (ha : PD X a δ (.int i)) (hb : PD X b δ (.int j)) : PD X (.Compare a [op] [b] pos) δ (.bl (p i j)) :=
  PD.of (pe_cmpR ho (pe_w X) (pe_w X) (nomark b h1 h2)) (er_cmp (op := op) ha hb)
theorem ptd_lt (ha : PD X a δ (.int i)) (hb : PD X b δ (.int j)) : PTD X (.Compare a [.Lt] [b] pos) δ (decide (i < j)) := ptd_I (p := fun i j => decide (i < j)) op_lt (by decide) (by decide) ha hb
theorem ptd_le (ha : PD X a δ (.int i)) (hb : PD X b δ (.int j)) : PTD X (.Compare a [.LtE] [b] pos) δ (decide (i ≤ j)) := ptd_I (p := fun i j => decide (i ≤ j)) op_le (by decide) (by decide) ha hb
theorem ptd_gt (ha : PD X a δ (.int i)) (hb : PD X b δ (.int j)) : PTD X (.Compare a [.Gt] [b] pos) δ (decide (j < i)) := ptd_I (p := fun i j => decide (j < i)) op_gt (by decide) (by decide) ha hb
theorem ptd_ge (ha : PD X a δ (.int i)) (hb : PD X b δ (.int j)) : PTD X (.Compare a [.GtE] [b] pos) δ (decide (j ≤ i)) := ptd_I (p := fun i j => decide (j ≤ i)) op_ge (by decide) (by decide) ha hb
theorem pd_lt (ha : PD X a δ (.int i)) (hb : PD X b δ (.int j)) : PD X (.Compare a [.Lt] [b] pos) δ (.bl (decide (i < j))) := pd_I2 (p := fun i j => decide (i < j)) op_lt (by decide) (by decide) ha hb
theorem er_eqI (ha : PD X a δ (.int i)) (hb : PD X b δ (.int j)) : ER X.K (tOp rEq (wE X a) (wE X b)) δ (.bl (i == j)) :=
  er_2 rfl ha hb fun G H u v e hu hv Q q => by
    cases hu
    cases hv
    refine ⟨rfl, ?_⟩
    rw [dec_int]
    exact q _ G H (.refl e) (.bl _)
theorem ptd_eqI (ha : PD X a δ (.int i)) (hb : PD X b δ (.int j)) : PTD X (.Compare a [.Eq] [b] pos) δ (i == j) := PTD.of (pt_cmpR op_eq (pe_w X) (pe_w X) (nomark b)) (etr_test (er_eqI ha hb))
theorem pd_eqI (ha : PD X a δ (.int i)) (hb : PD X b δ (.int j)) : PD X (.Compare a [.Eq] [b] pos) δ (.bl (i == j)) := PD.of (pe_cmpR op_eq (pe_w X) (pe_w X) (nomark b)) (er_eqI ha hb)
theorem ptd_neI (ha : PD X a δ (.int i)) (hb : PD X b δ (.int j)) : PTD X (.Compare a [.NotEq] [b] pos) δ (!(i == j)) := PTD.of (pt_cmpR op_ne (pe_w X) (pe_w X) (nomark b)) (etr_test (er_2 rfl ha hb fun G H u v e hu hv Q q => by
    cases hu
    cases hv
    refine ⟨rfl, ?_⟩
    rw [dec_int]
    exact q _ G H (.refl e) (.bl _)))
theorem ptd_eqS {x y : Str} (ha : PD X a δ (.str x)) (hb : PD X b δ (.str y)) : PTD X (.Compare a [.Eq] [b] pos) δ (x == y) := PTD.of (pt_cmpR op_eq (pe_w X) (pe_w X) (nomark b)) (etr_test (er_2 rfl ha hb fun G H u v e hu hv Q q => by
    cases hu
    cases hv
    refine ⟨rfl, ?_⟩
    rw [dec_str]
    exact q _ G H (.refl e) (.bl _)))
theorem ptd_neS {x y : Str} (ha : PD X a δ (.str x)) (hb : PD X b δ (.str y)) : PTD X (.Compare a [.NotEq] [b] pos) δ (!(x == y)) := PTD.of (pt_cmpR op_ne (pe_w X) (pe_w X) (nomark b)) (etr_test (er_2 rfl ha hb fun G H u v e hu hv Q q => by
    cases hu
    cases hv
    refine ⟨rfl, ?_⟩
    rw [dec_str]
    exact q _ G H (.refl e) (.bl _)))
def isNon : Dt → Bool
  | .non => true
  | _ => false
theorem isNon_ok {K : PySem.W.Frag} {G : Hp} {v : V} {d : Dt} (h : Rp K G v d) : decide (v = V.non) = isNon d := by
  cases h <;> rfl
theorem ptd_isN {d : Dt} (ha : PD X a δ d) {n : Nat} {p2 : Pos} : PTD X (.Compare a [.Is] [.Constant .none n p2] pos) δ (isNon d) := PTD.of (pt_cmpR op_isN (pe_w X) (pe_w X) (nomark _)) (etr_test (er_2 rfl ha (pd_non (δ := δ)) fun G H u v e hu hv Q q => by
    cases hv
    refine ⟨rfl, ?_⟩
    rw [isNon_ok hu]
    exact q _ G H (.refl e) (.bl _)))
theorem ptd_notN {d : Dt} (ha : PD X a δ d) {n : Nat} {p2 : Pos} : PTD X (.Compare a [.IsNot] [.Constant .none n p2] pos) δ (!isNon d) := PTD.of (pt_cmpR op_notN (pe_w X) (pe_w X) (nomark _)) (etr_test (er_2 rfl ha (pd_non (δ := δ)) fun G H u v e hu hv Q q => by
    cases hv
    refine ⟨rfl, ?_⟩
    rw [isNon_ok hu]
    exact q _ G H (.refl e) (.bl _)))
theorem er_chain {p p' : Int → Int → Bool} (ha : PD X a δ (.int i)) (hb : PD X b δ (.int j)) (hc : PD X c δ (.int k)) :
    ER X.K (tChain (rI0 fun i j => .bl (p i j)) (rI0 fun i j => .bl (p' i j)) (wE X a) (wE X b) (wE X c)) δ (.bl (p i j && p' j k)) := by
  intro H0 G H σ e rs Q q
  refine ha H0 G H σ e rs _ fun v G1 H1 s1 r1 => ?_
  refine hb H0 G1 H1 σ s1.h (rs.mono s1) _ fun w G2 H2 s2 r2 => ?_
  cases r1
  cases r2
  refine ⟨i, j, rfl, rfl, p i j, rfl, ?_⟩
  cases e1 : p i j with
  | false =>
    rw [if_neg Bool.false_ne_true]
    exact q _ G2 H2 (s1.trans s2) (by rw [e1]; exact .bl false)
  | true =>
    rw [if_pos rfl]
    refine hc H0 G2 H2 σ s2.h ((rs.mono s1).mono s2) _ fun w G3 H3 s3 r3 => ?_
    cases r3
    exact ⟨j, k, rfl, rfl, q _ G3 H3 ((s1.trans s2).trans s3) (by rw [e1]; exact .bl (p' j k))⟩
theorem pd_chain {op op' : CmpOp} {p p' : Int → Int → Bool} (ho : OpR X (compareOp op) (rI0 fun i j => .bl (p i j))) (ho' : OpR X (compareOp op') (rI0 fun i j => .bl (p' i j))) (ha : PD X a δ (.int i)) (hb : PD X b δ (.int j)) (hc : PD X c δ (.int k))
    (hm : lastMarks [op, op'] [b, c] = false := by with_unfolding_all rfl) : PD X (.Compare a [op, op'] [b, c] pos) δ (.bl (p i j && p' j k)) := PD.of (pe_chain ho ho' (pe_w X) (pe_w X) (pe_w X) hm) (er_chain ha hb hc)
theorem ptd_chain {op op' : CmpOp} {p p' : Int → Int → Bool} (ho : OpR X (compareOp op) (rI0 fun i j => .bl (p i j))) (ho' : OpR X (compareOp op') (rI0 fun i j => .bl (p' i j))) (ha : PD X a δ (.int i)) (hb : PD X b δ (.int j)) (hc : PD X c δ (.int k))
    (hm : lastMarks [op, op'] [b, c] = false := by with_unfolding_all rfl) : PTD X (.Compare a [op, op'] [b, c] pos) δ (p i j && p' j k) := PTD.of (pt_chain ho ho' (pe_w X) (pe_w X) (pe_w X) hm) (etr_test (er_chain ha hb hc))
theorem pd_lele (ha : PD X a δ (.int i)) (hb : PD X b δ (.int j)) (hc : PD X c δ (.int k)) (hm : lastMarks [.LtE, .LtE] [b, c] = false := by with_unfolding_all rfl) : PD X (.Compare a [.LtE, .LtE] [b, c] pos) δ (.bl (decide (i ≤ j) && decide (j ≤ k))) :=
  pd_chain (p := fun i j => decide (i ≤ j)) (p' := fun i j => decide (i ≤ j)) op_le op_le ha hb hc hm
theorem ptd_lele (ha : PD X a δ (.int i)) (hb : PD X b δ (.int j)) (hc : PD X c δ (.int k)) (hm : lastMarks [.LtE, .LtE] [b, c] = false := by with_unfolding_all rfl) : PTD X (.Compare a [.LtE, .LtE] [b, c] pos) δ (decide (i ≤ j) && decide (j ≤ k)) :=
  ptd_chain (p := fun i j => decide (i ≤ j)) (p' := fun i j => decide (i ≤ j)) op_le op_le ha hb hc hm
theorem ptd_lelt (ha : PD X a δ (.int i)) (hb : PD X b δ (.int j)) (hc : PD X c δ (.int k)) (hm : lastMarks [.LtE, .Lt] [b, c] = false := by with_unfolding_all rfl) : PTD X (.Compare a [.LtE, .Lt] [b, c] pos) δ (decide (i ≤ j) && decide (j < k)) :=
  ptd_chain (p := fun i j => decide (i ≤ j)) (p' := fun i j => decide (i < j)) op_le op_lt ha hb hc hm
/-- a op b op c op d as a test -/
def tChain3 (r1 r2 r3 : R2) (ta tb tc td : TE) : TT := fun σ H Q => ta σ H fun x H1 => tb σ H1 fun y H2 => r1 x y H2 fun z H3 => ∃ k, z = .bl k ∧
  (if k = true then tc σ H3 fun w H4 => r2 y w H4 fun z2 H5 => ∃ k2, z2 = .bl k2 ∧ (if k2 = true then td σ H5 fun u H6 => r3 w u H6 fun z3 H7 => ∃ k3, z3 = .bl k3 ∧ Q k3 H7 else Q false H5) else Q false H3)
theorem pt_chain3 {op1 op2 op3 : CmpOp} {r1 r2 r3 : R2} {d : Expr} {ta tb tc td : TE} (ho1 : OpR X (compareOp op1) r1) (ho2 : OpR X (compareOp op2) r2) (ho3 : OpR X (compareOp op3) r3) (ha : PE X a ta) (hb : PE X b tb) (hc : PE X c tc) (hd : PE X d td)
    (hm : lastMarks [op1, op2, op3] [b, c, d] = false := by with_unfolding_all rfl) : PT X (.Compare a [op1, op2, op3] [b, c, d] pos) (tChain3 r1 r2 r3 ta tb tc td) := by
  refine ⟨fun pins s σ H Q I h => ?_⟩
  refine isTrue_chain (thn (ha.run pins s σ H _ I h) fun v s1 ⟨x, H1, I1, r1, q1⟩ => test_link (thn (hb.run pins s1 σ H1 _ I1 q1) fun u s2 ⟨y, H2, I2, r2, q2⟩ =>
    thn (ho1 pins s2 σ H2 x y v u _ I2 r1 r2 q2) fun d s3 ⟨z, H3, I3, r3, k, e, q3⟩ => ?_)) hm
  subst e
  cases r3
  refine wpAny_truthy_bool ?_
  cases k with
  | false => exact ite_ff ⟨H3, I3, q3⟩
  | true =>
    refine ite_tt (test_link (thn (hc.run pins s3 σ H3 _ I3 q3) fun w' s4 ⟨z', H4, I4, r4, q4⟩ => thn (ho2 pins s4 σ H4 y z' u w' _ I4 r2 r4 q4) fun d' s5 ⟨z2, H5, I5, r5, k2, e2, q5⟩ => ?_))
    subst e2
    cases r5
    refine wpAny_truthy_bool ?_
    cases k2 with
    | false => exact ite_ff ⟨H5, I5, q5⟩
    | true =>
      refine ite_tt (test_last (thn (hd.run pins s5 σ H5 _ I5 q5) fun w2 s6 ⟨z6, H6, I6, r6, q6⟩ => thn (ho3 pins s6 σ H6 z' z6 w' w2 _ I6 r4 r6 q6) fun d6 s7 ⟨z7, H7, I7, r7, k3, e3, q7⟩ => ?_))
      subst e3
      cases r7
      exact wpAny_truthy_bool ⟨H7, I7, q7⟩
theorem ptd_lelele {d : Expr} {l : Int} (ha : PD X a δ (.int i)) (hb : PD X b δ (.int j)) (hc : PD X c δ (.int k)) (hd : PD X d δ (.int l)) (hm : lastMarks [.LtE, .LtE, .LtE] [b, c, d] = false := by with_unfolding_all rfl) :
    PTD X (.Compare a [.LtE, .LtE, .LtE] [b, c, d] pos) δ (decide (i ≤ j) && (decide (j ≤ k) && decide (k ≤ l))) := by
  refine PTD.of (pt_chain3 op_le op_le op_le (pe_w X) (pe_w X) (pe_w X) (pe_w X) hm) fun H0 G H σ e rs Q q => ?_
  refine ha H0 G H σ e rs _ fun v G1 H1 s1 r1 => ?_
  refine hb H0 G1 H1 σ s1.h (rs.mono s1) _ fun w G2 H2 s2 r2 => ?_
  cases r1
  cases r2
  refine ⟨i, j, rfl, rfl, decide (i ≤ j), rfl, ?_⟩
  cases e1 : decide (i ≤ j) with
  | false =>
    rw [if_neg Bool.false_ne_true]
    have z := q G2 H2 (s1.trans s2)
    rw [e1] at z
    exact z
  | true =>
    rw [if_pos rfl]
    refine hc H0 G2 H2 σ s2.h ((rs.mono s1).mono s2) _ fun w G3 H3 s3 r3 => ?_
    cases r3
    refine ⟨j, k, rfl, rfl, decide (j ≤ k), rfl, ?_⟩
    cases e2 : decide (j ≤ k) with
    | false =>
      rw [if_neg Bool.false_ne_true]
      have z := q G3 H3 ((s1.trans s2).trans s3)
      rw [e1, e2] at z
      exact z
    | true =>
      rw [if_pos rfl]
      refine hd H0 G3 H3 σ s3.h (((rs.mono s1).mono s2).mono s3) _ fun w G4 H4 s4 r4 => ?_
      cases r4
      refine ⟨k, l, rfl, rfl, decide (k ≤ l), rfl, ?_⟩
      have z := q G4 H4 (((s1.trans s2).trans s3).trans s4)
      rw [e1, e2] at z
      exact z

/-! ### and, or, not; if else -/
variable {rest : List Expr} {x y : Bool}
theorem ptd_w (h : PWD X a δ x) : PTD X a δ x := PTD.of (pw_w X).pt h
theorem pwd_and1 (h : PTD X a δ x) : PWD X (.BoolOp .And [a] pos) δ x := PWD.of (pw_and1 (pt_w X)) h
theorem pwd_or1 (h : PTD X a δ x) : PWD X (.BoolOp .Or [a] pos) δ x := PWD.of (pw_or1 (pt_w X)) h
theorem pwd_and (ha : PTD X a δ x) (hb : PWD X (.BoolOp .And (b :: rest) pos) δ y) : PWD X (.BoolOp .And (a :: b :: rest) pos) δ (x && y) :=
  PWD.of (pw_and (pt_w X) (pw_w X)) fun H0 G H σ e rs Q q => ha H0 G H σ e rs _ fun G1 H1 s1 => by
    cases x with
    | true =>
      rw [if_pos rfl]
      exact hb H0 G1 H1 σ s1.h (rs.mono s1) Q fun G2 H2 s2 => q G2 H2 (s1.trans s2)
    | false =>
      rw [if_neg Bool.false_ne_true]
      exact q G1 H1 s1
theorem pwd_or (ha : PTD X a δ x) (hb : PWD X (.BoolOp .Or (b :: rest) pos) δ y) : PWD X (.BoolOp .Or (a :: b :: rest) pos) δ (x || y) :=
  PWD.of (pw_or (pt_w X) (pw_w X)) fun H0 G H σ e rs Q q => ha H0 G H σ e rs _ fun G1 H1 s1 => by
    cases x with
    | true =>
      rw [if_pos rfl]
      exact q G1 H1 s1
    | false =>
      rw [if_neg Bool.false_ne_true]
      exact hb H0 G1 H1 σ s1.h (rs.mono s1) Q fun G2 H2 s2 => q G2 H2 (s1.trans s2)
theorem ptd_not (ha : PTD X a δ x) : PTD X (.UnaryOp .Not a pos) δ (!x) := PTD.of (pt_not (pt_w X)) fun H0 G H σ e rs Q q => ha H0 G H σ e rs _ fun G1 H1 s1 => q G1 H1 s1
theorem ptd_val (ha : PD X a δ (.bl x)) (he : ∀ whole, isTrue a X.env whole = (do let v ← whole; standAt a.pos; holding [v] (truthy v)) := by intro _; rfl) : PTD X a δ x := PTD.of (pt_val (pe_w X) he) (etr_test ha)
theorem pd_one {op} (h : PD X a δ (.bl x)) : PD X (.BoolOp op [a] pos) δ (.bl x) := PD.of (pe_one (pe_w X)) h
theorem pd_and (ha : PD X a δ (.bl x)) (hb : PD X (.BoolOp .And (b :: rest) pos) δ (.bl y)) : PD X (.BoolOp .And (a :: b :: rest) pos) δ (.bl (x && y)) :=
  PD.of (pe_and (pe_w X) (pe_w X)) fun H0 G H σ e rs Q q => ha H0 G H σ e rs _ fun v G1 H1 s1 r1 => by
    cases r1
    refine ⟨x, rfl, ?_⟩
    cases x with
    | true =>
      rw [if_pos rfl]
      exact hb H0 G1 H1 σ s1.h (rs.mono s1) Q fun v G2 H2 s2 => q v G2 H2 (s1.trans s2)
    | false =>
      rw [if_neg Bool.false_ne_true]
      exact q _ G1 H1 s1 (.bl false)
theorem pd_ifExp {d : Dt} (hc : PTD X c δ x) (ha : x = true → PD X a δ d) (hb : x = false → PD X b δ d) : PD X (.IfExp c a b pos) δ d :=
  PD.of (pe_ifExp (pt_w X) (pe_w X) (pe_w X)) fun H0 G H σ e rs Q q => hc H0 G H σ e rs _ fun G1 H1 s1 => by
    cases x with
    | true =>
      rw [if_pos rfl]
      exact ha rfl H0 G1 H1 σ s1.h (rs.mono s1) Q fun v G2 H2 s2 => q v G2 H2 (s1.trans s2)
    | false =>
      rw [if_neg Bool.false_ne_true]
      exact hb rfl H0 G1 H1 σ s1.h (rs.mono s1) Q fun v G2 H2 s2 => q v G2 H2 (s1.trans s2)

/-! ### built-ins -/
variable {es : List Expr} {e : Expr} {fx : Str} {p0 : Pos} {ds : List Dt} {d : Dt} {id : String} {T : String} {r : List V → Hp → VK → Prop}
def CR1 (K : PySem.W.Frag) (r : List V → Hp → VK → Prop) (ds : List Dt) (d : Dt) : Prop := ∀ G H vs, Same G H → Rps K G vs ds → ∀ Q : VK, (∀ v G' H', Stp G H G' H' → Rp K G' v d → Q v H') → r vs H Q
theorem er_cb {K : PySem.W.Frag} (hK : X.K = K) (ha : PAD X es δ ds) (h : CR1 K r ds d) : ER K (tCB r (wA X es)) δ d := by
  subst hK
  exact fun H0 G H σ e rs Q q => ha H0 G H σ e rs _ fun vs G1 H1 s1 r1 => h G1 H1 vs s1.h r1 Q fun v G2 H2 s2 r2 => q v G2 H2 (s1.trans s2) r2
theorem pd_callB (hc : CallR X (.builtin id) r) (hm : X.mg fx = none) (hv : bootBuiltins fx = some (.builtin id)) (ha : PAD X (e :: es) δ ds) (h : CR1 X.K r ds d) (hg : Gl X fx := by rfl) (hn : fx ≠ "__name__" := by decide) (hdb : (fx == ("__debug__" : Str)) = false := by decide)
    (he : notStar e = true := by rfl) (hpl : (backTo pos (starEach es X.env)).any (·.1) = false := by rfl) : PD X (.Call (.Name fx p0) (e :: es) [] pos) δ d := PD.of (pe_callB hc hg hm hv (pa_w X) hn hdb (se he) hpl) (er_cb rfl ha h)
theorem pd_callTy (hc : CallR X (.type T) r) (hm : X.mg fx = none) (hv : bootBuiltins fx = some (.type T)) (ha : PAD X (e :: es) δ ds) (h : CR1 X.K r ds d) (hg : Gl X fx := by rfl) (hn : fx ≠ "__name__" := by decide) (hdb : (fx == ("__debug__" : Str)) = false := by decide)
    (he : notStar e = true := by rfl) (hpl : (backTo pos (starEach es X.env)).any (·.1) = false := by rfl) : PD X (.Call (.Name fx p0) (e :: es) [] pos) δ d := PD.of (pe_callTy hc hg hm hv (pa_w X) hn hdb (se he) hpl) (er_cb rfl ha h)

theorem rps1 {K : PySem.W.Frag} {G : Hp} {vs : List V} {d : Dt} (h : Rps K G vs [d]) : ∃ v, vs = [v] ∧ Rp K G v d := by
  cases h with
  | cons a b =>
    cases b
    exact ⟨_, rfl, a⟩
theorem rps2 {K : PySem.W.Frag} {G : Hp} {vs : List V} {d e : Dt} (h : Rps K G vs [d, e]) : ∃ v w, vs = [v, w] ∧ Rp K G v d ∧ Rp K G w e := by
  cases h with
  | cons a b =>
    obtain ⟨w, rfl, c⟩ := rps1 b
    exact ⟨_, w, rfl, a, c⟩
theorem rps3 {K : PySem.W.Frag} {G : Hp} {vs : List V} {d e f : Dt} (h : Rps K G vs [d, e, f]) : ∃ v w z, vs = [v, w, z] ∧ Rp K G v d ∧ Rp K G w e ∧ Rp K G z f := by
  cases h with
  | cons a b =>
    obtain ⟨w, z, rfl, c⟩ := rps2 b
    exact ⟨_, w, z, rfl, a, c⟩
theorem rps_ints {K : PySem.W.Frag} {G : Hp} : ∀ {ns : List Int} {vs : List V}, Rps K G vs (ns.map Dt.int) → vs = ns.map V.int
  | [], _, h => by
    cases h
    rfl
  | n :: ns, _, h => by
    cases h with
    | cons a b =>
      cases a
      rw [rps_ints b]
      rfl
theorem cr_max2 (hc : X.calm = true) : CR1 X.K (fun xs H Q => ∃ i j, xs = [.int i, .int j] ∧ Q (.int (if j > i then j else i)) H) [.int i, .int j] (.int (max i j)) := fun G H vs e r Q q => by
  obtain ⟨v, w, rfl, r1, r2⟩ := rps2 r
  cases r1
  cases r2
  refine ⟨i, j, rfl, ?_⟩
  have z : (if j > i then j else i) = max i j := by
    split <;> omega
  rw [z]
  exact q _ G H (.refl e) (.int _)
theorem pd_max2 (hc : X.calm = true) (hm : X.mg "max" = none) (ha : PAD X (e :: es) δ [.int i, .int j]) (hg : Gl X "max" := by rfl) (he : notStar e = true := by rfl) (hpl : (backTo pos (starEach es X.env)).any (·.1) = false := by rfl) :
    PD X (.Call (.Name "max" p0) (e :: es) [] pos) δ (.int (max i j)) := pd_callB (call_max2 hc) hm (by decide +kernel) ha (cr_max2 hc) hg (by decide) (by decide) he hpl
theorem cr_min2 (hc : X.calm = true) : CR1 X.K (fun xs H Q => ∃ i j, xs = [.int i, .int j] ∧ Q (.int (if j < i then j else i)) H) [.int i, .int j] (.int (min i j)) := fun G H vs e r Q q => by
  obtain ⟨v, w, rfl, r1, r2⟩ := rps2 r
  cases r1
  cases r2
  refine ⟨i, j, rfl, ?_⟩
  have z : (if j < i then j else i) = min i j := by
    split <;> omega
  rw [z]
  exact q _ G H (.refl e) (.int _)
theorem pd_min2 (hc : X.calm = true) (hm : X.mg "min" = none) (ha : PAD X (e :: es) δ [.int i, .int j]) (hg : Gl X "min" := by rfl) (he : notStar e = true := by rfl) (hpl : (backTo pos (starEach es X.env)).any (·.1) = false := by rfl) :
    PD X (.Call (.Name "min" p0) (e :: es) [] pos) δ (.int (min i j)) := pd_callB (call_min2 hc) hm (by decide +kernel) ha (cr_min2 hc) hg (by decide) (by decide) he hpl
theorem pd_max3 (hc : X.calm = true) (hm : X.mg "max" = none) (ha : PAD X (e :: es) δ [.int i, .int j, .int k]) (hg : Gl X "max" := by rfl) (he : notStar e = true := by rfl) (hpl : (backTo pos (starEach es X.env)).any (·.1) = false := by rfl) :
    PD X (.Call (.Name "max" p0) (e :: es) [] pos) δ (.int (max (max i j) k)) := pd_callB (call_max3Nu hc) hm (by decide +kernel) ha (fun G H vs e r Q q => by
  obtain ⟨v, w, z, rfl, r1, r2, r3⟩ := rps3 r
  cases r1
  cases r2
  cases r3
  refine ⟨_, _, _, .int (max (max i j) k), rfl, ?_, q _ G H (.refl e) (.int _)⟩
  have z2 : ∀ a b : Int, nuMax2 (.int a) (.int b) = some (.int (max a b)) := fun a b => by
    show (some (decide (a < b))).map (fun c => if c = true then V.int b else V.int a) = _
    by_cases h : a < b
    · rw [decide_eq_true h]
      show some (V.int b) = _
      rw [show max a b = b by omega]
    · rw [decide_eq_false h]
      show some (V.int a) = _
      rw [show max a b = a by omega]
  show (nuMax2 (.int i) (.int j)).bind (fun m => nuMax2 m (.int k)) = _
  rw [z2]
  exact z2 _ _) hg (by decide) (by decide) he hpl
theorem min4_eq {a b c d m : Int} (hm : m ∈ [a, b, c, d]) (h : ∀ y ∈ [a, b, c, d], m ≤ y) : m = min (min a b) (min c d) := by
  have h1 := h a (by simp)
  have h2 := h b (by simp)
  have h3 := h c (by simp)
  have h4 := h d (by simp)
  simp only [List.mem_cons, List.not_mem_nil, or_false] at hm
  omega
theorem max4_eq {a b c d m : Int} (hm : m ∈ [a, b, c, d]) (h : ∀ y ∈ [a, b, c, d], y ≤ m) : m = max (max a b) (max c d) := by
  have h1 := h a (by simp)
  have h2 := h b (by simp)
  have h3 := h c (by simp)
  have h4 := h d (by simp)
  simp only [List.mem_cons, List.not_mem_nil, or_false] at hm
  omega
theorem rp_lst4 {K : PySem.W.Frag} {G : Hp} {v : V} {a b c d : Int} (h : Rp K G v (.lst [.int a, .int b, .int c, .int d])) : ∃ l, v = .ref l ∧ G l = some (.lst ([a, b, c, d].map V.int)) := by
  cases h with
  | lst h1 h2 =>
    rw [rps_ints (ns := [a, b, c, d]) h2] at h1
    exact ⟨_, rfl, h1⟩
variable {l : Int}
theorem pd_min4 (hc : X.calm = true) (hm : X.mg "min" = none) (ha : PD X e δ (.lst [.int i, .int j, .int k, .int l])) (hg : Gl X "min" := by rfl) (hs : notStar e = true := by rfl) (hpl : (backTo pos (starEach [] X.env)).any (·.1) = false := by rfl) :
    PD X (.Call (.Name "min" p0) [e] [] pos) δ (.int (min (min i j) (min k l))) := pd_callB (cr_min hc) hm (by decide +kernel) (pad_cons ha pad_nil hs) (fun G H vs e r Q q => by
  obtain ⟨v, rfl, r1⟩ := rps1 r
  obtain ⟨a, rfl, h1⟩ := rp_lst4 r1
  refine ⟨a, _, rfl, .inl (.inl (e _ _ h1)), Nat.succ_pos _, fun m m1 m2 => ?_⟩
  rw [min4_eq m1 m2]
  exact q _ G H (.refl e) (.int _)) hg (by decide) (by decide) hs hpl
theorem pd_max4 (hc : X.calm = true) (hm : X.mg "max" = none) (ha : PD X e δ (.lst [.int i, .int j, .int k, .int l])) (hg : Gl X "max" := by rfl) (hs : notStar e = true := by rfl) (hpl : (backTo pos (starEach [] X.env)).any (·.1) = false := by rfl) :
    PD X (.Call (.Name "max" p0) [e] [] pos) δ (.int (max (max i j) (max k l))) := pd_callB (cr_max hc) hm (by decide +kernel) (pad_cons ha pad_nil hs) (fun G H vs e r Q q => by
  obtain ⟨v, rfl, r1⟩ := rps1 r
  obtain ⟨a, rfl, h1⟩ := rp_lst4 r1
  refine ⟨a, _, rfl, .inl (.inl (e _ _ h1)), Nat.succ_pos _, fun m m1 m2 => ?_⟩
  rw [max4_eq m1 m2]
  exact q _ G H (.refl e) (.int _)) hg (by decide) (by decide) hs hpl
theorem pd_abs (hm : X.mg "abs" = none) (ha : PD X e δ (.int i)) (hg : Gl X "abs" := by rfl) (hs : notStar e = true := by rfl) (hpl : (backTo pos (starEach [] X.env)).any (·.1) = false := by rfl) :
    PD X (.Call (.Name "abs" p0) [e] [] pos) δ (.int (max i (-i))) := pd_callB call_abs hm (by decide +kernel) (pad_cons ha pad_nil hs) (fun G H vs e r Q q => by
  obtain ⟨v, rfl, r1⟩ := rps1 r
  cases r1
  refine ⟨i, rfl, ?_⟩
  rw [show (if i < 0 then -i else i) = max i (-i) by split <;> omega]
  exact q _ G H (.refl e) (.int _)) hg (by decide) (by decide) hs hpl
theorem pd_toInt (hm : X.mg "int" = none) (ha : PD X e δ (.int i)) (hg : Gl X "int" := by rfl) (hs : notStar e = true := by rfl) (hpl : (backTo pos (starEach [] X.env)).any (·.1) = false := by rfl) :
    PD X (.Call (.Name "int" p0) [e] [] pos) δ (.int i) := pd_callTy call_int1 hm (by decide +kernel) (pad_cons ha pad_nil hs) (fun G H vs e r Q q => by
  obtain ⟨v, rfl, r1⟩ := rps1 r
  cases r1
  exact .inl ⟨i, rfl, q _ G H (.refl e) (.int _)⟩) hg (by decide) (by decide) hs hpl
theorem pd_lenL {ds : List Dt} (hm : X.mg "len" = none) (ha : PD X e δ (.lst ds)) (hg : Gl X "len" := by rfl) (hs : notStar e = true := by rfl) (hpl : (backTo pos (starEach [] X.env)).any (·.1) = false := by rfl) :
    PD X (.Call (.Name "len" p0) [e] [] pos) δ (.int ds.length) := pd_callB call_len_seq hm boot_len (pad_cons ha pad_nil hs) (fun G H vs e r Q q => by
  obtain ⟨v, rfl, r1⟩ := rps1 r
  cases r1 with
  | lst h1 h2 =>
    refine ⟨_, _, rfl, .inl (.inl (.inl (e _ _ h1))), ?_⟩
    rw [h2.length]
    exact q _ G H (.refl e) (.int _)) hg (by decide) (by decide) hs hpl
theorem pd_lenS {ns : List Int} (hm : X.mg "len" = none) (ha : PD X e δ (.scr ns)) (hg : Gl X "len" := by rfl) (hs : notStar e = true := by rfl) (hpl : (backTo pos (starEach [] X.env)).any (·.1) = false := by rfl) :
    PD X (.Call (.Name "len" p0) [e] [] pos) δ (.int ns.length) := pd_callB call_len_seq hm boot_len (pad_cons ha pad_nil hs) (fun G H vs e r Q q => by
  obtain ⟨v, rfl, r1⟩ := rps1 r
  cases r1 with
  | scr h1 =>
    refine ⟨_, _, rfl, .inl (e.seq h1), ?_⟩
    rw [List.length_map]
    exact q _ G H (.refl e) (.int _)) hg (by decide) (by decide) hs hpl
theorem pd_lenT {x : Str} (hm : X.mg "len" = none) (ha : PD X e δ (.str x)) (hl : x.length ≤ 100000) (hg : Gl X "len" := by rfl) (hs : notStar e = true := by rfl) (hpl : (backTo pos (starEach [] X.env)).any (·.1) = false := by rfl) :
    PD X (.Call (.Name "len" p0) [e] [] pos) δ (.int x.length) := pd_callB call_len_str hm boot_len (pad_cons ha pad_nil hs) (fun G H vs e r Q q => by
  obtain ⟨v, rfl, r1⟩ := rps1 r
  cases r1
  exact ⟨x, rfl, sz_le hl, q _ G H (.refl e) (.int _)⟩) hg (by decide) (by decide) hs hpl
theorem pd_listL {ds : List Dt} (hm : X.mg "list" = none) (ha : PD X e δ (.lst ds)) (hg : Gl X "list" := by rfl) (hs : notStar e = true := by rfl) (hpl : (backTo pos (starEach [] X.env)).any (·.1) = false := by rfl) :
    PD X (.Call (.Name "list" p0) [e] [] pos) δ (.lst ds) := pd_callTy call_list_of hm (by decide +kernel) (pad_cons ha pad_nil hs) (fun G H vs e r Q q => by
  obtain ⟨v, rfl, r1⟩ := rps1 r
  cases r1 with
  | lst h1 h2 => exact ⟨_, _, rfl, .inl (.inl (.inl (e _ _ h1))), fun p np => q _ _ _ (.new e np) (.lst upd_same (Rps.mono (same_upd (e.free np)) _ _ h2))⟩) hg (by decide) (by decide) hs hpl
theorem pd_listT {ds : List Dt} (hm : X.mg "list" = none) (ha : PD X e δ (.tup ds)) (hg : Gl X "list" := by rfl) (hs : notStar e = true := by rfl) (hpl : (backTo pos (starEach [] X.env)).any (·.1) = false := by rfl) :
    PD X (.Call (.Name "list" p0) [e] [] pos) δ (.lst ds) := pd_callTy call_list_of hm (by decide +kernel) (pad_cons ha pad_nil hs) (fun G H vs e r Q q => by
  obtain ⟨v, rfl, r1⟩ := rps1 r
  cases r1 with
  | tup h1 h2 => exact ⟨_, _, rfl, .inr (same_t e h1), fun p np => q _ _ _ (.new e np) (.lst upd_same (Rps.mono (same_upd (e.free np)) _ _ h2))⟩) hg (by decide) (by decide) hs hpl
theorem pd_tupleL {ds : List Dt} (hm : X.mg "tuple" = none) (ha : PD X e δ (.lst ds)) (hg : Gl X "tuple" := by rfl) (hs : notStar e = true := by rfl) (hpl : (backTo pos (starEach [] X.env)).any (·.1) = false := by rfl) :
    PD X (.Call (.Name "tuple" p0) [e] [] pos) δ (.tup ds) := pd_callTy call_tuple_of hm (by decide +kernel) (pad_cons ha pad_nil hs) (fun G H vs e r Q q => by
  obtain ⟨v, rfl, r1⟩ := rps1 r
  cases r1 with
  | lst h1 h2 => exact ⟨_, _, rfl, .inl ⟨.inl (.inl (e _ _ h1)), fun p np => q _ _ _ (.new e np) (.tup (.inl (.inl upd_same)) (Rps.mono (same_upd (e.free np)) _ _ h2))⟩⟩) hg (by decide) (by decide) hs hpl
theorem pd_sum {ns : List Int} (hc : X.calm = true) (hm : X.mg "sum" = none) (ha : PD X e δ (.lst (ns.map Dt.int))) (hg : Gl X "sum" := by rfl) (hs : notStar e = true := by rfl) (hpl : (backTo pos (starEach [] X.env)).any (·.1) = false := by rfl) :
    PD X (.Call (.Name "sum" p0) [e] [] pos) δ (.int ns.sum) := pd_callB (cr_sum hc) hm (by decide +kernel) (pad_cons ha pad_nil hs) (fun G H vs e r Q q => by
  obtain ⟨v, rfl, r1⟩ := rps1 r
  cases r1 with
  | lst h1 h2 =>
    rw [rps_ints h2] at h1
    exact ⟨_, ns, rfl, .inl (.inl (e _ _ h1)), q _ G H (.refl e) (.int _)⟩) hg (by decide) (by decide) hs hpl
/-- the integer root -/
def isq (n : Int) : Int := ((Float64.isqrt n.toNat : Nat) : Int)
theorem isq_spec {n : Int} (h : 0 ≤ n) : 0 ≤ isq n ∧ isq n * isq n ≤ n ∧ n < (isq n + 1) * (isq n + 1) := by
  obtain ⟨a, b⟩ := PySem.Float64.isqrt_spec n.toNat
  refine ⟨Int.natCast_nonneg _, ?_, ?_⟩
  · have c : ((Float64.isqrt n.toNat * Float64.isqrt n.toNat : Nat) : Int) ≤ (n.toNat : Int) := Int.ofNat_le.mpr a
    rw [Int.natCast_mul] at c
    unfold isq
    omega
  · have c : (n.toNat : Int) < (((Float64.isqrt n.toNat + 1) * (Float64.isqrt n.toNat + 1) : Nat) : Int) := Int.ofNat_lt.mpr b
    rw [Int.natCast_mul] at c
    unfold isq
    have e : ((Float64.isqrt n.toNat + 1 : Nat) : Int) = (Float64.isqrt n.toNat : Int) + 1 := by omega
    rw [e] at c
    omega
def rIsq : List V → Hp → VK → Prop := fun vs H Q => ∃ a : Int, vs = [.int a] ∧ 0 ≤ a ∧ a.toNat.log2 < 13000 ∧ Q (.int (isq a)) H
theorem cr_isqrt : CallR X (.builtin "math.isqrt") rIsq := by
  intro pins s σ H vs us Q I r h
  obtain ⟨a, rfl, h0, h1, q⟩ := h
  obtain ⟨u, rfl, ru⟩ := vals1 r
  obtain ⟨t, rfl⟩ := ru
  exact call_function_meets PySem.W.MGF.kind_isqrt PySem.W.MGF.plain_isqrt PySem.W.MGF.entry_isqrt (PySem.W.MGF.args_isqrt _) (PySem.W.mg_run_isqrt a t (by omega) (by omega) (by omega)).meets ⟨.int _, H, I.tok _, ⟨_, rfl⟩, q⟩
theorem pd_isqrt {fx : Str} (hm : X.mg fx = some (.builtin "math.isqrt")) (ha : PD X e δ (.int i)) (h0 : 0 ≤ i) (h1 : i.toNat.log2 < 13000) (hg : Gl X fx := by rfl) (hdb : (fx == ("__debug__" : Str)) = false := by decide) (hs : notStar e = true := by rfl)
    (hpl : (backTo pos (starEach [] X.env)).any (·.1) = false := by rfl) : PD X (.Call (.Name fx p0) [e] [] pos) δ (.int (isq i)) := PD.of (pe_callBfun cr_isqrt hg hm (pa_w X) hdb (se hs) hpl) (er_cb rfl (pad_cons ha pad_nil hs) (fun G H vs e r Q q => by
  obtain ⟨v, rfl, r1⟩ := rps1 r
  cases r1
  exact ⟨i, rfl, h0, h1, q _ G H (.refl e) (.int _)⟩))
/-- == of two triples of ints -/
theorem ptd_eqT3 {a1 a2 a3 b1 b2 b3 : Int} (hu : X.A.units + 64 < cLine) (ha : PD X a δ (.tup [.int a1, .int a2, .int a3])) (hb : PD X b δ (.tup [.int b1, .int b2, .int b3])) : PTD X (.Compare a [.Eq] [b] pos) δ (decide (a1 = b1 ∧ a2 = b2 ∧ a3 = b3)) :=
  PTD.of (pt_cmpR (op_eqD hu) (pe_w X) (pe_w X) (nomark b)) (etr_test (er_2 rfl ha hb fun G H u v e hu hv Q q => by
    cases hu with
    | tup h1 h2 =>
      cases hv with
      | tup h3 h4 =>
        rw [rps_ints (ns := [a1, a2, a3]) h2] at h1
        rw [rps_ints (ns := [b1, b2, b3]) h4] at h3
        refine ⟨.tuple [.int a1, .int a2, .int a3], .tuple [.int b1, .int b2, .int b3], .tup (same_t e h1) (.cons (.int _) (.cons (.int _) (.cons (.int _) .nil))), .tup (same_t e h3) (.cons (.int _) (.cons (.int _) (.cons (.int _) .nil))), by rfl, by rfl, ?_⟩
        have z : PyData.eqv (.tuple [.int a1, .int a2, .int a3]) (.tuple [.int b1, .int b2, .int b3]) = decide (a1 = b1 ∧ a2 = b2 ∧ a3 = b3) := by
          show ((a1 == b1) && ((a2 == b2) && ((a3 == b3) && true))) = _
          rw [Bool.and_true, Bool.decide_and, Bool.decide_and]
          rfl
        rw [z]
        exact q _ G H (.refl e) (.bl _)))
end

/-! ### the promise of a def, of a method, of an __init__ -/
def spD (K : PySem.W.Frag) (F : List Dt → Dt → Prop) : Sp := fun vs H Q _ => ∃ G ds d, Same G H ∧ F ds d ∧ Rps K G vs ds ∧ ∀ v G' H', Stp G H G' H' → Rp K G' v d → Q v H'
def spI (K : PySem.W.Frag) (C : Addr) (ks : List Str) (F : List Dt → List Dt → Prop) : Sp := fun vs H Q _ => ∃ G H0 x dx args ds ds', vs = .ref x :: args ∧ Stp G H0 G H ∧ H0 x = none ∧ G x = none ∧ H x = some (.ins C dx []) ∧ F ds ds' ∧ Rps K G args ds ∧
  ∀ G' H' dx' xs, Stp G H0 G' H' → G' x = none → H' x = some (.ins C dx' (ks.zip xs)) → ks.length = ds'.length → Rps K G' xs ds' → Q .non H'
section
variable (P : Program) (w : World) (K : PySem.W.Frag) (mg : Str → Option Value) (base : Heap)
structure OkF (x : Str) (k : Nat) (ps : List Str) (F : List Dt → Dt → Prop) : Prop where
  ex : ∃ f fd, FnOk P w K mg base CX0 k f fd ps (spD K F) ∧ Binds K fd ps [] ∧ mg x = some (.ref f) ∧ PySem.W.keepIn K (.ref f) = true
structure OkM (C : Addr) (m : Str) (k : Nat) (F : List Dt → Dt → Prop) : Prop where
  ex : ∃ f fd, FnOk P w K mg base CX0 k f fd ["self"] (spD K F) ∧ Binds K fd ["self"] [] ∧ Meth K C m f
structure OkI (x : Str) (C : Addr) (k : Nat) (ps : List Str) (ks : List Str) (F : List Dt → List Dt → Prop) : Prop where
  ex : ∃ f fd, FnOk P w K mg base CX0 k f fd ps (spI K C ks F) ∧ Binds K fd ps [] ∧ Mk K C f ∧ mg x = some (.ref C)
end
section
variable {X : Cx} {δ : EnvD} {a : Expr} {pos apos p0 : Pos} {fx m : Str} {n : Nat} {ps ks : List Str} {F : List Dt → Dt → Prop} {FI : List Dt → List Dt → Prop} {e : Expr} {es : List Expr} {ds ds' : List Dt} {d : Dt} {C : Addr}
theorem pd_call (O : OkF X.prog X.w X.K X.mg X.base fx n ps F) (hr : Room n X.A) (ha : PAD X (e :: es) δ ds) (h : F ds d) (hg : Gl X fx := by rfl) (hdb : (fx == ("__debug__" : Str)) = false := by decide)
    (he : notStar e = true := by rfl) (hpl : (backTo pos (starEach es X.env)).any (·.1) = false := by rfl) : PD X (.Call (.Name fx p0) (e :: es) [] pos) δ d := by
  obtain ⟨f, fd, ok, b, g, kp⟩ := O.ex
  exact PD.of (pe_call ok hr hg g kp b .nil pass0 (pa_w X) hdb (se he) hpl) fun H0 G H σ e rs Q q => ha H0 G H σ e rs _ fun vs G1 H1 s1 r1 => by
    rw [List.append_nil]
    exact ⟨G1, ds, d, s1.h, h, r1, fun v G' H' s r => q v G' H' (s1.trans s) r⟩
theorem pd_meth0 {pl : Sem Bool} {ks : List Str} {dsf : List Dt} (O : OkM X.prog X.w X.K X.mg X.base C m n F) (c : Cls X.K C) (hr : Room n X.A) (ha : PD X a δ (.ins C ks dsf)) (hk : findK m ks = none := by decide +kernel) (h : F [.ins C ks dsf] d)
    (ht : eval (.Call (.Attribute a m apos) [] [] pos) X.env = (do
      let ov ← eval a X.env
      standAt apos.atName
      let (f, first) ← holding [ov] (getMethod ov m pl)
      callWith pos f first (backTo pos (starEach [] X.env)) (backToKw pos (keywordEach [] X.env))) := by rfl) : PD X (.Call (.Attribute a m apos) [] [] pos) δ d := by
  obtain ⟨f, fd, ok, b, mt⟩ := O.ex
  exact PD.of (pe_meth0 (pl := pl) (pe_w X) c mt ok hr b .nil pass0 ht) fun H0 G H σ e rs Q q => ha H0 G H σ e rs _ fun v G1 H1 s1 r1 => by
    cases r1 with
    | ins h1 h2 h3 =>
      refine ⟨_, _, _, rfl, s1.h _ _ h1, lookup_miss hk, ?_⟩
      exact ⟨G1, [.ins C ks dsf], d, s1.h, h, .cons (.ins h1 h2 h3) .nil, fun v G' H' s r => q v G' H' (s1.trans s) r⟩
theorem pd_make (O : OkI X.prog X.w X.K X.mg X.base fx C n ps ks FI) (hr : Room (n + 1) X.A) (ha : PAD X (e :: es) δ ds) (h : FI ds ds') (hg : Gl X fx := by rfl) (hdb : (fx == ("__debug__" : Str)) = false := by decide)
    (he : notStar e = true := by rfl) (hpl : (backTo pos (starEach es X.env)).any (·.1) = false := by rfl) : PD X (.Call (.Name fx p0) (e :: es) [] pos) δ (.ins C ks ds') := by
  obtain ⟨f, fd, ok, b, mk, g⟩ := O.ex
  exact PD.of (pe_make mk ok hr hg g b .nil pass0 (pa_w X) hdb (se he) hpl) fun H0 G H σ e rs Q q => ha H0 G H σ e rs _ fun vs G1 H1 s1 r1 => by
    intro x dx nx ndx ne
    rw [List.append_nil]
    have gx : G1 x = none := s1.h.free nx
    have gdx : G1 dx = none := s1.h.free ndx
    have st : Stp G1 H1 G1 (upd (upd H1 dx (.own x)) x (.ins C dx [])) := (Stp.lay (Stp.lay (.refl s1.h) ndx gdx) nx gx)
    refine ⟨G1, H1, x, dx, vs, ds, ds', rfl, st, nx, gx, upd_same, h, r1, fun G' H' dx' xs s2 g2 h2 hl r2 => ⟨rfl, ?_⟩⟩
    have s3 := Stp.frz s2 nx g2 h2
    exact q _ _ _ (s1.trans s3) (.ins upd_same hl (Rps.mono (same_upd g2) _ _ r2))
end

/-! ### statements -/
section
variable {X : Cx} {δ δ' : EnvD} {E : DE} {st : Stmt} {rest body orelse : List Stmt} {pos p0 p1 : Pos} {a b e iter tg : Expr} {d : Dt} {ds : List Dt} {x : Str} {c : Bool}
theorem sds_nil (h : E.nx δ) : SDs X [] δ E := SDs.of pss_nil fun G0 H0 G H σ s rs D R => R.nx σ G H δ s rs h
theorem sds_cons (h : SDD X st δ { E with nx := fun δ' => SDs X rest δ' E }) : SDs X (st :: rest) δ E :=
  SDs.of (pss_cons (ps_w X) (pss_w X)) fun G0 H0 G H σ s rs D R => h G0 H0 G H σ s rs { D with nx := wSs X rest D } ⟨fun σ' G' H' δ' s' rs' k => k G0 H0 G' H' σ' s' rs' D R, R.rt, R.bk, R.ct⟩
theorem sds_one (h : SDD X st δ E) : SDs X [st] δ E := SDs.of (pss_one (ps_w X)) h
theorem sd_ret (h : PD X e δ d) (k : E.rt d) : SDD X (.Return (some e) pos) δ E := SDD.of (ps_ret (pe_w X)) fun G0 H0 G H σ s rs D R => h H0 G H σ s.h rs _ fun v G1 H1 s1 r1 => R.rt v G1 H1 d (s.trans s1) r1 k
theorem sd_retN (k : E.rt .non) : SDD X (.Return none pos) δ E := SDD.of ps_retN fun G0 H0 G H σ s rs D R => R.rt _ G H _ s .non k
theorem sd_break (k : E.bk δ) : SDD X (.Break pos) δ E := SDD.of ps_break fun G0 H0 G H σ s rs D R => R.bk σ G H δ s rs k
theorem sd_if {t : Expr} (hc : PTD X t δ c) (h1 : c = true → SDs X body δ E) (h2 : c = false → SDs X orelse δ E) : SDD X (.If t body orelse pos) δ E :=
  SDD.of (ps_if (pt_w X) (pss_w X) (pss_w X)) fun G0 H0 G H σ s rs D R => hc H0 G H σ s.h rs _ fun G1 H1 s1 => by
    cases c with
    | true =>
      rw [if_pos rfl]
      exact h1 rfl G0 H0 G1 H1 σ (s.trans s1) (rs.mono s1) D R
    | false =>
      rw [if_neg Bool.false_ne_true]
      exact h2 rfl G0 H0 G1 H1 σ (s.trans s1) (rs.mono s1) D R
theorem sd_drop (h : PD X e δ d) (k : E.nx δ) (hs : swapsWith e none pos.line X.env = pure false := by rfl) : SDD X (.Expr e pos) δ E :=
  SDD.of (ps_expr (pe_w X) hs) fun G0 H0 G H σ s rs D R => h H0 G H σ s.h rs _ fun v G1 H1 s1 r1 => R.nx σ G1 H1 δ (s.trans s1) (rs.mono s1) k
/-- name = value -/
theorem sd_set (i : Nat) (hN : X.N.Nodup) (h : PD X e δ d) (k : E.nx (δ.set i (im d))) (hi : X.N[i]? = some x := by rfl) (hx : Loc X.env.scope x := by first | exact Or.inl rfl | exact Or.inr rfl) (hs : swapsWith e (some (.Name x p1)) pos.line X.env = pure false := by rfl)
    (hf : X.fn x = true ∨ X.env.scope.names.lookup x = some .local := by first | exact .inl rfl | exact .inr rfl) : SDD X (.Assign [.Name x p1] e pos) δ E :=
  SDD.of (ps_set hN hi hx (pe_w X) hs hf) fun G0 H0 G H σ s rs D R => h H0 G H σ s.h rs _ fun v G1 H1 s1 r1 => R.nx _ G1 H1 _ (s.trans s1) ((rs.mono s1).set (s := .imm d) r1) k
/-- name = [..] that will grow -/
theorem sd_new (i : Nat) {es : List Expr} {n : Pos} (hN : X.N.Nodup) (ha : PAD X es δ ds) (k : E.nx (δ.set i (some (.mls ds)))) (hl : Nat.ble ds.length 100000 = true := by rfl) (hi : X.N[i]? = some x := by rfl) (hx : Loc X.env.scope x := by first | exact Or.inl rfl | exact Or.inr rfl)
    (hs : swapsWith (.List es n) (some (.Name x p1)) pos.line X.env = pure false := by rfl)
    (hf : X.fn x = true ∨ X.env.scope.names.lookup x = some .local := by first | exact .inl rfl | exact .inr rfl) : SDD X (.Assign [.Name x p1] (.List es n) pos) δ E :=
  SDD.of (ps_set hN hi hx (pe_lst (pa_w X)) hs hf) fun G0 H0 G H σ s rs D R => ha H0 G H σ s.h rs _ fun vs G1 H1 s1 r1 => by
    refine ⟨by rw [r1.length]; exact sz_le (Nat.le_of_ble_eq_true hl), fun p np => ?_⟩
    have s2 := s.trans s1
    have n0 : H0 p = none := s2.free np
    have gp : G1 p = none := s1.h.free np
    have s3 : Stp G1 H1 G1 (upd H1 p (.lst vs)) := Stp.lay (.refl s1.h) np gp
    exact R.nx _ G1 _ _ (s2.trans s3) (((rs.mono s1).mono s3).set (s := .mls ds) ⟨p, vs, rfl, n0, gp, upd_same, r1⟩) k
/-- x.append(e), x the growing list -/
theorem sd_append (i : Nat) {apos : Pos} (hm : δ[i]? = some (some (.mls ds))) (h : PD X e δ d) (hl : ds.length < 100000) (k : E.nx (δ.set i (some (.mls (ds ++ [d]))))) (ho : onlyAt i δ 0 = true := by rfl) (hN : X.N[i]? = some x := by rfl)
    (hv : Vis X.env.scope x := by first | exact Or.inl rfl | exact Or.inr (Or.inl rfl) | exact Or.inr (Or.inr rfl)) (hd : (x == ("__debug__" : Str)) = false := by decide) (hcd : (x == ("__classdict__" : Str)) = false := by decide)
    (hp : PE X (.Call (.Attribute (.Name x p0) "append" apos) [e] [] p1) (tBM X.K "list" rAppend (tVar i) (tCons (wE X e) tNil))) (hs : swapsWith (.Call (.Attribute (.Name x p0) "append" apos) [e] [] p1) none pos.line X.env = pure false := by rfl) :
    SDD X (.Expr (.Call (.Attribute (.Name x p0) "append" apos) [e] [] p1) pos) δ E :=
  SDD.of (ps_expr hp hs) fun G0 H0 G H σ s rs D R => by
    obtain ⟨v, e1, l, xs, rfl, n0, gn, hl1, r⟩ := rs.at_ i _ hm
    have lt : i < δ.length := (List.getElem?_eq_some_iff.mp hm).1
    refine ⟨.ref l, e1, .inl ⟨rfl, xs, .inl (.inl hl1)⟩, h H0 G H σ s.h rs _ fun v G1 H1 s1 r1 => ?_⟩
    obtain ⟨g1, h1⟩ := s1.m _ _ gn hl1
    have rx := Rps.mono s1.g _ _ r
    refine ⟨l, xs, v, rfl, rfl, h1, by rw [r.length]; exact Nat.lt_of_lt_of_le hl (by decide), ?_⟩
    exact R.nx σ G1 _ _ (Stp.lay (s.trans s1) n0 g1) ((rs.mono s1).only ho e1 lt (Same.refl _) (s := .mls (ds ++ [d])) ⟨l, xs ++ [v], rfl, n0, g1, upd_same, rx.append (.one r1)⟩) k
/-- the growing list grows no more -/
theorem sds_frz (i : Nat) {sts : List Stmt} (hm : δ[i]? = some (some (.mls ds))) (k : SDs X sts (δ.set i (im (.lst ds))) E) (ho : onlyAt i δ 0 = true := by rfl) : SDs X sts δ E := fun G0 H0 G H σ s rs D R => by
  obtain ⟨v, e1, l, xs, rfl, n0, gn, hl1, r⟩ := rs.at_ i _ hm
  have lt : i < δ.length := (List.getElem?_eq_some_iff.mp hm).1
  exact k G0 H0 _ H σ (Stp.frz s n0 gn hl1) (rs.only ho e1 lt (same_upd gn) (s := .imm (.lst ds)) (.lst upd_same (Rps.mono (same_upd gn) _ _ r))) D R
/-- self.f = e in __init__ -/
theorem sd_fld {xo C : Addr} {ks ka : List Str} {f : Str} (kc : KCls X.K C ka) (hm : δ[0]? = some (some (.obj xo C ks ds))) (h : PD X e δ d) (k : E.nx (δ.set 0 (some (.obj xo C (ks ++ [f]) (ds ++ [d]))))) (hfa : f ∈ ka := by decide +kernel) (hn : findK f ks = none := by decide +kernel)
    (hl : Nat.blt ks.length 1000 = true := by rfl) (ho : onlyAt 0 δ 0 = true := by rfl) (hN : X.N[0]? = some x := by rfl) (hv : Vis X.env.scope x := by first | exact Or.inl rfl | exact Or.inr (Or.inl rfl) | exact Or.inr (Or.inr rfl))
    (hd : (x == ("__debug__" : Str)) = false := by decide) (hcd : (x == ("__classdict__" : Str)) = false := by decide) (hs : swapsWith e (some (.Attribute (.Name x p0) f p1)) pos.line X.env = pure false := by rfl) :
    SDD X (.Assign [.Attribute (.Name x p0) f p1] e pos) δ E :=
  SDD.of (ps_fld (pe_var hN hv hd hcd) (pe_w X) hs) fun G0 H0 G H σ s rs D R => h H0 G H σ s.h rs _ fun v G1 H1 s1 r1 => by
    obtain ⟨u, e1, dx, xs, rfl, n0, gn, hx1, hlk, r⟩ := (rs.mono s1).at_ 0 _ hm
    have lt : 0 < δ.length := (List.getElem?_eq_some_iff.mp hm).1
    have hxl : ks.length = xs.length := by rw [hlk, r.length]
    refine ⟨.ref xo, e1, xo, C, dx, _, rfl, hx1, kc.cls, kc.noat f hfa, ?_, ?_⟩
    · have h1 : ks.length < 1000 := Nat.le_of_ble_eq_true hl
      rw [List.length_zip]
      omega
    · rw [putF_new hn hxl]
      exact R.nx σ G1 _ _ (Stp.lay (s.trans s1) n0 gn) ((rs.mono s1).only ho e1 lt (Same.refl _) (s := .obj xo C (ks ++ [f]) (ds ++ [d])) ⟨dx, xs ++ [v], rfl, n0, gn, upd_same, by simp [hlk], r.append (.one r1)⟩) k

/-! ### targets -/
def GRd (K : PySem.W.Frag) (g : TG) (d : Dt) (δ δ' : EnvD) : Prop := ∀ (H0 G H : Hp) (σ : L2.St) (v : V), Same G H → Rs K H0 G H σ δ → Rp K G v d → ∀ Q : L2.St → Hp → Prop, (∀ σ', Rs K H0 G H σ' δ' → Q σ' H) → g v σ H Q
def GRs (K : PySem.W.Frag) (g : TGs) (ds : List Dt) (δ δ' : EnvD) : Prop := ∀ (H0 G H : Hp) (σ : L2.St) (vs : List V), Same G H → Rs K H0 G H σ δ → Rps K G vs ds → ∀ Q : L2.St → Hp → Prop, (∀ σ', Rs K H0 G H σ' δ' → Q σ' H) → g vs σ H Q
def wG (X : Cx) (tg : Expr) : TG := fun v σ H Q => ∀ pins s u, Inv X pins σ H s → RelV v u → wpAny (model X.prog X.w) X.A (assign tg X.env u) (fun _ s' => ∃ σ' H', Inv X pins σ' H' s' ∧ Q σ' H') X.xe s
def wGs (X : Cx) (ts : List Expr) : TGs := fun vs σ H Q => ∀ pins s us, Inv X pins σ H s → Vals vs us → wpAny (model X.prog X.w) X.A (assignInOrder ((assignEach ts X.env).map (·.2)) us) (fun _ s' => ∃ σ' H', Inv X pins σ' H' s' ∧ Q σ' H') X.xe s
theorem pg_w {tg : Expr} : PG X tg (wG X tg) := ⟨fun pins s _ _ _ u _ I r h => h pins s u I r⟩
theorem pgs_w {ts : List Expr} : PGs X ts (wGs X ts) := ⟨fun pins s _ _ _ us _ I r h => h pins s us I r⟩
def GD (X : Cx) (tg : Expr) (d : Dt) (δ δ' : EnvD) : Prop := GRd X.K (wG X tg) d δ δ'
def GDs (X : Cx) (ts : List Expr) (ds : List Dt) (δ δ' : EnvD) : Prop := GRs X.K (wGs X ts) ds δ δ'
theorem GD.of {g : TG} (h : PG X tg g) (r : GRd X.K g d δ δ') : GD X tg d δ δ' := fun H0 G H σ v a b c Q q pins s u I rv => h.run pins s σ H v u Q I rv (r H0 G H σ v a b c Q q)
theorem GDs.of {ts : List Expr} {g : TGs} (h : PGs X ts g) (r : GRs X.K g ds δ δ') : GDs X ts ds δ δ' := fun H0 G H σ v a b c Q q pins s u I rv => h.run pins s σ H v u Q I rv (r H0 G H σ v a b c Q q)
theorem gr_name {K : PySem.W.Frag} (i : Nat) : GRd K (gName i) d δ (δ.set i (im d)) := fun H0 G H σ v e rs r Q q => q _ (rs.set (s := .imm d) r)
theorem gd_name (i : Nat) (hN : X.N.Nodup) (hi : X.N[i]? = some x := by rfl) (hx : Loc X.env.scope x := by first | exact Or.inl rfl | exact Or.inr rfl)
    (hf : X.fn x = true ∨ X.env.scope.names.lookup x = some .local := by first | exact .inl rfl | exact .inr rfl) : GD X (.Name x pos) d δ (δ.set i (im d)) := GD.of (pg_name hN hi hx hf) (gr_name i)
theorem gds_nil : GDs X [] [] δ δ := GDs.of pgs_nil fun H0 G H σ vs e rs r Q q => by
  cases r
  exact ⟨rfl, q σ rs⟩
theorem gds_cons {es : List Expr} {δ1 : EnvD} (h1 : GD X e d δ δ1) (h2 : GDs X es ds δ1 δ') (hs : (assignEach (e :: es) X.env).map (·.2) = assign e X.env :: (assignEach es X.env).map (·.2) := by rfl) : GDs X (e :: es) (d :: ds) δ δ' :=
  GDs.of (pgs_cons pg_w pgs_w hs) fun H0 G H σ vs e rs r Q q => by
    cases r with
    | cons r1 r2 => exact ⟨_, _, rfl, h1 H0 G H σ _ e rs r1 _ fun σ1 rs1 => h2 H0 G H σ1 _ e rs1 r2 Q q⟩
theorem gd_tup {es : List Expr} {n : Nat} (hc : X.calm = true) (h : GDs X es ds δ δ') (hl : ds.length = n) (hn : (assignEach es X.env).length = n := by rfl) (hst : (assignEach es X.env).findIdx? (·.1) = none := by rfl) {k : Nat} : GD X (.Tuple es k pos) (.tup ds) δ δ' :=
  GD.of (pg_tup (n := n) hc pgs_w hn hst) fun H0 G H σ v e rs r Q q => by
    cases r with
    | tup r1 r2 => exact ⟨_, _, rfl, same_t e r1, by rw [r2.length, hl], h H0 G H σ _ e rs r2 Q q⟩
/-- target = value -/
theorem sd_asg (h : PD X e δ d) (hg : GD X tg d δ δ') (k : E.nx δ') (hs : swapsWithSole [tg] e pos.line X.env = pure false := by rfl) (hw : swappedStores [tg] e X.env = pure none := by rfl)
    (h1 : (assignEach [tg] X.env).map (·.2) = [assign tg X.env] := by rfl) : SDD X (.Assign [tg] e pos) δ E :=
  SDD.of (ps_asg (pe_w X) pg_w hs hw h1) fun G0 H0 G H σ s rs D R => h H0 G H σ s.h rs _ fun v G1 H1 s1 r1 => hg H0 G1 H1 σ v s1.h (rs.mono s1) r1 _ fun σ' rs' => R.nx σ' G1 H1 δ' (s.trans s1) rs' k

/-! ### for -/
theorem Stp.base {G0 H0 G1 H1 G H : Hp} (s : Stp G0 H0 G1 H1) (t : Stp G1 H0 G H) : Stp G0 H0 G H := ⟨s.g.trans t.g, t.h, fun l o x y => t.m l o (s.m l o x y).1 y⟩
theorem Stp.start {G0 H0 G1 H1 : Hp} (s : Stp G0 H0 G1 H1) : Stp G1 H0 G1 H1 := ⟨Same.refl _, s.h, fun l o x y => s.m l o (s.g.free x) y⟩
theorem Real.base {K : PySem.W.Frag} {G0 H0 G1 H1 : Hp} {D : Ends} (R : Real K G0 H0 E D) (s : Stp G0 H0 G1 H1) : Real K G1 H0 E D :=
  ⟨fun σ G H δ t => R.nx σ G H δ (s.base t), fun v G H d t => R.rt v G H d (s.base t), fun σ G H δ t => R.bk σ G H δ (s.base t), fun σ G H δ t => R.ct σ G H δ (s.base t)⟩
/-- a turn's ends -/
abbrev DE.turn (E : DE) (I : EnvD → Prop) : DE := { nx := I, rt := E.rt, bk := E.nx, ct := I }
theorem turn_real {K : PySem.W.Frag} {G1 H0 : Hp} {D : Ends} {I : EnvD → Prop} {Pv : L2.St → Hp → Prop} (R : Real K G1 H0 E D) (h : ∀ σ G H δ, Stp G1 H0 G H → Rs K H0 G H σ δ → I δ → Pv σ H) : Real K G1 H0 (E.turn I) { D with nx := Pv, ct := Pv, bk := D.nx } :=
  ⟨h, R.rt, R.nx, h⟩
theorem sd_forL (hp : PassesOwn (model X.prog X.w) X.A X.env X.xe) (hc : X.calm = true) (h : PD X iter δ (.lst ds)) (I : Nat → EnvD → Prop) (h0 : I 0 δ)
    (hs : ∀ i d δ', ds[i]? = some d → I i δ' → ∃ δ'', GD X tg d δ' δ'' ∧ SDs X body δ'' (E.turn (I (i + 1)))) (hd : ∀ δ', I ds.length δ' → E.nx δ') (hf : ∀ x, foldedSetIterable iter X.env x = pure x := by intro _; rfl) : SDD X (.For tg iter body [] pos) δ E :=
  SDD.of (ps_for hp hc (pi_list (pe_w X)) pg_w (pss_w X) hf) fun G0 H0 G H σ s rs D R => h H0 G H σ s.h rs _ fun v G1 H1 s1 r1 => by
    cases r1 with
    | lst h1 h2 =>
      rename_i a xs
      have s01 := s.trans s1
      have R1 := R.base s01
      refine ⟨a, rfl, ⟨xs, .inl (.inl (s1.h _ _ h1))⟩, ?_⟩
      refine for_list (xs := xs) (fun i σ H => ∃ G δ', Stp G1 H0 G H ∧ Rs X.K H0 G H σ δ' ∧ I i δ') ⟨G1, δ, s01.start, rs.mono s1, h0⟩ (fun i σ' H' _ ⟨G', δ', t, _, _⟩ => .inl (.inl (t.h _ _ (t.g _ _ h1)))) (fun i x σ' H' hx ⟨G', δ', t, rs', inv⟩ => ?_) fun σ' H' ⟨G', δ', t, rs', inv⟩ => ?_
      · obtain ⟨d, hdd, rd⟩ := h2.get' hx
        obtain ⟨δ'', hg, hb⟩ := hs i d δ' hdd inv
        exact hg H0 G' H' σ' x t.h rs' (Rp.mono t.g _ _ rd) _ fun σ2 rs2 => hb G1 H0 G' H' σ2 t rs2 _ (turn_real R1 fun σ G H δ st rs inv => ⟨G, δ, st, rs, inv⟩)
      · rw [h2.length] at inv
        exact R1.nx σ' G' H' δ' t rs' (hd δ' inv)
theorem sd_forT (hp : PassesOwn (model X.prog X.w) X.A X.env X.xe) (hc : X.calm = true) (h : PD X iter δ (.tup ds)) (I : Nat → EnvD → Prop) (h0 : I 0 δ)
    (hs : ∀ i d δ', ds[i]? = some d → I i δ' → ∃ δ'', GD X tg d δ' δ'' ∧ SDs X body δ'' (E.turn (I (i + 1)))) (hd : ∀ δ', I ds.length δ' → E.nx δ') (hf : ∀ x, foldedSetIterable iter X.env x = pure x := by intro _; rfl) : SDD X (.For tg iter body [] pos) δ E :=
  SDD.of (ps_for hp hc (pi_tup (pe_w X)) pg_w (pss_w X) hf) fun G0 H0 G H σ s rs D R => h H0 G H σ s.h rs _ fun v G1 H1 s1 r1 => by
    cases r1 with
    | tup h1 h2 =>
      rename_i a xs
      have s01 := s.trans s1
      have R1 := R.base s01
      refine ⟨a, rfl, ⟨xs, same_t s1.h h1⟩, ?_⟩
      refine for_tup (xs := xs) (fun i σ H => ∃ G δ', Stp G1 H0 G H ∧ Rs X.K H0 G H σ δ' ∧ I i δ') ⟨G1, δ, s01.start, rs.mono s1, h0⟩ (fun i σ' H' _ ⟨G', δ', t, _, _⟩ => same_t t.h (same_t t.g h1)) (fun i x σ' H' hx ⟨G', δ', t, rs', inv⟩ => ?_) fun σ' H' ⟨G', δ', t, rs', inv⟩ => ?_
      · obtain ⟨d, hdd, rd⟩ := h2.get' hx
        obtain ⟨δ'', hg, hb⟩ := hs i d δ' hdd inv
        exact hg H0 G' H' σ' x t.h rs' (Rp.mono t.g _ _ rd) _ fun σ2 rs2 => hb G1 H0 G' H' σ2 t rs2 _ (turn_real R1 fun σ G H δ st rs inv => ⟨G, δ, st, rs, inv⟩)
      · rw [h2.length] at inv
        exact R1.nx σ' G' H' δ' t rs' (hd δ' inv)
theorem sd_forR1 {ra : Expr} {rp rp2 : Pos} {hi : Int} (hp : PassesOwn (model X.prog X.w) X.A X.env X.xe) (hc : X.calm = true) (hm : X.mg "range" = none) (h : PD X ra δ (.int hi)) (hb1 : 0 ≤ hi) (hb2 : hi < 2 ^ 62) (I : Nat → EnvD → Prop) (h0 : I 0 δ)
    (hs : ∀ (i : Nat) δ', (i : Int) < hi → I i δ' → ∃ δ'', GD X tg (.int i) δ' δ'' ∧ SDs X body δ'' (E.turn (I (i + 1)))) (hd : ∀ δ', I hi.toNat δ' → E.nx δ') (hg : Gl X "range" := by rfl) (hse : notStar ra = true := by rfl)
    (hf : ∀ x, foldedSetIterable (.Call (.Name "range" rp) [ra] [] rp2) X.env x = pure x := by intro _; rfl) : SDD X (.For tg (.Call (.Name "range" rp) [ra] [] rp2) body [] pos) δ E :=
  SDD.of (ps_for hp hc (pi_range1 hg hm (pa_w X) (se1 hse)) pg_w (pss_w X) hf) fun G0 H0 G H σ s rs D R => pad_cons h pad_nil hse H0 G H σ s.h rs _ fun v G1 H1 s1 r1 => by
    obtain ⟨u, rfl, r2⟩ := rps1 r1
    cases r2
    have s01 := s.trans s1
    have R1 := R.base s01
    refine ⟨hi, rfl, by omega, hb2, ?_⟩
    refine for_range (lo := 0) (n := hi.toNat) (fun i σ H => ∃ G δ', Stp G1 H0 G H ∧ Rs X.K H0 G H σ δ' ∧ I i δ') ⟨G1, δ, s01.start, rs.mono s1, h0⟩ (fun i σ' H' hx ⟨G', δ', t, rs', inv⟩ => ?_) fun σ' H' ⟨G', δ', t, rs', inv⟩ => R1.nx σ' G' H' δ' t rs' (hd δ' inv)
    obtain ⟨δ'', hg, hb⟩ := hs i δ' (by omega) inv
    rw [Int.zero_add]
    exact hg H0 G' H' σ' _ t.h rs' (.int _) _ fun σ2 rs2 => hb G1 H0 G' H' σ2 t rs2 _ (turn_real R1 fun σ G H δ st rs inv => ⟨G, δ, st, rs, inv⟩)
theorem sd_forR2 {ra rb : Expr} {rp rp2 : Pos} {lo hi : Int} (hp : PassesOwn (model X.prog X.w) X.A X.env X.xe) (hc : X.calm = true) (hm : X.mg "range" = none) (h : PD X ra δ (.int lo)) (h' : PD X rb δ (.int hi)) (hb1 : 0 ≤ lo) (hb2 : lo < 2 ^ 62) (hb3 : 0 ≤ hi) (hb4 : hi < 2 ^ 62) (I : Nat → EnvD → Prop) (h0 : I 0 δ)
    (hs : ∀ (i : Nat) δ', lo + (i : Int) < hi → I i δ' → ∃ δ'', GD X tg (.int (lo + i)) δ' δ'' ∧ SDs X body δ'' (E.turn (I (i + 1)))) (hd : ∀ δ', I (hi - lo).toNat δ' → E.nx δ') (hg : Gl X "range" := by rfl) (hse : notStar ra = true := by rfl) (hse1 : notStar rb = true := by rfl)
    (hf : ∀ x, foldedSetIterable (.Call (.Name "range" rp) [ra, rb] [] rp2) X.env x = pure x := by intro _; rfl) : SDD X (.For tg (.Call (.Name "range" rp) [ra, rb] [] rp2) body [] pos) δ E :=
  SDD.of (ps_for hp hc (pi_range2 hg hm (pa_w X) (se2 hse hse1) (se1 hse1)) pg_w (pss_w X) hf) fun G0 H0 G H σ s rs D R => pad_cons h (pad_cons h' pad_nil hse1) hse H0 G H σ s.h rs _ fun v G1 H1 s1 r1 => by
    obtain ⟨u, u', rfl, r1, r2⟩ := rps2 r1
    cases r1
    cases r2
    have s01 := s.trans s1
    have R1 := R.base s01
    refine ⟨lo, hi, rfl, ⟨by omega, hb2, by omega, hb4⟩, ?_⟩
    refine for_range (lo := lo) (n := (hi - lo).toNat) (fun i σ H => ∃ G δ', Stp G1 H0 G H ∧ Rs X.K H0 G H σ δ' ∧ I i δ') ⟨G1, δ, s01.start, rs.mono s1, h0⟩ (fun i σ' H' hx ⟨G', δ', t, rs', inv⟩ => ?_) fun σ' H' ⟨G', δ', t, rs', inv⟩ => R1.nx σ' G' H' δ' t rs' (hd δ' inv)
    obtain ⟨δ'', hg, hb⟩ := hs i δ' (by omega) inv
    exact hg H0 G' H' σ' _ t.h rs' (.int _) _ fun σ2 rs2 => hb G1 H0 G' H' σ2 t rs2 _ (turn_real R1 fun σ G H δ st rs inv => ⟨G, δ, st, rs, inv⟩)
theorem sd_forS {z : Str} (hp : PassesOwn (model X.prog X.w) X.A X.env X.xe) (hc : X.calm = true) (h : PD X iter δ (.str z)) (I : Nat → EnvD → Prop) (h0 : I 0 δ)
    (hs : ∀ i c δ', z.cps[i]? = some c → I i δ' → ∃ δ'', GD X tg (.str ⟨#[c]⟩) δ' δ'' ∧ SDs X body δ'' (E.turn (I (i + 1)))) (hd : ∀ δ', I z.cps.size δ' → E.nx δ') (hf : ∀ x, foldedSetIterable iter X.env x = pure x := by intro _; rfl) : SDD X (.For tg iter body [] pos) δ E :=
  SDD.of (ps_for hp hc (pi_str (pe_w X)) pg_w (pss_w X) hf) fun G0 H0 G H σ s rs D R => h H0 G H σ s.h rs _ fun v G1 H1 s1 r1 => by
    cases r1
    have s01 := s.trans s1
    have R1 := R.base s01
    refine ⟨z, rfl, fun i m σ H => m = z.cps.size - i ∧ i ≤ z.cps.size ∧ ∃ G δ', Stp G1 H0 G H ∧ Rs X.K H0 G H σ δ' ∧ I i δ', ⟨z.cps.size, by simp, Nat.zero_le _, G1, δ, s01.start, rs.mono s1, h0⟩, ?_⟩
    rintro i m σ' H' ⟨rfl, hi, G', δ', t, rs', inv⟩
    by_cases hlt : i < z.cps.size
    · refine .inr ⟨hlt, fun σ H => ∃ G δ', Stp G1 H0 G H ∧ Rs X.K H0 G H σ δ' ∧ I (i + 1) δ', fun σ2 H2 p => ⟨z.cps.size - (i + 1), by omega, rfl, hlt, p⟩, fun x H2 y => ?_⟩
      obtain ⟨rfl, c, hc, rfl⟩ := y
      obtain ⟨δ'', hg, hb⟩ := hs i c δ' hc inv
      exact hg H0 G' _ σ' _ t.h rs' (.str _) _ fun σ2 rs2 => hb G1 H0 G' _ σ2 t rs2 _ (turn_real R1 fun σ G H δ st rs inv => ⟨G, δ, st, rs, inv⟩)
    · have e : i = z.cps.size := by omega
      subst e
      exact .inl ⟨Nat.le_refl _, R1.nx σ' G' H' δ' t rs' (hd δ' inv)⟩
theorem ptd_notInSign {cc : Nat} {z : Str} (ha : PD X a δ (.str ⟨#[cc]⟩)) (hb : PD X b δ (.str z)) (hm : behindInMarks .NotIn b = false := by rfl) : PTD X (.Compare a [.NotIn] [b] pos) δ (!decide (cc ∈ z.cps.toList)) :=
  PTD.of (pt_cmpR op_notIn_sign (pe_w X) (pe_w X) hm) (etr_test (er_2 rfl ha hb fun G H u v e hu hv Q q => by
    cases hu
    cases hv
    exact ⟨cc, z, rfl, rfl, q _ G H (.refl e) (.bl _)⟩))
end

/-! ### comprehensions -/
def wipeD (δ : EnvD) : List Nat → EnvD
  | [] => δ
  | v :: vs => (wipeD δ vs).set v none
theorem Rs.wipe {K : PySem.W.Frag} {H0 G H : Hp} {σ : L2.St} {δ : EnvD} (r : Rs K H0 G H σ δ) : ∀ vs : List Nat, Rs K H0 G H (L2.wipe σ vs) (wipeD δ vs)
  | [] => r
  | v :: vs => (Rs.wipe r vs).none_
theorem wipe_in {σ : L2.St} : ∀ {vs : List Nat} {i : Nat}, i ∈ vs → i < σ.length → (wipe σ vs)[i]? = some none
  | v :: vs, i, h, lt => by
    show ((wipe σ vs).set v none)[i]? = _
    by_cases e : v = i
    · subst e
      rw [List.getElem?_set_self (by rw [wipe_length]; exact lt)]
    · rw [List.getElem?_set_ne e]
      rcases List.mem_cons.mp h with z | z
      · exact absurd z.symm e
      · exact wipe_in z lt
/-- slots that differ at vs alone are wiped alike -/
theorem wipe_eq {σ τ : L2.St} {vs : List Nat} (hl : τ.length = σ.length) (h : ∀ i, i ∉ vs → τ[i]? = σ[i]?) : wipe τ vs = wipe σ vs := by
  apply List.ext_getElem?
  intro i
  by_cases e : i ∈ vs
  · by_cases lt : i < σ.length
    · rw [wipe_in e lt, wipe_in e (by rw [hl]; exact lt)]
    · rw [List.getElem?_eq_none (by rw [wipe_length]; omega), List.getElem?_eq_none (by rw [wipe_length]; omega)]
  · rw [wipe_out e, wipe_out e]
    exact h i e
/-- the target of a comprehension: it stores at the wiped places alone -/
def GW (K : PySem.W.Frag) (g : TG) (vs : List Nat) (d : Dt) (δ δ' : EnvD) : Prop := ∀ (H0 G H : Hp) (σ : L2.St) (v : V), Same G H → Rs K H0 G H σ δ → Rp K G v d → ∀ Q : L2.St → Hp → Prop, (∀ σ', Rs K H0 G H σ' δ' → σ'.length = σ.length → (∀ i, i ∉ vs → σ'[i]? = σ[i]?) → Q σ' H) → g v σ H Q
theorem gw_name {K : PySem.W.Frag} {δ : EnvD} {d : Dt} (i : Nat) {vs : List Nat} (hi : i ∈ vs) : GW K (gName i) vs d δ (δ.set i (im d)) := fun H0 G H σ v e rs r Q q => q _ (rs.set (s := .imm d) r) (by rw [List.length_set]) fun j hj => List.getElem?_set_ne (show i ≠ j from fun z => hj (by rw [← z]; exact hi))
/-- names of a tuple, one after another -/
def tgs : List Nat → TGs
  | [] => gNil
  | i :: r => gCons (gName i) (tgs r)
def setAll : EnvD → List Nat → List Dt → EnvD
  | δ, i :: r, d :: ds => setAll (δ.set i (im d)) r ds
  | δ, _, _ => δ
theorem gw_names {K : PySem.W.Frag} {vs : List Nat} : ∀ {ns : List Nat} {ds : List Dt} {δ : EnvD}, (∀ i ∈ ns, i ∈ vs) → ns.length = ds.length → ∀ (H0 G H : Hp) (σ : L2.St) (us : List V), Same G H → Rs K H0 G H σ δ → Rps K G us ds → ∀ Q : L2.St → Hp → Prop,
    (∀ σ', Rs K H0 G H σ' (setAll δ ns ds) → σ'.length = σ.length → (∀ i, i ∉ vs → σ'[i]? = σ[i]?) → Q σ' H) → tgs ns us σ H Q
  | [], [], _, _, _, H0, G, H, σ, us, e, rs, r, Q, q => by
    cases r
    exact ⟨rfl, q σ rs rfl fun _ _ => rfl⟩
  | i :: ns, d :: ds, δ, hi, hl, H0, G, H, σ, us, e, rs, r, Q, q => by
    cases r with
    | cons r1 r2 =>
      rename_i u us
      refine ⟨u, us, rfl, ?_⟩
      show tgs ns us (σ.set i (some u)) H Q
      refine gw_names (fun j hj => hi j (List.mem_cons_of_mem _ hj)) (by simpa using hl) H0 G H _ us e (rs.set (s := .imm d) r1) r2 Q fun σ' rs' l1 l2 => q σ' rs' (by rw [l1, List.length_set]) fun j hj => ?_
      rw [l2 j hj, List.getElem?_set_ne (show i ≠ j from fun z => hj (by rw [← z]; exact hi i List.mem_cons_self))]
  | [], _ :: _, _, _, hl, _, _, _, _, _, _, _, _, _, _ => by simp at hl
  | _ :: _, [], _, _, hl, _, _, _, _, _, _, _, _, _, _ => by simp at hl
theorem gw_tup {K : PySem.W.Frag} {δ : EnvD} {ds : List Dt} {vs ns : List Nat} (h : ∀ i ∈ ns, i ∈ vs) (hl : ns.length = ds.length) : GW K (gTup K ns.length (tgs ns)) vs (.tup ds) δ (setAll δ ns ds) := fun H0 G H σ v e rs r Q q => by
  cases r with
  | tup r1 r2 => exact ⟨_, _, rfl, same_t e r1, by rw [r2.length, hl], gw_names h hl H0 G H σ _ e rs r2 Q q⟩
/-- what a comprehension makes of n items -/
def given (n : Nat) (b : Nat → Bool) (f : Nat → Dt) : List Dt := ((List.range n).filter b).map f
theorem given_yes {n : Nat} {b : Nat → Bool} {f : Nat → Dt} (h : b n = true) : given (n + 1) b f = given n b f ++ [f n] := by
  unfold given
  rw [List.range_succ, List.filter_append, List.map_append, List.filter_cons, if_pos h]
  rfl
theorem given_no {n : Nat} {b : Nat → Bool} {f : Nat → Dt} (h : b n = false) : given (n + 1) b f = given n b f := by
  unfold given
  rw [List.range_succ, List.filter_append, List.map_append, List.filter_cons, if_neg (by rw [h]; decide)]
  show _ ++ [] = _
  rw [List.append_nil]
theorem given_len (n : Nat) (b : Nat → Bool) (f : Nat → Dt) : (given n b f).length ≤ n := by
  unfold given
  rw [List.length_map]
  have h := List.length_filter_le b (List.range n)
  rw [List.length_range] at h
  exact h
section
variable {K : PySem.W.Frag} {δ : EnvD} {g : TG} {tt : TT} {te : TE} {vs : List Nat}
def LcW (K : PySem.W.Frag) (G1 H1 : Hp) (b : Nat → Bool) (f : Nat → Dt) (Dl : Addr) (i : Nat) (H : Hp) : Prop := ∃ G acc, Stp G1 H1 G H ∧ G Dl = none ∧ H Dl = some (.lst acc) ∧ Rps K G acc (given i b f)
theorem lc_turn {H0 G1 H1 : Hp} {σ : L2.St} {b : Nat → Bool} {f : Nat → Dt} {Dl : Addr} {i : Nat} {H : Hp} {x : V} {d : Dt} {δ2 : EnvD} (e1 : Same G1 H1) (rs : Rs K H0 G1 H1 σ δ) (nD : H1 Dl = none) (hi : i < 100000) (p : LcW K G1 H1 b f Dl i H) (rx : Rp K G1 x d)
    (hg : GW K g vs d (wipeD δ vs) δ2) (ht : ETR K tt δ2 (b i)) (he : b i = true → ER K te δ2 (f i)) :
    g x (wipe σ vs) H fun σ2 H2 => wipe σ2 vs = wipe σ vs ∧ tt σ2 H2 fun b' H3 => if b' = true then te σ2 H3 fun y H4 => ∃ acc, H4 Dl = some (.lst acc) ∧ acc.length < sizeLine ∧ LcW K G1 H1 b f Dl (i + 1) (upd H4 Dl (.lst (acc ++ [y]))) else LcW K G1 H1 b f Dl (i + 1) H3 := by
  obtain ⟨G, acc, s, gD, hD, ra⟩ := p
  refine hg H0 G H (wipe σ vs) x s.h ((rs.wipe vs).mono s) (Rp.mono s.g _ _ rx) _ fun σ2 rs2 l1 l2 => ⟨?_, ?_⟩
  · have z1 : wipe σ2 vs = wipe (wipe σ vs) vs := wipe_eq l1 l2
    have z2 : wipe (wipe σ vs) vs = wipe σ vs := wipe_eq (wipe_length σ vs) fun i hi => wipe_out hi
    rw [z1, z2]
  · refine ht H0 G H σ2 s.h rs2 _ fun G3 H3 s3 => ?_
    obtain ⟨g3, h3⟩ := s3.m _ _ gD hD
    have ra3 := Rps.mono s3.g _ _ ra
    cases hb : b i with
    | true =>
      rw [if_pos rfl]
      refine he hb H0 G3 H3 σ2 s3.h (rs2.mono s3) _ fun y G4 H4 s4 r4 => ?_
      obtain ⟨g4, h4⟩ := s4.m _ _ g3 h3
      refine ⟨acc, h4, ?_, G4, acc ++ [y], Stp.lay ((s.trans s3).trans s4) nD g4, g4, upd_same, ?_⟩
      · rw [ra.length]
        exact Nat.lt_of_le_of_lt (given_len i b f) (Nat.lt_of_lt_of_le hi (by decide))
      · rw [given_yes hb]
        exact (Rps.mono s4.g _ _ ra3).append (.one r4)
    | false =>
      rw [if_neg Bool.false_ne_true]
      refine ⟨G3, acc, s.trans s3, g3, h3, ?_⟩
      rw [given_no hb]
      exact ra3
theorem lc_end {G H G1 H1 : Hp} {b : Nat → Bool} {f : Nat → Dt} {Dl : Addr} {n : Nat} {H2 : Hp} {Q : VK} (s1 : Stp G H G1 H1) (nD : H1 Dl = none) (p : LcW K G1 H1 b f Dl n H2) (q : ∀ v G' H', Stp G H G' H' → Rp K G' v (.lst (given n b f)) → Q v H') : Q (.ref Dl) H2 := by
  obtain ⟨G2, acc, s, gD, hD, ra⟩ := p
  exact q _ _ _ (s1.trans (Stp.frz s nD gD hD)) (.lst upd_same (Rps.mono (same_upd gD) _ _ ra))
theorem er_lcL {tl : TE} {ds : List Dt} (hi : ER K tl δ (.lst ds)) (b : Nat → Bool) (f : Nat → Dt) (hl : ds.length ≤ 100000) (ht : ∀ i d, ds[i]? = some d → ∃ δ2, GW K g vs d (wipeD δ vs) δ2 ∧ ETR K tt δ2 (b i) ∧ (b i = true → ER K te δ2 (f i))) :
    ER K (tLc (iList K tl) g tt te vs) δ (.lst (given ds.length b f)) := fun H0 G H σ e rs Q q => hi H0 G H σ e rs _ fun v G1 H1 s1 r1 => by
  cases r1 with
  | lst h1 h2 =>
    rename_i a xs
    refine ⟨a, rfl, ⟨xs, .inl (.inl (s1.h _ _ h1))⟩, fun Dl nD => ?_⟩
    refine lc_list (xs := xs) (LcW K G1 H1 b f Dl) ⟨G1, [], Stp.lay (.refl s1.h) nD (s1.h.free nD), s1.h.free nD, upd_same, .nil⟩ (fun i H' _ ⟨G', acc, s, _, _, _⟩ => .inl (.inl (s.h _ _ (s.g _ _ h1)))) (fun i x H' hx p => ?_) fun H' p => ?_
    · obtain ⟨d, hd, rd⟩ := h2.get' hx
      obtain ⟨δ2, hg, h3, h4⟩ := ht i d hd
      exact lc_turn s1.h (rs.mono s1) nD (by have := (List.getElem?_eq_some_iff.mp hd).1; omega) p rd hg h3 h4
    · rw [h2.length] at p
      exact lc_end s1 nD p q
theorem er_lcT {tl : TE} {ds : List Dt} (hi : ER K tl δ (.tup ds)) (b : Nat → Bool) (f : Nat → Dt) (hl : ds.length ≤ 100000) (ht : ∀ i d, ds[i]? = some d → ∃ δ2, GW K g vs d (wipeD δ vs) δ2 ∧ ETR K tt δ2 (b i) ∧ (b i = true → ER K te δ2 (f i))) :
    ER K (tLc (iTup K tl) g tt te vs) δ (.lst (given ds.length b f)) := fun H0 G H σ e rs Q q => hi H0 G H σ e rs _ fun v G1 H1 s1 r1 => by
  cases r1 with
  | tup h1 h2 =>
    rename_i a xs
    refine ⟨a, rfl, ⟨xs, same_t s1.h h1⟩, fun Dl nD => ?_⟩
    refine lc_tup (xs := xs) (LcW K G1 H1 b f Dl) ⟨G1, [], Stp.lay (.refl s1.h) nD (s1.h.free nD), s1.h.free nD, upd_same, .nil⟩ (fun i H' _ ⟨G', acc, s, _, _, _⟩ => same_t s.h (same_t s.g h1)) (fun i x H' hx p => ?_) fun H' p => ?_
    · obtain ⟨d, hd, rd⟩ := h2.get' hx
      obtain ⟨δ2, hg, h3, h4⟩ := ht i d hd
      exact lc_turn s1.h (rs.mono s1) nD (by have := (List.getElem?_eq_some_iff.mp hd).1; omega) p rd hg h3 h4
    · rw [h2.length] at p
      exact lc_end s1 nD p q
theorem er_lcR {ta : TA} {n : Nat} (hi : EAR K ta δ [.int (n : Int)]) (b : Nat → Bool) (f : Nat → Dt) (hl : n ≤ 100000) (ht : ∀ i : Nat, i < n → ∃ δ2, GW K g vs (.int (i : Int)) (wipeD δ vs) δ2 ∧ ETR K tt δ2 (b i) ∧ (b i = true → ER K te δ2 (f i))) :
    ER K (tLc (iRng1 ta) g tt te vs) δ (.lst (given n b f)) := fun H0 G H σ e rs Q q => hi H0 G H σ e rs _ fun v G1 H1 s1 r1 => by
  obtain ⟨u, rfl, r2⟩ := rps1 r1
  cases r2
  refine ⟨n, rfl, by omega, by omega, fun Dl nD => ?_⟩
  refine lc_range (lo := 0) (n := (n : Int).toNat) (LcW K G1 H1 b f Dl) ⟨G1, [], Stp.lay (.refl s1.h) nD (s1.h.free nD), s1.h.free nD, upd_same, .nil⟩ (fun i H' hx p => ?_) fun H' p => ?_
  · obtain ⟨δ2, hg, h3, h4⟩ := ht i (by omega)
    rw [Int.zero_add]
    exact lc_turn s1.h (rs.mono s1) nD (by omega) p (.int _) hg h3 h4
  · rw [Int.toNat_natCast] at p
    exact lc_end s1 nD p q
end
section
variable {X : Cx} {δ : EnvD} {elt tg iter c : Expr} {scope : Scope} {own : List (Str × Nat)} {pos : Pos} {g : TG}
/-- an expression, a test in a comprehension's block, whatever the block -/
def wEB (X : Cx) (scope : Scope) (e : Expr) : TE := fun σ H Q => ∀ s' H' C cl fp, wE (X.blk s' H' scope (compEnvC scope cl C X.env) fp) e σ H Q
def wTB (X : Cx) (scope : Scope) (e : Expr) : TT := fun σ H Q => ∀ s' H' C cl fp, wT (X.blk s' H' scope (compEnvC scope cl C X.env) fp) e σ H Q
def PDB (X : Cx) (scope : Scope) (e : Expr) (δ : EnvD) (d : Dt) : Prop := ∀ s' H' C cl fp, PD (X.blk s' H' scope (compEnvC scope cl C X.env) fp) e δ d
def PTDB (X : Cx) (scope : Scope) (e : Expr) (δ : EnvD) (b : Bool) : Prop := ∀ s' H' C cl fp, PTD (X.blk s' H' scope (compEnvC scope cl C X.env) fp) e δ b
theorem PDB.er {e : Expr} {d : Dt} (h : PDB X scope e δ d) : ER X.K (wEB X scope e) δ d := fun H0 G H σ a r Q q s' H' C cl fp => h s' H' C cl fp H0 G H σ a r Q q
theorem PTDB.er {e : Expr} {b : Bool} (h : PTDB X scope e δ b) : ETR X.K (wTB X scope e) δ b := fun H0 G H σ a r Q q s' H' C cl fp => h s' H' C cl fp H0 G H σ a r Q q
theorem etr_yes {K : PySem.W.Frag} : ETR K tYes δ true := fun H0 G H σ a r Q q => q G H (.refl a)
/-- the block's target -/
abbrev PGB (X : Cx) (scope : Scope) (tg : Expr) (g : TG) : Prop := ∀ (s : Shared) (H : Hp) (C : Addr) (cl : List (Str × Addr)) (fp : List Addr), PG (X.blk s H scope (compEnvC scope cl C X.env) fp) tg g
theorem pe_lcB {wi : TI} (hc : X.calm = true) (hN : X.N.Nodup) (hi : PI X tg iter wi) (ok : BlkOk X.N X.env.scope scope own) (hg : PGB X scope tg g) (hs : ∀ x, foldedSetIterable iter X.env x = pure x := by intro _; rfl) :
    PE X (.ListComp elt [⟨tg, iter, [], 0⟩] scope pos) (tLc wi g tYes (wEB X scope elt) (own.map (·.2))) := pe_lc hc hN hi ok hg (fun _ _ _ _ _ => pts_nil) (fun s H C cl fp => ⟨fun pins s' σ' H' Q I h => h s H C cl fp pins s' I⟩) hs
theorem pe_lcBt {wi : TI} (hc : X.calm = true) (hN : X.N.Nodup) (hi : PI X tg iter wi) (ok : BlkOk X.N X.env.scope scope own) (hg : PGB X scope tg g) (hs : ∀ x, foldedSetIterable iter X.env x = pure x := by intro _; rfl) :
    PE X (.ListComp elt [⟨tg, iter, [c], 0⟩] scope pos) (tLc wi g (wTB X scope c) (wEB X scope elt) (own.map (·.2))) :=
  pe_lc hc hN hi ok hg (fun s H C cl fp => pts_one ⟨fun pins s' σ' H' Q I h => h s H C cl fp pins s' I⟩) (fun s H C cl fp => ⟨fun pins s' σ' H' Q I h => h s H C cl fp pins s' I⟩) hs
/-- [elt for x in range(n)] -/
theorem pd_lcR {ra : Expr} {rp rp2 : Pos} {n : Nat} (hc : X.calm = true) (hN : X.N.Nodup) (hm : X.mg "range" = none) (h : PD X ra δ (.int (n : Int))) (hl : n ≤ 100000) (ok : BlkOk X.N X.env.scope scope own) (hg : PGB X scope tg g) (f : Nat → Dt)
    (ht : ∀ i : Nat, i < n → ∃ δ2, GW X.K g (own.map (·.2)) (.int (i : Int)) (wipeD δ (own.map (·.2))) δ2 ∧ PDB X scope elt δ2 (f i)) (hgl : Gl X "range" := by rfl) (hse : notStar ra = true := by rfl)
    (hs : ∀ x, foldedSetIterable (.Call (.Name "range" rp) [ra] [] rp2) X.env x = pure x := by intro _; rfl) :
    PD X (.ListComp elt [⟨tg, .Call (.Name "range" rp) [ra] [] rp2, [], 0⟩] scope pos) δ (.lst ((List.range n).map f)) := by
  have z := er_lcR (K := X.K) (g := g) (tt := tYes) (te := wEB X scope elt) (vs := own.map (·.2)) (pad_cons h pad_nil hse) (fun _ => true) f hl fun i hi => let ⟨δ2, a, b⟩ := ht i hi; ⟨δ2, a, etr_yes, fun _ => b.er⟩
  rw [show given n (fun _ => true) f = (List.range n).map f by unfold given; rw [List.filter_eq_self.mpr (fun _ _ => rfl)]] at z
  exact PD.of (pe_lcB hc hN (pi_range1 hgl hm (pa_w X) (se1 hse)) ok hg hs) z
/-- [elt for x in a tuple] -/
theorem pd_lcT {ds : List Dt} (hc : X.calm = true) (hN : X.N.Nodup) (h : PD X iter δ (.tup ds)) (hl : ds.length ≤ 100000) (ok : BlkOk X.N X.env.scope scope own) (hg : PGB X scope tg g) (f : Nat → Dt)
    (ht : ∀ i d, ds[i]? = some d → ∃ δ2, GW X.K g (own.map (·.2)) d (wipeD δ (own.map (·.2))) δ2 ∧ PDB X scope elt δ2 (f i)) (hs : ∀ x, foldedSetIterable iter X.env x = pure x := by intro _; rfl) :
    PD X (.ListComp elt [⟨tg, iter, [], 0⟩] scope pos) δ (.lst ((List.range ds.length).map f)) := by
  have z := er_lcT (K := X.K) (g := g) (tt := tYes) (te := wEB X scope elt) (vs := own.map (·.2)) h (fun _ => true) f hl fun i d hi => let ⟨δ2, a, b⟩ := ht i d hi; ⟨δ2, a, etr_yes, fun _ => b.er⟩
  rw [show given ds.length (fun _ => true) f = (List.range ds.length).map f by unfold given; rw [List.filter_eq_self.mpr (fun _ _ => rfl)]] at z
  exact PD.of (pe_lcB hc hN (pi_tup (pe_w X)) ok hg hs) z
/-- [elt for x in a list if c] -/
theorem pd_lcLt {ds : List Dt} (hc : X.calm = true) (hN : X.N.Nodup) (h : PD X iter δ (.lst ds)) (hl : ds.length ≤ 100000) (ok : BlkOk X.N X.env.scope scope own) (hg : PGB X scope tg g) (b : Nat → Bool) (f : Nat → Dt)
    (ht : ∀ i d, ds[i]? = some d → ∃ δ2, GW X.K g (own.map (·.2)) d (wipeD δ (own.map (·.2))) δ2 ∧ PTDB X scope c δ2 (b i) ∧ PDB X scope elt δ2 (f i)) (hs : ∀ x, foldedSetIterable iter X.env x = pure x := by intro _; rfl) :
    PD X (.ListComp elt [⟨tg, iter, [c], 0⟩] scope pos) δ (.lst (given ds.length b f)) :=
  PD.of (pe_lcBt hc hN (pi_list (pe_w X)) ok hg hs) (er_lcL (K := X.K) (g := g) (vs := own.map (·.2)) h b f hl fun i d hi => let ⟨δ2, a, b, c⟩ := ht i d hi; ⟨δ2, a, b.er, fun _ => c.er⟩)
/-- y = [elt for x in a list] -/
theorem sd_setLcL (i : Nat) {E : DE} {y : Str} {py spos : Pos} {ds : List Dt} (hc : X.calm = true) (hN : X.N.Nodup) (h : PD X iter δ (.lst ds)) (hl : ds.length ≤ 100000) (ok : BlkOk X.N X.env.scope scope own) (hg : PGB X scope tg g) (f : Nat → Dt)
    (ht : ∀ i d, ds[i]? = some d → ∃ δ2, GW X.K g (own.map (·.2)) d (wipeD δ (own.map (·.2))) δ2 ∧ PDB X scope elt δ2 (f i)) (k : E.nx (δ.set i (im (.lst ((List.range ds.length).map f))))) (hsw : swapsWith (.ListComp elt [⟨tg, iter, [], 0⟩] scope pos) (some (.Name y py)) spos.line X.env = pure true)
    (hy : X.N[i]? = some y := by rfl) (hyl : X.env.scope.names.lookup y = some .local := by rfl) (hs : ∀ x, foldedSetIterable iter X.env x = pure x := by intro _; rfl) :
    SDD X (.Assign [.Name y py] (.ListComp elt [⟨tg, iter, [], 0⟩] scope pos) spos) δ E := by
  have z := er_lcL (K := X.K) (g := g) (tt := tYes) (te := wEB X scope elt) (vs := own.map (·.2)) h (fun _ => true) f hl fun i d hi => let ⟨δ2, a, b⟩ := ht i d hi; ⟨δ2, a, etr_yes, fun _ => b.er⟩
  rw [show given ds.length (fun _ => true) f = (List.range ds.length).map f by unfold given; rw [List.filter_eq_self.mpr (fun _ _ => rfl)]] at z
  exact SDD.of (ps_setLc hc hN hy hyl hsw (pi_list (pe_w X)) ok hg (fun _ _ _ _ _ => pts_nil) (fun s H C cl fp => ⟨fun pins s' σ' H' Q I h => h s H C cl fp pins s' I⟩) hs)
    fun G0 H0 G H σ s rs D R => z H0 G H σ s.h rs _ fun v G1 H1 s1 r1 => R.nx _ G1 H1 _ (s.trans s1) ((rs.mono s1).set (s := .imm _) r1) k
end

/-! ### defs -/
def startD (N : List Str) (ds : List Dt) : EnvD := ds.map im ++ List.replicate (N.length - ds.length) none
theorem rs_start {K : PySem.W.Frag} {H0 G H : Hp} {N : List Str} : ∀ {vs : List V} {ds : List Dt} {n m : Nat}, Rps K G vs ds → n = m → Rs K H0 G H (vs.map some ++ List.replicate n none) (ds.map im ++ List.replicate m none)
  | [], [], n, _, .nil, rfl => by
    refine ⟨by simp, fun i s h => ?_⟩
    simp [List.getElem?_replicate] at h
  | v :: vs, d :: ds, n, m, .cons a b, e => by
    have r := rs_start (K := K) (H0 := H0) (G := G) (H := H) (N := N) b e
    refine ⟨by simpa using r.len, fun i s h => ?_⟩
    cases i with
    | zero =>
      simp at h
      subst h
      exact ⟨v, by simp, a⟩
    | succ i =>
      obtain ⟨u, h1, h2⟩ := r.at_ i s (by simpa using h)
      exact ⟨u, by simpa using h1, h2⟩
section
variable {P : Program} {w : World} {K : PySem.W.Frag} {mg : Str → Option Value} {base : Heap} {x qual : Str} {params : Arguments} {body : List Stmt} {scope : Scope} {dvs : List V} {kws : List (Str × V)} {f : Addr} {fd : FuncData} {N ps : List Str} {k : Nat}
theorem okD (F : FunD K x qual params body scope dvs kws f fd) (S : FnScope N ps scope) (Fs : List Dt → Dt → Prop) (len : ∀ ds d, Fs ds d → ds.length = ps.length)
    (hb : ∀ (cdv : Value) (A : Around) (outer : List Env) (s : Shared) (H : Hp) (E : XK) (ds : List Dt) (d : Dt), Room k (A.deeper (envOfC qual scope s.heap.objs.size f cdv)) → Fs ds d →
      SDs (cxOf CX0 P w K mg base N qual scope f cdv A outer s H E).nox body (startD N ds) { nx := fun _ => d = .non, rt := fun d' => d' = d }) : FnOk P w K mg base CX0 (k + 1) f fd ps (spD K Fs) := by
  refine F.ok S (fun vs H Q E h => ?_) (fun cdv A outer s H vs Q E hr h => ?_)
  · obtain ⟨G, ds, d, e, hF, r, _⟩ := h
    rw [r.length, len ds d hF]
  · obtain ⟨G, ds, d, e, hF, r, q⟩ := h
    refine ⟨_, (pss_w _).nox, ?_⟩
    refine hb cdv A outer s H E ds d hr hF G H G H _ (.refl e) ?_ _ ⟨fun σ G' H' δ t rs z => q _ G' H' t (by rw [z]; exact .non), fun v G' H' d' t rv z => q v G' H' t (by rw [← z]; exact rv), fun _ _ _ _ _ _ z => z.elim, fun _ _ _ _ _ _ z => z.elim⟩
    unfold L2.start startD
    exact rs_start (N := N) r (by rw [r.length])
theorem okI {C : Addr} {ks : List Str} (F : FunD K x qual params body scope dvs kws f fd) {p0 : Str} {N' ps' : List Str} (S : FnScope (p0 :: N') (p0 :: ps') scope) (Fs : List Dt → List Dt → Prop) (len : ∀ ds d, Fs ds d → ds.length = ps'.length)
    (hb : ∀ (cdv : Value) (A : Around) (outer : List Env) (s : Shared) (H : Hp) (E : XK) (ds ds' : List Dt) (xo : Addr), Room k (A.deeper (envOfC qual scope s.heap.objs.size f cdv)) → Fs ds ds' →
      SDs (cxOf CX0 P w K mg base (p0 :: N') qual scope f cdv A outer s H E).nox body (some (.obj xo C [] []) :: startD N' ds) { nx := fun δ' => δ'[0]? = some (some (.obj xo C ks ds')), rt := fun _ => False }) : FnOk P w K mg base CX0 (k + 1) f fd (p0 :: ps') (spI K C ks Fs) := by
  refine F.ok S (fun vs H Q E h => ?_) (fun cdv A outer s H vs Q E hr h => ?_)
  · obtain ⟨G, H0, xo, dx, args, ds, ds', rfl, _, _, _, _, hF, r, _⟩ := h
    rw [List.length_cons, r.length, len ds ds' hF]
    rfl
  · obtain ⟨G, H0, xo, dx, args, ds, ds', rfl, st, n0, gn, hx, hF, r, q⟩ := h
    refine ⟨_, (pss_w _).nox, ?_⟩
    refine hb cdv A outer s H E ds ds' xo hr hF G H0 G H _ st ?_ _ ⟨fun σ G' H' δ t rs z => ?_, fun v G' H' d' t rv z => z.elim, fun _ _ _ _ _ _ z => z.elim, fun _ _ _ _ _ _ z => z.elim⟩
    · have r1 := rs_start (K := K) (H0 := H0) (G := G) (H := H) (N := N') r (show N'.length - args.length = N'.length - ds.length by rw [r.length])
      have e1 : L2.start (p0 :: N') (.ref xo :: args) = some (.ref xo) :: (args.map some ++ List.replicate (N'.length - args.length) none) := by
        unfold L2.start
        rw [List.length_cons, List.length_cons, Nat.add_sub_add_right]
        rfl
      rw [e1]
      refine ⟨by simpa [startD] using r1.len, fun i s h => ?_⟩
      cases i with
      | zero =>
        simp at h
        subst h
        exact ⟨.ref xo, by simp, dx, [], rfl, n0, gn, by simpa using hx, rfl, .nil⟩
      | succ i =>
        obtain ⟨u, h1, h2⟩ := r1.at_ i s (by simpa [startD] using h)
        exact ⟨u, by simpa using h1, h2⟩
    · obtain ⟨v, e1, dx', xs, rfl, m0, g', hx', hl, r'⟩ := rs.at_ 0 _ z
      exact q G' H' dx' xs t g' hx' hl r'
end

/-! ### short loops turn by turn -/
section
variable {X : Cx} {δ : EnvD} {E : DE} {body : List Stmt} {pos : Pos} {iter tg : Expr} {ds : List Dt}
def runL (X : Cx) (tg : Expr) (body : List Stmt) (E : DE) : List Dt → EnvD → Prop
  | [], δ => E.nx δ
  | d :: r, δ => ∃ δ', GD X tg d δ δ' ∧ SDs X body δ' (E.turn (runL X tg body E r))
theorem run_step {i : Nat} {d : Dt} {δ : EnvD} (h : ds[i]? = some d) (r : runL X tg body E (ds.drop i) δ) : ∃ δ', GD X tg d δ δ' ∧ SDs X body δ' (E.turn (runL X tg body E (ds.drop (i + 1)))) := by
  have lt := (List.getElem?_eq_some_iff.mp h).1
  have e : ds.drop i = d :: ds.drop (i + 1) := by
    rw [List.drop_eq_getElem_cons lt, (List.getElem?_eq_some_iff.mp h).2]
  rw [e] at r
  exact r
theorem sd_forLr (hp : PassesOwn (model X.prog X.w) X.A X.env X.xe) (hc : X.calm = true) (h : PD X iter δ (.lst ds)) (r : runL X tg body E ds δ) (hf : ∀ x, foldedSetIterable iter X.env x = pure x := by intro _; rfl) : SDD X (.For tg iter body [] pos) δ E :=
  sd_forL hp hc h (fun i => runL X tg body E (ds.drop i)) r (fun i d δ' hd hI => run_step hd hI) (fun δ' hI => by
    rw [List.drop_length] at hI
    exact hI) hf
theorem sd_forTr (hp : PassesOwn (model X.prog X.w) X.A X.env X.xe) (hc : X.calm = true) (h : PD X iter δ (.tup ds)) (r : runL X tg body E ds δ) (hf : ∀ x, foldedSetIterable iter X.env x = pure x := by intro _; rfl) : SDD X (.For tg iter body [] pos) δ E :=
  sd_forT hp hc h (fun i => runL X tg body E (ds.drop i)) r (fun i d δ' hd hI => run_step hd hI) (fun δ' hI => by
    rw [List.drop_length] at hI
    exact hI) hf
end

/-! ### forgetting slots -/
theorem Rs.forget {K : PySem.W.Frag} {H0 G H : Hp} {σ : L2.St} {δ : EnvD} (r : Rs K H0 G H σ δ) (k : Nat) : Rs K H0 G H σ (δ.set k none) := by
  refine ⟨by rw [List.length_set]; exact r.len, fun j t e => ?_⟩
  by_cases q : k = j
  · subst q
    have lt : k < δ.length := by
      have := (List.getElem?_eq_some_iff.mp e).1
      rw [List.length_set] at this
      exact this
    rw [List.getElem?_set_self lt] at e
    cases e
  · rw [List.getElem?_set_ne q] at e
    exact r.at_ j t e
theorem Rs.forgets {K : PySem.W.Frag} {H0 G H : Hp} {σ : L2.St} {δ : EnvD} (r : Rs K H0 G H σ δ) : ∀ ks : List Nat, Rs K H0 G H σ (wipeD δ ks)
  | [] => r
  | k :: ks => (Rs.forgets r ks).forget k
theorem sds_forget {X : Cx} {δ : EnvD} {E : DE} {sts : List Stmt} (ks : List Nat) (h : SDs X sts (wipeD δ ks) E) : SDs X sts δ E := fun G0 H0 G H σ s rs D R => h G0 H0 G H σ s (rs.forgets ks) D R

/-! ### joins -/
/-- a word between a statement and what follows it -/
theorem sd_mid {X : Cx} {δ : EnvD} {E : DE} {st : Stmt} (M : EnvD → Prop) (h : SDD X st δ { E with nx := M }) (k : ∀ δ', M δ' → E.nx δ') : SDD X st δ E := fun G0 H0 G H σ s rs D R =>
  h G0 H0 G H σ s rs D ⟨fun σ G H δ a b c => R.nx σ G H δ a b (k δ c), R.rt, R.bk, R.ct⟩
end DL
/-! the head's facts by name (printed by gen_facts.py) -/
namespace Ft
open PySem PySem.Spec PyProof.Rows L2 DL
structure Ctx (K : PySem.W.Frag) (mg : Str → Option Value) : Prop where
  says : He.SaysD Tx.fa Tx.fn K
  ex : Tx.ex K = true
  heap : ∃ h, K.In h ∧ h.Ns mainGlobals mg
section
variable {K : PySem.W.Frag} {mg : Str → Option Value}
theorem Ctx.glo (C : Ctx K mg) {x : Str} (c : (He.Fa.glo x).ok K = true) : mg x = some (.ref (He.ga K x)) := by
  obtain ⟨h, X, G⟩ := C.heap
  exact He.glo_ok X G c
theorem Ctx.free (C : Ctx K mg) {x : Str} (c : (He.Fa.free x).ok K = true) : mg x = none := by
  obtain ⟨h, X, G⟩ := C.heap
  exact He.free_ok X G c
theorem Ctx.int (C : Ctx K mg) {x : Str} {i : Int} (c : (He.Fa.int x i).ok K = true) : ∃ t, mg x = some (.int i t) := by
  obtain ⟨h, X, G⟩ := C.heap
  exact He.int_ok X G c
theorem g_add (C : Ctx K mg) : mg "add" = some (.ref (He.ga K "add")) := C.glo (C.says.fact 0 (f := .glo "add") rfl)
theorem g_subtract (C : Ctx K mg) : mg "subtract" = some (.ref (He.ga K "subtract")) := C.glo (C.says.fact 1 (f := .glo "subtract") rfl)
theorem g_scaled (C : Ctx K mg) : mg "scaled" = some (.ref (He.ga K "scaled")) := C.glo (C.says.fact 2 (f := .glo "scaled") rfl)
theorem g_multiply (C : Ctx K mg) : mg "multiply" = some (.ref (He.ga K "multiply")) := C.glo (C.says.fact 3 (f := .glo "multiply") rfl)
theorem g_square (C : Ctx K mg) : mg "square" = some (.ref (He.ga K "square")) := C.glo (C.says.fact 4 (f := .glo "square") rfl)
theorem g_quotient (C : Ctx K mg) : mg "quotient" = some (.ref (He.ga K "quotient")) := C.glo (C.says.fact 5 (f := .glo "quotient") rfl)
theorem g_root (C : Ctx K mg) : mg "root" = some (.ref (He.ga K "root")) := C.glo (C.says.fact 6 (f := .glo "root") rfl)
theorem g_meet (C : Ctx K mg) : mg "meet" = some (.ref (He.ga K "meet")) := C.glo (C.says.fact 7 (f := .glo "meet") rfl)
theorem g_hull (C : Ctx K mg) : mg "hull" = some (.ref (He.ga K "hull")) := C.glo (C.says.fact 8 (f := .glo "hull") rfl)
theorem g_widened (C : Ctx K mg) : mg "widened" = some (.ref (He.ga K "widened")) := C.glo (C.says.fact 9 (f := .glo "widened") rfl)
theorem g_middle (C : Ctx K mg) : mg "middle" = some (.ref (He.ga K "middle")) := C.glo (C.says.fact 10 (f := .glo "middle") rfl)
theorem g_width (C : Ctx K mg) : mg "width" = some (.ref (He.ga K "width")) := C.glo (C.says.fact 11 (f := .glo "width") rfl)
theorem g_size (C : Ctx K mg) : mg "size" = some (.ref (He.ga K "size")) := C.glo (C.says.fact 12 (f := .glo "size") rfl)
theorem g_has (C : Ctx K mg) : mg "has" = some (.ref (He.ga K "has")) := C.glo (C.says.fact 13 (f := .glo "has") rfl)
theorem g_box_add (C : Ctx K mg) : mg "box_add" = some (.ref (He.ga K "box_add")) := C.glo (C.says.fact 14 (f := .glo "box_add") rfl)
theorem g_box_hull (C : Ctx K mg) : mg "box_hull" = some (.ref (He.ga K "box_hull")) := C.glo (C.says.fact 15 (f := .glo "box_hull") rfl)
theorem g_box_widened (C : Ctx K mg) : mg "box_widened" = some (.ref (He.ga K "box_widened")) := C.glo (C.says.fact 16 (f := .glo "box_widened") rfl)
theorem g_box_meet (C : Ctx K mg) : mg "box_meet" = some (.ref (He.ga K "box_meet")) := C.glo (C.says.fact 17 (f := .glo "box_meet") rfl)
theorem g_box_has (C : Ctx K mg) : mg "box_has" = some (.ref (He.ga K "box_has")) := C.glo (C.says.fact 18 (f := .glo "box_has") rfl)
theorem g_square_length (C : Ctx K mg) : mg "square_length" = some (.ref (He.ga K "square_length")) := C.glo (C.says.fact 19 (f := .glo "square_length") rfl)
theorem g_box_size (C : Ctx K mg) : mg "box_size" = some (.ref (He.ga K "box_size")) := C.glo (C.says.fact 20 (f := .glo "box_size") rfl)
theorem g_pull_over (C : Ctx K mg) : mg "pull_over" = some (.ref (He.ga K "pull_over")) := C.glo (C.says.fact 21 (f := .glo "pull_over") rfl)
theorem g_push_at (C : Ctx K mg) : mg "push_at" = some (.ref (He.ga K "push_at")) := C.glo (C.says.fact 22 (f := .glo "push_at") rfl)
theorem g_put (C : Ctx K mg) : mg "put" = some (.ref (He.ga K "put")) := C.glo (C.says.fact 23 (f := .glo "put") rfl)
theorem g_split (C : Ctx K mg) : mg "split" = some (.ref (He.ga K "split")) := C.glo (C.says.fact 24 (f := .glo "split") rfl)
theorem g_parts_of (C : Ctx K mg) : mg "parts_of" = some (.ref (He.ga K "parts_of")) := C.glo (C.says.fact 25 (f := .glo "parts_of") rfl)
theorem g_state_has (C : Ctx K mg) : mg "state_has" = some (.ref (He.ga K "state_has")) := C.glo (C.says.fact 26 (f := .glo "state_has") rfl)
theorem g_step (C : Ctx K mg) : mg "step" = some (.ref (He.ga K "step")) := C.glo (C.says.fact 27 (f := .glo "step") rfl)
theorem g_cut (C : Ctx K mg) : mg "cut" = some (.ref (He.ga K "cut")) := C.glo (C.says.fact 28 (f := .glo "cut") rfl)
theorem g_sighting_at (C : Ctx K mg) : mg "sighting_at" = some (.ref (He.ga K "sighting_at")) := C.glo (C.says.fact 29 (f := .glo "sighting_at") rfl)
theorem g_cut_all (C : Ctx K mg) : mg "cut_all" = some (.ref (He.ga K "cut_all")) := C.glo (C.says.fact 30 (f := .glo "cut_all") rfl)
theorem g_step_all (C : Ctx K mg) : mg "step_all" = some (.ref (He.ga K "step_all")) := C.glo (C.says.fact 31 (f := .glo "step_all") rfl)
theorem g_first_states (C : Ctx K mg) : mg "first_states" = some (.ref (He.ga K "first_states")) := C.glo (C.says.fact 32 (f := .glo "first_states") rfl)
theorem g_journey (C : Ctx K mg) : mg "journey" = some (.ref (He.ga K "journey")) := C.glo (C.says.fact 33 (f := .glo "journey") rfl)
theorem g_check (C : Ctx K mg) : mg "check" = some (.ref (He.ga K "check")) := C.glo (C.says.fact 34 (f := .glo "check") rfl)
theorem g_is_name (C : Ctx K mg) : mg "is_name" = some (.ref (He.ga K "is_name")) := C.glo (C.says.fact 35 (f := .glo "is_name") rfl)
theorem g_is_tick (C : Ctx K mg) : mg "is_tick" = some (.ref (He.ga K "is_tick")) := C.glo (C.says.fact 36 (f := .glo "is_tick") rfl)
theorem g_is_box (C : Ctx K mg) : mg "is_box" = some (.ref (He.ga K "is_box")) := C.glo (C.says.fact 37 (f := .glo "is_box") rfl)
theorem g__law_row (C : Ctx K mg) : mg "_law_row" = some (.ref (He.ga K "_law_row")) := C.glo (C.says.fact 38 (f := .glo "_law_row") rfl)
theorem g__law_spread (C : Ctx K mg) : mg "_law_spread" = some (.ref (He.ga K "_law_spread")) := C.glo (C.says.fact 39 (f := .glo "_law_spread") rfl)
theorem g__law_box (C : Ctx K mg) : mg "_law_box" = some (.ref (He.ga K "_law_box")) := C.glo (C.says.fact 40 (f := .glo "_law_box") rfl)
theorem g__law_member (C : Ctx K mg) : mg "_law_member" = some (.ref (He.ga K "_law_member")) := C.glo (C.says.fact 41 (f := .glo "_law_member") rfl)
theorem g__law_root (C : Ctx K mg) : mg "_law_root" = some (.ref (He.ga K "_law_root")) := C.glo (C.says.fact 42 (f := .glo "_law_root") rfl)
theorem g__law_pull (C : Ctx K mg) : mg "_law_pull" = some (.ref (He.ga K "_law_pull")) := C.glo (C.says.fact 43 (f := .glo "_law_pull") rfl)
theorem g__law_push (C : Ctx K mg) : mg "_law_push" = some (.ref (He.ga K "_law_push")) := C.glo (C.says.fact 44 (f := .glo "_law_push") rfl)
theorem g__law_world (C : Ctx K mg) : mg "_law_world" = some (.ref (He.ga K "_law_world")) := C.glo (C.says.fact 45 (f := .glo "_law_world") rfl)
theorem g__law_motion (C : Ctx K mg) : mg "_law_motion" = some (.ref (He.ga K "_law_motion")) := C.glo (C.says.fact 46 (f := .glo "_law_motion") rfl)
theorem g__law_seen (C : Ctx K mg) : mg "_law_seen" = some (.ref (He.ga K "_law_seen")) := C.glo (C.says.fact 47 (f := .glo "_law_seen") rfl)
theorem g__law_craft (C : Ctx K mg) : mg "_law_craft" = some (.ref (He.ga K "_law_craft")) := C.glo (C.says.fact 48 (f := .glo "_law_craft") rfl)
theorem g__law_in (C : Ctx K mg) : mg "_law_in" = some (.ref (He.ga K "_law_in")) := C.glo (C.says.fact 49 (f := .glo "_law_in") rfl)
theorem g_law (C : Ctx K mg) : mg "law" = some (.ref (He.ga K "law")) := C.glo (C.says.fact 50 (f := .glo "law") rfl)
theorem g_State (C : Ctx K mg) : mg "State" = some (.ref (He.ga K "State")) := C.glo (C.says.fact 51 (f := .glo "State") rfl)
theorem c_State (C : Ctx K mg) : Cls K (He.ga K "State") := He.cls_ok (C.says.fact 52 (f := .cls "State") rfl)
theorem m_State (C : Ctx K mg) : Mk K (He.ga K "State") (He.ma K (He.ga K "State") "__init__") := He.mkr_ok (C.says.fact 53 (f := .mkr "State") rfl)
theorem g_Moment (C : Ctx K mg) : mg "Moment" = some (.ref (He.ga K "Moment")) := C.glo (C.says.fact 56 (f := .glo "Moment") rfl)
theorem c_Moment (C : Ctx K mg) : Cls K (He.ga K "Moment") := He.cls_ok (C.says.fact 57 (f := .cls "Moment") rfl)
theorem m_Moment (C : Ctx K mg) : Mk K (He.ga K "Moment") (He.ma K (He.ga K "Moment") "__init__") := He.mkr_ok (C.says.fact 58 (f := .mkr "Moment") rfl)
theorem g_Journey (C : Ctx K mg) : mg "Journey" = some (.ref (He.ga K "Journey")) := C.glo (C.says.fact 61 (f := .glo "Journey") rfl)
theorem c_Journey (C : Ctx K mg) : Cls K (He.ga K "Journey") := He.cls_ok (C.says.fact 62 (f := .cls "Journey") rfl)
theorem m_Journey (C : Ctx K mg) : Mk K (He.ga K "Journey") (He.ma K (He.ga K "Journey") "__init__") := He.mkr_ok (C.says.fact 63 (f := .mkr "Journey") rfl)
theorem g_Body (C : Ctx K mg) : mg "Body" = some (.ref (He.ga K "Body")) := C.glo (C.says.fact 67 (f := .glo "Body") rfl)
theorem c_Body (C : Ctx K mg) : Cls K (He.ga K "Body") := He.cls_ok (C.says.fact 68 (f := .cls "Body") rfl)
theorem m_Body (C : Ctx K mg) : Mk K (He.ga K "Body") (He.ma K (He.ga K "Body") "__init__") := He.mkr_ok (C.says.fact 69 (f := .mkr "Body") rfl)
theorem g_Burn (C : Ctx K mg) : mg "Burn" = some (.ref (He.ga K "Burn")) := C.glo (C.says.fact 73 (f := .glo "Burn") rfl)
theorem c_Burn (C : Ctx K mg) : Cls K (He.ga K "Burn") := He.cls_ok (C.says.fact 74 (f := .cls "Burn") rfl)
theorem m_Burn (C : Ctx K mg) : Mk K (He.ga K "Burn") (He.ma K (He.ga K "Burn") "__init__") := He.mkr_ok (C.says.fact 75 (f := .mkr "Burn") rfl)
theorem g_Sighting (C : Ctx K mg) : mg "Sighting" = some (.ref (He.ga K "Sighting")) := C.glo (C.says.fact 79 (f := .glo "Sighting") rfl)
theorem c_Sighting (C : Ctx K mg) : Cls K (He.ga K "Sighting") := He.cls_ok (C.says.fact 80 (f := .cls "Sighting") rfl)
theorem m_Sighting (C : Ctx K mg) : Mk K (He.ga K "Sighting") (He.ma K (He.ga K "Sighting") "__init__") := He.mkr_ok (C.says.fact 81 (f := .mkr "Sighting") rfl)
theorem g_Craft (C : Ctx K mg) : mg "Craft" = some (.ref (He.ga K "Craft")) := C.glo (C.says.fact 84 (f := .glo "Craft") rfl)
theorem c_Craft (C : Ctx K mg) : Cls K (He.ga K "Craft") := He.cls_ok (C.says.fact 85 (f := .cls "Craft") rfl)
theorem m_Craft (C : Ctx K mg) : Mk K (He.ga K "Craft") (He.ma K (He.ga K "Craft") "__init__") := He.mkr_ok (C.says.fact 86 (f := .mkr "Craft") rfl)
theorem t_Moment_place (C : Ctx K mg) : Meth K (He.ga K "Moment") "place" (He.ma K (He.ga K "Moment") "place") := He.meth_ok (C.says.fact 94 (f := .meth "Moment" "place") rfl)
theorem t_Moment_speed (C : Ctx K mg) : Meth K (He.ga K "Moment") "speed" (He.ma K (He.ga K "Moment") "speed") := He.meth_ok (C.says.fact 95 (f := .meth "Moment" "speed") rfl)
theorem z_tuple (C : Ctx K mg) : mg "tuple" = none := C.free (C.says.fact 96 (f := .free "tuple") rfl)
theorem z_list (C : Ctx K mg) : mg "list" = none := C.free (C.says.fact 97 (f := .free "list") rfl)
theorem z_len (C : Ctx K mg) : mg "len" = none := C.free (C.says.fact 98 (f := .free "len") rfl)
theorem z_range (C : Ctx K mg) : mg "range" = none := C.free (C.says.fact 99 (f := .free "range") rfl)
theorem z_min (C : Ctx K mg) : mg "min" = none := C.free (C.says.fact 100 (f := .free "min") rfl)
theorem z_max (C : Ctx K mg) : mg "max" = none := C.free (C.says.fact 101 (f := .free "max") rfl)
theorem z_abs (C : Ctx K mg) : mg "abs" = none := C.free (C.says.fact 102 (f := .free "abs") rfl)
theorem z_int (C : Ctx K mg) : mg "int" = none := C.free (C.says.fact 103 (f := .free "int") rfl)
theorem z_sum (C : Ctx K mg) : mg "sum" = none := C.free (C.says.fact 104 (f := .free "sum") rfl)
theorem i_LIMIT (C : Ctx K mg) : ∃ t, mg "LIMIT" = some (.int ((10 ^ 40)) t) := C.int (C.says.fact 105 (f := .int "LIMIT" (10 ^ 40)) rfl)
theorem i_LAST_TICK (C : Ctx K mg) : ∃ t, mg "LAST_TICK" = some (.int (100000) t) := C.int (C.says.fact 106 (f := .int "LAST_TICK" 100000) rfl)
theorem i_MOST (C : Ctx K mg) : ∃ t, mg "MOST" = some (.int ((10 ^ 15)) t) := C.int (C.says.fact 107 (f := .int "MOST" (10 ^ 15)) rfl)
theorem i_MOST_DRIFT (C : Ctx K mg) : ∃ t, mg "MOST_DRIFT" = some (.int ((10 ^ 12)) t) := C.int (C.says.fact 108 (f := .int "MOST_DRIFT" (10 ^ 12)) rfl)
theorem g_FACTORS (C : Ctx K mg) : mg "FACTORS" = some (.ref (He.ga K "FACTORS")) := C.glo (C.says.fact 109 (f := .glo "FACTORS") rfl)
theorem g_NOTHING (C : Ctx K mg) : mg "NOTHING" = some (.ref (He.ga K "NOTHING")) := C.glo (C.says.fact 110 (f := .glo "NOTHING") rfl)
abbrev ks_State : List Str := ["place", "speed"]
theorem kc_State (C : Ctx K mg) : KCls K (He.ga K "State") ks_State := ⟨c_State C, fun f h => by
  simp only [ks_State, List.mem_cons, List.not_mem_nil, or_false] at h
  rcases h with rfl | rfl
  · exact He.noat_ok (C.says.fact 54 (f := .noat "State" "place") rfl)
  · exact He.noat_ok (C.says.fact 55 (f := .noat "State" "speed") rfl)
⟩
abbrev ks_Moment : List Str := ["at", "states"]
theorem kc_Moment (C : Ctx K mg) : KCls K (He.ga K "Moment") ks_Moment := ⟨c_Moment C, fun f h => by
  simp only [ks_Moment, List.mem_cons, List.not_mem_nil, or_false] at h
  rcases h with rfl | rfl
  · exact He.noat_ok (C.says.fact 59 (f := .noat "Moment" "at") rfl)
  · exact He.noat_ok (C.says.fact 60 (f := .noat "Moment" "states") rfl)
⟩
abbrev ks_Journey : List Str := ["moments", "ending", "broken"]
theorem kc_Journey (C : Ctx K mg) : KCls K (He.ga K "Journey") ks_Journey := ⟨c_Journey C, fun f h => by
  simp only [ks_Journey, List.mem_cons, List.not_mem_nil, or_false] at h
  rcases h with rfl | rfl | rfl
  · exact He.noat_ok (C.says.fact 64 (f := .noat "Journey" "moments") rfl)
  · exact He.noat_ok (C.says.fact 65 (f := .noat "Journey" "ending") rfl)
  · exact He.noat_ok (C.says.fact 66 (f := .noat "Journey" "broken") rfl)
⟩
abbrev ks_Body : List Str := ["mu", "oblateness", "turn"]
theorem kc_Body (C : Ctx K mg) : KCls K (He.ga K "Body") ks_Body := ⟨c_Body C, fun f h => by
  simp only [ks_Body, List.mem_cons, List.not_mem_nil, or_false] at h
  rcases h with rfl | rfl | rfl
  · exact He.noat_ok (C.says.fact 70 (f := .noat "Body" "mu") rfl)
  · exact He.noat_ok (C.says.fact 71 (f := .noat "Body" "oblateness") rfl)
  · exact He.noat_ok (C.says.fact 72 (f := .noat "Body" "turn") rfl)
⟩
abbrev ks_Burn : List Str := ["begin", "end", "push"]
theorem kc_Burn (C : Ctx K mg) : KCls K (He.ga K "Burn") ks_Burn := ⟨c_Burn C, fun f h => by
  simp only [ks_Burn, List.mem_cons, List.not_mem_nil, or_false] at h
  rcases h with rfl | rfl | rfl
  · exact He.noat_ok (C.says.fact 76 (f := .noat "Burn" "begin") rfl)
  · exact He.noat_ok (C.says.fact 77 (f := .noat "Burn" "end") rfl)
  · exact He.noat_ok (C.says.fact 78 (f := .noat "Burn" "push") rfl)
⟩
abbrev ks_Sighting : List Str := ["at", "place"]
theorem kc_Sighting (C : Ctx K mg) : KCls K (He.ga K "Sighting") ks_Sighting := ⟨c_Sighting C, fun f h => by
  simp only [ks_Sighting, List.mem_cons, List.not_mem_nil, or_false] at h
  rcases h with rfl | rfl
  · exact He.noat_ok (C.says.fact 82 (f := .noat "Sighting" "at") rfl)
  · exact He.noat_ok (C.says.fact 83 (f := .noat "Sighting" "place") rfl)
⟩
abbrev ks_Craft : List Str := ["name", "start", "place", "speed", "drift", "burns", "sightings"]
theorem kc_Craft (C : Ctx K mg) : KCls K (He.ga K "Craft") ks_Craft := ⟨c_Craft C, fun f h => by
  simp only [ks_Craft, List.mem_cons, List.not_mem_nil, or_false] at h
  rcases h with rfl | rfl | rfl | rfl | rfl | rfl | rfl
  · exact He.noat_ok (C.says.fact 87 (f := .noat "Craft" "name") rfl)
  · exact He.noat_ok (C.says.fact 88 (f := .noat "Craft" "start") rfl)
  · exact He.noat_ok (C.says.fact 89 (f := .noat "Craft" "place") rfl)
  · exact He.noat_ok (C.says.fact 90 (f := .noat "Craft" "speed") rfl)
  · exact He.noat_ok (C.says.fact 91 (f := .noat "Craft" "drift") rfl)
  · exact He.noat_ok (C.says.fact 92 (f := .noat "Craft" "burns") rfl)
  · exact He.noat_ok (C.says.fact 93 (f := .noat "Craft" "sightings") rfl)
⟩
theorem f_add (C : Ctx K mg) : ∃ fd, FunD K Tx.d_add.name Tx.d_add.qual Tx.d_add.params Tx.d_add.body Tx.d_add.scope (Tx.d_add.dvs K) (Tx.d_add.kws K) (He.fAd K Tx.d_add.at_) fd := C.says.def_ 0 (d := Tx.d_add) rfl
theorem f_subtract (C : Ctx K mg) : ∃ fd, FunD K Tx.d_subtract.name Tx.d_subtract.qual Tx.d_subtract.params Tx.d_subtract.body Tx.d_subtract.scope (Tx.d_subtract.dvs K) (Tx.d_subtract.kws K) (He.fAd K Tx.d_subtract.at_) fd := C.says.def_ 1 (d := Tx.d_subtract) rfl
theorem f_scaled (C : Ctx K mg) : ∃ fd, FunD K Tx.d_scaled.name Tx.d_scaled.qual Tx.d_scaled.params Tx.d_scaled.body Tx.d_scaled.scope (Tx.d_scaled.dvs K) (Tx.d_scaled.kws K) (He.fAd K Tx.d_scaled.at_) fd := C.says.def_ 2 (d := Tx.d_scaled) rfl
theorem f_multiply (C : Ctx K mg) : ∃ fd, FunD K Tx.d_multiply.name Tx.d_multiply.qual Tx.d_multiply.params Tx.d_multiply.body Tx.d_multiply.scope (Tx.d_multiply.dvs K) (Tx.d_multiply.kws K) (He.fAd K Tx.d_multiply.at_) fd := C.says.def_ 3 (d := Tx.d_multiply) rfl
theorem f_square (C : Ctx K mg) : ∃ fd, FunD K Tx.d_square.name Tx.d_square.qual Tx.d_square.params Tx.d_square.body Tx.d_square.scope (Tx.d_square.dvs K) (Tx.d_square.kws K) (He.fAd K Tx.d_square.at_) fd := C.says.def_ 4 (d := Tx.d_square) rfl
theorem f_quotient (C : Ctx K mg) : ∃ fd, FunD K Tx.d_quotient.name Tx.d_quotient.qual Tx.d_quotient.params Tx.d_quotient.body Tx.d_quotient.scope (Tx.d_quotient.dvs K) (Tx.d_quotient.kws K) (He.fAd K Tx.d_quotient.at_) fd := C.says.def_ 5 (d := Tx.d_quotient) rfl
theorem f_root (C : Ctx K mg) : ∃ fd, FunD K Tx.d_root.name Tx.d_root.qual Tx.d_root.params Tx.d_root.body Tx.d_root.scope (Tx.d_root.dvs K) (Tx.d_root.kws K) (He.fAd K Tx.d_root.at_) fd := C.says.def_ 6 (d := Tx.d_root) rfl
theorem f_meet (C : Ctx K mg) : ∃ fd, FunD K Tx.d_meet.name Tx.d_meet.qual Tx.d_meet.params Tx.d_meet.body Tx.d_meet.scope (Tx.d_meet.dvs K) (Tx.d_meet.kws K) (He.fAd K Tx.d_meet.at_) fd := C.says.def_ 7 (d := Tx.d_meet) rfl
theorem f_hull (C : Ctx K mg) : ∃ fd, FunD K Tx.d_hull.name Tx.d_hull.qual Tx.d_hull.params Tx.d_hull.body Tx.d_hull.scope (Tx.d_hull.dvs K) (Tx.d_hull.kws K) (He.fAd K Tx.d_hull.at_) fd := C.says.def_ 8 (d := Tx.d_hull) rfl
theorem f_widened (C : Ctx K mg) : ∃ fd, FunD K Tx.d_widened.name Tx.d_widened.qual Tx.d_widened.params Tx.d_widened.body Tx.d_widened.scope (Tx.d_widened.dvs K) (Tx.d_widened.kws K) (He.fAd K Tx.d_widened.at_) fd := C.says.def_ 9 (d := Tx.d_widened) rfl
theorem f_middle (C : Ctx K mg) : ∃ fd, FunD K Tx.d_middle.name Tx.d_middle.qual Tx.d_middle.params Tx.d_middle.body Tx.d_middle.scope (Tx.d_middle.dvs K) (Tx.d_middle.kws K) (He.fAd K Tx.d_middle.at_) fd := C.says.def_ 10 (d := Tx.d_middle) rfl
theorem f_width (C : Ctx K mg) : ∃ fd, FunD K Tx.d_width.name Tx.d_width.qual Tx.d_width.params Tx.d_width.body Tx.d_width.scope (Tx.d_width.dvs K) (Tx.d_width.kws K) (He.fAd K Tx.d_width.at_) fd := C.says.def_ 11 (d := Tx.d_width) rfl
theorem f_size (C : Ctx K mg) : ∃ fd, FunD K Tx.d_size.name Tx.d_size.qual Tx.d_size.params Tx.d_size.body Tx.d_size.scope (Tx.d_size.dvs K) (Tx.d_size.kws K) (He.fAd K Tx.d_size.at_) fd := C.says.def_ 12 (d := Tx.d_size) rfl
theorem f_has (C : Ctx K mg) : ∃ fd, FunD K Tx.d_has.name Tx.d_has.qual Tx.d_has.params Tx.d_has.body Tx.d_has.scope (Tx.d_has.dvs K) (Tx.d_has.kws K) (He.fAd K Tx.d_has.at_) fd := C.says.def_ 13 (d := Tx.d_has) rfl
theorem f_box_add (C : Ctx K mg) : ∃ fd, FunD K Tx.d_box_add.name Tx.d_box_add.qual Tx.d_box_add.params Tx.d_box_add.body Tx.d_box_add.scope (Tx.d_box_add.dvs K) (Tx.d_box_add.kws K) (He.fAd K Tx.d_box_add.at_) fd := C.says.def_ 14 (d := Tx.d_box_add) rfl
theorem f_box_hull (C : Ctx K mg) : ∃ fd, FunD K Tx.d_box_hull.name Tx.d_box_hull.qual Tx.d_box_hull.params Tx.d_box_hull.body Tx.d_box_hull.scope (Tx.d_box_hull.dvs K) (Tx.d_box_hull.kws K) (He.fAd K Tx.d_box_hull.at_) fd := C.says.def_ 15 (d := Tx.d_box_hull) rfl
theorem f_box_widened (C : Ctx K mg) : ∃ fd, FunD K Tx.d_box_widened.name Tx.d_box_widened.qual Tx.d_box_widened.params Tx.d_box_widened.body Tx.d_box_widened.scope (Tx.d_box_widened.dvs K) (Tx.d_box_widened.kws K) (He.fAd K Tx.d_box_widened.at_) fd := C.says.def_ 16 (d := Tx.d_box_widened) rfl
theorem f_box_meet (C : Ctx K mg) : ∃ fd, FunD K Tx.d_box_meet.name Tx.d_box_meet.qual Tx.d_box_meet.params Tx.d_box_meet.body Tx.d_box_meet.scope (Tx.d_box_meet.dvs K) (Tx.d_box_meet.kws K) (He.fAd K Tx.d_box_meet.at_) fd := C.says.def_ 17 (d := Tx.d_box_meet) rfl
theorem f_box_has (C : Ctx K mg) : ∃ fd, FunD K Tx.d_box_has.name Tx.d_box_has.qual Tx.d_box_has.params Tx.d_box_has.body Tx.d_box_has.scope (Tx.d_box_has.dvs K) (Tx.d_box_has.kws K) (He.fAd K Tx.d_box_has.at_) fd := C.says.def_ 18 (d := Tx.d_box_has) rfl
theorem f_square_length (C : Ctx K mg) : ∃ fd, FunD K Tx.d_square_length.name Tx.d_square_length.qual Tx.d_square_length.params Tx.d_square_length.body Tx.d_square_length.scope (Tx.d_square_length.dvs K) (Tx.d_square_length.kws K) (He.fAd K Tx.d_square_length.at_) fd := C.says.def_ 19 (d := Tx.d_square_length) rfl
theorem f_box_size (C : Ctx K mg) : ∃ fd, FunD K Tx.d_box_size.name Tx.d_box_size.qual Tx.d_box_size.params Tx.d_box_size.body Tx.d_box_size.scope (Tx.d_box_size.dvs K) (Tx.d_box_size.kws K) (He.fAd K Tx.d_box_size.at_) fd := C.says.def_ 20 (d := Tx.d_box_size) rfl
theorem f_pull_over (C : Ctx K mg) : ∃ fd, FunD K Tx.d_pull_over.name Tx.d_pull_over.qual Tx.d_pull_over.params Tx.d_pull_over.body Tx.d_pull_over.scope (Tx.d_pull_over.dvs K) (Tx.d_pull_over.kws K) (He.fAd K Tx.d_pull_over.at_) fd := C.says.def_ 21 (d := Tx.d_pull_over) rfl
theorem f_push_at (C : Ctx K mg) : ∃ fd, FunD K Tx.d_push_at.name Tx.d_push_at.qual Tx.d_push_at.params Tx.d_push_at.body Tx.d_push_at.scope (Tx.d_push_at.dvs K) (Tx.d_push_at.kws K) (He.fAd K Tx.d_push_at.at_) fd := C.says.def_ 22 (d := Tx.d_push_at) rfl
theorem f_State_init (C : Ctx K mg) : ∃ fd, FunD K Tx.d_State_init.name Tx.d_State_init.qual Tx.d_State_init.params Tx.d_State_init.body Tx.d_State_init.scope (Tx.d_State_init.dvs K) (Tx.d_State_init.kws K) (He.fAd K Tx.d_State_init.at_) fd := C.says.def_ 23 (d := Tx.d_State_init) rfl
theorem f_put (C : Ctx K mg) : ∃ fd, FunD K Tx.d_put.name Tx.d_put.qual Tx.d_put.params Tx.d_put.body Tx.d_put.scope (Tx.d_put.dvs K) (Tx.d_put.kws K) (He.fAd K Tx.d_put.at_) fd := C.says.def_ 24 (d := Tx.d_put) rfl
theorem f_split (C : Ctx K mg) : ∃ fd, FunD K Tx.d_split.name Tx.d_split.qual Tx.d_split.params Tx.d_split.body Tx.d_split.scope (Tx.d_split.dvs K) (Tx.d_split.kws K) (He.fAd K Tx.d_split.at_) fd := C.says.def_ 25 (d := Tx.d_split) rfl
theorem f_parts_of (C : Ctx K mg) : ∃ fd, FunD K Tx.d_parts_of.name Tx.d_parts_of.qual Tx.d_parts_of.params Tx.d_parts_of.body Tx.d_parts_of.scope (Tx.d_parts_of.dvs K) (Tx.d_parts_of.kws K) (He.fAd K Tx.d_parts_of.at_) fd := C.says.def_ 26 (d := Tx.d_parts_of) rfl
theorem f_state_has (C : Ctx K mg) : ∃ fd, FunD K Tx.d_state_has.name Tx.d_state_has.qual Tx.d_state_has.params Tx.d_state_has.body Tx.d_state_has.scope (Tx.d_state_has.dvs K) (Tx.d_state_has.kws K) (He.fAd K Tx.d_state_has.at_) fd := C.says.def_ 27 (d := Tx.d_state_has) rfl
theorem f_step (C : Ctx K mg) : ∃ fd, FunD K Tx.d_step.name Tx.d_step.qual Tx.d_step.params Tx.d_step.body Tx.d_step.scope (Tx.d_step.dvs K) (Tx.d_step.kws K) (He.fAd K Tx.d_step.at_) fd := C.says.def_ 28 (d := Tx.d_step) rfl
theorem f_cut (C : Ctx K mg) : ∃ fd, FunD K Tx.d_cut.name Tx.d_cut.qual Tx.d_cut.params Tx.d_cut.body Tx.d_cut.scope (Tx.d_cut.dvs K) (Tx.d_cut.kws K) (He.fAd K Tx.d_cut.at_) fd := C.says.def_ 29 (d := Tx.d_cut) rfl
theorem f_Moment_init (C : Ctx K mg) : ∃ fd, FunD K Tx.d_Moment_init.name Tx.d_Moment_init.qual Tx.d_Moment_init.params Tx.d_Moment_init.body Tx.d_Moment_init.scope (Tx.d_Moment_init.dvs K) (Tx.d_Moment_init.kws K) (He.fAd K Tx.d_Moment_init.at_) fd := C.says.def_ 30 (d := Tx.d_Moment_init) rfl
theorem f_Moment_place (C : Ctx K mg) : ∃ fd, FunD K Tx.d_Moment_place.name Tx.d_Moment_place.qual Tx.d_Moment_place.params Tx.d_Moment_place.body Tx.d_Moment_place.scope (Tx.d_Moment_place.dvs K) (Tx.d_Moment_place.kws K) (He.fAd K Tx.d_Moment_place.at_) fd := C.says.def_ 31 (d := Tx.d_Moment_place) rfl
theorem f_Moment_speed (C : Ctx K mg) : ∃ fd, FunD K Tx.d_Moment_speed.name Tx.d_Moment_speed.qual Tx.d_Moment_speed.params Tx.d_Moment_speed.body Tx.d_Moment_speed.scope (Tx.d_Moment_speed.dvs K) (Tx.d_Moment_speed.kws K) (He.fAd K Tx.d_Moment_speed.at_) fd := C.says.def_ 32 (d := Tx.d_Moment_speed) rfl
theorem f_Journey_init (C : Ctx K mg) : ∃ fd, FunD K Tx.d_Journey_init.name Tx.d_Journey_init.qual Tx.d_Journey_init.params Tx.d_Journey_init.body Tx.d_Journey_init.scope (Tx.d_Journey_init.dvs K) (Tx.d_Journey_init.kws K) (He.fAd K Tx.d_Journey_init.at_) fd := C.says.def_ 33 (d := Tx.d_Journey_init) rfl
theorem f_sighting_at (C : Ctx K mg) : ∃ fd, FunD K Tx.d_sighting_at.name Tx.d_sighting_at.qual Tx.d_sighting_at.params Tx.d_sighting_at.body Tx.d_sighting_at.scope (Tx.d_sighting_at.dvs K) (Tx.d_sighting_at.kws K) (He.fAd K Tx.d_sighting_at.at_) fd := C.says.def_ 34 (d := Tx.d_sighting_at) rfl
theorem f_cut_all (C : Ctx K mg) : ∃ fd, FunD K Tx.d_cut_all.name Tx.d_cut_all.qual Tx.d_cut_all.params Tx.d_cut_all.body Tx.d_cut_all.scope (Tx.d_cut_all.dvs K) (Tx.d_cut_all.kws K) (He.fAd K Tx.d_cut_all.at_) fd := C.says.def_ 35 (d := Tx.d_cut_all) rfl
theorem f_step_all (C : Ctx K mg) : ∃ fd, FunD K Tx.d_step_all.name Tx.d_step_all.qual Tx.d_step_all.params Tx.d_step_all.body Tx.d_step_all.scope (Tx.d_step_all.dvs K) (Tx.d_step_all.kws K) (He.fAd K Tx.d_step_all.at_) fd := C.says.def_ 36 (d := Tx.d_step_all) rfl
theorem f_first_states (C : Ctx K mg) : ∃ fd, FunD K Tx.d_first_states.name Tx.d_first_states.qual Tx.d_first_states.params Tx.d_first_states.body Tx.d_first_states.scope (Tx.d_first_states.dvs K) (Tx.d_first_states.kws K) (He.fAd K Tx.d_first_states.at_) fd := C.says.def_ 37 (d := Tx.d_first_states) rfl
theorem f_journey (C : Ctx K mg) : ∃ fd, FunD K Tx.d_journey.name Tx.d_journey.qual Tx.d_journey.params Tx.d_journey.body Tx.d_journey.scope (Tx.d_journey.dvs K) (Tx.d_journey.kws K) (He.fAd K Tx.d_journey.at_) fd := C.says.def_ 38 (d := Tx.d_journey) rfl
theorem f_check (C : Ctx K mg) : ∃ fd, FunD K Tx.d_check.name Tx.d_check.qual Tx.d_check.params Tx.d_check.body Tx.d_check.scope (Tx.d_check.dvs K) (Tx.d_check.kws K) (He.fAd K Tx.d_check.at_) fd := C.says.def_ 39 (d := Tx.d_check) rfl
theorem f_is_name (C : Ctx K mg) : ∃ fd, FunD K Tx.d_is_name.name Tx.d_is_name.qual Tx.d_is_name.params Tx.d_is_name.body Tx.d_is_name.scope (Tx.d_is_name.dvs K) (Tx.d_is_name.kws K) (He.fAd K Tx.d_is_name.at_) fd := C.says.def_ 40 (d := Tx.d_is_name) rfl
theorem f_is_tick (C : Ctx K mg) : ∃ fd, FunD K Tx.d_is_tick.name Tx.d_is_tick.qual Tx.d_is_tick.params Tx.d_is_tick.body Tx.d_is_tick.scope (Tx.d_is_tick.dvs K) (Tx.d_is_tick.kws K) (He.fAd K Tx.d_is_tick.at_) fd := C.says.def_ 41 (d := Tx.d_is_tick) rfl
theorem f_is_box (C : Ctx K mg) : ∃ fd, FunD K Tx.d_is_box.name Tx.d_is_box.qual Tx.d_is_box.params Tx.d_is_box.body Tx.d_is_box.scope (Tx.d_is_box.dvs K) (Tx.d_is_box.kws K) (He.fAd K Tx.d_is_box.at_) fd := C.says.def_ 42 (d := Tx.d_is_box) rfl
theorem f_Body_init (C : Ctx K mg) : ∃ fd, FunD K Tx.d_Body_init.name Tx.d_Body_init.qual Tx.d_Body_init.params Tx.d_Body_init.body Tx.d_Body_init.scope (Tx.d_Body_init.dvs K) (Tx.d_Body_init.kws K) (He.fAd K Tx.d_Body_init.at_) fd := C.says.def_ 43 (d := Tx.d_Body_init) rfl
theorem f_Burn_init (C : Ctx K mg) : ∃ fd, FunD K Tx.d_Burn_init.name Tx.d_Burn_init.qual Tx.d_Burn_init.params Tx.d_Burn_init.body Tx.d_Burn_init.scope (Tx.d_Burn_init.dvs K) (Tx.d_Burn_init.kws K) (He.fAd K Tx.d_Burn_init.at_) fd := C.says.def_ 44 (d := Tx.d_Burn_init) rfl
theorem f_Sighting_init (C : Ctx K mg) : ∃ fd, FunD K Tx.d_Sighting_init.name Tx.d_Sighting_init.qual Tx.d_Sighting_init.params Tx.d_Sighting_init.body Tx.d_Sighting_init.scope (Tx.d_Sighting_init.dvs K) (Tx.d_Sighting_init.kws K) (He.fAd K Tx.d_Sighting_init.at_) fd := C.says.def_ 45 (d := Tx.d_Sighting_init) rfl
theorem f_Craft_init (C : Ctx K mg) : ∃ fd, FunD K Tx.d_Craft_init.name Tx.d_Craft_init.qual Tx.d_Craft_init.params Tx.d_Craft_init.body Tx.d_Craft_init.scope (Tx.d_Craft_init.dvs K) (Tx.d_Craft_init.kws K) (He.fAd K Tx.d_Craft_init.at_) fd := C.says.def_ 46 (d := Tx.d_Craft_init) rfl
theorem f__law_row (C : Ctx K mg) : ∃ fd, FunD K Tx.d__law_row.name Tx.d__law_row.qual Tx.d__law_row.params Tx.d__law_row.body Tx.d__law_row.scope (Tx.d__law_row.dvs K) (Tx.d__law_row.kws K) (He.fAd K Tx.d__law_row.at_) fd := C.says.def_ 47 (d := Tx.d__law_row) rfl
theorem f__law_spread (C : Ctx K mg) : ∃ fd, FunD K Tx.d__law_spread.name Tx.d__law_spread.qual Tx.d__law_spread.params Tx.d__law_spread.body Tx.d__law_spread.scope (Tx.d__law_spread.dvs K) (Tx.d__law_spread.kws K) (He.fAd K Tx.d__law_spread.at_) fd := C.says.def_ 48 (d := Tx.d__law_spread) rfl
theorem f__law_box (C : Ctx K mg) : ∃ fd, FunD K Tx.d__law_box.name Tx.d__law_box.qual Tx.d__law_box.params Tx.d__law_box.body Tx.d__law_box.scope (Tx.d__law_box.dvs K) (Tx.d__law_box.kws K) (He.fAd K Tx.d__law_box.at_) fd := C.says.def_ 49 (d := Tx.d__law_box) rfl
theorem f__law_member (C : Ctx K mg) : ∃ fd, FunD K Tx.d__law_member.name Tx.d__law_member.qual Tx.d__law_member.params Tx.d__law_member.body Tx.d__law_member.scope (Tx.d__law_member.dvs K) (Tx.d__law_member.kws K) (He.fAd K Tx.d__law_member.at_) fd := C.says.def_ 50 (d := Tx.d__law_member) rfl
theorem f__law_root (C : Ctx K mg) : ∃ fd, FunD K Tx.d__law_root.name Tx.d__law_root.qual Tx.d__law_root.params Tx.d__law_root.body Tx.d__law_root.scope (Tx.d__law_root.dvs K) (Tx.d__law_root.kws K) (He.fAd K Tx.d__law_root.at_) fd := C.says.def_ 51 (d := Tx.d__law_root) rfl
theorem f__law_pull (C : Ctx K mg) : ∃ fd, FunD K Tx.d__law_pull.name Tx.d__law_pull.qual Tx.d__law_pull.params Tx.d__law_pull.body Tx.d__law_pull.scope (Tx.d__law_pull.dvs K) (Tx.d__law_pull.kws K) (He.fAd K Tx.d__law_pull.at_) fd := C.says.def_ 52 (d := Tx.d__law_pull) rfl
theorem f__law_push (C : Ctx K mg) : ∃ fd, FunD K Tx.d__law_push.name Tx.d__law_push.qual Tx.d__law_push.params Tx.d__law_push.body Tx.d__law_push.scope (Tx.d__law_push.dvs K) (Tx.d__law_push.kws K) (He.fAd K Tx.d__law_push.at_) fd := C.says.def_ 53 (d := Tx.d__law_push) rfl
theorem f__law_world (C : Ctx K mg) : ∃ fd, FunD K Tx.d__law_world.name Tx.d__law_world.qual Tx.d__law_world.params Tx.d__law_world.body Tx.d__law_world.scope (Tx.d__law_world.dvs K) (Tx.d__law_world.kws K) (He.fAd K Tx.d__law_world.at_) fd := C.says.def_ 54 (d := Tx.d__law_world) rfl
theorem f__law_motion (C : Ctx K mg) : ∃ fd, FunD K Tx.d__law_motion.name Tx.d__law_motion.qual Tx.d__law_motion.params Tx.d__law_motion.body Tx.d__law_motion.scope (Tx.d__law_motion.dvs K) (Tx.d__law_motion.kws K) (He.fAd K Tx.d__law_motion.at_) fd := C.says.def_ 55 (d := Tx.d__law_motion) rfl
theorem f__law_seen (C : Ctx K mg) : ∃ fd, FunD K Tx.d__law_seen.name Tx.d__law_seen.qual Tx.d__law_seen.params Tx.d__law_seen.body Tx.d__law_seen.scope (Tx.d__law_seen.dvs K) (Tx.d__law_seen.kws K) (He.fAd K Tx.d__law_seen.at_) fd := C.says.def_ 56 (d := Tx.d__law_seen) rfl
theorem f__law_craft (C : Ctx K mg) : ∃ fd, FunD K Tx.d__law_craft.name Tx.d__law_craft.qual Tx.d__law_craft.params Tx.d__law_craft.body Tx.d__law_craft.scope (Tx.d__law_craft.dvs K) (Tx.d__law_craft.kws K) (He.fAd K Tx.d__law_craft.at_) fd := C.says.def_ 57 (d := Tx.d__law_craft) rfl
theorem f__law_in (C : Ctx K mg) : ∃ fd, FunD K Tx.d__law_in.name Tx.d__law_in.qual Tx.d__law_in.params Tx.d__law_in.body Tx.d__law_in.scope (Tx.d__law_in.dvs K) (Tx.d__law_in.kws K) (He.fAd K Tx.d__law_in.at_) fd := C.says.def_ 58 (d := Tx.d__law_in) rfl
theorem f_law (C : Ctx K mg) : ∃ fd, FunD K Tx.d_law.name Tx.d_law.qual Tx.d_law.params Tx.d_law.body Tx.d_law.scope (Tx.d_law.dvs K) (Tx.d_law.kws K) (He.fAd K Tx.d_law.at_) fd := C.says.def_ 59 (d := Tx.d_law) rfl
theorem isqrt_ok (C : Ctx K mg) : mg "isqrt" = some (.builtin "math.isqrt") := by
  obtain ⟨h, X, G⟩ := C.heap
  exact PySem.W.mg_of X G (He.eqO_ok (He.ba C.ex).1)
theorem factors_ok (C : Ctx K mg) : ∀ H : Hp, Rp K H (.ref (He.ga K "FACTORS")) (.tup [.int 1, .int 1, .int 3]) := fun H =>
  .tup (He.tupB_ok (He.ba (He.ba C.ex).2).1 H) (.cons (.int 1) (.cons (.int 1) (.cons (.int 3) .nil)))
theorem pair_ok {a : Addr} (h : Tx.pairB K a = true) (H : Hp) : Rp K H (.ref a) (.tup [.int 0, .int 0]) := by
  unfold Tx.pairB at h
  cases q : K.lookup a with
  | none =>
    rw [q] at h
    cases h
  | some o =>
    obtain ⟨oc, od, dt, osl⟩ := o
    rw [q] at h
    cases oc with
    | type c =>
      cases dt with
      | seq its n =>
        obtain ⟨h1, h2⟩ := He.ba (show (decide (c = "tuple") && (decide (its.size ≤ sizeLine) && He.relAll [V.int 0, V.int 0] its.toList)) = true from h)
        obtain ⟨h3, h4⟩ := He.ba h2
        exact .tup (.inr ⟨_, its, n, q, congrArg Value.type (of_decide_eq_true h1), rfl, of_decide_eq_true h3, He.relAll_ok h4⟩) (.cons (.int 0) (.cons (.int 0) .nil))
      | _ => cases h
    | _ => cases dt <;> cases h
theorem nothing_ok (C : Ctx K mg) : ∀ H : Hp, Rp K H (.ref (He.ga K "NOTHING")) (.tup [.tup [.int 0, .int 0], .tup [.int 0, .int 0], .tup [.int 0, .int 0]]) := fun H => by
  obtain ⟨h1, h2⟩ := He.ba (He.ba (He.ba C.ex).2).2
  obtain ⟨h3, h4⟩ := He.ba h2
  obtain ⟨h5, h6⟩ := He.ba h4
  exact .tup (He.tupB_ok h1 H) (.cons (pair_ok h3 H) (.cons (pair_ok h5 H) (.cons (pair_ok h6 H) .nil)))
end
/-! ### from a def's datum to its promise -/
section
variable {P : Program} {w : World} {K : PySem.W.Frag} {mg : Str → Option Value} {base : Heap}
theorem mkF {d : He.DefD} {x : Str} {k : Nat} {N ps : List Str} {F : List Dt → Dt → Prop} (hf : ∃ fd, FunD K d.name d.qual d.params d.body d.scope (d.dvs K) (d.kws K) (He.fAd K d.at_) fd) (hg : mg x = some (.ref (He.fAd K d.at_))) (hd : d.dfl = [])
    (S : FnScope N ps d.scope) (len : ∀ ds d, F ds d → ds.length = ps.length)
    (hbi : ∀ (kV doc pm : Value) (an : Option Addr) (cdv ct : Value) (us : List Value), us.length = ps.length → bindArgs (PySem.W.fnOf d.name d.qual d.params d.body d.scope .none kV doc pm an cdv ct) ⟨us, []⟩ = pure (ps.zip us))
    (hb : ∀ (f : Addr) (cdv : Value) (A : Around) (outer : List Env) (s : Shared) (H : Hp) (E : XK) (ds : List Dt) (r : Dt), Room k (A.deeper (envOfC d.qual d.scope s.heap.objs.size f cdv)) → F ds r →
      SDs (cxOf CX0 P w K mg base N d.qual d.scope f cdv A outer s H E).nox d.body (startD N ds) { nx := fun _ => r = .non, rt := fun d' => d' = r }) : OkF P w K mg base x (k + 1) ps F := by
  obtain ⟨fd, F1⟩ := hf
  have e : d.dvs K = [] := by unfold He.DefD.dvs; rw [hd]; rfl
  rw [e] at F1
  exact ⟨_, fd, okD F1 S F len (fun cdv A outer s H E ds r => hb _ cdv A outer s H E ds r), F1.bindsN hbi, hg, F1.kp⟩
theorem mkM {d : He.DefD} {C : Addr} {m : Str} {k : Nat} {N : List Str} {F : List Dt → Dt → Prop} (hf : ∃ fd, FunD K d.name d.qual d.params d.body d.scope (d.dvs K) (d.kws K) (He.fAd K d.at_) fd) (hm : Meth K C m (He.fAd K d.at_)) (hd : d.dfl = [])
    (S : FnScope N ["self"] d.scope) (len : ∀ ds d, F ds d → ds.length = 1)
    (hbi : ∀ (kV doc pm : Value) (an : Option Addr) (cdv ct : Value) (us : List Value), us.length = ["self"].length → bindArgs (PySem.W.fnOf d.name d.qual d.params d.body d.scope .none kV doc pm an cdv ct) ⟨us, []⟩ = pure ((["self"] : List Str).zip us))
    (hb : ∀ (f : Addr) (cdv : Value) (A : Around) (outer : List Env) (s : Shared) (H : Hp) (E : XK) (ds : List Dt) (r : Dt), Room k (A.deeper (envOfC d.qual d.scope s.heap.objs.size f cdv)) → F ds r →
      SDs (cxOf CX0 P w K mg base N d.qual d.scope f cdv A outer s H E).nox d.body (startD N ds) { nx := fun _ => r = .non, rt := fun d' => d' = r }) : OkM P w K mg base C m (k + 1) F := by
  obtain ⟨fd, F1⟩ := hf
  have e : d.dvs K = [] := by unfold He.DefD.dvs; rw [hd]; rfl
  rw [e] at F1
  exact ⟨_, fd, okD F1 S F len (fun cdv A outer s H E ds r => hb _ cdv A outer s H E ds r), F1.bindsN hbi, hm⟩
theorem mkI {d : He.DefD} {x : Str} {C : Addr} {k : Nat} {N' ps' ks : List Str} {F : List Dt → List Dt → Prop} (hf : ∃ fd, FunD K d.name d.qual d.params d.body d.scope (d.dvs K) (d.kws K) (He.fAd K d.at_) fd) (hm : Mk K C (He.fAd K d.at_)) (hg : mg x = some (.ref C)) (hd : d.dfl = [])
    (S : FnScope (("self" : Str) :: N') (("self" : Str) :: ps') d.scope) (len : ∀ ds d, F ds d → ds.length = ps'.length)
    (hbi : ∀ (kV doc pm : Value) (an : Option Addr) (cdv ct : Value) (us : List Value), us.length = (("self" : Str) :: ps').length → bindArgs (PySem.W.fnOf d.name d.qual d.params d.body d.scope .none kV doc pm an cdv ct) ⟨us, []⟩ = pure ((("self" : Str) :: ps').zip us))
    (hb : ∀ (f : Addr) (cdv : Value) (A : Around) (outer : List Env) (s : Shared) (H : Hp) (E : XK) (ds ds' : List Dt) (xo : Addr), Room k (A.deeper (envOfC d.qual d.scope s.heap.objs.size f cdv)) → F ds ds' →
      SDs (cxOf CX0 P w K mg base (("self" : Str) :: N') d.qual d.scope f cdv A outer s H E).nox d.body (some (.obj xo C [] []) :: startD N' ds) { nx := fun δ' => δ'[0]? = some (some (.obj xo C ks ds')), rt := fun _ => False }) : OkI P w K mg base x C (k + 1) (("self" : Str) :: ps') ks F := by
  obtain ⟨fd, F1⟩ := hf
  have e : d.dvs K = [] := by unfold He.DefD.dvs; rw [hd]; rfl
  rw [e] at F1
  exact ⟨_, fd, okI F1 S F len (fun cdv A outer s H E ds ds' xo => hb _ cdv A outer s H E ds ds' xo), F1.bindsN hbi, hm, hg⟩
end
end Ft
/-! plain functions that mirror the defs of the text -/
namespace Mi
open DL
/-! ### intervals, boxes -/
abbrev Iv := Int × Int
abbrev Bx := Iv × Iv × Iv
abbrev Pt := Int × Int × Int
abbrev Sta := Bx × Bx
def ivAdd (a b : Iv) : Iv := (a.1 + b.1, a.2 + b.2)
def ivSub (a b : Iv) : Iv := (a.1 - b.2, a.2 - b.1)
def ivScaled (a : Iv) (n : Int) : Iv := if n < 0 then (a.2 * n, a.1 * n) else (a.1 * n, a.2 * n)
def ivMul (a b : Iv) : Iv := (min (min (a.1 * b.1) (a.1 * b.2)) (min (a.2 * b.1) (a.2 * b.2)), max (max (a.1 * b.1) (a.1 * b.2)) (max (a.2 * b.1) (a.2 * b.2)))
def ivSq (a : Iv) : Iv := if 0 ≤ a.1 then (a.1 * a.1, a.2 * a.2) else if a.2 ≤ 0 then (a.2 * a.2, a.1 * a.1) else (0, max (a.1 * a.1) (a.2 * a.2))
def ivQuot (a d : Iv) : Iv := (min (a.1 / d.1) (a.1 / d.2), max (a.2 / d.1) (a.2 / d.2))
def ivRoot (a : Iv) : Iv := (isq (max a.1 0), isq a.2)
def ivMeet (a b : Iv) : Option Iv := if max a.1 b.1 > min a.2 b.2 then none else some (max a.1 b.1, min a.2 b.2)
def ivHull (a b : Iv) : Iv := (min a.1 b.1, max a.2 b.2)
def ivWiden (a : Iv) (w : Int) : Iv := (a.1 - w, a.2 + w)
def ivMid (a : Iv) : Int := (a.1 + a.2) / 2
def ivWidth (a : Iv) : Int := a.2 - a.1
def ivSize (a : Iv) : Int := max (max a.1 (-a.1)) (max a.2 (-a.2))
def ivHas (a : Iv) (n : Int) : Bool := decide (a.1 ≤ n) && decide (n ≤ a.2)
def bxAdd (a b : Bx) : Bx := (ivAdd a.1 b.1, ivAdd a.2.1 b.2.1, ivAdd a.2.2 b.2.2)
def bxHull (a b : Bx) : Bx := (ivHull a.1 b.1, ivHull a.2.1 b.2.1, ivHull a.2.2 b.2.2)
def bxWiden (a : Bx) (w : Int) : Bx := (ivWiden a.1 w, ivWiden a.2.1 w, ivWiden a.2.2 w)
def bxMeet (a b : Bx) : Option Bx := match ivMeet a.1 b.1, ivMeet a.2.1 b.2.1, ivMeet a.2.2 b.2.2 with
  | some x, some y, some z => some (x, y, z)
  | _, _, _ => none
def bxHas (a : Bx) (p : Pt) : Bool := ivHas a.1 p.1 && (ivHas a.2.1 p.2.1 && ivHas a.2.2 p.2.2)
def sqLen (a : Bx) : Iv := ivAdd (ivAdd (ivSq a.1) (ivSq a.2.1)) (ivSq a.2.2)
def bxSize (a : Bx) : Int := max (max (ivSize a.1) (ivSize a.2.1)) (ivSize a.2.2)
/-! ### the pull over a box -/
def pullPart (mu ob : Int) (s d e h c : Iv) (k : Int) : Iv := ivAdd (ivQuot (ivScaled c (-mu)) d) (ivQuot (ivScaled (ivMul c (ivSub h (ivScaled s k))) ob) e)
def pullOver (mu ob : Int) (b : Bx) : Option Bx :=
  let s := sqLen b
  let d := ivMul s (ivRoot s)
  let e := ivMul (ivMul s s) d
  let h := ivScaled (ivSq b.2.2) 5
  if s.1 = 0 then none else some (pullPart mu ob s d e h b.1 1, pullPart mu ob s d e h b.2.1 1, pullPart mu ob s d e h b.2.2 3)
/-! ### states -/
def bx3 (b : Bx) (k : Nat) : Iv := match k with
  | 0 => b.1
  | 1 => b.2.1
  | _ => b.2.2
def putB (b : Bx) (k : Nat) (i : Iv) : Bx := match k with
  | 0 => (i, b.2.1, b.2.2)
  | 1 => (b.1, i, b.2.2)
  | _ => (b.1, b.2.1, i)
def ivals (s : Sta) (k : Nat) : Iv := if k < 3 then bx3 s.1 k else bx3 s.2 (k - 3)
/-- the widest of the first i + 1 intervals -/
def widest (s : Sta) : Nat → Nat
  | 0 => 0
  | i + 1 => if ivWidth (ivals s (i + 1)) > ivWidth (ivals s (widest s i)) then i + 1 else widest s i
def half (s : Sta) (w : Nat) (i : Iv) : Sta := if w < 3 then (putB s.1 w i, s.2) else (s.1, putB s.2 (w - 3) i)
def splitM (s : Sta) : List Sta :=
  let w := widest s 5
  let i := ivals s w
  if i.1 = i.2 then [s] else [half s w (i.1, ivMid i), half s w (ivMid i + 1, i.2)]
def partsOf (s : Sta) : Nat → List Sta
  | 0 => [s]
  | n + 1 => (partsOf s n).flatMap splitM
def staHas (s : Sta) (p v : Pt) : Bool := bxHas s.1 p && bxHas s.2 v
def stepM (mu ob : Int) (s : Sta) (push : Bx) (drift : Int) : Option Sta := match pullOver mu ob s.1 with
  | none => none
  | some a =>
    let v := bxWiden (bxAdd (bxAdd s.2 a) push) drift
    let p := bxAdd s.1 v
    if bxSize p > 10 ^ 40 ∨ bxSize v > 10 ^ 40 then none else some (p, v)
def cutM (s : Sta) (b : Bx) : Option Sta := (bxMeet s.1 b).map fun p => (p, s.2)
def cutAll (l : List Sta) : Option Bx → List Sta
  | none => l
  | some b => l.filterMap fun s => cutM s b
def stepAll (mu ob : Int) (push : Bx) (drift : Int) : List Sta → Option (List Sta)
  | [] => some []
  | s :: r => match stepM mu ob s push drift with
    | none => none
    | some t => (stepAll mu ob push drift r).map fun l => t :: l
/-! ### crafts -/
abbrev BurnT := Int × Int × Bx
abbrev SightT := Int × Bx
structure CraftT where
  name : PySem.Str
  start : Int
  place : Bx
  speed : Bx
  drift : Int
  burns : List BurnT
  sights : List SightT
def zeroBx : Bx := ((0, 0), (0, 0), (0, 0))
def pushAt (burns : List BurnT) (t : Int) : Bx := match burns.find? fun b => decide (b.1 ≤ t) && decide (t < b.2.1) with
  | some b => b.2.2
  | none => zeroBx
def sightAt (l : List SightT) (t : Int) : Option Bx := (l.find? fun b => b.1 == t).map (·.2)
def firstStates (n : Nat) (c : CraftT) : List Sta := cutAll (partsOf (c.place, c.speed) n) (sightAt c.sights c.start)
/-- the moments behind one, ticks t + 1 .. t + n, the ending, the broken tick -/
abbrev Jr := List (Int × List Sta) × PySem.Str × Option Int
def goOn (mu ob : Int) (c : CraftT) : Nat → Int → List Sta → Jr
  | 0, _, _ => ([], "whole", none)
  | n + 1, t, l => match stepAll mu ob (pushAt c.burns t) c.drift l with
    | none => ([], "lost", some (t + 1))
    | some l1 =>
      let l2 := cutAll l1 (sightAt c.sights (t + 1))
      if l2.length = 0 then ([], "void", some (t + 1)) else
        let r := goOn mu ob c n (t + 1) l2
        ((t + 1, l2) :: r.1, r.2)
def journeyM (mu ob : Int) (fineness : Nat) (c : CraftT) (until_ : Int) : Jr :=
  if until_ < c.start then ([], "whole", none) else
    let l := firstStates fineness c
    if l.length = 0 then ([], "void", some c.start) else
      let r := goOn mu ob c (until_ - c.start).toNat c.start l
      ((c.start, l) :: r.1, r.2)
def hullOf (l : List Bx) : Bx := l.foldl bxHull (l.headD zeroBx)
/-! ### the law's own -/
def rowM (ns : List Int) (k : Nat) : Int :=
  let r0 := ns.getD k 0
  let r1 := if r0 < 0 then 1 - 2 * r0 else r0
  let a := ((r1 + 1) * 48271 + ((k : Int) + 1) * 69621) % 2147483647
  if r1 < 1000000000 then (a * 16807 + (k : Int) * 40014 + 11) % 2147483399 * 2147483029 + a * a % 2147482951 else r1
def spreadM (row span : Int) : Pt := (row % (2 * span + 1) - span, row / (2 * span + 1) % (2 * span + 1) - span, row / (2 * span + 1) / (2 * span + 1) % (2 * span + 1) - span)
def around (c h : Int) : Iv := (c - h, c + h)
def boxM (row span wide : Int) : Bx :=
  let c := spreadM row span
  let r := row / (2 * span + 1) ^ 3
  (around c.1 (r % (wide + 1)), around c.2.1 (r / (wide + 1) % (wide + 1)), around c.2.2 (r / (wide + 1) / (wide + 1) % (wide + 1)))
def memberM (b : Bx) (row : Int) : Pt :=
  let w1 := b.1.2 - b.1.1 + 1
  let w2 := b.2.1.2 - b.2.1.1 + 1
  let w3 := b.2.2.2 - b.2.2.1 + 1
  (b.1.1 + row % w1, b.2.1.1 + row / w1 % w2, b.2.2.1 + row / w1 / w2 % w3)
def pullPt (mu ob s r z c k : Int) : Int := -mu * c / (s * r) + ob * c * (5 * z * z - k * s) / (s * s * s * r)
def pullM (mu ob : Int) (p : Pt) : Pt :=
  let s := p.1 * p.1 + p.2.1 * p.2.1 + p.2.2 * p.2.2
  let r := isq s
  (pullPt mu ob s r p.2.2 p.1 1, pullPt mu ob s r p.2.2 p.2.1 1, pullPt mu ob s r p.2.2 p.2.2 3)
def pick2 (a b i : Int) : Int := if i = 0 then a else b
def pick3 (a b c i : Int) : Int := if i = 0 then a else if i = 1 then b else c
structure Wld where
  mu : Int
  bulge : Int
  drift : Int
  start : Int
  fineness : Int
  many : Int
  place : Bx
  speed : Bx
  burns : List BurnT
/-- n burns from the k-th on, the first tick first -/
def burnsM (row : Int) : Nat → Nat → Int → List BurnT
  | 0, _, _ => []
  | n + 1, k, first => (first, first + 1 + row / 5 % 3, boxM (row / 12 + (k : Int) * 7919) 30 (pick2 0 4 ((k : Int) % 2))) :: burnsM row n (k + 1) (first + 1 + row / 5 % 3 + row / 7 % 2)
def worldM (ns : List Int) : Wld :=
  let r0 := rowM ns 0
  let r1 := rowM ns 1
  let r2 := rowM ns 2
  let r3 := rowM ns 3
  let r6 := rowM ns 6
  { mu := pick3 (1 + r0 / 7 % 1000) (1 + r0 / 7 % 10000000) (1 + r0 / 7 % 1000000000) (r0 % 3)
    bulge := pick2 0 (r0 / 11 % 1000000000000) (r0 / 3 % 2)
    drift := pick3 0 1 (r1 / 5 % 6) (r1 % 3)
    start := r1 / 31 % 9
    fineness := r1 / 279 % 3
    many := 3 + r1 / 837 % 9
    place := boxM (r2 / 3) (pick3 30 300 5000 (r2 % 3)) (pick3 0 3 40 (r2 / 17 % 3))
    speed := boxM (r3 / 3) (pick2 5 60 (r3 % 2)) (pick3 0 2 9 (r3 / 13 % 3))
    burns := burnsM r6 (r6 / 4 % 3).toNat 0 (r1 / 31 % 9 + r6 % 4) }
def ptAdd (a b : Pt) : Pt := (a.1 + b.1, a.2.1 + b.2.1, a.2.2 + b.2.2)
def isZero (p : Pt) : Bool := decide (p.1 = 0 ∧ p.2.1 = 0 ∧ p.2.2 = 0)
def fastM (ns : List Int) (W : Wld) (k : Nat) (p v : Pt) : Pt :=
  let row := rowM ns (8 + k)
  ptAdd (ptAdd (ptAdd v (pullM W.mu W.bulge p)) (memberM (pushAt W.burns (W.start + k)) row)) (spreadM (row / 1000000000) W.drift)
/-- n steps from the k-th on -/
def motionFrom (ns : List Int) (W : Wld) : Nat → Nat → Pt → Pt → List (Pt × Pt)
  | 0, _, _, _ => []
  | n + 1, k, p, v => if isZero p then [] else
    let v' := fastM ns W k p v
    let p' := ptAdd p v'
    (p', v') :: motionFrom ns W n (k + 1) p' v'
def motionM (ns : List Int) (W : Wld) : List (Pt × Pt) :=
  let p := memberM W.place (rowM ns 4)
  let v := memberM W.speed (rowM ns 5)
  (p, v) :: motionFrom ns W W.many.toNat 0 p v
def seenBox (row : Int) (p : Pt) : Bx :=
  let wide := pick3 0 (row / 3 % 5) (row / 3 % 400) (row / 5 % 3)
  let less := pick2 0 (row / 7 % 3) (row / 2 % 2)
  ((p.1 - wide, p.1 + wide + less), (p.2.1 - wide, p.2.1 + wide + less), (p.2.2 - wide, p.2.2 + wide + less))
def seenFrom (start : Int) : Int → Nat → List (Pt × Pt) → List SightT
  | _, _, [] => []
  | row, k, m :: r => (if row % 3 = 0 then [(start + (k : Int), seenBox row m.1)] else []) ++ seenFrom start (row / 15 + (k : Int) * 31) (k + 1) r
def seenM (ns : List Int) (motion : List (Pt × Pt)) (start : Int) : List SightT := seenFrom start (rowM ns 7) 0 motion
def craftOf (W : Wld) (sights : List SightT) : CraftT := ⟨"a", W.start, W.place, W.speed, W.drift, W.burns, sights⟩
/-! ### what stands for them in the text -/
section
variable (K : PySem.W.Frag) (cS cB cG cC cM cJ cY : PySem.Addr)
def iv (a : Iv) : Dt := .tup [.int a.1, .int a.2]
def bx (b : Bx) : Dt := .tup [iv b.1, iv b.2.1, iv b.2.2]
def pt (p : Pt) : Dt := .tup [.int p.1, .int p.2.1, .int p.2.2]
def opt {α : Type} (f : α → Dt) : Option α → Dt
  | none => .non
  | some a => f a
end
end Mi
/-! the mathematics: sizes, what an interval surely holds -/
namespace Mi
open DL
/-! ### sizes -/
def Bn (n : Nat) (x : Int) : Prop := x.natAbs < 2 ^ n
def IvB (n : Nat) (a : Iv) : Prop := Bn n a.1 ∧ Bn n a.2
def BxB (n : Nat) (a : Bx) : Prop := IvB n a.1 ∧ IvB n a.2.1 ∧ IvB n a.2.2
theorem Bn.mono {n m : Nat} {x : Int} (h : Bn n x) (l : n ≤ m) : Bn m x := Nat.lt_of_lt_of_le h (Nat.pow_le_pow_right (by decide) l)
theorem Bn.zero {n : Nat} : Bn n 0 := Nat.pow_pos (by decide)
theorem Bn.max {n : Nat} {x y : Int} (h : Bn n x) (h2 : Bn n y) : Bn n (max x y) := by
  rcases Int.le_total x y with l | l
  · rw [Int.max_eq_right l]; exact h2
  · rw [Int.max_eq_left l]; exact h
theorem Bn.min {n : Nat} {x y : Int} (h : Bn n x) (h2 : Bn n y) : Bn n (min x y) := by
  rcases Int.le_total x y with l | l
  · rw [Int.min_eq_left l]; exact h
  · rw [Int.min_eq_right l]; exact h2
theorem Bn.add {n : Nat} {x y : Int} (h : Bn n x) (h2 : Bn n y) : Bn (n + 1) (x + y) := by
  have h1 : x.natAbs < 2 ^ n := h
  have h3 : y.natAbs < 2 ^ n := h2
  show (x + y).natAbs < 2 ^ (n + 1)
  rw [Nat.pow_succ]
  generalize 2 ^ n = z at *
  omega
theorem Bn.sub {n : Nat} {x y : Int} (h : Bn n x) (h2 : Bn n y) : Bn (n + 1) (x - y) := by
  have h1 : x.natAbs < 2 ^ n := h
  have h3 : y.natAbs < 2 ^ n := h2
  show (x - y).natAbs < 2 ^ (n + 1)
  rw [Nat.pow_succ]
  generalize 2 ^ n = z at *
  omega
theorem Bn.neg {n : Nat} {x : Int} (h : Bn n x) : Bn n (-x) := by
  show (-x).natAbs < 2 ^ n
  rw [Int.natAbs_neg]
  exact h
theorem Bn.mul {n m : Nat} {x y : Int} (h : Bn n x) (h2 : Bn m y) : Bn (n + m) (x * y) := L2.wide_lt h h2
theorem isq_le {x : Int} (h : 0 ≤ x) : isq x ≤ x := by
  obtain ⟨a, b, c⟩ := isq_spec h
  rcases (show isq x < 1 ∨ 1 ≤ isq x by omega) with l | l
  · omega
  · have : isq x * 1 ≤ isq x * isq x := Int.mul_le_mul_of_nonneg_left l a
    omega
theorem Bn.isq {n : Nat} {x : Int} (h : Bn n x) (h0 : 0 ≤ x) : Bn n (isq x) := by
  have h1 : x.natAbs < 2 ^ n := h
  have h2 := isq_le h0
  have h3 := (isq_spec h0).1
  show (DL.isq x).natAbs < 2 ^ n
  generalize 2 ^ n = z at *
  omega
theorem isq_pos {x : Int} (h : 0 < x) : 0 < isq x := by
  obtain ⟨a, b, c⟩ := isq_spec (Int.le_of_lt h)
  rcases (show 0 < isq x ∨ isq x ≤ 0 by omega) with l | l
  · exact l
  · have e : isq x = 0 := by omega
    rw [e] at c
    omega
theorem sq_mono {x y : Int} (h0 : 0 ≤ x) (h : x ≤ y) : x * x ≤ y * y := Int.mul_le_mul h h h0 (Int.le_trans h0 h)
theorem isq_mono {x y : Int} (h0 : 0 ≤ x) (h : x ≤ y) : isq x ≤ isq y := by
  obtain ⟨a, b, c⟩ := isq_spec h0
  obtain ⟨a', b', c'⟩ := isq_spec (Int.le_trans h0 h)
  rcases (show isq y < isq x ∨ isq x ≤ isq y by omega) with l | l
  · have := sq_mono (by omega : 0 ≤ isq y + 1) (by omega : isq y + 1 ≤ isq x)
    omega
  · exact l
section
variable {n m : Nat} {a b : Iv} {k : Int}
theorem IvB.mono (h : IvB n a) (l : n ≤ m) : IvB m a := ⟨h.1.mono l, h.2.mono l⟩
theorem IvB.add (h : IvB n a) (h2 : IvB n b) : IvB (n + 1) (ivAdd a b) := ⟨h.1.add h2.1, h.2.add h2.2⟩
theorem IvB.sub (h : IvB n a) (h2 : IvB n b) : IvB (n + 1) (ivSub a b) := ⟨h.1.sub h2.2, h.2.sub h2.1⟩
theorem IvB.scaled (h : IvB n a) (h2 : Bn m k) : IvB (n + m) (ivScaled a k) := by
  unfold ivScaled
  split
  · exact ⟨h.2.mul h2, h.1.mul h2⟩
  · exact ⟨h.1.mul h2, h.2.mul h2⟩
theorem IvB.mul (h : IvB n a) (h2 : IvB m b) : IvB (n + m) (ivMul a b) := by
  have h1 := h.1.mul h2.1
  have h3 := h.1.mul h2.2
  have h4 := h.2.mul h2.1
  have h5 := h.2.mul h2.2
  exact ⟨(h1.min h3).min (h4.min h5), (h1.max h3).max (h4.max h5)⟩
theorem IvB.sq (h : IvB n a) : IvB (n + n) (ivSq a) := by
  unfold ivSq
  split
  · exact ⟨h.1.mul h.1, h.2.mul h.2⟩
  · split
    · exact ⟨h.2.mul h.2, h.1.mul h.1⟩
    · exact ⟨.zero, (h.1.mul h.1).max (h.2.mul h.2)⟩
theorem IvB.root (h : IvB n a) (h0 : 0 ≤ a.2) : IvB n (ivRoot a) := ⟨(h.1.max .zero).isq (Int.le_max_right _ _), h.2.isq h0⟩
theorem BxB.sqLen {b : Bx} (h : BxB n b) : IvB (n + n + 2) (sqLen b) := (h.1.sq.add h.2.1.sq).add (h.2.2.sq.mono (Nat.le_succ _))
end
/-! ### what an interval holds -/
/-- x is a member of a -/
def inI (a : Iv) (x : Int) : Prop := a.1 ≤ x ∧ x ≤ a.2
def inB (b : Bx) (p : Pt) : Prop := inI b.1 p.1 ∧ inI b.2.1 p.2.1 ∧ inI b.2.2 p.2.2
theorem inI_has {a : Iv} {x : Int} : ivHas a x = true ↔ inI a x := by
  unfold ivHas inI
  rw [Bool.and_eq_true, decide_eq_true_eq, decide_eq_true_eq]
theorem inB_has {a : Bx} {p : Pt} : bxHas a p = true ↔ inB a p := by
  unfold bxHas inB
  rw [Bool.and_eq_true, Bool.and_eq_true, inI_has, inI_has, inI_has]
section
variable {a b d : Iv} {x y k : Int}
theorem in_add (h : inI a x) (h2 : inI b y) : inI (ivAdd a b) (x + y) := by
  obtain ⟨h1, h3⟩ := h
  obtain ⟨h4, h5⟩ := h2
  exact ⟨by show a.1 + b.1 ≤ _; omega, by show _ ≤ a.2 + b.2; omega⟩
theorem in_sub (h : inI a x) (h2 : inI b y) : inI (ivSub a b) (x - y) := by
  obtain ⟨h1, h3⟩ := h
  obtain ⟨h4, h5⟩ := h2
  exact ⟨by show a.1 - b.2 ≤ _; omega, by show _ ≤ a.2 - b.1; omega⟩
theorem in_scaled (h : inI a x) (k : Int) : inI (ivScaled a k) (x * k) := by
  unfold ivScaled
  split
  · rename_i l
    exact ⟨Int.mul_le_mul_of_nonpos_right h.2 (by omega), Int.mul_le_mul_of_nonpos_right h.1 (by omega)⟩
  · exact ⟨Int.mul_le_mul_of_nonneg_right h.1 (by omega), Int.mul_le_mul_of_nonneg_right h.2 (by omega)⟩
/-- x y is between x lo and x hi -/
theorem mul_between {x y lo hi : Int} (h1 : lo ≤ y) (h2 : y ≤ hi) : min (x * lo) (x * hi) ≤ x * y ∧ x * y ≤ max (x * lo) (x * hi) := by
  rcases Int.le_total 0 x with l | l
  · have p := Int.mul_le_mul_of_nonneg_left h1 l
    have q := Int.mul_le_mul_of_nonneg_left h2 l
    omega
  · have p := Int.mul_le_mul_of_nonpos_left l h1
    have q := Int.mul_le_mul_of_nonpos_left l h2
    omega
theorem in_mul (h : inI a x) (h2 : inI b y) : inI (ivMul a b) (x * y) := by
  obtain ⟨p1, p2⟩ := mul_between (x := x) h2.1 h2.2
  obtain ⟨q1, q2⟩ := mul_between (x := b.1) h.1 h.2
  obtain ⟨r1, r2⟩ := mul_between (x := b.2) h.1 h.2
  rw [Int.mul_comm b.1, Int.mul_comm b.1, Int.mul_comm b.1] at q1 q2
  rw [Int.mul_comm b.2, Int.mul_comm b.2, Int.mul_comm b.2] at r1 r2
  refine ⟨?_, ?_⟩
  · show min (min (a.1 * b.1) (a.1 * b.2)) (min (a.2 * b.1) (a.2 * b.2)) ≤ _
    omega
  · show _ ≤ max (max (a.1 * b.1) (a.1 * b.2)) (max (a.2 * b.1) (a.2 * b.2))
    omega
theorem sq_nonneg (x : Int) : 0 ≤ x * x := by
  rcases Int.le_total 0 x with l | l
  · exact Int.mul_nonneg l l
  · exact Int.mul_nonneg_of_nonpos_of_nonpos l l
theorem sq_neg_mono {x y : Int} (h : x ≤ y) (h0 : y ≤ 0) : y * y ≤ x * x := by
  have := sq_mono (by omega : 0 ≤ -y) (by omega : -y ≤ -x)
  rw [Int.neg_mul_neg, Int.neg_mul_neg] at this
  exact this
theorem in_sq (h : inI a x) : inI (ivSq a) (x * x) := by
  obtain ⟨h1, h2⟩ := h
  unfold ivSq
  split
  · rename_i l
    exact ⟨sq_mono l h1, sq_mono (Int.le_trans l h1) h2⟩
  · split
    · rename_i l l2
      exact ⟨sq_neg_mono h2 l2, sq_neg_mono h1 (Int.le_trans h2 l2)⟩
    · refine ⟨sq_nonneg x, ?_⟩
      show x * x ≤ max (a.1 * a.1) (a.2 * a.2)
      rcases Int.le_total 0 x with l | l
      · have := sq_mono l h2
        omega
      · have := sq_neg_mono h1 l
        omega
theorem div_mono {x y d : Int} (h : x ≤ y) (hd : 0 < d) : x / d ≤ y / d := Int.ediv_le_ediv hd h
/-- x / q is between x / lo and x / hi -/
theorem div_between {x q lo hi : Int} (h0 : 0 < lo) (h1 : lo ≤ q) (h2 : q ≤ hi) : min (x / lo) (x / hi) ≤ x / q ∧ x / q ≤ max (x / lo) (x / hi) := by
  have hq : 0 < q := by omega
  have hh : 0 < hi := by omega
  rcases Int.le_total 0 x with l | l
  · have p : x / q ≤ x / lo := by
      refine Int.le_ediv_of_mul_le h0 ?_
      have := Int.mul_le_mul_of_nonneg_left h1 (Int.ediv_nonneg l (Int.le_of_lt hq))
      have := Int.ediv_mul_le x (Int.ne_of_gt hq)
      omega
    have r : x / hi ≤ x / q := by
      refine Int.le_ediv_of_mul_le hq ?_
      have := Int.mul_le_mul_of_nonneg_left h2 (Int.ediv_nonneg l (Int.le_of_lt hh))
      have := Int.ediv_mul_le x (Int.ne_of_gt hh)
      omega
    omega
  · have p : x / lo ≤ x / q := by
      refine Int.le_ediv_of_mul_le hq ?_
      have n : x / lo ≤ 0 := by
        have := Int.ediv_le_ediv h0 l
        rw [Int.zero_ediv] at this
        exact this
      have := Int.mul_le_mul_of_nonpos_left n h1
      have := Int.ediv_mul_le x (Int.ne_of_gt h0)
      omega
    have r : x / q ≤ x / hi := by
      refine Int.le_ediv_of_mul_le hh ?_
      have n : x / q ≤ 0 := by
        have := Int.ediv_le_ediv hq l
        rw [Int.zero_ediv] at this
        exact this
      have := Int.mul_le_mul_of_nonpos_left n h2
      have := Int.ediv_mul_le x (Int.ne_of_gt hq)
      omega
    omega
theorem in_quot (h : inI a x) (h2 : inI d y) (h0 : 0 < d.1) : inI (ivQuot a d) (x / y) := by
  obtain ⟨a1, a2⟩ := h
  obtain ⟨d1, d2⟩ := h2
  have y0 : 0 < y := by omega
  have e0 : 0 < d.2 := by omega
  obtain ⟨p1, p2⟩ := div_between (x := a.1) h0 d1 d2
  obtain ⟨q1, q2⟩ := div_between (x := a.2) h0 d1 d2
  have r1 := div_mono a1 y0
  have r2 := div_mono a2 y0
  refine ⟨?_, ?_⟩
  · show min (a.1 / d.1) (a.1 / d.2) ≤ _
    omega
  · show _ ≤ max (a.2 / d.1) (a.2 / d.2)
    omega
theorem in_root (h : inI a x) (h0 : 0 ≤ x) : inI (ivRoot a) (isq x) := ⟨isq_mono (Int.le_max_right _ _) (by have := h.1; omega), isq_mono h0 h.2⟩
/-! ### intervals that are not empty -/
def IvV (a : Iv) : Prop := a.1 ≤ a.2
theorem IvV.inl (h : IvV a) : inI a a.1 := ⟨Int.le_refl _, h⟩
theorem inI.v (h : inI a x) : IvV a := Int.le_trans h.1 h.2
theorem IvV.sq (h : IvV a) : IvV (ivSq a) := (in_sq h.inl).v
theorem IvV.add (h : IvV a) (h2 : IvV b) : IvV (ivAdd a b) := (in_add h.inl h2.inl).v
theorem IvV.sub (h : IvV a) (h2 : IvV b) : IvV (ivSub a b) := (in_sub h.inl h2.inl).v
theorem IvV.scaled (h : IvV a) (k : Int) : IvV (ivScaled a k) := (in_scaled h.inl k).v
theorem IvV.mul (h : IvV a) (h2 : IvV b) : IvV (ivMul a b) := (in_mul h.inl h2.inl).v
theorem IvV.quot (h : IvV a) (h2 : IvV d) (h0 : 0 < d.1) : IvV (ivQuot a d) := (in_quot h.inl h2.inl h0).v
theorem sq_lo (h : IvV a) : 0 ≤ (ivSq a).1 := by
  unfold ivSq
  split
  · exact sq_nonneg _
  · split
    · exact sq_nonneg _
    · exact Int.le_refl _
theorem mul_pos_lo (h : 0 < a.1) (ha : IvV a) (h2 : 0 < b.1) (hb : IvV b) : 0 < (ivMul a b).1 := by
  have a2 : 0 < a.2 := Int.lt_of_lt_of_le h ha
  have b2 : 0 < b.2 := Int.lt_of_lt_of_le h2 hb
  have p1 := Int.mul_pos h h2
  have p2 := Int.mul_pos h b2
  have p3 := Int.mul_pos a2 h2
  have p4 := Int.mul_pos a2 b2
  show 0 < min (min (a.1 * b.1) (a.1 * b.2)) (min (a.2 * b.1) (a.2 * b.2))
  omega
end
def BxV (b : Bx) : Prop := IvV b.1 ∧ IvV b.2.1 ∧ IvV b.2.2
theorem inB.v {b : Bx} {p : Pt} (h : inB b p) : BxV b := ⟨h.1.v, h.2.1.v, h.2.2.v⟩
theorem sqLen_lo {b : Bx} (h : BxV b) : 0 ≤ (sqLen b).1 := by
  have h1 := sq_lo h.1
  have h2 := sq_lo h.2.1
  have h3 := sq_lo h.2.2
  show 0 ≤ (ivSq b.1).1 + (ivSq b.2.1).1 + (ivSq b.2.2).1
  omega
theorem sqLen_v {b : Bx} (h : BxV b) : IvV (sqLen b) := (h.1.sq.add h.2.1.sq).add h.2.2.sq
theorem in_sqLen {b : Bx} {p : Pt} (h : inB b p) : inI (sqLen b) (p.1 * p.1 + p.2.1 * p.2.1 + p.2.2 * p.2.2) := in_add (in_add (in_sq h.1) (in_sq h.2.1)) (in_sq h.2.2)
/-- all that the pull over a box asks of its parts -/
structure PullOk (b : Bx) : Prop where
  s0 : 0 < (sqLen b).1
  sv : IvV (sqLen b)
  r0 : 0 < (ivRoot (sqLen b)).1
  rv : IvV (ivRoot (sqLen b))
  d0 : 0 < (ivMul (sqLen b) (ivRoot (sqLen b))).1
  dv : IvV (ivMul (sqLen b) (ivRoot (sqLen b)))
  e0 : 0 < (ivMul (ivMul (sqLen b) (sqLen b)) (ivMul (sqLen b) (ivRoot (sqLen b)))).1
  ev : IvV (ivMul (ivMul (sqLen b) (sqLen b)) (ivMul (sqLen b) (ivRoot (sqLen b))))
theorem pull_ok {b : Bx} (h : BxV b) (h0 : (sqLen b).1 ≠ 0) : PullOk b := by
  have s0 : 0 < (sqLen b).1 := by have := sqLen_lo h; omega
  have sv := sqLen_v h
  have r0 : 0 < (ivRoot (sqLen b)).1 := isq_pos (by omega)
  have rv : IvV (ivRoot (sqLen b)) := by
    have : IvV (sqLen b) := sv
    exact isq_mono (Int.le_max_right _ _) (by have : (sqLen b).1 ≤ (sqLen b).2 := sv; omega)
  have d0 := mul_pos_lo s0 sv r0 rv
  have dv := sv.mul rv
  have q0 := mul_pos_lo s0 sv s0 sv
  exact ⟨s0, sv, r0, rv, d0, dv, mul_pos_lo q0 (sv.mul sv) d0 dv, (sv.mul sv).mul dv⟩
/-- the pull at a point that is not the centre is in the pull over each box that holds it -/
theorem in_pull {mu ob : Int} {b : Bx} {p : Pt} {a : Bx} (h : inB b p) (e : pullOver mu ob b = some a) : inB a (pullM mu ob p) := by
  unfold pullOver at e
  dsimp only at e
  split at e
  · cases e
  · rename_i h0
    cases e
    have ok := pull_ok h.v h0
    have hs := in_sqLen h
    have s1 : 0 < p.1 * p.1 + p.2.1 * p.2.1 + p.2.2 * p.2.2 := by have := ok.s0; have := hs.1; omega
    have hr := in_root hs (Int.le_of_lt s1)
    have hd := in_mul hs hr
    have he := in_mul (in_mul hs hs) hd
    have part : ∀ (c : Iv) (x k : Int), inI c x → inI (pullPart mu ob (sqLen b) (ivMul (sqLen b) (ivRoot (sqLen b))) (ivMul (ivMul (sqLen b) (sqLen b)) (ivMul (sqLen b) (ivRoot (sqLen b)))) (ivScaled (ivSq b.2.2) 5) c k)
        (pullPt mu ob (p.1 * p.1 + p.2.1 * p.2.1 + p.2.2 * p.2.2) (isq (p.1 * p.1 + p.2.1 * p.2.1 + p.2.2 * p.2.2)) p.2.2 x k) := fun c x k hc => by
      have m1 := in_quot (in_scaled hc (-mu)) hd ok.d0
      have m2 := in_quot (in_scaled (in_mul hc (in_sub (in_scaled (in_sq h.2.2) 5) (in_scaled hs k))) ob) he ok.e0
      have m3 := in_add m1 m2
      generalize hS : p.1 * p.1 + p.2.1 * p.2.1 + p.2.2 * p.2.2 = S at *
      generalize hR : isq S = R at *
      have e1 : x * -mu = -mu * x := Int.mul_comm _ _
      have e2 : x * (p.2.2 * p.2.2 * 5 - S * k) * ob = ob * x * (5 * p.2.2 * p.2.2 - k * S) := by
        rw [Int.mul_comm (x * _) ob, ← Int.mul_assoc ob x, Int.mul_comm S k, Int.mul_comm (p.2.2 * p.2.2) 5, ← Int.mul_assoc 5]
      have e3 : S * S * (S * R) = S * S * S * R := by rw [← Int.mul_assoc]
      rw [e1, e2, e3] at m3
      exact m3
    exact ⟨part _ _ _ h.1, part _ _ _ h.2.1, part _ _ _ h.2.2⟩
end Mi
/-! the mathematics: states, journeys -/
namespace Mi
open DL
/-! ### states in bounds -/
abbrev LIM : Int := 10000000000000000000000000000000000000000
def IvOk (a : Iv) : Prop := a.1 ≤ a.2 ∧ -LIM ≤ a.1 ∧ a.2 ≤ LIM
def BxOk (b : Bx) : Prop := IvOk b.1 ∧ IvOk b.2.1 ∧ IvOk b.2.2
def StaOk (s : Sta) : Prop := BxOk s.1 ∧ BxOk s.2
theorem IvOk.v {a : Iv} (h : IvOk a) : IvV a := h.1
theorem BxOk.v {b : Bx} (h : BxOk b) : BxV b := ⟨h.1.v, h.2.1.v, h.2.2.v⟩
theorem lim_lt : LIM.natAbs < 2 ^ 140 := by decide
theorem IvOk.b {a : Iv} (h : IvOk a) : IvB 140 a := by
  obtain ⟨h1, h2, h3⟩ := h
  have l := lim_lt
  refine ⟨?_, ?_⟩
  · show a.1.natAbs < 2 ^ 140
    generalize 2 ^ 140 = z at *
    omega
  · show a.2.natAbs < 2 ^ 140
    generalize 2 ^ 140 = z at *
    omega
theorem BxOk.b {b : Bx} (h : BxOk b) : BxB 140 b := ⟨h.1.b, h.2.1.b, h.2.2.b⟩
theorem ok_of_size {b : Bx} (hv : BxV b) (h : bxSize b ≤ LIM) : BxOk b := by
  have f : ∀ a : Iv, IvV a → ivSize a ≤ LIM → IvOk a := fun a v s => by
    have s' : max (max a.1 (-a.1)) (max a.2 (-a.2)) ≤ LIM := s
    exact ⟨v, by omega, by omega⟩
  have h' : max (max (ivSize b.1) (ivSize b.2.1)) (ivSize b.2.2) ≤ LIM := h
  exact ⟨f _ hv.1 (by omega), f _ hv.2.1 (by omega), f _ hv.2.2 (by omega)⟩
theorem BxV.add {a b : Bx} (h : BxV a) (h2 : BxV b) : BxV (bxAdd a b) := ⟨h.1.add h2.1, h.2.1.add h2.2.1, h.2.2.add h2.2.2⟩
theorem BxV.widen {a : Bx} {w : Int} (h : BxV a) (h0 : 0 ≤ w) : BxV (bxWiden a w) := by
  have f : ∀ a : Iv, IvV a → IvV (ivWiden a w) := fun a v => by
    have v' : a.1 ≤ a.2 := v
    show a.1 - w ≤ a.2 + w
    omega
  exact ⟨f _ h.1, f _ h.2.1, f _ h.2.2⟩
theorem pull_v {mu ob : Int} {b a : Bx} (h : BxV b) (e : pullOver mu ob b = some a) : BxV a := by
  unfold pullOver at e
  dsimp only at e
  split at e
  · cases e
  · rename_i h0
    cases e
    have ok := pull_ok h h0
    have part : ∀ (c : Iv) (k : Int), IvV c → IvV (pullPart mu ob (sqLen b) (ivMul (sqLen b) (ivRoot (sqLen b))) (ivMul (ivMul (sqLen b) (sqLen b)) (ivMul (sqLen b) (ivRoot (sqLen b)))) (ivScaled (ivSq b.2.2) 5) c k) := fun c k hc =>
      ((hc.scaled (-mu)).quot ok.dv ok.d0).add (((hc.mul ((h.2.2.sq.scaled 5).sub (ok.sv.scaled k))).scaled ob).quot ok.ev ok.e0)
    exact ⟨part _ _ h.1, part _ _ h.2.1, part _ _ h.2.2⟩
theorem step_ok {mu ob drift : Int} {s t : Sta} {push : Bx} (hs : StaOk s) (hp : BxV push) (hd : 0 ≤ drift) (e : stepM mu ob s push drift = some t) : StaOk t := by
  unfold stepM at e
  cases ea : pullOver mu ob s.1 with
  | none =>
    rw [ea] at e
    cases e
  | some a =>
    rw [ea] at e
    have e2 : (if bxSize (bxAdd s.1 (bxWiden (bxAdd (bxAdd s.2 a) push) drift)) > 10 ^ 40 ∨ bxSize (bxWiden (bxAdd (bxAdd s.2 a) push) drift) > 10 ^ 40 then none else some (bxAdd s.1 (bxWiden (bxAdd (bxAdd s.2 a) push) drift), bxWiden (bxAdd (bxAdd s.2 a) push) drift)) = some t := e
    have v1 : BxV (bxWiden (bxAdd (bxAdd s.2 a) push) drift) := ((hs.2.v.add (pull_v hs.1.v ea)).add hp).widen hd
    have v2 := hs.1.v.add v1
    have eL : (10 : Int) ^ 40 = LIM := by decide
    rw [eL] at e2
    split at e2
    · cases e2
    · rename_i h
      cases e2
      rw [not_or] at h
      exact ⟨ok_of_size v2 (Int.not_lt.mp h.1), ok_of_size v1 (Int.not_lt.mp h.2)⟩
/-- u is within drift on all sides -/
def inD (drift : Int) (u : Pt) : Prop := (-drift ≤ u.1 ∧ u.1 ≤ drift) ∧ (-drift ≤ u.2.1 ∧ u.2.1 ≤ drift) ∧ (-drift ≤ u.2.2 ∧ u.2.2 ≤ drift)
theorem in_bxAdd {a b : Bx} {p q : Pt} (h : inB a p) (h2 : inB b q) : inB (bxAdd a b) (ptAdd p q) := ⟨in_add h.1 h2.1, in_add h.2.1 h2.2.1, in_add h.2.2 h2.2.2⟩
theorem in_widen {a : Bx} {p u : Pt} {w : Int} (h : inB a p) (h2 : inD w u) : inB (bxWiden a w) (ptAdd p u) := by
  have f : ∀ (a : Iv) (x y : Int), inI a x → -w ≤ y ∧ y ≤ w → inI (ivWiden a w) (x + y) := fun a x y h h2 => by
    obtain ⟨h1, h3⟩ := h
    exact ⟨by show a.1 - w ≤ x + y; omega, by show x + y ≤ a.2 + w; omega⟩
  exact ⟨f _ _ _ h.1 h2.1, f _ _ _ h.2.1 h2.2.1, f _ _ _ h.2.2 h2.2.2⟩
theorem sta_has {s : Sta} {p v : Pt} : staHas s p v = true ↔ inB s.1 p ∧ inB s.2 v := by
  unfold staHas
  rw [Bool.and_eq_true, inB_has, inB_has]
theorem step_has {mu ob drift : Int} {s t : Sta} {push : Bx} {p v b u : Pt} (h : staHas s p v = true) (hb : inB push b) (hu : inD drift u) (e : stepM mu ob s push drift = some t) :
    staHas t (ptAdd p (ptAdd (ptAdd (ptAdd v (pullM mu ob p)) b) u)) (ptAdd (ptAdd (ptAdd v (pullM mu ob p)) b) u) = true := by
  obtain ⟨hp, hv⟩ := sta_has.mp h
  unfold stepM at e
  cases ea : pullOver mu ob s.1 with
  | none =>
    rw [ea] at e
    cases e
  | some a =>
    rw [ea] at e
    have e2 : (if bxSize (bxAdd s.1 (bxWiden (bxAdd (bxAdd s.2 a) push) drift)) > 10 ^ 40 ∨ bxSize (bxWiden (bxAdd (bxAdd s.2 a) push) drift) > 10 ^ 40 then none else some (bxAdd s.1 (bxWiden (bxAdd (bxAdd s.2 a) push) drift), bxWiden (bxAdd (bxAdd s.2 a) push) drift)) = some t := e
    split at e2
    · cases e2
    · cases e2
      have w1 := in_widen (in_bxAdd (in_bxAdd hv (in_pull hp ea)) hb) hu
      exact sta_has.mpr ⟨in_bxAdd hp w1, w1⟩
/-! ### cuts -/
theorem meet_ok {a b c : Iv} (h : IvOk a) (e : ivMeet a b = some c) : IvOk c := by
  unfold ivMeet at e
  split at e
  · cases e
  · cases e
    obtain ⟨h1, h2, h3⟩ := h
    refine ⟨?_, ?_, ?_⟩
    · show max a.1 b.1 ≤ min a.2 b.2
      omega
    · show _ ≤ max a.1 b.1
      omega
    · show min a.2 b.2 ≤ _
      omega
theorem meet_in {a b : Iv} {x : Int} (h : inI a x) (h2 : inI b x) : ∃ c, ivMeet a b = some c ∧ inI c x := by
  obtain ⟨h1, h3⟩ := h
  obtain ⟨h4, h5⟩ := h2
  unfold ivMeet
  rw [if_neg (by omega)]
  exact ⟨_, rfl, by show max a.1 b.1 ≤ x; omega, by show x ≤ min a.2 b.2; omega⟩
theorem bxMeet_ok {a b c : Bx} (h : BxOk a) (e : bxMeet a b = some c) : BxOk c := by
  unfold bxMeet at e
  split at e
  · rename_i x y z e1 e2 e3
    cases e
    exact ⟨meet_ok h.1 e1, meet_ok h.2.1 e2, meet_ok h.2.2 e3⟩
  · cases e
theorem bxMeet_in {a b : Bx} {p : Pt} (h : inB a p) (h2 : inB b p) : ∃ c, bxMeet a b = some c ∧ inB c p := by
  obtain ⟨c1, e1, i1⟩ := meet_in h.1 h2.1
  obtain ⟨c2, e2, i2⟩ := meet_in h.2.1 h2.2.1
  obtain ⟨c3, e3, i3⟩ := meet_in h.2.2 h2.2.2
  unfold bxMeet
  rw [e1, e2, e3]
  exact ⟨_, rfl, i1, i2, i3⟩
def AllOk (l : List Sta) : Prop := ∀ s ∈ l, StaOk s
def Has (l : List Sta) (p v : Pt) : Prop := ∃ s ∈ l, staHas s p v = true
theorem cutAll_ok {l : List Sta} {ob : Option Bx} (h : AllOk l) : AllOk (cutAll l ob) := by
  cases ob with
  | none => exact h
  | some b =>
    intro s hs
    obtain ⟨t, ht, e⟩ := List.mem_filterMap.mp (show s ∈ l.filterMap (fun s => cutM s b) from hs)
    unfold cutM at e
    cases em : bxMeet t.1 b with
    | none =>
      rw [em] at e
      cases e
    | some c =>
      rw [em] at e
      cases e
      exact ⟨bxMeet_ok (h t ht).1 em, (h t ht).2⟩
theorem cutAll_has {l : List Sta} {ob : Option Bx} {p v : Pt} (h : Has l p v) (hb : ∀ b, ob = some b → inB b p) : Has (cutAll l ob) p v := by
  cases ob with
  | none => exact h
  | some b =>
    obtain ⟨s, hs, e⟩ := h
    obtain ⟨hp, hv⟩ := sta_has.mp e
    obtain ⟨c, ec, ic⟩ := bxMeet_in hp (hb b rfl)
    refine ⟨(c, s.2), List.mem_filterMap.mpr ⟨s, hs, ?_⟩, sta_has.mpr ⟨ic, hv⟩⟩
    unfold cutM
    rw [ec]
    rfl
/-! ### steps of all states -/
theorem stepAll_ok {mu ob drift : Int} {push : Bx} (hp : BxV push) (hd : 0 ≤ drift) : ∀ {l l' : List Sta}, AllOk l → stepAll mu ob push drift l = some l' → AllOk l'
  | [], l', _, e => by
    cases e
    intro s hs
    cases hs
  | s :: r, l', h, e => by
    unfold stepAll at e
    cases es : stepM mu ob s push drift with
    | none =>
      rw [es] at e
      cases e
    | some t =>
      rw [es] at e
      cases er : stepAll mu ob push drift r with
      | none =>
        rw [er] at e
        cases e
      | some r' =>
        rw [er] at e
        cases e
        intro x hx
        rcases List.mem_cons.mp hx with rfl | hx
        · exact step_ok (h s List.mem_cons_self) hp hd es
        · exact stepAll_ok hp hd (fun y hy => h y (List.mem_cons_of_mem _ hy)) er x hx
theorem stepAll_has {mu ob drift : Int} {push : Bx} {p v b u : Pt} (hb : inB push b) (hu : inD drift u) : ∀ {l l' : List Sta}, Has l p v → stepAll mu ob push drift l = some l' →
    Has l' (ptAdd p (ptAdd (ptAdd (ptAdd v (pullM mu ob p)) b) u)) (ptAdd (ptAdd (ptAdd v (pullM mu ob p)) b) u)
  | [], l', h, e => by
    obtain ⟨s, hs, _⟩ := h
    cases hs
  | s :: r, l', h, e => by
    unfold stepAll at e
    cases es : stepM mu ob s push drift with
    | none =>
      rw [es] at e
      cases e
    | some t =>
      rw [es] at e
      cases er : stepAll mu ob push drift r with
      | none =>
        rw [er] at e
        cases e
      | some r' =>
        rw [er] at e
        cases e
        obtain ⟨x, hx, ex⟩ := h
        rcases List.mem_cons.mp hx with rfl | hx
        · exact ⟨t, List.mem_cons_self, step_has ex hb hu es⟩
        · obtain ⟨y, hy, ey⟩ := stepAll_has hb hu ⟨x, hx, ex⟩ er
          exact ⟨y, List.mem_cons_of_mem _ hy, ey⟩
/-! ### parts -/
def pt3 (p : Pt) (k : Nat) : Int := match k with
  | 0 => p.1
  | 1 => p.2.1
  | _ => p.2.2
theorem bx3_ok {b : Bx} (h : BxOk b) (k : Nat) : IvOk (bx3 b k) := by
  unfold bx3
  split
  · exact h.1
  · exact h.2.1
  · exact h.2.2
theorem bx3_in {b : Bx} {p : Pt} (h : inB b p) : ∀ k : Nat, inI (bx3 b k) (pt3 p k)
  | 0 => h.1
  | 1 => h.2.1
  | _ + 2 => h.2.2
theorem putB_ok {b : Bx} (h : BxOk b) (k : Nat) {i : Iv} (hi : IvOk i) : BxOk (putB b k i) := by
  unfold putB
  split
  · exact ⟨hi, h.2.1, h.2.2⟩
  · exact ⟨h.1, hi, h.2.2⟩
  · exact ⟨h.1, h.2.1, hi⟩
theorem putB_in {b : Bx} {p : Pt} (h : inB b p) : ∀ (k : Nat) {i : Iv}, inI i (pt3 p k) → inB (putB b k i) p
  | 0, i, hi => ⟨hi, h.2.1, h.2.2⟩
  | 1, i, hi => ⟨h.1, hi, h.2.2⟩
  | _ + 2, i, hi => ⟨h.1, h.2.1, hi⟩
theorem ivals_ok {s : Sta} (h : StaOk s) (k : Nat) : IvOk (ivals s k) := by
  unfold ivals
  split
  · exact bx3_ok h.1 k
  · exact bx3_ok h.2 _
theorem half_ok {s : Sta} (h : StaOk s) (k : Nat) {i : Iv} (hi : IvOk i) : StaOk (half s k i) := by
  unfold half
  split
  · exact ⟨putB_ok h.1 _ hi, h.2⟩
  · exact ⟨h.1, putB_ok h.2 _ hi⟩
theorem split_ok {s : Sta} (h : StaOk s) : AllOk (splitM s) := by
  have hi := ivals_ok h (widest s 5)
  unfold splitM
  dsimp only
  split
  · intro t ht
    have e : t = s := by simpa using ht
    rw [e]
    exact h
  · rename_i ne
    obtain ⟨h1, h2, h3⟩ := hi
    generalize ivals s (widest s 5) = i at *
    have m1 : i.1 ≤ ivMid i := by show i.1 ≤ (i.1 + i.2) / 2; omega
    have m2 : ivMid i + 1 ≤ i.2 := by show (i.1 + i.2) / 2 + 1 ≤ i.2; omega
    intro t ht
    have e : t = half s (widest s 5) (i.1, ivMid i) ∨ t = half s (widest s 5) (ivMid i + 1, i.2) := by simpa using ht
    rcases e with e | e
    · rw [e]
      exact half_ok h _ ⟨m1, h2, by show ivMid i ≤ _; omega⟩
    · rw [e]
      exact half_ok h _ ⟨m2, by show _ ≤ ivMid i + 1; omega, h3⟩
theorem split_has {s : Sta} {p v : Pt} (h : staHas s p v = true) : Has (splitM s) p v := by
  obtain ⟨hp, hv⟩ := sta_has.mp h
  unfold splitM
  dsimp only
  split
  · exact ⟨s, by simp, h⟩
  · by_cases w : widest s 5 < 3
    · have hi : inI (ivals s (widest s 5)) (pt3 p (widest s 5)) := by
        unfold ivals
        rw [if_pos w]
        exact bx3_in hp _
      generalize ivals s (widest s 5) = i at *
      by_cases l : pt3 p (widest s 5) ≤ ivMid i
      · refine ⟨half s (widest s 5) (i.1, ivMid i), by simp, sta_has.mpr ?_⟩
        unfold half
        rw [if_pos w]
        exact ⟨putB_in hp _ ⟨hi.1, l⟩, hv⟩
      · refine ⟨half s (widest s 5) (ivMid i + 1, i.2), by simp, sta_has.mpr ?_⟩
        unfold half
        rw [if_pos w]
        exact ⟨putB_in hp _ ⟨by show ivMid i + 1 ≤ _; omega, hi.2⟩, hv⟩
    · have hi : inI (ivals s (widest s 5)) (pt3 v (widest s 5 - 3)) := by
        unfold ivals
        rw [if_neg w]
        exact bx3_in hv _
      generalize ivals s (widest s 5) = i at *
      by_cases l : pt3 v (widest s 5 - 3) ≤ ivMid i
      · refine ⟨half s (widest s 5) (i.1, ivMid i), by simp, sta_has.mpr ?_⟩
        unfold half
        rw [if_neg w]
        exact ⟨hp, putB_in hv _ ⟨hi.1, l⟩⟩
      · refine ⟨half s (widest s 5) (ivMid i + 1, i.2), by simp, sta_has.mpr ?_⟩
        unfold half
        rw [if_neg w]
        exact ⟨hp, putB_in hv _ ⟨by show ivMid i + 1 ≤ _; omega, hi.2⟩⟩
theorem parts_ok {s : Sta} (h : StaOk s) : ∀ n, AllOk (partsOf s n)
  | 0 => fun t ht => by
    have e : t = s := by simpa [partsOf] using ht
    rw [e]
    exact h
  | n + 1 => fun t ht => by
    obtain ⟨x, hx, ht⟩ := List.mem_flatMap.mp (show t ∈ (partsOf s n).flatMap splitM from ht)
    exact split_ok (parts_ok h n x hx) t ht
theorem parts_has {s : Sta} {p v : Pt} (h : staHas s p v = true) : ∀ n, Has (partsOf s n) p v
  | 0 => ⟨s, by simp [partsOf], h⟩
  | n + 1 => by
    obtain ⟨x, hx, ex⟩ := parts_has h n
    obtain ⟨y, hy, ey⟩ := split_has ex
    exact ⟨y, List.mem_flatMap.mpr ⟨x, hx, hy⟩, ey⟩
theorem split_len (s : Sta) : (splitM s).length ≤ 2 := by
  unfold splitM
  dsimp only
  split <;> simp
theorem parts_len (s : Sta) : ∀ n, (partsOf s n).length ≤ 2 ^ n
  | 0 => by simp [partsOf]
  | n + 1 => by
    have h := parts_len s n
    have e : (partsOf s (n + 1)) = (partsOf s n).flatMap splitM := rfl
    rw [e, Nat.pow_succ]
    have g : ∀ l : List Sta, (l.flatMap splitM).length ≤ l.length * 2 := fun l => by
      induction l with
      | nil => simp
      | cons a r ih =>
        rw [List.flatMap_cons, List.length_append, List.length_cons]
        have := split_len a
        omega
    have := g (partsOf s n)
    omega
theorem cutAll_len (l : List Sta) (ob : Option Bx) : (cutAll l ob).length ≤ l.length := by
  cases ob with
  | none => exact Nat.le_refl _
  | some b => exact List.length_filterMap_le _ _
theorem stepAll_len {mu ob drift : Int} {push : Bx} : ∀ {l l' : List Sta}, stepAll mu ob push drift l = some l' → l'.length = l.length
  | [], l', e => by cases e; rfl
  | s :: r, l', e => by
    unfold stepAll at e
    cases es : stepM mu ob s push drift with
    | none =>
      rw [es] at e
      cases e
    | some t =>
      rw [es] at e
      cases er : stepAll mu ob push drift r with
      | none =>
        rw [er] at e
        cases e
      | some r' =>
        rw [er] at e
        cases e
        rw [List.length_cons, List.length_cons, stepAll_len er]
/-! ### journeys -/
/-- what is asked of the craft's data -/
structure CraftOk (c : CraftT) : Prop where
  place : BxOk c.place
  speed : BxOk c.speed
  drift : 0 ≤ c.drift
  push : ∀ t, BxV (pushAt c.burns t)
/-- a motion from tick t on keeps to the data -/
def Obeys (mu ob : Int) (c : CraftT) : Int → List (Pt × Pt) → Prop
  | _, [] => True
  | t, m :: r => (∀ b, sightAt c.sights t = some b → inB b m.1) ∧ (∀ m', r.head? = some m' → ∃ b u, inB (pushAt c.burns t) b ∧ inD c.drift u ∧ m'.2 = ptAdd (ptAdd (ptAdd m.2 (pullM mu ob m.1)) b) u ∧ m'.1 = ptAdd m.1 m'.2) ∧ Obeys mu ob c (t + 1) r
/-- the moments from tick t on hold the motion -/
def Holds (t : Int) : List (Int × List Sta) → List (Pt × Pt) → Prop
  | [], _ => True
  | _ :: _, [] => False
  | x :: xs, m :: ms => x.1 = t ∧ AllOk x.2 ∧ x.2.length ≤ 4 ∧ Has x.2 m.1 m.2 ∧ Holds (t + 1) xs ms
theorem goOn_holds {mu ob : Int} {c : CraftT} (hc : CraftOk c) : ∀ (n : Nat) (t : Int) (l : List Sta) (m : Pt × Pt) (ms : List (Pt × Pt)), AllOk l → l.length ≤ 4 → Has l m.1 m.2 → Obeys mu ob c t (m :: ms) → n ≤ ms.length →
    Holds (t + 1) (goOn mu ob c n t l).1 ms ∧ ((goOn mu ob c n t l).2.1 = "whole" ∧ (goOn mu ob c n t l).1.length = n ∨ (goOn mu ob c n t l).2.1 = "lost" ∧ (goOn mu ob c n t l).1.length ≤ n)
  | 0, t, l, m, ms, _, _, _, _, _ => ⟨trivial, .inl ⟨rfl, rfl⟩⟩
  | n + 1, t, l, m, [], _, _, _, _, hn => by simp at hn
  | n + 1, t, l, m, m' :: ms, ha, hl, hh, ho, hn => by
    obtain ⟨_, o2, o3⟩ := ho
    obtain ⟨b, u, hb, hu, e1, e2⟩ := o2 m' rfl
    unfold goOn
    cases es : stepAll mu ob (pushAt c.burns t) c.drift l with
    | none => exact ⟨trivial, .inr ⟨rfl, Nat.zero_le _⟩⟩
    | some l1 =>
      have a1 := stepAll_ok (hc.push t) hc.drift ha es
      have h1 := stepAll_has hb hu hh es
      rw [← e1, ← e2] at h1
      have h2 := cutAll_has (ob := sightAt c.sights (t + 1)) h1 o3.1
      have a2 : AllOk (cutAll l1 (sightAt c.sights (t + 1))) := cutAll_ok a1
      have l2 : (cutAll l1 (sightAt c.sights (t + 1))).length ≤ 4 := by
        have := cutAll_len l1 (sightAt c.sights (t + 1))
        have := stepAll_len es
        omega
      have n0 : ¬ (cutAll l1 (sightAt c.sights (t + 1))).length = 0 := fun z => by
        obtain ⟨s, hs, _⟩ := h2
        rw [List.length_eq_zero_iff] at z
        rw [z] at hs
        cases hs
      dsimp only
      rw [if_neg n0]
      obtain ⟨r1, r2⟩ := goOn_holds hc n (t + 1) _ m' ms a2 l2 h2 o3 (by simpa using hn)
      refine ⟨⟨rfl, a2, l2, h2, r1⟩, ?_⟩
      rcases r2 with ⟨r2, r3⟩ | ⟨r2, r3⟩
      · exact .inl ⟨r2, by rw [List.length_cons, r3]⟩
      · exact .inr ⟨r2, by rw [List.length_cons]; omega⟩
theorem journey_holds {mu ob : Int} {c : CraftT} {f : Nat} {until_ : Int} {m : Pt × Pt} {ms : List (Pt × Pt)} (hc : CraftOk c) (hf : f ≤ 2) (hu : c.start ≤ until_) (h1 : inB c.place m.1) (h2 : inB c.speed m.2) (ho : Obeys mu ob c c.start (m :: ms)) (hn : (until_ - c.start).toNat ≤ ms.length) :
    Holds c.start (journeyM mu ob f c until_).1 (m :: ms) ∧ ((journeyM mu ob f c until_).2.1 = "whole" ∧ (journeyM mu ob f c until_).1.length = (until_ - c.start).toNat + 1 ∨ (journeyM mu ob f c until_).2.1 = "lost" ∧ (journeyM mu ob f c until_).1.length ≤ (until_ - c.start).toNat + 1) := by
  have s0 : StaOk (c.place, c.speed) := ⟨hc.place, hc.speed⟩
  have a1 : AllOk (firstStates f c) := cutAll_ok (parts_ok s0 f)
  have hh : Has (firstStates f c) m.1 m.2 := cutAll_has (parts_has (sta_has.mpr ⟨h1, h2⟩) f) ho.1
  have l1 : (firstStates f c).length ≤ 4 := by
    have x := cutAll_len (partsOf (c.place, c.speed) f) (sightAt c.sights c.start)
    have y := parts_len (c.place, c.speed) f
    have z : 2 ^ f ≤ 2 ^ 2 := Nat.pow_le_pow_right (by decide) hf
    have e : (firstStates f c).length = (cutAll (partsOf (c.place, c.speed) f) (sightAt c.sights c.start)).length := rfl
    omega
  have n0 : ¬ (firstStates f c).length = 0 := fun z => by
    obtain ⟨s, hs, _⟩ := hh
    rw [List.length_eq_zero_iff] at z
    rw [z] at hs
    cases hs
  unfold journeyM
  rw [if_neg (by omega)]
  dsimp only
  rw [if_neg n0]
  obtain ⟨r1, r2⟩ := goOn_holds hc (until_ - c.start).toNat c.start _ m ms a1 l1 hh ho hn
  refine ⟨⟨rfl, a1, l1, hh, r1⟩, ?_⟩
  rcases r2 with ⟨r2, r3⟩ | ⟨r2, r3⟩
  · exact .inl ⟨r2, by rw [List.length_cons, r3]⟩
  · exact .inr ⟨r2, by rw [List.length_cons]; omega⟩
/-! ### hulls -/
theorem hull_in {a b : Bx} {p : Pt} (h : inB a p ∨ inB b p) : inB (bxHull a b) p := by
  have f : ∀ (a b : Iv) (x : Int), inI a x ∨ inI b x → inI (ivHull a b) x := fun a b x h => by
    rcases h with ⟨h1, h2⟩ | ⟨h1, h2⟩
    · exact ⟨by show min a.1 b.1 ≤ x; omega, by show x ≤ max a.2 b.2; omega⟩
    · exact ⟨by show min a.1 b.1 ≤ x; omega, by show x ≤ max a.2 b.2; omega⟩
  rcases h with h | h
  · exact ⟨f _ _ _ (.inl h.1), f _ _ _ (.inl h.2.1), f _ _ _ (.inl h.2.2)⟩
  · exact ⟨f _ _ _ (.inr h.1), f _ _ _ (.inr h.2.1), f _ _ _ (.inr h.2.2)⟩
theorem foldl_hull {p : Pt} : ∀ {l : List Bx} {b : Bx}, (inB b p ∨ ∃ c ∈ l, inB c p) → inB (l.foldl bxHull b) p
  | [], b, h => by
    rcases h with h | ⟨c, hc, _⟩
    · exact h
    · cases hc
  | a :: r, b, h => by
    show inB (r.foldl bxHull (bxHull b a)) p
    refine foldl_hull ?_
    rcases h with h | ⟨c, hc, h⟩
    · exact .inl (hull_in (.inl h))
    · rcases List.mem_cons.mp hc with rfl | hc
      · exact .inl (hull_in (.inr h))
      · exact .inr ⟨c, hc, h⟩
theorem hullOf_in {p : Pt} {l : List Bx} (h : ∃ c ∈ l, inB c p) : inB (hullOf l) p := foldl_hull (.inr h)
end Mi
/-! the defs of space keep their promises (drafted by gen_def.py) -/
namespace Pr
open PySem PySem.Spec PyProof.Rows L2 DL Mi
/-! ### sizes -/
theorem mulB {x y : Int} (h1 : Bn 8000 x) (h2 : Bn 8000 y) : CMul x y ∨ CMulW x y := .inr (wide_mul h1 h2 (by decide) (by decide) (by decide))
theorem divB {x y : Int} (h1 : 0 < y) (h2 : Bn 8000 y) : CDivW x y := wide_div h1 h2 (by decide) (by decide)
theorem rootB {x : Int} (h : Bn 8000 x) (h0 : 0 ≤ x) : x.toNat.log2 < 13000 := by
  have h1 : x.natAbs < 2 ^ 8000 := h
  have h2 : x.toNat = x.natAbs := by omega
  rw [h2]
  exact Nat.lt_trans (PySem.Flt.log2_lt_of (by decide) h1) (by decide)
/-! ### promises -/
def F_add (ds : List Dt) (r : Dt) : Prop := ∃ a b : Iv, ds = [iv a, iv b] ∧ r = iv (ivAdd a b)
def F_subtract (ds : List Dt) (r : Dt) : Prop := ∃ a b : Iv, ds = [iv a, iv b] ∧ r = iv (ivSub a b)
def F_scaled (ds : List Dt) (r : Dt) : Prop := ∃ (a : Iv) (n : Int), ds = [iv a, .int n] ∧ IvB 8000 a ∧ Bn 8000 n ∧ r = iv (ivScaled a n)
def F_multiply (ds : List Dt) (r : Dt) : Prop := ∃ a b : Iv, ds = [iv a, iv b] ∧ IvB 8000 a ∧ IvB 8000 b ∧ r = iv (ivMul a b)
def F_square (ds : List Dt) (r : Dt) : Prop := ∃ a : Iv, ds = [iv a] ∧ IvB 8000 a ∧ r = iv (ivSq a)
def F_quotient (ds : List Dt) (r : Dt) : Prop := ∃ a d : Iv, ds = [iv a, iv d] ∧ 0 < d.1 ∧ 0 < d.2 ∧ IvB 8000 d ∧ r = iv (ivQuot a d)
def F_root (ds : List Dt) (r : Dt) : Prop := ∃ a : Iv, ds = [iv a] ∧ 0 ≤ a.2 ∧ IvB 8000 a ∧ r = iv (ivRoot a)
def F_meet (ds : List Dt) (r : Dt) : Prop := ∃ a b : Iv, ds = [iv a, iv b] ∧ r = opt iv (ivMeet a b)
def F_hull (ds : List Dt) (r : Dt) : Prop := ∃ a b : Iv, ds = [iv a, iv b] ∧ r = iv (ivHull a b)
def F_widened (ds : List Dt) (r : Dt) : Prop := ∃ (a : Iv) (n : Int), ds = [iv a, .int n] ∧ r = iv (ivWiden a n)
def F_middle (ds : List Dt) (r : Dt) : Prop := ∃ a : Iv, ds = [iv a] ∧ r = .int (ivMid a)
def F_width (ds : List Dt) (r : Dt) : Prop := ∃ a : Iv, ds = [iv a] ∧ r = .int (ivWidth a)
def F_size (ds : List Dt) (r : Dt) : Prop := ∃ a : Iv, ds = [iv a] ∧ r = .int (ivSize a)
def F_has (ds : List Dt) (r : Dt) : Prop := ∃ (a : Iv) (n : Int), ds = [iv a, .int n] ∧ r = .bl (ivHas a n)
def F_box_add (ds : List Dt) (r : Dt) : Prop := ∃ a b : Bx, ds = [bx a, bx b] ∧ r = bx (bxAdd a b)
def F_box_hull (ds : List Dt) (r : Dt) : Prop := ∃ a b : Bx, ds = [bx a, bx b] ∧ r = bx (bxHull a b)
def F_box_widened (ds : List Dt) (r : Dt) : Prop := ∃ (a : Bx) (n : Int), ds = [bx a, .int n] ∧ r = bx (bxWiden a n)
def F_box_meet (ds : List Dt) (r : Dt) : Prop := ∃ a b : Bx, ds = [bx a, bx b] ∧ r = opt bx (bxMeet a b)
def F_box_has (ds : List Dt) (r : Dt) : Prop := ∃ (a : Bx) (p : Pt), ds = [bx a, pt p] ∧ r = .bl (bxHas a p)
def F_square_length (ds : List Dt) (r : Dt) : Prop := ∃ a : Bx, ds = [bx a] ∧ BxB 8000 a ∧ r = iv (sqLen a)
def F_box_size (ds : List Dt) (r : Dt) : Prop := ∃ a : Bx, ds = [bx a] ∧ r = .int (bxSize a)
section
variable {P : Program} {w : World} {K : PySem.W.Frag} {mg : Str → Option Value} {base : Heap}

theorem sc_add : FnScope ["a", "b"] ["a", "b"] (defScope Tx.s_add) := ⟨rfl, rfl, rfl, by decide +kernel, rfl, by decide +kernel, by decide +kernel⟩
theorem ok_add (C : Ft.Ctx K mg) : OkF P w K mg base "add" 1 ["a", "b"] F_add := by
  refine Ft.mkF (Ft.f_add C) (Ft.g_add C) rfl sc_add (by rintro ds r ⟨a, b, rfl, rfl⟩; rfl) (fun _ _ _ _ _ _ us hl => match us, hl with | [_, _], _ => rfl) ?_
  rintro f cdv A outer s H E ds r hr ⟨a, b, rfl, rfl⟩
  exact sds_one (sd_ret (pd_tup (pad_cons (pd_add (pd_ixT 0 (pd_var 0) pd_int) (pd_ixT 0 (pd_var 1) pd_int)) (pad_cons (pd_add (pd_ixT 1 (pd_var 0) pd_int) (pd_ixT 1 (pd_var 1) pd_int)) pad_nil))) rfl)

theorem sc_subtract : FnScope ["a", "b"] ["a", "b"] (defScope Tx.s_subtract) := ⟨rfl, rfl, rfl, by decide +kernel, rfl, by decide +kernel, by decide +kernel⟩
theorem ok_subtract (C : Ft.Ctx K mg) : OkF P w K mg base "subtract" 1 ["a", "b"] F_subtract := by
  refine Ft.mkF (Ft.f_subtract C) (Ft.g_subtract C) rfl sc_subtract (by rintro ds r ⟨a, b, rfl, rfl⟩; rfl) (fun _ _ _ _ _ _ us hl => match us, hl with | [_, _], _ => rfl) ?_
  rintro f cdv A outer s H E ds r hr ⟨a, b, rfl, rfl⟩
  exact sds_one (sd_ret (pd_tup (pad_cons (pd_sub (pd_ixT 0 (pd_var 0) pd_int) (pd_ixT 1 (pd_var 1) pd_int)) (pad_cons (pd_sub (pd_ixT 1 (pd_var 0) pd_int) (pd_ixT 0 (pd_var 1) pd_int)) pad_nil))) rfl)

theorem sc_scaled : FnScope ["a", "n"] ["a", "n"] (defScope Tx.s_scaled) := ⟨rfl, rfl, rfl, by decide +kernel, rfl, by decide +kernel, by decide +kernel⟩
theorem ok_scaled (C : Ft.Ctx K mg) : OkF P w K mg base "scaled" 1 ["a", "n"] F_scaled := by
  refine Ft.mkF (Ft.f_scaled C) (Ft.g_scaled C) rfl sc_scaled (by rintro ds r ⟨a, n, rfl, ⟨ha1, ha2⟩, hn, rfl⟩; rfl) (fun _ _ _ _ _ _ us hl => match us, hl with | [_, _], _ => rfl) ?_
  rintro f cdv A outer s H E ds r hr ⟨a, n, rfl, ⟨ha1, ha2⟩, hn, rfl⟩
  refine sds_cons (sd_if (ptd_lt (pd_var 1) pd_int) (fun h => ?_) (fun h => ?_))
  · -- then
    exact sds_one (sd_ret (pd_tup (pad_cons (pd_mul (pd_ixT 1 (pd_var 0) pd_int) (pd_var 1) (mulB (by assumption) (by assumption))) (pad_cons (pd_mul (pd_ixT 0 (pd_var 0) pd_int) (pd_var 1) (mulB (by assumption) (by assumption))) pad_nil))) (by unfold ivScaled; rw [if_pos (of_decide_eq_true h)]; rfl))
  · -- else
    refine sds_nil ?_
    exact sds_one (sd_ret (pd_tup (pad_cons (pd_mul (pd_ixT 0 (pd_var 0) pd_int) (pd_var 1) (mulB (by assumption) (by assumption))) (pad_cons (pd_mul (pd_ixT 1 (pd_var 0) pd_int) (pd_var 1) (mulB (by assumption) (by assumption))) pad_nil))) (by unfold ivScaled; rw [if_neg (of_decide_eq_false h)]; rfl))

theorem sc_multiply : FnScope ["a", "b", "ends"] ["a", "b"] (defScope Tx.s_multiply) := ⟨rfl, rfl, rfl, by decide +kernel, rfl, by decide +kernel, by decide +kernel⟩
theorem ok_multiply (C : Ft.Ctx K mg) : OkF P w K mg base "multiply" 1 ["a", "b"] F_multiply := by
  refine Ft.mkF (Ft.f_multiply C) (Ft.g_multiply C) rfl sc_multiply (by rintro ds r ⟨a, b, rfl, ⟨ha1, ha2⟩, ⟨hb1, hb2⟩, rfl⟩; rfl) (fun _ _ _ _ _ _ us hl => match us, hl with | [_, _], _ => rfl) ?_
  rintro f cdv A outer s H E ds r hr ⟨a, b, rfl, ⟨ha1, ha2⟩, ⟨hb1, hb2⟩, rfl⟩
  refine sds_cons (sd_set 2 sc_multiply.nd (pd_lst (pad_cons (pd_mul (pd_ixT 0 (pd_var 0) pd_int) (pd_ixT 0 (pd_var 1) pd_int) (mulB (by assumption) (by assumption))) (pad_cons (pd_mul (pd_ixT 0 (pd_var 0) pd_int) (pd_ixT 1 (pd_var 1) pd_int) (mulB (by assumption) (by assumption))) (pad_cons (pd_mul (pd_ixT 1 (pd_var 0) pd_int) (pd_ixT 0 (pd_var 1) pd_int) (mulB (by assumption) (by assumption))) (pad_cons (pd_mul (pd_ixT 1 (pd_var 0) pd_int) (pd_ixT 1 (pd_var 1) pd_int) (mulB (by assumption) (by assumption))) pad_nil))))) ?_)
  exact sds_one (sd_ret (pd_tup (pad_cons (pd_min4 rfl (Ft.z_min C) (pd_var 2)) (pad_cons (pd_max4 rfl (Ft.z_max C) (pd_var 2)) pad_nil))) rfl)

theorem sc_square : FnScope ["a"] ["a"] (defScope Tx.s_square) := ⟨rfl, rfl, rfl, by decide +kernel, rfl, by decide +kernel, by decide +kernel⟩
theorem ok_square (C : Ft.Ctx K mg) : OkF P w K mg base "square" 1 ["a"] F_square := by
  refine Ft.mkF (Ft.f_square C) (Ft.g_square C) rfl sc_square (by rintro ds r ⟨a, rfl, ⟨ha1, ha2⟩, rfl⟩; rfl) (fun _ _ _ _ _ _ us hl => match us, hl with | [_], _ => rfl) ?_
  rintro f cdv A outer s H E ds r hr ⟨a, rfl, ⟨ha1, ha2⟩, rfl⟩
  refine sds_cons (sd_if (ptd_ge (pd_ixT 0 (pd_var 0) pd_int) pd_int) (fun h => ?_) (fun h => ?_))
  · -- then
    exact sds_one (sd_ret (pd_tup (pad_cons (pd_mul (pd_ixT 0 (pd_var 0) pd_int) (pd_ixT 0 (pd_var 0) pd_int) (mulB (by assumption) (by assumption))) (pad_cons (pd_mul (pd_ixT 1 (pd_var 0) pd_int) (pd_ixT 1 (pd_var 0) pd_int) (mulB (by assumption) (by assumption))) pad_nil))) (by unfold ivSq; rw [if_pos (of_decide_eq_true h)]; rfl))
  · -- else
    refine sds_nil ?_
    refine sds_cons (sd_if (ptd_le (pd_ixT 1 (pd_var 0) pd_int) pd_int) (fun h2 => ?_) (fun h2 => ?_))
    · -- then
      exact sds_one (sd_ret (pd_tup (pad_cons (pd_mul (pd_ixT 1 (pd_var 0) pd_int) (pd_ixT 1 (pd_var 0) pd_int) (mulB (by assumption) (by assumption))) (pad_cons (pd_mul (pd_ixT 0 (pd_var 0) pd_int) (pd_ixT 0 (pd_var 0) pd_int) (mulB (by assumption) (by assumption))) pad_nil))) (by unfold ivSq; rw [if_neg (of_decide_eq_false h), if_pos (of_decide_eq_true h2)]; rfl))
    · -- else
      refine sds_nil ?_
      exact sds_one (sd_ret (pd_tup (pad_cons pd_int (pad_cons (pd_max2 rfl (Ft.z_max C) (pad_cons (pd_mul (pd_ixT 0 (pd_var 0) pd_int) (pd_ixT 0 (pd_var 0) pd_int) (mulB (by assumption) (by assumption))) (pad_cons (pd_mul (pd_ixT 1 (pd_var 0) pd_int) (pd_ixT 1 (pd_var 0) pd_int) (mulB (by assumption) (by assumption))) pad_nil))) pad_nil))) (by unfold ivSq; rw [if_neg (of_decide_eq_false h), if_neg (of_decide_eq_false h2)]; rfl))

theorem sc_quotient : FnScope ["a", "d", "low"] ["a", "d"] (defScope Tx.s_quotient) := ⟨rfl, rfl, rfl, by decide +kernel, rfl, by decide +kernel, by decide +kernel⟩
theorem ok_quotient (C : Ft.Ctx K mg) : OkF P w K mg base "quotient" 1 ["a", "d"] F_quotient := by
  refine Ft.mkF (Ft.f_quotient C) (Ft.g_quotient C) rfl sc_quotient (by rintro ds r ⟨a, d, rfl, hd1, hd2, ⟨b1, b2⟩, rfl⟩; rfl) (fun _ _ _ _ _ _ us hl => match us, hl with | [_, _], _ => rfl) ?_
  rintro f cdv A outer s H E ds r hr ⟨a, d, rfl, hd1, hd2, ⟨b1, b2⟩, rfl⟩
  refine sds_cons (sd_set 2 sc_quotient.nd (pd_min2 rfl (Ft.z_min C) (pad_cons (pd_fdiv (pd_ixT 0 (pd_var 0) pd_int) (pd_ixT 0 (pd_var 1) pd_int) (divB (by assumption) (by assumption))) (pad_cons (pd_fdiv (pd_ixT 0 (pd_var 0) pd_int) (pd_ixT 1 (pd_var 1) pd_int) (divB (by assumption) (by assumption))) pad_nil))) ?_)
  exact sds_one (sd_ret (pd_tup (pad_cons (pd_var 2) (pad_cons (pd_max2 rfl (Ft.z_max C) (pad_cons (pd_fdiv (pd_ixT 1 (pd_var 0) pd_int) (pd_ixT 0 (pd_var 1) pd_int) (divB (by assumption) (by assumption))) (pad_cons (pd_fdiv (pd_ixT 1 (pd_var 0) pd_int) (pd_ixT 1 (pd_var 1) pd_int) (divB (by assumption) (by assumption))) pad_nil))) pad_nil))) rfl)

theorem sc_root : FnScope ["a"] ["a"] (defScope Tx.s_root) := ⟨rfl, rfl, rfl, by decide +kernel, rfl, by decide +kernel, by decide +kernel⟩
theorem ok_root (C : Ft.Ctx K mg) : OkF P w K mg base "root" 1 ["a"] F_root := by
  refine Ft.mkF (Ft.f_root C) (Ft.g_root C) rfl sc_root (by rintro ds r ⟨a, rfl, h0, ⟨b1, b2⟩, rfl⟩; rfl) (fun _ _ _ _ _ _ us hl => match us, hl with | [_], _ => rfl) ?_
  rintro f cdv A outer s H E ds r hr ⟨a, rfl, h0, ⟨b1, b2⟩, rfl⟩
  exact sds_one (sd_ret (pd_tup (pad_cons (pd_isqrt (Ft.isqrt_ok C) (pd_max2 rfl (Ft.z_max C) (pad_cons (pd_ixT 0 (pd_var 0) pd_int) (pad_cons pd_int pad_nil))) (Int.le_max_right _ _) (rootB (b1.max Bn.zero) (Int.le_max_right _ _))) (pad_cons (pd_isqrt (Ft.isqrt_ok C) (pd_ixT 1 (pd_var 0) pd_int) h0 (rootB b2 h0)) pad_nil))) rfl)

theorem sc_meet : FnScope ["a", "b", "low", "high"] ["a", "b"] (defScope Tx.s_meet) := ⟨rfl, rfl, rfl, by decide +kernel, rfl, by decide +kernel, by decide +kernel⟩
theorem ok_meet (C : Ft.Ctx K mg) : OkF P w K mg base "meet" 1 ["a", "b"] F_meet := by
  refine Ft.mkF (Ft.f_meet C) (Ft.g_meet C) rfl sc_meet (by rintro ds r ⟨a, b, rfl, rfl⟩; rfl) (fun _ _ _ _ _ _ us hl => match us, hl with | [_, _], _ => rfl) ?_
  rintro f cdv A outer s H E ds r hr ⟨a, b, rfl, rfl⟩
  refine sds_cons (sd_set 2 sc_meet.nd (pd_max2 rfl (Ft.z_max C) (pad_cons (pd_ixT 0 (pd_var 0) pd_int) (pad_cons (pd_ixT 0 (pd_var 1) pd_int) pad_nil))) ?_)
  refine sds_cons (sd_set 3 sc_meet.nd (pd_min2 rfl (Ft.z_min C) (pad_cons (pd_ixT 1 (pd_var 0) pd_int) (pad_cons (pd_ixT 1 (pd_var 1) pd_int) pad_nil))) ?_)
  refine sds_cons (sd_if (ptd_gt (pd_var 2) (pd_var 3)) (fun h => ?_) (fun h => ?_))
  · -- then
    exact sds_one (sd_ret pd_non (by unfold ivMeet; rw [if_pos (of_decide_eq_true h)]; rfl))
  · -- else
    refine sds_nil ?_
    exact sds_one (sd_ret (pd_tup (pad_cons (pd_var 2) (pad_cons (pd_var 3) pad_nil))) (by unfold ivMeet; rw [if_neg (of_decide_eq_false h)]; rfl))

theorem sc_hull : FnScope ["a", "b"] ["a", "b"] (defScope Tx.s_hull) := ⟨rfl, rfl, rfl, by decide +kernel, rfl, by decide +kernel, by decide +kernel⟩
theorem ok_hull (C : Ft.Ctx K mg) : OkF P w K mg base "hull" 1 ["a", "b"] F_hull := by
  refine Ft.mkF (Ft.f_hull C) (Ft.g_hull C) rfl sc_hull (by rintro ds r ⟨a, b, rfl, rfl⟩; rfl) (fun _ _ _ _ _ _ us hl => match us, hl with | [_, _], _ => rfl) ?_
  rintro f cdv A outer s H E ds r hr ⟨a, b, rfl, rfl⟩
  exact sds_one (sd_ret (pd_tup (pad_cons (pd_min2 rfl (Ft.z_min C) (pad_cons (pd_ixT 0 (pd_var 0) pd_int) (pad_cons (pd_ixT 0 (pd_var 1) pd_int) pad_nil))) (pad_cons (pd_max2 rfl (Ft.z_max C) (pad_cons (pd_ixT 1 (pd_var 0) pd_int) (pad_cons (pd_ixT 1 (pd_var 1) pd_int) pad_nil))) pad_nil))) rfl)

theorem sc_widened : FnScope ["a", "w"] ["a", "w"] (defScope Tx.s_widened) := ⟨rfl, rfl, rfl, by decide +kernel, rfl, by decide +kernel, by decide +kernel⟩
theorem ok_widened (C : Ft.Ctx K mg) : OkF P w K mg base "widened" 1 ["a", "w"] F_widened := by
  refine Ft.mkF (Ft.f_widened C) (Ft.g_widened C) rfl sc_widened (by rintro ds r ⟨a, n, rfl, rfl⟩; rfl) (fun _ _ _ _ _ _ us hl => match us, hl with | [_, _], _ => rfl) ?_
  rintro f cdv A outer s H E ds r hr ⟨a, n, rfl, rfl⟩
  exact sds_one (sd_ret (pd_tup (pad_cons (pd_sub (pd_ixT 0 (pd_var 0) pd_int) (pd_var 1)) (pad_cons (pd_add (pd_ixT 1 (pd_var 0) pd_int) (pd_var 1)) pad_nil))) rfl)

theorem sc_middle : FnScope ["a"] ["a"] (defScope Tx.s_middle) := ⟨rfl, rfl, rfl, by decide +kernel, rfl, by decide +kernel, by decide +kernel⟩
theorem ok_middle (C : Ft.Ctx K mg) : OkF P w K mg base "middle" 1 ["a"] F_middle := by
  refine Ft.mkF (Ft.f_middle C) (Ft.g_middle C) rfl sc_middle (by rintro ds r ⟨a, rfl, rfl⟩; rfl) (fun _ _ _ _ _ _ us hl => match us, hl with | [_], _ => rfl) ?_
  rintro f cdv A outer s H E ds r hr ⟨a, rfl, rfl⟩
  exact sds_one (sd_ret (pd_fdiv (pd_add (pd_ixT 0 (pd_var 0) pd_int) (pd_ixT 1 (pd_var 0) pd_int)) pd_int ⟨by decide, by decide⟩) rfl)

theorem sc_width : FnScope ["a"] ["a"] (defScope Tx.s_width) := ⟨rfl, rfl, rfl, by decide +kernel, rfl, by decide +kernel, by decide +kernel⟩
theorem ok_width (C : Ft.Ctx K mg) : OkF P w K mg base "width" 1 ["a"] F_width := by
  refine Ft.mkF (Ft.f_width C) (Ft.g_width C) rfl sc_width (by rintro ds r ⟨a, rfl, rfl⟩; rfl) (fun _ _ _ _ _ _ us hl => match us, hl with | [_], _ => rfl) ?_
  rintro f cdv A outer s H E ds r hr ⟨a, rfl, rfl⟩
  exact sds_one (sd_ret (pd_sub (pd_ixT 1 (pd_var 0) pd_int) (pd_ixT 0 (pd_var 0) pd_int)) rfl)

theorem sc_size : FnScope ["a"] ["a"] (defScope Tx.s_size) := ⟨rfl, rfl, rfl, by decide +kernel, rfl, by decide +kernel, by decide +kernel⟩
theorem ok_size (C : Ft.Ctx K mg) : OkF P w K mg base "size" 1 ["a"] F_size := by
  refine Ft.mkF (Ft.f_size C) (Ft.g_size C) rfl sc_size (by rintro ds r ⟨a, rfl, rfl⟩; rfl) (fun _ _ _ _ _ _ us hl => match us, hl with | [_], _ => rfl) ?_
  rintro f cdv A outer s H E ds r hr ⟨a, rfl, rfl⟩
  exact sds_one (sd_ret (pd_max2 rfl (Ft.z_max C) (pad_cons (pd_abs (Ft.z_abs C) (pd_ixT 0 (pd_var 0) pd_int)) (pad_cons (pd_abs (Ft.z_abs C) (pd_ixT 1 (pd_var 0) pd_int)) pad_nil))) rfl)

theorem sc_has : FnScope ["a", "n"] ["a", "n"] (defScope Tx.s_has) := ⟨rfl, rfl, rfl, by decide +kernel, rfl, by decide +kernel, by decide +kernel⟩
theorem ok_has (C : Ft.Ctx K mg) : OkF P w K mg base "has" 1 ["a", "n"] F_has := by
  refine Ft.mkF (Ft.f_has C) (Ft.g_has C) rfl sc_has (by rintro ds r ⟨a, n, rfl, rfl⟩; rfl) (fun _ _ _ _ _ _ us hl => match us, hl with | [_, _], _ => rfl) ?_
  rintro f cdv A outer s H E ds r hr ⟨a, n, rfl, rfl⟩
  exact sds_one (sd_ret (pd_lele (pd_ixT 0 (pd_var 0) pd_int) (pd_var 1) (pd_ixT 1 (pd_var 0) pd_int)) rfl)

theorem sc_box_add : FnScope ["a", "b"] ["a", "b"] (defScope Tx.s_box_add) := ⟨rfl, rfl, rfl, by decide +kernel, rfl, by decide +kernel, by decide +kernel⟩
theorem ok_box_add (C : Ft.Ctx K mg) : OkF P w K mg base "box_add" 2 ["a", "b"] F_box_add := by
  refine Ft.mkF (Ft.f_box_add C) (Ft.g_box_add C) rfl sc_box_add (by rintro ds r ⟨a, b, rfl, rfl⟩; rfl) (fun _ _ _ _ _ _ us hl => match us, hl with | [_, _], _ => rfl) ?_
  rintro f cdv A outer s H E ds r hr ⟨a, b, rfl, rfl⟩
  exact sds_one (sd_ret (pd_tup (pad_cons (pd_call (ok_add C) (hr.mono (by decide)) (pad_cons (pd_ixT 0 (pd_var 0) pd_int) (pad_cons (pd_ixT 0 (pd_var 1) pd_int) pad_nil)) ⟨_, _, rfl, rfl⟩) (pad_cons (pd_call (ok_add C) (hr.mono (by decide)) (pad_cons (pd_ixT 1 (pd_var 0) pd_int) (pad_cons (pd_ixT 1 (pd_var 1) pd_int) pad_nil)) ⟨_, _, rfl, rfl⟩) (pad_cons (pd_call (ok_add C) (hr.mono (by decide)) (pad_cons (pd_ixT 2 (pd_var 0) pd_int) (pad_cons (pd_ixT 2 (pd_var 1) pd_int) pad_nil)) ⟨_, _, rfl, rfl⟩) pad_nil)))) rfl)

theorem sc_box_hull : FnScope ["a", "b"] ["a", "b"] (defScope Tx.s_box_hull) := ⟨rfl, rfl, rfl, by decide +kernel, rfl, by decide +kernel, by decide +kernel⟩
theorem ok_box_hull (C : Ft.Ctx K mg) : OkF P w K mg base "box_hull" 2 ["a", "b"] F_box_hull := by
  refine Ft.mkF (Ft.f_box_hull C) (Ft.g_box_hull C) rfl sc_box_hull (by rintro ds r ⟨a, b, rfl, rfl⟩; rfl) (fun _ _ _ _ _ _ us hl => match us, hl with | [_, _], _ => rfl) ?_
  rintro f cdv A outer s H E ds r hr ⟨a, b, rfl, rfl⟩
  exact sds_one (sd_ret (pd_tup (pad_cons (pd_call (ok_hull C) (hr.mono (by decide)) (pad_cons (pd_ixT 0 (pd_var 0) pd_int) (pad_cons (pd_ixT 0 (pd_var 1) pd_int) pad_nil)) ⟨_, _, rfl, rfl⟩) (pad_cons (pd_call (ok_hull C) (hr.mono (by decide)) (pad_cons (pd_ixT 1 (pd_var 0) pd_int) (pad_cons (pd_ixT 1 (pd_var 1) pd_int) pad_nil)) ⟨_, _, rfl, rfl⟩) (pad_cons (pd_call (ok_hull C) (hr.mono (by decide)) (pad_cons (pd_ixT 2 (pd_var 0) pd_int) (pad_cons (pd_ixT 2 (pd_var 1) pd_int) pad_nil)) ⟨_, _, rfl, rfl⟩) pad_nil)))) rfl)

theorem sc_box_widened : FnScope ["a", "w"] ["a", "w"] (defScope Tx.s_box_widened) := ⟨rfl, rfl, rfl, by decide +kernel, rfl, by decide +kernel, by decide +kernel⟩
theorem ok_box_widened (C : Ft.Ctx K mg) : OkF P w K mg base "box_widened" 2 ["a", "w"] F_box_widened := by
  refine Ft.mkF (Ft.f_box_widened C) (Ft.g_box_widened C) rfl sc_box_widened (by rintro ds r ⟨a, n, rfl, rfl⟩; rfl) (fun _ _ _ _ _ _ us hl => match us, hl with | [_, _], _ => rfl) ?_
  rintro f cdv A outer s H E ds r hr ⟨a, n, rfl, rfl⟩
  exact sds_one (sd_ret (pd_tup (pad_cons (pd_call (ok_widened C) (hr.mono (by decide)) (pad_cons (pd_ixT 0 (pd_var 0) pd_int) (pad_cons (pd_var 1) pad_nil)) ⟨_, _, rfl, rfl⟩) (pad_cons (pd_call (ok_widened C) (hr.mono (by decide)) (pad_cons (pd_ixT 1 (pd_var 0) pd_int) (pad_cons (pd_var 1) pad_nil)) ⟨_, _, rfl, rfl⟩) (pad_cons (pd_call (ok_widened C) (hr.mono (by decide)) (pad_cons (pd_ixT 2 (pd_var 0) pd_int) (pad_cons (pd_var 1) pad_nil)) ⟨_, _, rfl, rfl⟩) pad_nil)))) rfl)

theorem sc_box_meet : FnScope ["a", "b", "x", "y", "z"] ["a", "b"] (defScope Tx.s_box_meet) := ⟨rfl, rfl, rfl, by decide +kernel, rfl, by decide +kernel, by decide +kernel⟩
theorem ok_box_meet (C : Ft.Ctx K mg) : OkF P w K mg base "box_meet" 2 ["a", "b"] F_box_meet := by
  refine Ft.mkF (Ft.f_box_meet C) (Ft.g_box_meet C) rfl sc_box_meet (by rintro ds r ⟨a, b, rfl, rfl⟩; rfl) (fun _ _ _ _ _ _ us hl => match us, hl with | [_, _], _ => rfl) ?_
  rintro f cdv A outer s H E ds r hr ⟨a, b, rfl, rfl⟩
  refine sds_cons (sd_set 2 sc_box_meet.nd (pd_call (ok_meet C) (hr.mono (by decide)) (pad_cons (pd_ixT 0 (pd_var 0) pd_int) (pad_cons (pd_ixT 0 (pd_var 1) pd_int) pad_nil)) ⟨_, _, rfl, rfl⟩) ?_)
  refine sds_cons (sd_set 3 sc_box_meet.nd (pd_call (ok_meet C) (hr.mono (by decide)) (pad_cons (pd_ixT 1 (pd_var 0) pd_int) (pad_cons (pd_ixT 1 (pd_var 1) pd_int) pad_nil)) ⟨_, _, rfl, rfl⟩) ?_)
  refine sds_cons (sd_set 4 sc_box_meet.nd (pd_call (ok_meet C) (hr.mono (by decide)) (pad_cons (pd_ixT 2 (pd_var 0) pd_int) (pad_cons (pd_ixT 2 (pd_var 1) pd_int) pad_nil)) ⟨_, _, rfl, rfl⟩) ?_)
  refine sds_cons (sd_if (ptd_w (pwd_or (ptd_isN (pd_var 2)) (pwd_or (ptd_isN (pd_var 3)) (pwd_or1 (ptd_isN (pd_var 4)))))) (fun h => ?_) (fun h => ?_))
  · -- then
    exact sds_one (sd_ret pd_non (by
      unfold bxMeet
      revert h
      cases ivMeet a.1 b.1 <;> cases ivMeet a.2.1 b.2.1 <;> cases ivMeet a.2.2 b.2.2 <;> intro h <;> first | rfl | cases h))
  · -- else
    refine sds_nil ?_
    unfold bxMeet
    revert h
    cases e1 : ivMeet a.1 b.1 with
    | none => intro h; cases h
    | some x =>
      cases e2 : ivMeet a.2.1 b.2.1 with
      | none => intro h; cases h
      | some y =>
        cases e3 : ivMeet a.2.2 b.2.2 with
        | none => intro h; cases h
        | some z =>
          intro h
          exact sds_one (sd_ret (pd_tup (pad_cons (pd_var 2) (pad_cons (pd_var 3) (pad_cons (pd_var 4) pad_nil)))) rfl)

theorem sc_box_has : FnScope ["box", "point"] ["box", "point"] (defScope Tx.s_box_has) := ⟨rfl, rfl, rfl, by decide +kernel, rfl, by decide +kernel, by decide +kernel⟩
theorem ok_box_has (C : Ft.Ctx K mg) : OkF P w K mg base "box_has" 2 ["box", "point"] F_box_has := by
  refine Ft.mkF (Ft.f_box_has C) (Ft.g_box_has C) rfl sc_box_has (by rintro ds r ⟨a, p, rfl, rfl⟩; rfl) (fun _ _ _ _ _ _ us hl => match us, hl with | [_, _], _ => rfl) ?_
  rintro f cdv A outer s H E ds r hr ⟨a, p, rfl, rfl⟩
  exact sds_one (sd_ret (pd_and (pd_call (ok_has C) (hr.mono (by decide)) (pad_cons (pd_ixT 0 (pd_var 0) pd_int) (pad_cons (pd_ixT 0 (pd_var 1) pd_int) pad_nil)) ⟨_, _, rfl, rfl⟩) (pd_and (pd_call (ok_has C) (hr.mono (by decide)) (pad_cons (pd_ixT 1 (pd_var 0) pd_int) (pad_cons (pd_ixT 1 (pd_var 1) pd_int) pad_nil)) ⟨_, _, rfl, rfl⟩) (pd_one (pd_call (ok_has C) (hr.mono (by decide)) (pad_cons (pd_ixT 2 (pd_var 0) pd_int) (pad_cons (pd_ixT 2 (pd_var 1) pd_int) pad_nil)) ⟨_, _, rfl, rfl⟩)))) rfl)

theorem sc_square_length : FnScope ["box"] ["box"] (defScope Tx.s_square_length) := ⟨rfl, rfl, rfl, by decide +kernel, rfl, by decide +kernel, by decide +kernel⟩
theorem ok_square_length (C : Ft.Ctx K mg) : OkF P w K mg base "square_length" 2 ["box"] F_square_length := by
  refine Ft.mkF (Ft.f_square_length C) (Ft.g_square_length C) rfl sc_square_length (by rintro ds r ⟨a, rfl, ⟨b1, b2, b3⟩, rfl⟩; rfl) (fun _ _ _ _ _ _ us hl => match us, hl with | [_], _ => rfl) ?_
  rintro f cdv A outer s H E ds r hr ⟨a, rfl, ⟨b1, b2, b3⟩, rfl⟩
  exact sds_one (sd_ret (pd_call (ok_add C) (hr.mono (by decide)) (pad_cons (pd_call (ok_add C) (hr.mono (by decide)) (pad_cons (pd_call (ok_square C) (hr.mono (by decide)) (pad_cons (pd_ixT 0 (pd_var 0) pd_int) pad_nil) ⟨_, rfl, (by assumption), rfl⟩) (pad_cons (pd_call (ok_square C) (hr.mono (by decide)) (pad_cons (pd_ixT 1 (pd_var 0) pd_int) pad_nil) ⟨_, rfl, (by assumption), rfl⟩) pad_nil)) ⟨_, _, rfl, rfl⟩) (pad_cons (pd_call (ok_square C) (hr.mono (by decide)) (pad_cons (pd_ixT 2 (pd_var 0) pd_int) pad_nil) ⟨_, rfl, (by assumption), rfl⟩) pad_nil)) ⟨_, _, rfl, rfl⟩) rfl)

theorem sc_box_size : FnScope ["box"] ["box"] (defScope Tx.s_box_size) := ⟨rfl, rfl, rfl, by decide +kernel, rfl, by decide +kernel, by decide +kernel⟩
theorem ok_box_size (C : Ft.Ctx K mg) : OkF P w K mg base "box_size" 2 ["box"] F_box_size := by
  refine Ft.mkF (Ft.f_box_size C) (Ft.g_box_size C) rfl sc_box_size (by rintro ds r ⟨a, rfl, rfl⟩; rfl) (fun _ _ _ _ _ _ us hl => match us, hl with | [_], _ => rfl) ?_
  rintro f cdv A outer s H E ds r hr ⟨a, rfl, rfl⟩
  exact sds_one (sd_ret (pd_max3 rfl (Ft.z_max C) (pad_cons (pd_call (ok_size C) (hr.mono (by decide)) (pad_cons (pd_ixT 0 (pd_var 0) pd_int) pad_nil) ⟨_, rfl, rfl⟩) (pad_cons (pd_call (ok_size C) (hr.mono (by decide)) (pad_cons (pd_ixT 1 (pd_var 0) pd_int) pad_nil) ⟨_, rfl, rfl⟩) (pad_cons (pd_call (ok_size C) (hr.mono (by decide)) (pad_cons (pd_ixT 2 (pd_var 0) pd_int) pad_nil) ⟨_, rfl, rfl⟩) pad_nil)))) rfl)

end
end Pr
/-! forces, parts, steps -/
namespace Pr
open PySem PySem.Spec PyProof.Rows L2 DL Mi
/-! ### objects -/
section
variable (K : PySem.W.Frag)
def stt (s : Sta) : Dt := .ins (He.ga K "State") Ft.ks_State [bx s.1, bx s.2]
def bodyD (mu ob : Int) (t : Dt) : Dt := .ins (He.ga K "Body") Ft.ks_Body [.int mu, .int ob, t]
def burnD (b : BurnT) : Dt := .ins (He.ga K "Burn") Ft.ks_Burn [.int b.1, .int b.2.1, bx b.2.2]
def sightD (s : SightT) : Dt := .ins (He.ga K "Sighting") Ft.ks_Sighting [.int s.1, bx s.2]
def craftD (c : CraftT) : Dt := .ins (He.ga K "Craft") Ft.ks_Craft [.str c.name, .int c.start, bx c.place, bx c.speed, .int c.drift, .tup (c.burns.map (burnD K)), .tup (c.sights.map (sightD K))]
def F_pull_over (ds : List Dt) (r : Dt) : Prop := ∃ (mu ob : Int) (t : Dt) (b : Bx), ds = [bodyD K mu ob t, bx b] ∧ BxOk b ∧ Bn 140 mu ∧ Bn 140 ob ∧ r = opt bx (pullOver mu ob b)
def F_push_at (ds : List Dt) (r : Dt) : Prop := ∃ (c : CraftT) (t : Int), ds = [craftD K c, .int t] ∧ r = bx (pushAt c.burns t)
def FI_2 (ds ds' : List Dt) : Prop := ∃ a b : Dt, ds = [a, b] ∧ ds' = [a, b]
def F_put (ds : List Dt) (r : Dt) : Prop := ∃ (b : Bx) (k : Nat) (i : Iv), ds = [bx b, .int (k : Int), iv i] ∧ k < 3 ∧ r = bx (putB b k i)
def F_split (ds : List Dt) (r : Dt) : Prop := ∃ s : Sta, ds = [stt K s] ∧ r = .lst ((splitM s).map (stt K))
def F_parts_of (ds : List Dt) (r : Dt) : Prop := ∃ (s : Sta) (n : Nat), ds = [stt K s, .int (n : Int)] ∧ n ≤ 10 ∧ r = .lst ((partsOf s n).map (stt K))
def F_state_has (ds : List Dt) (r : Dt) : Prop := ∃ (s : Sta) (p v : Pt), ds = [stt K s, pt p, pt v] ∧ r = .bl (staHas s p v)
def F_step (ds : List Dt) (r : Dt) : Prop := ∃ (mu ob : Int) (t : Dt) (s : Sta) (b : Bx) (d : Int), ds = [bodyD K mu ob t, stt K s, bx b, .int d] ∧ StaOk s ∧ Bn 140 mu ∧ Bn 140 ob ∧ r = opt (stt K) (stepM mu ob s b d)
def F_cut (ds : List Dt) (r : Dt) : Prop := ∃ (s : Sta) (b : Bx), ds = [stt K s, bx b] ∧ r = opt (stt K) (cutM s b)
end
theorem bx3_at (b : Bx) : ∀ {k : Nat}, k < 3 → ([iv b.1, iv b.2.1, iv b.2.2] : List Dt)[k]? = some (iv (bx3 b k))
  | 0, _ => rfl
  | 1, _ => rfl
  | 2, _ => rfl
  | k + 3, h => by omega
def fac (k : Nat) : Int := if k < 2 then 1 else 3
theorem fac_at : ∀ {k : Nat}, k < 3 → ([.int 1, .int 1, .int 3] : List Dt)[k]? = some (.int (fac k))
  | 0, _ => rfl
  | 1, _ => rfl
  | 2, _ => rfl
  | k + 3, h => by omega
theorem fac_b (k : Nat) : Bn 140 (fac k) := by
  unfold fac
  split
  · exact (show (1 : Int).natAbs < 2 ^ 140 by decide)
  · exact (show (3 : Int).natAbs < 2 ^ 140 by decide)
/-- the sizes that the pull over a box asks -/
structure PullB (mu ob : Int) (b : Bx) : Prop where
  s : IvB 300 (sqLen b)
  r : IvB 300 (ivRoot (sqLen b))
  d : IvB 600 (ivMul (sqLen b) (ivRoot (sqLen b)))
  ss : IvB 600 (ivMul (sqLen b) (sqLen b))
  e : IvB 1200 (ivMul (ivMul (sqLen b) (sqLen b)) (ivMul (sqLen b) (ivRoot (sqLen b))))
  h : IvB 500 (ivScaled (ivSq b.2.2) 5)
theorem pull_b {mu ob : Int} {b : Bx} (h : BxOk b) : PullB mu ob b := by
  have hb := h.b
  have s : IvB 300 (sqLen b) := hb.sqLen.mono (by decide)
  have s2 : 0 ≤ (sqLen b).2 := by
    have := sqLen_lo h.v
    have : (sqLen b).1 ≤ (sqLen b).2 := sqLen_v h.v
    omega
  have r : IvB 300 (ivRoot (sqLen b)) := s.root s2
  exact ⟨s, r, s.mul r, s.mul s, (s.mul s).mul (s.mul r), (hb.2.2.sq.scaled (show (5 : Int).natAbs < 2 ^ 140 by decide)).mono (by decide)⟩
theorem IvOk.b3 {b : Bx} (h : BxOk b) : ∀ k, IvB 140 (bx3 b k) := fun k => (bx3_ok h k).b
section
variable {P : Program} {w : World} {K : PySem.W.Frag} {mg : Str → Option Value} {base : Heap}
/-! ### the pull -/
theorem sc_pull_over : FnScope ["body", "box", "s", "d", "e", "height", "pulls", "k", "main", "bulge", "more"] ["body", "box"] (defScope Tx.s_pull_over) := ⟨rfl, rfl, rfl, by decide +kernel, rfl, by decide +kernel, by decide +kernel⟩
def partK (mu ob : Int) (b : Bx) (k : Nat) : Iv := pullPart mu ob (sqLen b) (ivMul (sqLen b) (ivRoot (sqLen b))) (ivMul (ivMul (sqLen b) (sqLen b)) (ivMul (sqLen b) (ivRoot (sqLen b)))) (ivScaled (ivSq b.2.2) 5) (bx3 b k) (fac k)
def accK (f : Nat → Dt) (i : Nat) : List Dt := (List.range i).map f
theorem accK_succ (f : Nat → Dt) (i : Nat) : accK f (i + 1) = accK f i ++ [f i] := by
  unfold accK
  rw [List.range_succ, List.map_append]
  rfl
theorem accK_len (f : Nat → Dt) (i : Nat) : (accK f i).length = i := by
  unfold accK
  rw [List.length_map, List.length_range]
theorem ok_pull_over (C : Ft.Ctx K mg) : OkF P w K mg base "pull_over" 3 ["body", "box"] (F_pull_over K) := by
  refine Ft.mkF (Ft.f_pull_over C) (Ft.g_pull_over C) rfl sc_pull_over (by rintro ds r ⟨mu, ob, t, b, rfl, hb, hmu, hob, rfl⟩; rfl) (fun _ _ _ _ _ _ us hl => match us, hl with | [_, _], _ => rfl) ?_
  rintro f cdv A outer s H E ds r hr ⟨mu, ob, t, b, rfl, hb, hmu, hob, rfl⟩
  have B := pull_b (mu := mu) (ob := ob) hb
  have BB := hb.b
  refine sds_cons (sd_set 2 sc_pull_over.nd (pd_call (ok_square_length C) (hr.mono (by decide)) (pad_cons (pd_var 1) pad_nil) ⟨b, rfl, ⟨BB.1.mono (by decide), BB.2.1.mono (by decide), BB.2.2.mono (by decide)⟩, rfl⟩) ?_)
  refine sds_cons (sd_if (ptd_eqI (pd_ixT 0 (pd_var 2) pd_int) pd_int) (fun h => ?_) (fun h => ?_))
  · exact sds_one (sd_ret pd_non (by unfold pullOver; dsimp only; rw [if_pos (of_decide_eq_true h)]; rfl))
  · refine sds_nil ?_
    have ok := pull_ok hb.v (of_decide_eq_false h)
    have s2 : 0 ≤ (sqLen b).2 := by have := ok.s0; have : (sqLen b).1 ≤ (sqLen b).2 := ok.sv; omega
    have d2 : 0 < (ivMul (sqLen b) (ivRoot (sqLen b))).2 := Int.lt_of_lt_of_le ok.d0 ok.dv
    have e2 : 0 < (ivMul (ivMul (sqLen b) (sqLen b)) (ivMul (sqLen b) (ivRoot (sqLen b)))).2 := Int.lt_of_lt_of_le ok.e0 ok.ev
    have s8 : IvB 8000 (sqLen b) := B.s.mono (by decide)
    have r8 : IvB 8000 (ivRoot (sqLen b)) := B.r.mono (by decide)
    have d8 := B.d.mono (show 600 ≤ 8000 by decide)
    have ss8 := B.ss.mono (show 600 ≤ 8000 by decide)
    have e8 := B.e.mono (show 1200 ≤ 8000 by decide)
    refine sds_cons (sd_set 3 sc_pull_over.nd (pd_call (ok_multiply C) (hr.mono (by decide)) (pad_cons (pd_var 2) (pad_cons (pd_call (ok_root C) (hr.mono (by decide)) (pad_cons (pd_var 2) pad_nil) ⟨sqLen b, rfl, s2, s8, rfl⟩) pad_nil)) ⟨sqLen b, _, rfl, s8, r8, rfl⟩) ?_)
    refine sds_cons (sd_set 4 sc_pull_over.nd (pd_call (ok_multiply C) (hr.mono (by decide)) (pad_cons (pd_call (ok_multiply C) (hr.mono (by decide)) (pad_cons (pd_var 2) (pad_cons (pd_var 2) pad_nil)) ⟨sqLen b, sqLen b, rfl, s8, s8, rfl⟩) (pad_cons (pd_var 3) pad_nil)) ⟨_, _, rfl, ss8, d8, rfl⟩) ?_)
    refine sds_cons (sd_set 5 sc_pull_over.nd (pd_call (ok_scaled C) (hr.mono (by decide)) (pad_cons (pd_call (ok_square C) (hr.mono (by decide)) (pad_cons (pd_ixT 2 (pd_var 1) pd_int) pad_nil) ⟨b.2.2, rfl, BB.2.2.mono (by decide), rfl⟩) (pad_cons pd_int pad_nil)) ⟨ivSq b.2.2, 5, rfl, BB.2.2.sq.mono (by decide), (show Bn 3 5 by exact (by decide : (5 : Int).natAbs < 2 ^ 3)).mono (by decide), rfl⟩) ?_)
    refine sds_cons (sd_new 6 sc_pull_over.nd pad_nil ?_)
    refine sds_cons (sd_forR1 PassesOwn.never rfl (Ft.z_range C) pd_int (by decide) (by decide)
      (fun i δ => ∃ y7 y8 y9 y10, δ = [im (bodyD K mu ob t), im (bx b), im (iv (sqLen b)), im (iv (ivMul (sqLen b) (ivRoot (sqLen b)))), im (iv (ivMul (ivMul (sqLen b) (sqLen b)) (ivMul (sqLen b) (ivRoot (sqLen b))))), im (iv (ivScaled (ivSq b.2.2) 5)), some (.mls (accK (fun k => iv (partK mu ob b k)) i)), y7, y8, y9, y10])
      ⟨_, _, _, _, rfl⟩ (fun i δ' hi hI => ?_) (fun δ' hI => ?_))
    · obtain ⟨y7, y8, y9, y10, rfl⟩ := hI
      have hi3 : i < 3 := by omega
      have b3 := IvOk.b3 hb i
      refine ⟨_, gd_name 7 sc_pull_over.nd, ?_⟩
      refine sds_cons (sd_set 8 sc_pull_over.nd (pd_call (ok_quotient C) (hr.mono (by decide)) (pad_cons (pd_call (ok_scaled C) (hr.mono (by decide)) (pad_cons (pd_ixT i (pd_var 1) (pd_var 7) rfl (bx3_at b hi3)) (pad_cons (pd_neg (pd_fld 0 (Ft.kc_Body C) (pd_var 0))) pad_nil)) ⟨bx3 b i, -mu, rfl, b3.mono (by decide), hmu.neg.mono (by decide), rfl⟩) (pad_cons (pd_var 3) pad_nil)) ⟨_, _, rfl, ok.d0, d2, d8, rfl⟩) ?_)
      have sk := B.s.scaled (fac_b i)
      have hk : IvB 501 (ivSub (ivScaled (ivSq b.2.2) 5) (ivScaled (sqLen b) (fac i))) := B.h.sub (sk.mono (by decide))
      refine sds_cons (sd_set 9 sc_pull_over.nd (pd_call (ok_multiply C) (hr.mono (by decide)) (pad_cons (pd_ixT i (pd_var 1) (pd_var 7) rfl (bx3_at b hi3)) (pad_cons (pd_call (ok_subtract C) (hr.mono (by decide)) (pad_cons (pd_var 5) (pad_cons (pd_call (ok_scaled C) (hr.mono (by decide)) (pad_cons (pd_var 2) (pad_cons (pd_ixT i (pd_gref (Ft.g_FACTORS C) (Ft.factors_ok C)) (pd_var 7) rfl (fac_at hi3)) pad_nil)) ⟨sqLen b, fac i, rfl, s8, (fac_b i).mono (by decide), rfl⟩) pad_nil)) ⟨ivScaled (ivSq b.2.2) 5, _, rfl, rfl⟩) pad_nil)) ⟨bx3 b i, _, rfl, b3.mono (by decide), hk.mono (by decide), rfl⟩) ?_)
      refine sds_cons (sd_set 10 sc_pull_over.nd (pd_call (ok_quotient C) (hr.mono (by decide)) (pad_cons (pd_call (ok_scaled C) (hr.mono (by decide)) (pad_cons (pd_var 9) (pad_cons (pd_fld 1 (Ft.kc_Body C) (pd_var 0)) pad_nil)) ⟨_, ob, rfl, (b3.mul hk).mono (by decide), hob.mono (by decide), rfl⟩) (pad_cons (pd_var 4) pad_nil)) ⟨_, _, rfl, ok.e0, e2, e8, rfl⟩) ?_)
      refine sds_one (sd_append 6 rfl (pd_call (ok_add C) (hr.mono (by decide)) (pad_cons (pd_var 8) (pad_cons (pd_var 10) pad_nil)) ⟨_, _, rfl, rfl⟩) (by rw [accK_len]; omega) ?_ (hp := pe_bm PySem.F.plainAttrs_list PySem.F.slot_list_append PySem.F.type_list_append mt_append (pv 6) (pa_cons (pe_w _) pa_nil)))
      exact ⟨_, _, _, _, by rw [accK_succ]; rfl⟩
    · obtain ⟨y7, y8, y9, y10, rfl⟩ := hI
      refine sds_forget [7, 8, 9, 10] (sds_frz 6 rfl ?_)
      exact sds_one (sd_ret (pd_tup (pad_cons (pd_ixL 0 (pd_var 6) pd_int) (pad_cons (pd_ixL 1 (pd_var 6) pd_int) (pad_cons (pd_ixL 2 (pd_var 6) pd_int) pad_nil)))) (by unfold pullOver; dsimp only; rw [if_neg (of_decide_eq_false h)]; rfl))
end
end Pr
/-! pushes, parts, steps -/
namespace Pr
open PySem PySem.Spec PyProof.Rows L2 DL Mi
section
variable {P : Program} {w : World} {K : PySem.W.Frag} {mg : Str → Option Value} {base : Heap}
/-! ### the push -/
theorem sc_push_at : FnScope ["craft", "at", "burn"] ["craft", "at"] (defScope Tx.s_push_at) := ⟨rfl, rfl, rfl, by decide +kernel, rfl, by decide +kernel, by decide +kernel⟩
theorem find_take {α : Type} {p : α → Bool} {l : List α} {i : Nat} {x : α} (h : l[i]? = some x) (n : ∀ y ∈ l.take i, p y = false) (hx : p x = true) : l.find? p = some x := by
  have lt := (List.getElem?_eq_some_iff.mp h).1
  have e : l = l.take i ++ x :: l.drop (i + 1) := by
    rw [← (List.getElem?_eq_some_iff.mp h).2, ← List.drop_eq_getElem_cons lt, List.take_append_drop]
  rw [e, List.find?_append, List.find?_eq_none.mpr (fun y hy => by rw [n y hy]; decide)]
  show (x :: l.drop (i + 1)).find? p = some x
  rw [List.find?_cons, hx]
theorem take_next {α : Type} {p : α → Bool} {l : List α} {i : Nat} {x : α} (h : l[i]? = some x) (n : ∀ y ∈ l.take i, p y = false) (hx : p x = false) : ∀ y ∈ l.take (i + 1), p y = false := fun y hy => by
  rw [List.take_add_one, h] at hy
  rcases List.mem_append.mp hy with hy | hy
  · exact n y hy
  · have e : y = x := by simpa using hy
    rw [e]
    exact hx
theorem find_none {α : Type} {p : α → Bool} {l : List α} (n : ∀ y ∈ l.take l.length, p y = false) : l.find? p = none := by
  rw [List.take_length] at n
  exact List.find?_eq_none.mpr fun y hy => by rw [n y hy]; decide
theorem map_at {α β : Type} {f : α → β} {l : List α} {i : Nat} {d : β} (h : (l.map f)[i]? = some d) : ∃ x, l[i]? = some x ∧ d = f x := by
  rw [List.getElem?_map] at h
  cases e : l[i]? with
  | none =>
    rw [e] at h
    cases h
  | some x =>
    rw [e] at h
    exact ⟨x, rfl, (Option.some.inj h).symm⟩
theorem ok_push_at (C : Ft.Ctx K mg) : OkF P w K mg base "push_at" 1 ["craft", "at"] (F_push_at K) := by
  refine Ft.mkF (Ft.f_push_at C) (Ft.g_push_at C) rfl sc_push_at (by rintro ds r ⟨c, t, rfl, rfl⟩; rfl) (fun _ _ _ _ _ _ us hl => match us, hl with | [_, _], _ => rfl) ?_
  rintro f cdv A outer s H E ds r hr ⟨c, t, rfl, rfl⟩
  refine sds_cons (sd_forT PassesOwn.never rfl (pd_fld 5 (Ft.kc_Craft C) (pd_var 0)) (fun i δ => ∃ y, δ = [im (craftD K c), im (.int t), y] ∧ ∀ b ∈ c.burns.take i, (decide (b.1 ≤ t) && decide (t < b.2.1)) = false) ⟨_, rfl, by simp⟩ (fun i d δ' hd hI => ?_) (fun δ' hI => ?_))
  · obtain ⟨y, rfl, n⟩ := hI
    obtain ⟨b, hb, rfl⟩ := map_at hd
    refine ⟨_, gd_name 2 sc_push_at.nd, ?_⟩
    refine sds_one (sd_if (ptd_lelt (pd_fld 0 (Ft.kc_Burn C) (pd_var 2)) (pd_var 1) (pd_fld 1 (Ft.kc_Burn C) (pd_var 2))) (fun h => ?_) (fun h => ?_))
    · exact sds_one (sd_ret (pd_fld 2 (Ft.kc_Burn C) (pd_var 2)) (by unfold pushAt; rw [find_take hb n h]))
    · exact sds_nil ⟨_, rfl, take_next hb n h⟩
  · obtain ⟨y, rfl, n⟩ := hI
    rw [List.length_map] at n
    exact sds_one (sd_ret (pd_gref (Ft.g_NOTHING C) (Ft.nothing_ok C)) (by unfold pushAt; rw [find_none n]; rfl))
/-! ### states -/
theorem sc_State_init : FnScope ["self", "place", "speed"] ["self", "place", "speed"] (defScope Tx.s_State_init) := ⟨rfl, rfl, rfl, by decide +kernel, rfl, by decide +kernel, by decide +kernel⟩
theorem ok_State (C : Ft.Ctx K mg) : OkI P w K mg base "State" (He.ga K "State") 1 ["self", "place", "speed"] Ft.ks_State FI_2 := by
  refine Ft.mkI (Ft.f_State_init C) (Ft.m_State C) (Ft.g_State C) rfl sc_State_init (by rintro ds r ⟨a, b, rfl, rfl⟩; rfl) (fun _ _ _ _ _ _ us hl => match us, hl with | [_, _, _], _ => rfl) ?_
  rintro f cdv A outer s H E ds r xo hr ⟨a, b, rfl, rfl⟩
  refine sds_cons (sd_fld (Ft.kc_State C) rfl (pd_var 1) ?_)
  exact sds_one (sd_fld (Ft.kc_State C) rfl (pd_var 2) rfl)
theorem sc_put : FnScope ["box", "k", "interval", "j"] ["box", "k", "interval"] (defScope Tx.s_put) := ⟨rfl, rfl, rfl, by decide +kernel, rfl, by decide +kernel, by decide +kernel⟩
theorem put_eq (b : Bx) (i : Iv) : ∀ {k : Nat}, k < 3 → (List.range 3).map (fun j : Nat => iv (if ((j : Int) == (k : Int)) = true then i else bx3 b j)) = [iv (putB b k i).1, iv (putB b k i).2.1, iv (putB b k i).2.2]
  | 0, _ => rfl
  | 1, _ => rfl
  | 2, _ => rfl
  | k + 3, h => by omega
theorem ok_put (C : Ft.Ctx K mg) : OkF P w K mg base "put" 1 ["box", "k", "interval"] F_put := by
  refine Ft.mkF (Ft.f_put C) (Ft.g_put C) rfl sc_put (by rintro ds r ⟨b, k, i, rfl, hk, rfl⟩; rfl) (fun _ _ _ _ _ _ us hl => match us, hl with | [_, _, _], _ => rfl) ?_
  rintro f cdv A outer s H E ds r hr ⟨b, k, i, rfl, hk, rfl⟩
  refine sds_one (sd_ret (pd_tupleL (Ft.z_tuple C) (pd_lcR (n := 3) (own := [("j", 3)]) (g := gName 3) rfl sc_put.nd (Ft.z_range C) pd_int (by decide) (blkOk_by (own := [("j", 3)]) (N := ["box", "k", "interval", "j"]) (sc := defScope Tx.s_put) (by decide +kernel)) (fun _ _ _ _ _ => pg_name (i := 3) sc_put.nd rfl (Or.inl rfl))
    (fun j : Nat => iv (if ((j : Int) == (k : Int)) = true then i else bx3 b j)) (fun j hj => ⟨_, gw_name 3 (by decide), fun _ _ _ _ _ => ?_⟩))) ?_)
  · refine pd_ifExp (ptd_eqI (pd_var 3) (pd_var 1)) (fun h => ?_) (fun h => ?_)
    · rw [if_pos h]
      exact pd_var 2
    · rw [if_neg (by rw [h]; decide)]
      exact pd_ixT j (pd_var 0) (pd_var 3) rfl (bx3_at b hj)
  · show Dt.tup _ = _
    rw [put_eq b i hk]
    rfl
end
end Pr
/-! split, parts, steps, cuts -/
namespace Pr
open PySem PySem.Spec PyProof.Rows L2 DL Mi
section
variable {P : Program} {w : World} {K : PySem.W.Frag} {mg : Str → Option Value} {base : Heap}
theorem sc_split : FnScope ["state", "intervals", "widest", "k", "low", "high", "m", "halves", "half"] ["state"] (defScope Tx.s_split) := ⟨rfl, rfl, rfl, by decide +kernel, rfl, by decide +kernel, by decide +kernel⟩
abbrev six (s : Sta) : List Dt := [iv s.1.1, iv s.1.2.1, iv s.1.2.2, iv s.2.1, iv s.2.2.1, iv s.2.2.2]
theorem six_at (s : Sta) : ∀ {k : Nat}, k < 6 → (six s)[k]? = some (iv (ivals s k))
  | 0, _ => rfl
  | 1, _ => rfl
  | 2, _ => rfl
  | 3, _ => rfl
  | 4, _ => rfl
  | 5, _ => rfl
  | k + 6, h => by omega
theorem widest_le (s : Sta) : ∀ i, widest s i ≤ i
  | 0 => Nat.le_refl _
  | i + 1 => by
    have := widest_le s i
    unfold widest
    split <;> omega
theorem ok_split (C : Ft.Ctx K mg) : OkF P w K mg base "split" 3 ["state"] (F_split K) := by
  refine Ft.mkF (Ft.f_split C) (Ft.g_split C) rfl sc_split (by rintro ds r ⟨s, rfl, rfl⟩; rfl) (fun _ _ _ _ _ _ us hl => match us, hl with | [_], _ => rfl) ?_
  rintro f cdv A outer s0 H E ds r hr ⟨s, rfl, rfl⟩
  refine sds_cons (sd_set 1 sc_split.nd (pd_cat (pd_listT (Ft.z_list C) (pd_fld 0 (Ft.kc_State C) (pd_var 0))) (pd_listT (Ft.z_list C) (pd_fld 1 (Ft.kc_State C) (pd_var 0))) (by exact (show 3 + 3 ≤ 100000 by decide))) ?_)
  refine sds_cons (sd_set 2 sc_split.nd pd_int ?_)
  refine sds_cons (sd_forR2 PassesOwn.never rfl (Ft.z_range C) pd_int pd_int (by decide) (by decide) (by decide) (by decide)
    (fun i δ => ∃ y3, δ = [im (stt K s), im (.lst (six s)), im (.int (widest s i : Nat)), y3, none, none, none, none, none]) ⟨_, rfl⟩ (fun i δ' hi hI => ?_) (fun δ' hI => ?_))
  · obtain ⟨y3, rfl⟩ := hI
    have wl := widest_le s i
    refine ⟨_, gd_name 3 sc_split.nd, ?_⟩
    refine sds_one (sd_if (ptd_gt (pd_call (ok_width C) (hr.mono (by decide)) (pad_cons (pd_ixL (i + 1) (pd_var 1) (pd_var 3) (by omega) (six_at s (by omega))) pad_nil) ⟨_, rfl, rfl⟩) (pd_call (ok_width C) (hr.mono (by decide)) (pad_cons (pd_ixL (widest s i) (pd_var 1) (pd_var 2) rfl (six_at s (by omega))) pad_nil) ⟨_, rfl, rfl⟩)) (fun h => ?_) (fun h => ?_))
    · -- widest = k
      refine sds_one (sd_set 2 sc_split.nd (pd_var 3) ⟨im (.int (1 + (i : Int))), ?_⟩)
      have e : widest s (i + 1) = i + 1 := by
        show (if _ then _ else _) = _
        rw [if_pos (of_decide_eq_true h)]
      rw [e, show ((i + 1 : Nat) : Int) = 1 + (i : Int) by omega]
      rfl
    · refine sds_nil ⟨im (.int (1 + (i : Int))), ?_⟩
      have e : widest s (i + 1) = widest s i := by
        show (if _ then _ else _) = _
        rw [if_neg (of_decide_eq_false h)]
      rw [e]
      rfl
  · have hI2 : ∃ y3, δ' = [im (stt K s), im (.lst (six s)), im (.int (widest s 5 : Nat)), y3, none, none, none, none, none] := hI
    obtain ⟨y3, rfl⟩ := hI2
    have wl := widest_le s 5
    have e0 : splitM s = if (ivals s (widest s 5)).1 = (ivals s (widest s 5)).2 then [s] else [half s (widest s 5) ((ivals s (widest s 5)).1, ivMid (ivals s (widest s 5))), half s (widest s 5) (ivMid (ivals s (widest s 5)) + 1, (ivals s (widest s 5)).2)] := rfl
    have at6 := six_at s (show widest s 5 < 6 by omega)
    rw [e0]
    generalize widest s 5 = k at *
    generalize ivals s k = i at *
    refine sds_cons (sd_asg (pd_ixL k (pd_var 1) (pd_var 2) rfl at6) (gd_tup rfl (gds_cons (gd_name 4 sc_split.nd) (gds_cons (gd_name 5 sc_split.nd) gds_nil)) rfl) ?_)
    refine sds_cons (sd_if (ptd_eqI (pd_var 4) (pd_var 5)) (fun h => ?_) (fun h => ?_))
    · -- return [State(state.place, state.speed)]
      exact sds_one (sd_ret (pd_lst (pad_cons (pd_make (ok_State C) (hr.mono (by decide)) (pad_cons (pd_fld 0 (Ft.kc_State C) (pd_var 0)) (pad_cons (pd_fld 1 (Ft.kc_State C) (pd_var 0)) pad_nil)) ⟨_, _, rfl, rfl⟩) pad_nil)) (by rw [if_pos (beq_iff_eq.mp h)]; rfl))
    · refine sds_nil ?_
      refine sds_cons (sd_set 6 sc_split.nd (pd_call (ok_middle C) (hr.mono (by decide)) (pad_cons (pd_ixL k (pd_var 1) (pd_var 2) rfl at6) pad_nil) ⟨_, rfl, rfl⟩) ?_)
      refine sds_cons (sd_new 7 sc_split.nd pad_nil ?_)
      refine sds_cons (sd_forL (ds := [(i.1, ivMid i), (ivMid i + 1, i.2)].map iv) PassesOwn.never rfl (pd_lst (pad_cons (pd_tup (pad_cons (pd_var 4) (pad_cons (pd_var 6) pad_nil))) (pad_cons (pd_tup (pad_cons (pd_add (pd_var 6) pd_int) (pad_cons (pd_var 5) pad_nil))) pad_nil)))
        (fun j δ => ∃ y3 y8, δ = [im (stt K s), im (.lst (six s)), im (.int (k : Nat)), y3, im (.int i.1), im (.int i.2), im (.int (ivMid i)), some (.mls (([(i.1, ivMid i), (ivMid i + 1, i.2)].take j).map fun h => stt K (half s k h))), y8]) ⟨_, _, rfl⟩ (fun j d δ' hd hI => ?_) (fun δ' hI => ?_))
      · obtain ⟨y3, y8, rfl⟩ := hI
        obtain ⟨h, hh, rfl⟩ := map_at hd
        have jl := (List.getElem?_eq_some_iff.mp hh).1
        have nx : ([(i.1, ivMid i), (ivMid i + 1, i.2)].take (j + 1)).map (fun h => stt K (half s k h)) = ([(i.1, ivMid i), (ivMid i + 1, i.2)].take j).map (fun h => stt K (half s k h)) ++ [stt K (half s k h)] := by
          rw [List.take_add_one, hh, List.map_append]
          rfl
        have ll : (([(i.1, ivMid i), (ivMid i + 1, i.2)].take j).map (fun h => stt K (half s k h))).length < 100000 := by
          rw [List.length_map, List.length_take]
          exact Nat.lt_of_le_of_lt (Nat.min_le_right _ _) (show 2 < 100000 by decide)
        refine ⟨_, gd_name 8 sc_split.nd, ?_⟩
        refine sds_forget [3] ?_
        refine sds_one (sd_if (ptd_lt (pd_var 2) pd_int) (fun h3 => ?_) (fun h3 => ?_))
        · have k3 : k < 3 := by have := of_decide_eq_true h3; omega
          refine sds_one (sd_append 7 rfl (pd_make (ok_State C) (hr.mono (by decide)) (pad_cons (pd_call (ok_put C) (hr.mono (by decide)) (pad_cons (pd_fld 0 (Ft.kc_State C) (pd_var 0)) (pad_cons (pd_var 2) (pad_cons (pd_var 8) pad_nil))) ⟨s.1, k, h, rfl, k3, rfl⟩) (pad_cons (pd_fld 1 (Ft.kc_State C) (pd_var 0)) pad_nil)) ⟨_, _, rfl, rfl⟩) ll ?_ (hp := pe_bm PySem.F.plainAttrs_list PySem.F.slot_list_append PySem.F.type_list_append mt_append (pv 7) (pa_cons (pe_w _) pa_nil)))
          refine ⟨none, im (iv h), ?_⟩
          rw [nx, show half s k h = (putB s.1 k h, s.2) by unfold half; rw [if_pos k3]]
          rfl
        · have k3 : ¬ k < 3 := by have := of_decide_eq_false h3; omega
          refine sds_one (sd_append 7 rfl (pd_make (ok_State C) (hr.mono (by decide)) (pad_cons (pd_fld 0 (Ft.kc_State C) (pd_var 0)) (pad_cons (pd_call (ok_put C) (hr.mono (by decide)) (pad_cons (pd_fld 1 (Ft.kc_State C) (pd_var 0)) (pad_cons (pd_sub (pd_var 2) pd_int) (pad_cons (pd_var 8) pad_nil))) ⟨s.2, k - 3, h, by rw [show ((k : Nat) : Int) - 3 = ((k - 3 : Nat) : Int) by omega], by omega, rfl⟩) pad_nil)) ⟨_, _, rfl, rfl⟩) ll ?_ (hp := pe_bm PySem.F.plainAttrs_list PySem.F.slot_list_append PySem.F.type_list_append mt_append (pv 7) (pa_cons (pe_w _) pa_nil)))
          refine ⟨none, im (iv h), ?_⟩
          rw [nx, show half s k h = (s.1, putB s.2 (k - 3) h) by unfold half; rw [if_neg k3]]
          rfl
      · obtain ⟨y3, y8, rfl⟩ := hI
        refine sds_forget [3, 8] (sds_frz 7 rfl ?_)
        exact sds_one (sd_ret (pd_var 7) (by rw [if_neg (by intro z; rw [z, beq_self_eq_true] at h; cases h)]; rfl))
end
end Pr
/-! parts, steps, cuts -/
namespace Pr
open PySem PySem.Spec PyProof.Rows L2 DL Mi
section
variable {P : Program} {w : World} {K : PySem.W.Frag} {mg : Str → Option Value} {base : Heap}
theorem sc_parts_of : FnScope ["state", "fineness", "parts", "turn", "finer", "part"] ["state", "fineness"] (defScope Tx.s_parts_of) := ⟨rfl, rfl, rfl, by decide +kernel, rfl, by decide +kernel, by decide +kernel⟩
theorem pow10 {n : Nat} (h : n ≤ 10) : 2 ^ n ≤ 1024 := Nat.le_trans (Nat.pow_le_pow_right (by decide) h) (by decide)
theorem take_flat (l : List Sta) {j : Nat} {s : Sta} (h : l[j]? = some s) : (l.take (j + 1)).flatMap splitM = (l.take j).flatMap splitM ++ splitM s := by
  rw [List.take_add_one, h, List.flatMap_append]
  simp
theorem flat_len (l : List Sta) : (l.flatMap splitM).length ≤ l.length * 2 := by
  induction l with
  | nil => simp
  | cons a r ih =>
    rw [List.flatMap_cons, List.length_append, List.length_cons]
    have := split_len a
    omega
theorem ok_parts_of (C : Ft.Ctx K mg) : OkF P w K mg base "parts_of" 4 ["state", "fineness"] (F_parts_of K) := by
  refine Ft.mkF (Ft.f_parts_of C) (Ft.g_parts_of C) rfl sc_parts_of (by rintro ds r ⟨s, n, rfl, hn, rfl⟩; rfl) (fun _ _ _ _ _ _ us hl => match us, hl with | [_, _], _ => rfl) ?_
  rintro f cdv A outer s0 H E ds r hr ⟨s, n, rfl, hn, rfl⟩
  refine sds_cons (sd_set 2 sc_parts_of.nd (pd_lst (pad_cons (pd_make (ok_State C) (hr.mono (by decide)) (pad_cons (pd_fld 0 (Ft.kc_State C) (pd_var 0)) (pad_cons (pd_fld 1 (Ft.kc_State C) (pd_var 0)) pad_nil)) ⟨_, _, rfl, rfl⟩) pad_nil)) ?_)
  refine sds_cons (sd_forR1 PassesOwn.never rfl (Ft.z_range C) (pd_var 1) (by omega) (by omega)
    (fun i δ => ∃ y3 y4 y5, δ = [im (stt K s), im (.int (n : Nat)), im (.lst ((partsOf s i).map (stt K))), y3, y4, y5]) ⟨_, _, _, rfl⟩ (fun i δ' hi hI => ?_) (fun δ' hI => ?_))
  · obtain ⟨y3, y4, y5, rfl⟩ := hI
    have hi2 : i < n := by omega
    have hlen := parts_len s i
    have hp := pow10 (show i ≤ 10 by omega)
    refine ⟨_, gd_name 3 sc_parts_of.nd, ?_⟩
    refine sds_cons (sd_set 4 sc_parts_of.nd (pd_lst pad_nil) ?_)
    refine sds_cons (sd_forL PassesOwn.never rfl (pd_var 2) (fun j δ => ∃ y3 y5, δ = [im (stt K s), im (.int (n : Nat)), im (.lst ((partsOf s i).map (stt K))), y3, im (.lst ((((partsOf s i).take j).flatMap splitM).map (stt K))), y5]) ⟨_, _, rfl⟩ (fun j d δ' hd hI => ?_) (fun δ' hI => ?_))
    · obtain ⟨y3, y5, rfl⟩ := hI
      obtain ⟨p, hp2, rfl⟩ := map_at hd
      refine ⟨_, gd_name 5 sc_parts_of.nd, ?_⟩
      have l1 := flat_len ((partsOf s i).take j)
      have l2 : ((partsOf s i).take j).length ≤ (partsOf s i).length := by rw [List.length_take]; exact Nat.min_le_right _ _
      have l3 := split_len p
      refine sds_one (sd_set 4 sc_parts_of.nd (pd_cat (pd_var 4) (pd_call (ok_split C) (hr.mono (by decide)) (pad_cons (pd_var 5) pad_nil) ⟨p, rfl, rfl⟩) (by rw [List.length_map, List.length_map]; omega)) ?_)
      refine ⟨y3, im (stt K p), ?_⟩
      rw [take_flat _ hp2, List.map_append]
      rfl
    · obtain ⟨y3, y5, rfl⟩ := hI
      rw [List.length_map, List.take_length]
      exact sds_one (sd_set 2 sc_parts_of.nd (pd_var 4) ⟨_, _, _, rfl⟩)
  · obtain ⟨y3, y4, y5, rfl⟩ := hI
    exact sds_one (sd_ret (pd_var 2) rfl)
theorem sc_state_has : FnScope ["state", "place", "speed"] ["state", "place", "speed"] (defScope Tx.s_state_has) := ⟨rfl, rfl, rfl, by decide +kernel, rfl, by decide +kernel, by decide +kernel⟩
theorem ok_state_has (C : Ft.Ctx K mg) : OkF P w K mg base "state_has" 3 ["state", "place", "speed"] (F_state_has K) := by
  refine Ft.mkF (Ft.f_state_has C) (Ft.g_state_has C) rfl sc_state_has (by rintro ds r ⟨s, p, v, rfl, rfl⟩; rfl) (fun _ _ _ _ _ _ us hl => match us, hl with | [_, _, _], _ => rfl) ?_
  rintro f cdv A outer s0 H E ds r hr ⟨s, p, v, rfl, rfl⟩
  exact sds_one (sd_ret (pd_and (pd_call (ok_box_has C) (hr.mono (by decide)) (pad_cons (pd_fld 0 (Ft.kc_State C) (pd_var 0)) (pad_cons (pd_var 1) pad_nil)) ⟨s.1, p, rfl, rfl⟩) (pd_one (pd_call (ok_box_has C) (hr.mono (by decide)) (pad_cons (pd_fld 1 (Ft.kc_State C) (pd_var 0)) (pad_cons (pd_var 2) pad_nil)) ⟨s.2, v, rfl, rfl⟩))) rfl)
theorem sc_step : FnScope ["body", "state", "push", "drift", "a", "speed", "place"] ["body", "state", "push", "drift"] (defScope Tx.s_step) := ⟨rfl, rfl, rfl, by decide +kernel, rfl, by decide +kernel, by decide +kernel⟩
theorem ok_step (C : Ft.Ctx K mg) : OkF P w K mg base "step" 4 ["body", "state", "push", "drift"] (F_step K) := by
  refine Ft.mkF (Ft.f_step C) (Ft.g_step C) rfl sc_step (by rintro ds r ⟨mu, ob, t, s, b, d, rfl, hs, hmu, hob, rfl⟩; rfl) (fun _ _ _ _ _ _ us hl => match us, hl with | [_, _, _, _], _ => rfl) ?_
  rintro f cdv A outer s0 H E ds r hr ⟨mu, ob, t, s, b, d, rfl, hs, hmu, hob, rfl⟩
  refine sds_cons (sd_set 4 sc_step.nd (pd_call (ok_pull_over C) (hr.mono (by decide)) (pad_cons (pd_var 0) (pad_cons (pd_fld 0 (Ft.kc_State C) (pd_var 1)) pad_nil)) ⟨mu, ob, t, s.1, rfl, hs.1, hmu, hob, rfl⟩) ?_)
  unfold stepM
  cases e : pullOver mu ob s.1 with
  | none =>
    refine sds_cons (sd_if (ptd_isN (pd_var 4)) (fun h => ?_) (fun h => ?_))
    · exact sds_one (sd_ret pd_non rfl)
    · cases h
  | some a =>
    refine sds_cons (sd_if (ptd_isN (pd_var 4)) (fun h => ?_) (fun h => ?_))
    · cases h
    · refine sds_nil ?_
      refine sds_cons (sd_set 5 sc_step.nd (pd_call (ok_box_widened C) (hr.mono (by decide)) (pad_cons (pd_call (ok_box_add C) (hr.mono (by decide)) (pad_cons (pd_call (ok_box_add C) (hr.mono (by decide)) (pad_cons (pd_fld 1 (Ft.kc_State C) (pd_var 1)) (pad_cons (pd_var 4) pad_nil)) ⟨s.2, a, rfl, rfl⟩) (pad_cons (pd_var 2) pad_nil)) ⟨_, b, rfl, rfl⟩) (pad_cons (pd_var 3) pad_nil)) ⟨_, d, rfl, rfl⟩) ?_)
      refine sds_cons (sd_set 6 sc_step.nd (pd_call (ok_box_add C) (hr.mono (by decide)) (pad_cons (pd_fld 0 (Ft.kc_State C) (pd_var 1)) (pad_cons (pd_var 5) pad_nil)) ⟨s.1, _, rfl, rfl⟩) ?_)
      refine sds_cons (sd_if (ptd_w (pwd_or (ptd_gt (pd_call (ok_box_size C) (hr.mono (by decide)) (pad_cons (pd_var 6) pad_nil) ⟨_, rfl, rfl⟩) (pd_gint (Ft.i_LIMIT C))) (pwd_or1 (ptd_gt (pd_call (ok_box_size C) (hr.mono (by decide)) (pad_cons (pd_var 5) pad_nil) ⟨_, rfl, rfl⟩) (pd_gint (Ft.i_LIMIT C)))))) (fun h => ?_) (fun h => ?_))
      · -- return None
        rw [Bool.or_eq_true, decide_eq_true_eq, decide_eq_true_eq] at h
        exact sds_one (sd_ret pd_non (by dsimp only; rw [if_pos h]; rfl))
      · refine sds_nil ?_
        rw [Bool.or_eq_false_iff, decide_eq_false_iff_not, decide_eq_false_iff_not] at h
        exact sds_one (sd_ret (pd_make (ok_State C) (hr.mono (by decide)) (pad_cons (pd_var 6) (pad_cons (pd_var 5) pad_nil)) ⟨_, _, rfl, rfl⟩) (by dsimp only; rw [if_neg (by intro z; rcases z with z | z; exact h.1 z; exact h.2 z)]; rfl))
theorem sc_cut : FnScope ["state", "box", "place"] ["state", "box"] (defScope Tx.s_cut) := ⟨rfl, rfl, rfl, by decide +kernel, rfl, by decide +kernel, by decide +kernel⟩
theorem ok_cut (C : Ft.Ctx K mg) : OkF P w K mg base "cut" 3 ["state", "box"] (F_cut K) := by
  refine Ft.mkF (Ft.f_cut C) (Ft.g_cut C) rfl sc_cut (by rintro ds r ⟨s, b, rfl, rfl⟩; rfl) (fun _ _ _ _ _ _ us hl => match us, hl with | [_, _], _ => rfl) ?_
  rintro f cdv A outer s0 H E ds r hr ⟨s, b, rfl, rfl⟩
  refine sds_cons (sd_set 2 sc_cut.nd (pd_call (ok_box_meet C) (hr.mono (by decide)) (pad_cons (pd_fld 0 (Ft.kc_State C) (pd_var 0)) (pad_cons (pd_var 1) pad_nil)) ⟨s.1, b, rfl, rfl⟩) ?_)
  unfold cutM
  cases e : bxMeet s.1 b with
  | none =>
    refine sds_cons (sd_if (ptd_isN (pd_var 2)) (fun h => ?_) (fun h => ?_))
    · exact sds_one (sd_ret pd_non rfl)
    · cases h
  | some c =>
    refine sds_cons (sd_if (ptd_isN (pd_var 2)) (fun h => ?_) (fun h => ?_))
    · cases h
    · refine sds_nil ?_
      exact sds_one (sd_ret (pd_make (ok_State C) (hr.mono (by decide)) (pad_cons (pd_var 2) (pad_cons (pd_fld 1 (Ft.kc_State C) (pd_var 0)) pad_nil)) ⟨_, _, rfl, rfl⟩) rfl)
end
end Pr
/-! journeys -/
namespace Pr
open PySem PySem.Spec PyProof.Rows L2 DL Mi
section
variable (K : PySem.W.Frag)
def momD (x : Int × List Sta) : Dt := .ins (He.ga K "Moment") Ft.ks_Moment [.int x.1, .lst (x.2.map (stt K))]
def jrD (j : Jr) : Dt := .ins (He.ga K "Journey") Ft.ks_Journey [.lst (j.1.map (momD K)), .str j.2.1, opt Dt.int j.2.2]
def FI_Moment (ds ds' : List Dt) : Prop := ∃ (a : Dt) (l : List Dt), ds = [a, .lst l] ∧ ds' = [a, .lst l]
def FI_Journey (ds ds' : List Dt) : Prop := ∃ (l : List Dt) (e b : Dt), ds = [.lst l, e, b] ∧ ds' = [.lst l, e, b]
def F_Moment_place (ds : List Dt) (r : Dt) : Prop := ∃ (t : Int) (l : List Sta), ds = [momD K (t, l)] ∧ l ≠ [] ∧ r = bx (hullOf (l.map (·.1)))
def F_Moment_speed (ds : List Dt) (r : Dt) : Prop := ∃ (t : Int) (l : List Sta), ds = [momD K (t, l)] ∧ l ≠ [] ∧ r = bx (hullOf (l.map (·.2)))
def F_sighting_at (ds : List Dt) (r : Dt) : Prop := ∃ (c : CraftT) (t : Int), ds = [craftD K c, .int t] ∧ r = opt bx (sightAt c.sights t)
def F_cut_all (ds : List Dt) (r : Dt) : Prop := ∃ (l : List Sta) (ob : Option Bx), ds = [.lst (l.map (stt K)), opt bx ob] ∧ l.length ≤ 1000 ∧ r = .lst ((cutAll l ob).map (stt K))
def F_step_all (ds : List Dt) (r : Dt) : Prop := ∃ (mu ob : Int) (t : Dt) (c : CraftT) (x : Int × List Sta), ds = [bodyD K mu ob t, craftD K c, momD K x] ∧ AllOk x.2 ∧ x.2.length ≤ 1000 ∧ Bn 140 mu ∧ Bn 140 ob ∧
  r = opt (fun l => .lst (l.map (stt K))) (stepAll mu ob (pushAt c.burns x.1) c.drift x.2)
def F_first_states (ds : List Dt) (r : Dt) : Prop := ∃ (n : Nat) (c : CraftT), ds = [.int (n : Int), craftD K c] ∧ n ≤ 5 ∧ r = .lst ((firstStates n c).map (stt K))
def F_journey (ds : List Dt) (r : Dt) : Prop := ∃ (mu ob : Int) (t : Dt) (n : Nat) (c : CraftT) (u : Int), ds = [bodyD K mu ob t, .int (n : Int), craftD K c, .int u] ∧ n ≤ 5 ∧ CraftOk c ∧ Bn 140 mu ∧ Bn 140 ob ∧ 0 ≤ c.start ∧ u ≤ c.start + 1000 ∧ c.start ≤ 100000 ∧
  r = jrD K (journeyM mu ob n c u)
end
theorem stepAll_cons {mu ob d : Int} {p : Bx} (s : Sta) (a : List Sta) : stepAll mu ob p d (s :: a) = match stepM mu ob s p d with
    | none => none
    | some t => (stepAll mu ob p d a).map fun l => t :: l := rfl
theorem stepAll_app {mu ob d : Int} {p : Bx} : ∀ (a b : List Sta), stepAll mu ob p d (a ++ b) = (stepAll mu ob p d a).bind fun x => (stepAll mu ob p d b).map (x ++ ·)
  | [], b => by
    show stepAll mu ob p d b = (stepAll mu ob p d b).map (fun y => [] ++ y)
    cases stepAll mu ob p d b <;> rfl
  | s :: a, b => by
    rw [List.cons_append, stepAll_cons, stepAll_cons]
    cases stepM mu ob s p d with
    | none => rfl
    | some t =>
      dsimp only
      rw [stepAll_app a b]
      cases stepAll mu ob p d a with
      | none => rfl
      | some x =>
        show (Option.map _ ((stepAll mu ob p d b).map (x ++ ·))) = (stepAll mu ob p d b).map ((t :: x) ++ ·)
        cases stepAll mu ob p d b <;> rfl
theorem take_split {α : Type} {l : List α} {i : Nat} {s : α} (h : l[i]? = some s) : l = l.take i ++ s :: l.drop (i + 1) := by
  have lt := (List.getElem?_eq_some_iff.mp h).1
  rw [← (List.getElem?_eq_some_iff.mp h).2, ← List.drop_eq_getElem_cons lt, List.take_append_drop]
section
variable {P : Program} {w : World} {K : PySem.W.Frag} {mg : Str → Option Value} {base : Heap}
theorem sc_Moment_init : FnScope ["self", "at", "states"] ["self", "at", "states"] (defScope Tx.s_Moment_init) := ⟨rfl, rfl, rfl, by decide +kernel, rfl, by decide +kernel, by decide +kernel⟩
theorem ok_Moment (C : Ft.Ctx K mg) : OkI P w K mg base "Moment" (He.ga K "Moment") 1 ["self", "at", "states"] Ft.ks_Moment FI_Moment := by
  refine Ft.mkI (Ft.f_Moment_init C) (Ft.m_Moment C) (Ft.g_Moment C) rfl sc_Moment_init (by rintro ds r ⟨a, b, rfl, rfl⟩; rfl) (fun _ _ _ _ _ _ us hl => match us, hl with | [_, _, _], _ => rfl) ?_
  rintro f cdv A outer s H E ds r xo hr ⟨a, l, rfl, rfl⟩
  refine sds_cons (sd_fld (Ft.kc_Moment C) rfl (pd_var 1) ?_)
  exact sds_one (sd_fld (Ft.kc_Moment C) rfl (pd_listL (Ft.z_list C) (pd_var 2)) rfl)
theorem sc_Journey_init : FnScope ["self", "moments", "ending", "broken"] ["self", "moments", "ending", "broken"] (defScope Tx.s_Journey_init) := ⟨rfl, rfl, rfl, by decide +kernel, rfl, by decide +kernel, by decide +kernel⟩
theorem ok_Journey (C : Ft.Ctx K mg) : OkI P w K mg base "Journey" (He.ga K "Journey") 1 ["self", "moments", "ending", "broken"] Ft.ks_Journey FI_Journey := by
  refine Ft.mkI (Ft.f_Journey_init C) (Ft.m_Journey C) (Ft.g_Journey C) rfl sc_Journey_init (by rintro ds r ⟨a, b, c, rfl, rfl⟩; rfl) (fun _ _ _ _ _ _ us hl => match us, hl with | [_, _, _, _], _ => rfl) ?_
  rintro f cdv A outer s H E ds r xo hr ⟨l, e, b, rfl, rfl⟩
  refine sds_cons (sd_fld (Ft.kc_Journey C) rfl (pd_listL (Ft.z_list C) (pd_var 1)) ?_)
  refine sds_cons (sd_fld (Ft.kc_Journey C) rfl (pd_var 2) ?_)
  exact sds_one (sd_fld (Ft.kc_Journey C) rfl (pd_var 3) rfl)
theorem foldl_take {α β : Type} (f : β → α → β) (b : β) {l : List α} {i : Nat} {x : α} (h : l[i]? = some x) : (l.take (i + 1)).foldl f b = f ((l.take i).foldl f b) x := by
  rw [List.take_add_one, h, List.foldl_append]
  rfl
theorem sc_Moment_place : FnScope ["self", "box", "state"] ["self"] (defScope Tx.s_Moment_place) := ⟨rfl, rfl, rfl, by decide +kernel, rfl, by decide +kernel, by decide +kernel⟩
theorem ok_Moment_place (C : Ft.Ctx K mg) : OkM P w K mg base (He.ga K "Moment") "place" 3 (F_Moment_place K) := by
  refine Ft.mkM (Ft.f_Moment_place C) (Ft.t_Moment_place C) rfl sc_Moment_place (by rintro ds r ⟨t, l, rfl, hl, rfl⟩; rfl) (fun _ _ _ _ _ _ us hl => match us, hl with | [_], _ => rfl) ?_
  rintro f cdv A outer s0 H E ds r hr ⟨t, l, rfl, hl, rfl⟩
  obtain ⟨s, l2, rfl⟩ : ∃ s l2, l = s :: l2 := by
    cases l with
    | nil => exact absurd rfl hl
    | cons s l2 => exact ⟨s, l2, rfl⟩
  refine sds_cons (sd_set 1 sc_Moment_place.nd (pd_fld (C := He.ga K "State") (ks := Ft.ks_State) (ds := [bx s.1, bx s.2]) 0 (Ft.kc_State C) (pd_ixL 0 (pd_fld 1 (Ft.kc_Moment C) (pd_var 0)) pd_int)) ?_)
  refine sds_cons (sd_forL (ds := (s :: l2).map (stt K)) PassesOwn.never rfl (pd_fld 1 (Ft.kc_Moment C) (pd_var 0)) (fun i δ => ∃ y2, δ = [im (momD K (t, s :: l2)), im (bx ((((s :: l2).map (·.1)).take i).foldl bxHull s.1)), y2]) ⟨_, rfl⟩ (fun i d δ' hd hI => ?_) (fun δ' hI => ?_))
  · obtain ⟨y2, rfl⟩ := hI
    obtain ⟨x, hx, rfl⟩ := map_at hd
    refine ⟨_, gd_name 2 sc_Moment_place.nd, ?_⟩
    refine sds_one (sd_set 1 sc_Moment_place.nd (pd_call (ok_box_hull C) (hr.mono (by decide)) (pad_cons (pd_var 1) (pad_cons (pd_fld 0 (Ft.kc_State C) (pd_var 2)) pad_nil)) ⟨_, x.1, rfl, rfl⟩) ⟨im (stt K x), ?_⟩)
    rw [foldl_take bxHull s.1 (x := x.1) (by rw [List.getElem?_map, hx]; rfl)]
    rfl
  · obtain ⟨y2, rfl⟩ := hI
    rw [List.length_map, show (s :: l2).length = ((s :: l2).map (·.1)).length by rw [List.length_map], List.take_length]
    exact sds_one (sd_ret (pd_var 1) rfl)
theorem sc_Moment_speed : FnScope ["self", "box", "state"] ["self"] (defScope Tx.s_Moment_speed) := ⟨rfl, rfl, rfl, by decide +kernel, rfl, by decide +kernel, by decide +kernel⟩
theorem ok_Moment_speed (C : Ft.Ctx K mg) : OkM P w K mg base (He.ga K "Moment") "speed" 3 (F_Moment_speed K) := by
  refine Ft.mkM (Ft.f_Moment_speed C) (Ft.t_Moment_speed C) rfl sc_Moment_speed (by rintro ds r ⟨t, l, rfl, hl, rfl⟩; rfl) (fun _ _ _ _ _ _ us hl => match us, hl with | [_], _ => rfl) ?_
  rintro f cdv A outer s0 H E ds r hr ⟨t, l, rfl, hl, rfl⟩
  obtain ⟨s, l2, rfl⟩ : ∃ s l2, l = s :: l2 := by
    cases l with
    | nil => exact absurd rfl hl
    | cons s l2 => exact ⟨s, l2, rfl⟩
  refine sds_cons (sd_set 1 sc_Moment_speed.nd (pd_fld (C := He.ga K "State") (ks := Ft.ks_State) (ds := [bx s.1, bx s.2]) 1 (Ft.kc_State C) (pd_ixL 0 (pd_fld 1 (Ft.kc_Moment C) (pd_var 0)) pd_int)) ?_)
  refine sds_cons (sd_forL (ds := (s :: l2).map (stt K)) PassesOwn.never rfl (pd_fld 1 (Ft.kc_Moment C) (pd_var 0)) (fun i δ => ∃ y2, δ = [im (momD K (t, s :: l2)), im (bx ((((s :: l2).map (·.2)).take i).foldl bxHull s.2)), y2]) ⟨_, rfl⟩ (fun i d δ' hd hI => ?_) (fun δ' hI => ?_))
  · obtain ⟨y2, rfl⟩ := hI
    obtain ⟨x, hx, rfl⟩ := map_at hd
    refine ⟨_, gd_name 2 sc_Moment_speed.nd, ?_⟩
    refine sds_one (sd_set 1 sc_Moment_speed.nd (pd_call (ok_box_hull C) (hr.mono (by decide)) (pad_cons (pd_var 1) (pad_cons (pd_fld 1 (Ft.kc_State C) (pd_var 2)) pad_nil)) ⟨_, x.2, rfl, rfl⟩) ⟨im (stt K x), ?_⟩)
    rw [foldl_take bxHull s.2 (x := x.2) (by rw [List.getElem?_map, hx]; rfl)]
    rfl
  · obtain ⟨y2, rfl⟩ := hI
    rw [List.length_map, show (s :: l2).length = ((s :: l2).map (·.2)).length by rw [List.length_map], List.take_length]
    exact sds_one (sd_ret (pd_var 1) rfl)
theorem sc_sighting_at : FnScope ["craft", "at", "sighting"] ["craft", "at"] (defScope Tx.s_sighting_at) := ⟨rfl, rfl, rfl, by decide +kernel, rfl, by decide +kernel, by decide +kernel⟩
theorem ok_sighting_at (C : Ft.Ctx K mg) : OkF P w K mg base "sighting_at" 1 ["craft", "at"] (F_sighting_at K) := by
  refine Ft.mkF (Ft.f_sighting_at C) (Ft.g_sighting_at C) rfl sc_sighting_at (by rintro ds r ⟨c, t, rfl, rfl⟩; rfl) (fun _ _ _ _ _ _ us hl => match us, hl with | [_, _], _ => rfl) ?_
  rintro f cdv A outer s H E ds r hr ⟨c, t, rfl, rfl⟩
  refine sds_cons (sd_forT PassesOwn.never rfl (pd_fld 6 (Ft.kc_Craft C) (pd_var 0)) (fun i δ => ∃ y, δ = [im (craftD K c), im (.int t), y] ∧ ∀ b ∈ c.sights.take i, (b.1 == t) = false) ⟨_, rfl, by simp⟩ (fun i d δ' hd hI => ?_) (fun δ' hI => ?_))
  · obtain ⟨y, rfl, n⟩ := hI
    obtain ⟨b, hb, rfl⟩ := map_at hd
    refine ⟨_, gd_name 2 sc_sighting_at.nd, ?_⟩
    refine sds_one (sd_if (ptd_eqI (pd_fld 0 (Ft.kc_Sighting C) (pd_var 2)) (pd_var 1)) (fun h => ?_) (fun h => ?_))
    · exact sds_one (sd_ret (pd_fld 1 (Ft.kc_Sighting C) (pd_var 2)) (by unfold sightAt; rw [find_take hb n h]; rfl))
    · exact sds_nil ⟨_, rfl, take_next hb n h⟩
  · obtain ⟨y, rfl, n⟩ := hI
    rw [List.length_map] at n
    exact sds_one (sd_ret pd_non (by unfold sightAt; rw [find_none n]; rfl))
theorem sc_cut_all : FnScope ["states", "box", "left", "state", "less"] ["states", "box"] (defScope Tx.s_cut_all) := ⟨rfl, rfl, rfl, by decide +kernel, rfl, by decide +kernel, by decide +kernel⟩
theorem ok_cut_all (C : Ft.Ctx K mg) : OkF P w K mg base "cut_all" 4 ["states", "box"] (F_cut_all K) := by
  refine Ft.mkF (Ft.f_cut_all C) (Ft.g_cut_all C) rfl sc_cut_all (by rintro ds r ⟨l, ob, rfl, hl, rfl⟩; rfl) (fun _ _ _ _ _ _ us hl => match us, hl with | [_, _], _ => rfl) ?_
  rintro f cdv A outer s0 H E ds r hr ⟨l, ob, rfl, hl, rfl⟩
  cases ob with
  | none =>
    refine sds_cons (sd_if (ptd_isN (pd_var 1)) (fun h => ?_) (fun h => ?_))
    · exact sds_one (sd_ret (pd_listL (Ft.z_list C) (pd_var 0)) rfl)
    · cases h
  | some b =>
    refine sds_cons (sd_if (ptd_isN (pd_var 1)) (fun h => ?_) (fun h => ?_))
    · cases h
    · refine sds_nil ?_
      refine sds_cons (sd_new 2 sc_cut_all.nd pad_nil ?_)
      refine sds_cons (sd_forL PassesOwn.never rfl (pd_var 0) (fun i δ => ∃ y3 y4, δ = [im (.lst (l.map (stt K))), im (bx b), some (.mls (((l.take i).filterMap fun s => cutM s b).map (stt K))), y3, y4]) ⟨_, _, rfl⟩ (fun i d δ' hd hI => ?_) (fun δ' hI => ?_))
      · obtain ⟨y3, y4, rfl⟩ := hI
        obtain ⟨s, hs, rfl⟩ := map_at hd
        have ll : (((l.take i).filterMap fun s => cutM s b).map (stt K)).length < 100000 := by
          have h1 := List.length_filterMap_le (fun s => cutM s b) (l.take i)
          have h2 : (l.take i).length ≤ l.length := by rw [List.length_take]; exact Nat.min_le_right _ _
          rw [List.length_map]
          omega
        refine ⟨_, gd_name 3 sc_cut_all.nd, ?_⟩
        refine sds_cons (sd_set 4 sc_cut_all.nd (pd_call (ok_cut C) (hr.mono (by decide)) (pad_cons (pd_var 3) (pad_cons (pd_var 1) pad_nil)) ⟨s, b, rfl, rfl⟩) ?_)
        have nx : (l.take (i + 1)).filterMap (fun s => cutM s b) = (l.take i).filterMap (fun s => cutM s b) ++ (match cutM s b with | some t => [t] | none => []) := by
          rw [List.take_add_one, hs, List.filterMap_append]
          show _ ++ List.filterMap _ [s] = _
          rw [List.filterMap_cons]
          cases cutM s b <;> rfl
        cases e : cutM s b with
        | none =>
          refine sds_one (sd_if (ptd_notN (pd_var 4)) (fun h => ?_) (fun h => ?_))
          · cases h
          · refine sds_nil ⟨im (stt K s), im .non, ?_⟩
            rw [nx, e, List.append_nil]
            rfl
        | some t =>
          refine sds_one (sd_if (ptd_notN (pd_var 4)) (fun h => ?_) (fun h => ?_))
          · refine sds_one (sd_append 2 rfl (pd_var 4) ll ⟨im (stt K s), im (stt K t), ?_⟩ (hp := pe_bm PySem.F.plainAttrs_list PySem.F.slot_list_append PySem.F.type_list_append mt_append (pv 2) (pa_cons (pe_w _) pa_nil)))
            rw [nx, e, List.map_append]
            rfl
          · cases h
      · obtain ⟨y3, y4, rfl⟩ := hI
        rw [List.length_map, List.take_length]
        refine sds_forget [3, 4] (sds_frz 2 rfl ?_)
        exact sds_one (sd_ret (pd_var 2) rfl)
theorem sc_step_all : FnScope ["body", "craft", "moment", "push", "states", "state", "later"] ["body", "craft", "moment"] (defScope Tx.s_step_all) := ⟨rfl, rfl, rfl, by decide +kernel, rfl, by decide +kernel, by decide +kernel⟩
theorem ok_step_all (C : Ft.Ctx K mg) : OkF P w K mg base "step_all" 5 ["body", "craft", "moment"] (F_step_all K) := by
  refine Ft.mkF (Ft.f_step_all C) (Ft.g_step_all C) rfl sc_step_all (by rintro ds r ⟨mu, ob, t, c, x, rfl, ha, hl, hmu, hob, rfl⟩; rfl) (fun _ _ _ _ _ _ us hl => match us, hl with | [_, _, _], _ => rfl) ?_
  rintro f cdv A outer s0 H E ds r hr ⟨mu, ob, t, c, x, rfl, ha, hl, hmu, hob, rfl⟩
  refine sds_cons (sd_set 3 sc_step_all.nd (pd_call (ok_push_at C) (hr.mono (by decide)) (pad_cons (pd_var 1) (pad_cons (pd_fld 0 (Ft.kc_Moment C) (pd_var 2)) pad_nil)) ⟨c, x.1, rfl, rfl⟩) ?_)
  refine sds_cons (sd_new 4 sc_step_all.nd pad_nil ?_)
  refine sds_cons (sd_forL (ds := x.2.map (stt K)) PassesOwn.never rfl (pd_fld 1 (Ft.kc_Moment C) (pd_var 2)) (fun i δ => ∃ acc y5 y6, δ = [im (bodyD K mu ob t), im (craftD K c), im (momD K x), im (bx (pushAt c.burns x.1)), some (.mls (acc.map (stt K))), y5, y6] ∧ stepAll mu ob (pushAt c.burns x.1) c.drift (x.2.take i) = some acc)
    ⟨[], _, _, rfl, rfl⟩ (fun i d δ' hd hI => ?_) (fun δ' hI => ?_))
  · obtain ⟨acc, y5, y6, rfl, ea⟩ := hI
    obtain ⟨s, hs, rfl⟩ := map_at hd
    have hm : s ∈ x.2 := List.mem_of_getElem? hs
    refine ⟨_, gd_name 5 sc_step_all.nd, ?_⟩
    refine sds_cons (sd_set 6 sc_step_all.nd (pd_call (ok_step C) (hr.mono (by decide)) (pad_cons (pd_var 0) (pad_cons (pd_var 5) (pad_cons (pd_var 3) (pad_cons (pd_fld 4 (Ft.kc_Craft C) (pd_var 1)) pad_nil)))) ⟨mu, ob, t, s, _, c.drift, rfl, ha s hm, hmu, hob, rfl⟩) ?_)
    have es := take_split hs
    cases e : stepM mu ob s (pushAt c.burns x.1) c.drift with
    | none =>
      refine sds_cons (sd_if (ptd_isN (pd_var 6)) (fun h => ?_) (fun h => ?_))
      · refine sds_one (sd_ret pd_non ?_)
        rw [es, stepAll_app, ea]
        show Dt.non = opt _ ((stepAll mu ob (pushAt c.burns x.1) c.drift (s :: x.2.drop (i + 1))).map _)
        unfold stepAll
        rw [e]
        rfl
      · cases h
    | some z =>
      refine sds_cons (sd_if (ptd_isN (pd_var 6)) (fun h => ?_) (fun h => ?_))
      · cases h
      · refine sds_nil ?_
        have al := stepAll_len ea
        have tl : (x.2.take i).length ≤ x.2.length := by rw [List.length_take]; exact Nat.min_le_right _ _
        refine sds_one (sd_append 4 rfl (pd_var 6) (by rw [List.length_map]; omega) ⟨acc ++ [z], im (stt K s), im (stt K z), ?_, ?_⟩ (hp := pe_bm PySem.F.plainAttrs_list PySem.F.slot_list_append PySem.F.type_list_append mt_append (pv 4) (pa_cons (pe_w _) pa_nil)))
        · rw [List.map_append]
          rfl
        · rw [List.take_add_one, hs, stepAll_app, ea]
          show (stepAll mu ob (pushAt c.burns x.1) c.drift [s]).map _ = _
          unfold stepAll
          rw [e]
          rfl
  · obtain ⟨acc, y5, y6, rfl, ea⟩ := hI
    rw [List.length_map, List.take_length] at ea
    refine sds_forget [5, 6] (sds_frz 4 rfl ?_)
    exact sds_one (sd_ret (pd_var 4) (by rw [ea]; rfl))
theorem sc_first_states : FnScope ["fineness", "craft"] ["fineness", "craft"] (defScope Tx.s_first_states) := ⟨rfl, rfl, rfl, by decide +kernel, rfl, by decide +kernel, by decide +kernel⟩
theorem ok_first_states (C : Ft.Ctx K mg) : OkF P w K mg base "first_states" 5 ["fineness", "craft"] (F_first_states K) := by
  refine Ft.mkF (Ft.f_first_states C) (Ft.g_first_states C) rfl sc_first_states (by rintro ds r ⟨n, c, rfl, hn, rfl⟩; rfl) (fun _ _ _ _ _ _ us hl => match us, hl with | [_, _], _ => rfl) ?_
  rintro f cdv A outer s0 H E ds r hr ⟨n, c, rfl, hn, rfl⟩
  have h1 := parts_len (c.place, c.speed) n
  have h2 := pow10 (show n ≤ 10 by omega)
  have h3 : 2 ^ n ≤ 2 ^ 5 := Nat.pow_le_pow_right (by decide) hn
  exact sds_one (sd_ret (pd_call (ok_cut_all C) (hr.mono (by decide)) (pad_cons (pd_call (ok_parts_of C) (hr.mono (by decide)) (pad_cons (pd_make (ok_State C) (hr.mono (by decide)) (pad_cons (pd_fld 2 (Ft.kc_Craft C) (pd_var 1)) (pad_cons (pd_fld 3 (Ft.kc_Craft C) (pd_var 1)) pad_nil)) ⟨_, _, rfl, rfl⟩) (pad_cons (pd_var 0) pad_nil)) ⟨(c.place, c.speed), n, rfl, by omega, rfl⟩)
    (pad_cons (pd_call (ok_sighting_at C) (hr.mono (by decide)) (pad_cons (pd_var 1) (pad_cons (pd_fld 1 (Ft.kc_Craft C) (pd_var 1)) pad_nil)) ⟨c, c.start, rfl, rfl⟩) pad_nil)) ⟨partsOf (c.place, c.speed) n, sightAt c.sights c.start, rfl, by omega, rfl⟩) rfl)
end
end Pr
/-! the journey -/
namespace Pr
open PySem PySem.Spec PyProof.Rows L2 DL Mi
theorem atI_neg1 {xs : List V} {n j : Nat} (hn : n = j + 1) (hl : xs.length = n) (v : V) (h : xs[j]? = some v) : atI xs (-1) = some v := by
  subst hn
  unfold atI ixN
  rw [if_neg (by decide), if_pos (by omega), hl]
  show xs[((-1 : Int) + ((j + 1 : Nat) : Int)).toNat]? = some v
  rw [show ((-1 : Int) + ((j + 1 : Nat) : Int)).toNat = j by omega]
  exact h
section
variable {P : Program} {w : World} {K : PySem.W.Frag} {mg : Str → Option Value} {base : Heap}
theorem sc_journey : FnScope ["body", "fineness", "craft", "until", "moments", "states", "at"] ["body", "fineness", "craft", "until"] (defScope Tx.s_journey) := ⟨rfl, rfl, rfl, by decide +kernel, rfl, by decide +kernel, by decide +kernel⟩
theorem ok_journey (C : Ft.Ctx K mg) : OkF P w K mg base "journey" 6 ["body", "fineness", "craft", "until"] (F_journey K) := by
  refine Ft.mkF (Ft.f_journey C) (Ft.g_journey C) rfl sc_journey (by rintro ds r ⟨mu, ob, t, n, c, u, rfl, hn, hc, hmu, hob, h0, h1, h2, rfl⟩; rfl) (fun _ _ _ _ _ _ us hl => match us, hl with | [_, _, _, _], _ => rfl) ?_
  rintro f cdv A outer s0 H E ds r hr ⟨mu, ob, t, n, c, u, rfl, hn, hc, hmu, hob, h0, h1, h2, rfl⟩
  refine sds_cons (sd_new 4 sc_journey.nd pad_nil ?_)
  refine sds_cons (sd_if (ptd_lt (pd_var 3) (pd_fld 1 (Ft.kc_Craft C) (pd_var 2))) (fun h => ?_) (fun h => ?_))
  · refine sds_frz 4 rfl ?_
    exact sds_one (sd_ret (pd_make (ok_Journey C) (hr.mono (by decide)) (pad_cons (pd_var 4) (pad_cons pd_str (pad_cons pd_non pad_nil))) ⟨_, _, _, rfl, rfl⟩) (by unfold journeyM; rw [if_pos (of_decide_eq_true h)]; rfl))
  · refine sds_nil ?_
    have hu : ¬ u < c.start := of_decide_eq_false h
    have a1 : AllOk (firstStates n c) := cutAll_ok (parts_ok ⟨hc.place, hc.speed⟩ n)
    have l1 : (firstStates n c).length ≤ 1000 := by
      have x := cutAll_len (partsOf (c.place, c.speed) n) (sightAt c.sights c.start)
      have y := parts_len (c.place, c.speed) n
      have z : 2 ^ n ≤ 2 ^ 5 := Nat.pow_le_pow_right (by decide) hn
      have e : (firstStates n c).length = (cutAll (partsOf (c.place, c.speed) n) (sightAt c.sights c.start)).length := rfl
      omega
    refine sds_cons (sd_set 5 sc_journey.nd (pd_call (ok_first_states C) (hr.mono (by decide)) (pad_cons (pd_var 1) (pad_cons (pd_var 2) pad_nil)) ⟨n, c, rfl, hn, rfl⟩) ?_)
    have ej : journeyM mu ob n c u = if (firstStates n c).length = 0 then (([], "void", some c.start) : Jr) else ((c.start, firstStates n c) :: (goOn mu ob c (u - c.start).toNat c.start (firstStates n c)).1, (goOn mu ob c (u - c.start).toNat c.start (firstStates n c)).2) := by
      unfold journeyM
      rw [if_neg hu]
    rw [ej]
    generalize firstStates n c = l at *
    refine sds_cons (sd_if (ptd_eqI (pd_lenL (Ft.z_len C) (pd_var 5)) pd_int) (fun h => ?_) (fun h => ?_))
    · have hz : l.length = 0 := by
        have := beq_iff_eq.mp h
        rw [List.length_map] at this
        omega
      refine sds_frz 4 rfl ?_
      exact sds_one (sd_ret (pd_make (ok_Journey C) (hr.mono (by decide)) (pad_cons (pd_var 4) (pad_cons pd_str (pad_cons (pd_fld 1 (Ft.kc_Craft C) (pd_var 2)) pad_nil))) ⟨_, _, _, rfl, rfl⟩) (by rw [if_pos hz]; rfl))
    · refine sds_nil ?_
      have hz : ¬ l.length = 0 := fun z => by
        rw [List.length_map, z] at h
        cases h
      rw [if_neg hz]
      refine sds_cons (sd_append 4 rfl (pd_make (ok_Moment C) (hr.mono (by decide)) (pad_cons (pd_fld 1 (Ft.kc_Craft C) (pd_var 2)) (pad_cons (pd_var 5) pad_nil)) ⟨_, _, rfl, rfl⟩) (by decide) ?_ (hp := pe_bm PySem.F.plainAttrs_list PySem.F.slot_list_append PySem.F.type_list_append mt_append (pv 4) (pa_cons (pe_w _) pa_nil)))
      generalize hN : (u - c.start).toNat = N
      generalize hJ : (((c.start, l) :: (goOn mu ob c N c.start l).1, (goOn mu ob c N c.start l).2) : Jr) = J
      refine sds_cons (sd_forR2 PassesOwn.never rfl (Ft.z_range C) (pd_add (pd_fld 1 (Ft.kc_Craft C) (pd_var 2)) pd_int) (pd_add (pd_var 3) pd_int) (by omega) (by omega) (by omega) (by omega)
        (fun i δ => ∃ (pre : List (Int × List Sta)) (l : List Sta) (y6 : Option SD), δ = [im (bodyD K mu ob t), im (.int (n : Nat)), im (craftD K c), im (.int u), some (.mls ((pre ++ [(c.start + (i : Int), l)]).map (momD K))), im (.lst (l.map (stt K))), y6] ∧ pre.length = i ∧ i ≤ N ∧ AllOk l ∧ l.length ≤ 1000 ∧
          (pre ++ (c.start + (i : Int), l) :: (goOn mu ob c (N - i) (c.start + (i : Int)) l).1, (goOn mu ob c (N - i) (c.start + (i : Int)) l).2) = J)
        ⟨[], l, none, by rw [show c.start + ((0 : Nat) : Int) = c.start by omega]; rfl, rfl, Nat.zero_le _, a1, l1, by rw [show c.start + ((0 : Nat) : Int) = c.start by omega]; exact hJ⟩ (fun i δ' hi hI => ?_) (fun δ' hI => ?_))
      · obtain ⟨pre, l, y6, rfl, pl, iN, al, ll, eJ⟩ := hI
        have iN2 : i < N := by omega
        have eN : N - i = (N - (i + 1)) + 1 := by omega
        have et : c.start + 1 + (i : Int) = c.start + (i : Int) + 1 := by omega
        rw [eN] at eJ
        unfold goOn at eJ
        refine ⟨_, gd_name 6 sc_journey.nd, ?_⟩
        rw [et]
        refine sds_cons (sd_set 5 sc_journey.nd (pd_call (ok_step_all C) (hr.mono (by decide)) (pad_cons (pd_var 0) (pad_cons (pd_var 2) (pad_cons (pd_ixM 4 pre.length (ds := (pre ++ [(c.start + (i : Int), l)]).map (momD K)) (d := momD K (c.start + (i : Int), l)) rfl (pd_neg pd_int) (fun xs hx v hv => atI_neg1 (n := pre.length + 1) rfl (by rw [hx, List.length_map, List.length_append]; rfl) v hv) (by rw [List.getElem?_map, List.getElem?_append_right (Nat.le_refl _), Nat.sub_self]; rfl)) pad_nil))) ⟨mu, ob, t, c, (c.start + (i : Int), l), rfl, al, ll, hmu, hob, rfl⟩) ?_)
        show SDs _ _ [im (bodyD K mu ob t), im (.int (n : Nat)), im (craftD K c), im (.int u), some (.mls ((pre ++ [(c.start + (i : Int), l)]).map (momD K))), im (opt (fun l => .lst (l.map (stt K))) (stepAll mu ob (pushAt c.burns (c.start + (i : Int))) c.drift l)), im (.int (c.start + (i : Int) + 1))] _
        cases es : stepAll mu ob (pushAt c.burns (c.start + (i : Int))) c.drift l with
        | none =>
          rw [es] at eJ
          refine sds_cons (sd_if (ptd_isN (pd_var 5)) (fun h => ?_) (fun h => ?_))
          · refine sds_frz 4 rfl ?_
            exact sds_one (sd_ret (pd_make (ok_Journey C) (hr.mono (by decide)) (pad_cons (pd_var 4) (pad_cons pd_str (pad_cons (pd_var 6) pad_nil))) ⟨_, _, _, rfl, rfl⟩) (by rw [← eJ]; rfl))
          · cases h
        | some la =>
          rw [es] at eJ
          dsimp only at eJ
          have la1 := stepAll_len es
          have la2 := stepAll_ok (hc.push _) hc.drift al es
          have lb1 := cutAll_len la (sightAt c.sights (c.start + (i : Int) + 1))
          have lb2 : AllOk (cutAll la (sightAt c.sights (c.start + (i : Int) + 1))) := cutAll_ok la2
          refine sds_cons (sd_if (ptd_isN (pd_var 5)) (fun h => ?_) (fun h => ?_))
          · cases h
          · refine sds_nil ?_
            refine sds_cons (sd_set 5 sc_journey.nd (pd_call (ok_cut_all C) (hr.mono (by decide)) (pad_cons (pd_var 5) (pad_cons (pd_call (ok_sighting_at C) (hr.mono (by decide)) (pad_cons (pd_var 2) (pad_cons (pd_var 6) pad_nil)) ⟨c, _, rfl, rfl⟩) pad_nil)) ⟨la, sightAt c.sights (c.start + (i : Int) + 1), rfl, by omega, rfl⟩) ?_)
            generalize cutAll la (sightAt c.sights (c.start + (i : Int) + 1)) = lb at *
            refine sds_cons (sd_if (ptd_eqI (pd_lenL (Ft.z_len C) (pd_var 5)) pd_int) (fun h => ?_) (fun h => ?_))
            · have hz : lb.length = 0 := by
                have := beq_iff_eq.mp h
                rw [List.length_map] at this
                omega
              rw [if_pos hz] at eJ
              refine sds_frz 4 rfl ?_
              exact sds_one (sd_ret (pd_make (ok_Journey C) (hr.mono (by decide)) (pad_cons (pd_var 4) (pad_cons pd_str (pad_cons (pd_var 6) pad_nil))) ⟨_, _, _, rfl, rfl⟩) (by rw [← eJ]; rfl))
            · refine sds_nil ?_
              have hz : ¬ lb.length = 0 := fun z => by
                rw [List.length_map, z] at h
                cases h
              rw [if_neg hz] at eJ
              refine sds_one (sd_append 4 rfl (pd_make (ok_Moment C) (hr.mono (by decide)) (pad_cons (pd_var 6) (pad_cons (pd_var 5) pad_nil)) ⟨_, _, rfl, rfl⟩) (by rw [List.length_map, List.length_append, pl]; show i + 1 < 100000; omega) ?_ (hp := pe_bm PySem.F.plainAttrs_list PySem.F.slot_list_append PySem.F.type_list_append mt_append (pv 4) (pa_cons (pe_w _) pa_nil)))
              have ei : c.start + ((i + 1 : Nat) : Int) = c.start + (i : Int) + 1 := by omega
              refine ⟨pre ++ [(c.start + (i : Int), l)], lb, im (.int (c.start + (i : Int) + 1)), ?_, ?_, by omega, lb2, by omega, ?_⟩
              · rw [ei, List.map_append (l₂ := [(c.start + (i : Int) + 1, lb)])]
                rfl
              · rw [List.length_append, pl]
                rfl
              · rw [ei, ← eJ, List.append_assoc]
                rfl
      · obtain ⟨pre, l, y6, rfl, pl, iN, al, ll, eJ⟩ := hI
        have eN : N - ((u + 1) - (c.start + 1)).toNat = 0 := by omega
        rw [eN] at eJ
        refine sds_forget [6] (sds_frz 4 rfl ?_)
        exact sds_one (sd_ret (pd_make (ok_Journey C) (hr.mono (by decide)) (pad_cons (pd_var 4) (pad_cons pd_str (pad_cons pd_non pad_nil))) ⟨_, _, _, rfl, rfl⟩) (by rw [← eJ]; rfl))
end
end Pr
/-! bodies, burns, sightings, crafts are made -/
namespace Pr
open PySem PySem.Spec PyProof.Rows L2 DL Mi
def IvIn (m : Int) (a : Iv) : Prop := -m ≤ a.1 ∧ a.1 ≤ a.2 ∧ a.2 ≤ m
def BxIn (m : Int) (b : Bx) : Prop := IvIn m b.1 ∧ IvIn m b.2.1 ∧ IvIn m b.2.2
abbrev M12 : Int := 1000000000000
abbrev M15 : Int := 1000000000000000
abbrev M30 : Int := 1000000000000000000000000000000
def F_check (ds : List Dt) (r : Dt) : Prop := ∃ (b : Bool) (n : Dt), ds = [.bl b, n] ∧ b = true ∧ r = .non
def F_is_name (ds : List Dt) (r : Dt) : Prop := ds = [.str "a"] ∧ r = .bl true
def F_is_tick (ds : List Dt) (r : Dt) : Prop := ∃ n : Int, ds = [.int n] ∧ r = .bl (decide (0 ≤ n) && decide (n ≤ 100000))
def F_is_box (ds : List Dt) (r : Dt) : Prop := ∃ (b : Bx) (m : Int), ds = [bx b, .int m] ∧ BxIn m b ∧ r = .bl true
def FI_Body (ds ds' : List Dt) : Prop := ∃ mu ob : Int, ds = [.int mu, .int ob, .tup [.int 1, .int 0, .int 1]] ∧ 1 ≤ mu ∧ mu ≤ M30 ∧ 0 ≤ ob ∧ ob ≤ M30 ∧ ds' = [.int mu, .int ob, .tup [.int 1, .int 0, .int 1]]
def BurnOk (b : BurnT) : Prop := 0 ≤ b.1 ∧ b.1 < b.2.1 ∧ b.2.1 ≤ 100000 ∧ BxIn M12 b.2.2
def SightOk (s : SightT) : Prop := 0 ≤ s.1 ∧ s.1 ≤ 100000 ∧ BxIn M15 s.2
def FI_Burn (ds ds' : List Dt) : Prop := ∃ b : BurnT, ds = [.int b.1, .int b.2.1, bx b.2.2] ∧ BurnOk b ∧ ds' = [.int b.1, .int b.2.1, bx b.2.2]
def FI_Sighting (ds ds' : List Dt) : Prop := ∃ s : SightT, ds = [.int s.1, bx s.2] ∧ SightOk s ∧ ds' = [.int s.1, bx s.2]
structure MadeOk (c : CraftT) : Prop where
  name : c.name = "a"
  start0 : 0 ≤ c.start
  start1 : c.start ≤ 100000
  place : BxIn M15 c.place
  speed : BxIn M15 c.speed
  drift0 : 0 ≤ c.drift
  drift1 : c.drift ≤ M12
def FI_Craft (K : PySem.W.Frag) (ds ds' : List Dt) : Prop := ∃ c : CraftT, ds = [.str c.name, .int c.start, bx c.place, bx c.speed, .int c.drift, .lst (c.burns.map (burnD K)), .lst (c.sights.map (sightD K))] ∧ MadeOk c ∧
  ds' = [.str c.name, .int c.start, bx c.place, bx c.speed, .int c.drift, .tup (c.burns.map (burnD K)), .tup (c.sights.map (sightD K))]
theorem tick_true {n : Int} (h : 0 ≤ n) (h2 : n ≤ 100000) : (decide (0 ≤ n) && decide (n ≤ 100000)) = true := by
  rw [decide_eq_true h, decide_eq_true h2]
  rfl
theorem and_dec {p q : Prop} [Decidable p] [Decidable q] (h : p) (h2 : q) : (decide p && decide q) = true := by
  rw [decide_eq_true h, decide_eq_true h2]
  rfl
section
variable {P : Program} {w : World} {K : PySem.W.Frag} {mg : Str → Option Value} {base : Heap}
theorem sc_check : FnScope ["good", "name"] ["good", "name"] (defScope Tx.s_check) := ⟨rfl, rfl, rfl, by decide +kernel, rfl, by decide +kernel, by decide +kernel⟩
theorem ok_check (C : Ft.Ctx K mg) : OkF P w K mg base "check" 1 ["good", "name"] F_check := by
  refine Ft.mkF (Ft.f_check C) (Ft.g_check C) rfl sc_check (by rintro ds r ⟨b, n, rfl, _, rfl⟩; rfl) (fun _ _ _ _ _ _ us hl => match us, hl with | [_, _], _ => rfl) ?_
  rintro f cdv A outer s H E ds r hr ⟨b, n, rfl, rfl, rfl⟩
  refine sds_one (sd_if (ptd_not (ptd_val (pd_var 0))) (fun h => ?_) (fun h => ?_))
  · cases h
  · exact sds_nil rfl
theorem sc_is_name : FnScope ["text", "char"] ["text"] (defScope Tx.s_is_name) := ⟨rfl, rfl, rfl, by decide +kernel, rfl, by decide +kernel, by decide +kernel⟩
theorem a_signs : ∀ c ∈ ("a" : Str).cps.toList, c ∈ ("abcdefghijklmnopqrstuvwxyz0123456789_" : Str).cps.toList := by decide +kernel
theorem a_len : (!(decide ((1 : Int) ≤ (("a" : Str).length : Int)) && decide ((("a" : Str).length : Int) ≤ 12))) = false := by decide +kernel
theorem ok_is_name (C : Ft.Ctx K mg) : OkF P w K mg base "is_name" 1 ["text"] F_is_name := by
  refine Ft.mkF (Ft.f_is_name C) (Ft.g_is_name C) rfl sc_is_name (by rintro ds r ⟨rfl, rfl⟩; rfl) (fun _ _ _ _ _ _ us hl => match us, hl with | [_], _ => rfl) ?_
  rintro f cdv A outer s H E ds r hr ⟨rfl, rfl⟩
  refine sds_cons (sd_if (ptd_not (ptd_lele pd_int (pd_lenT (Ft.z_len C) (pd_var 0) (by decide +kernel)) pd_int)) (fun h => ?_) (fun h => ?_))
  · rw [a_len] at h
    cases h
  · refine sds_nil ?_
    refine sds_cons (sd_forS (z := "a") PassesOwn.never rfl (pd_var 0) (fun i δ => ∃ y, δ = [im (.str "a"), y]) ⟨_, rfl⟩ (fun i c δ' hd hI => ?_) (fun δ' hI => ?_))
    · obtain ⟨y, rfl⟩ := hI
      refine ⟨_, gd_name 1 sc_is_name.nd, ?_⟩
      have hc : c ∈ ("a" : Str).cps.toList := by
        rw [Array.mem_toList_iff]
        exact Array.mem_of_getElem? hd
      refine sds_one (sd_if (ptd_notInSign (pd_var 1) pd_str) (fun h => ?_) (fun h => ?_))
      · rw [decide_eq_true (a_signs c hc)] at h
        cases h
      · exact sds_nil ⟨_, rfl⟩
    · obtain ⟨y, rfl⟩ := hI
      exact sds_one (sd_ret pd_bl rfl)
theorem sc_is_tick : FnScope ["number"] ["number"] (defScope Tx.s_is_tick) := ⟨rfl, rfl, rfl, by decide +kernel, rfl, by decide +kernel, by decide +kernel⟩
theorem ok_is_tick (C : Ft.Ctx K mg) : OkF P w K mg base "is_tick" 1 ["number"] F_is_tick := by
  refine Ft.mkF (Ft.f_is_tick C) (Ft.g_is_tick C) rfl sc_is_tick (by rintro ds r ⟨n, rfl, rfl⟩; rfl) (fun _ _ _ _ _ _ us hl => match us, hl with | [_], _ => rfl) ?_
  rintro f cdv A outer s H E ds r hr ⟨n, rfl, rfl⟩
  exact sds_one (sd_ret (pd_lele pd_int (pd_var 0) (pd_gint (Ft.i_LAST_TICK C))) rfl)
theorem sc_is_box : FnScope ["box", "most", "low", "high"] ["box", "most"] (defScope Tx.s_is_box) := ⟨rfl, rfl, rfl, by decide +kernel, rfl, by decide +kernel, by decide +kernel⟩
theorem ok_is_box (C : Ft.Ctx K mg) : OkF P w K mg base "is_box" 1 ["box", "most"] F_is_box := by
  refine Ft.mkF (Ft.f_is_box C) (Ft.g_is_box C) rfl sc_is_box (by rintro ds r ⟨b, m, rfl, hb, rfl⟩; rfl) (fun _ _ _ _ _ _ us hl => match us, hl with | [_, _], _ => rfl) ?_
  rintro f cdv A outer s H E ds r hr ⟨b, m, rfl, hb, rfl⟩
  refine sds_cons (sd_forT (ds := [b.1, b.2.1, b.2.2].map iv) PassesOwn.never rfl (pd_var 0) (fun i δ => ∃ y2 y3, δ = [im (bx b), im (.int m), y2, y3]) ⟨_, _, rfl⟩ (fun i d δ' hd hI => ?_) (fun δ' hI => ?_))
  · obtain ⟨y2, y3, rfl⟩ := hI
    obtain ⟨a, ha, rfl⟩ := map_at hd
    have hin : IvIn m a := by
      have hm := List.mem_of_getElem? ha
      simp only [List.mem_cons, List.not_mem_nil, or_false] at hm
      rcases hm with rfl | rfl | rfl
      · exact hb.1
      · exact hb.2.1
      · exact hb.2.2
    obtain ⟨h1, h2, h3⟩ := hin
    refine ⟨_, gd_tup rfl (gds_cons (gd_name 2 sc_is_box.nd) (gds_cons (gd_name 3 sc_is_box.nd) gds_nil)) rfl, ?_⟩
    refine sds_one (sd_if (ptd_not (ptd_lelele (pd_neg (pd_var 1)) (pd_var 2) (pd_var 3) (pd_var 1))) (fun h => ?_) (fun h => ?_))
    · rw [decide_eq_true h1, decide_eq_true h2, decide_eq_true h3] at h
      cases h
    · exact sds_nil ⟨_, _, rfl⟩
  · obtain ⟨y2, y3, rfl⟩ := hI
    exact sds_one (sd_ret pd_bl rfl)
theorem sc_Body_init : FnScope ["self", "mu", "oblateness", "turn", "a", "b", "n"] ["self", "mu", "oblateness", "turn"] (defScope Tx.s_Body_init) := ⟨rfl, rfl, rfl, by decide +kernel, rfl, by decide +kernel, by decide +kernel⟩
theorem ok_Body (C : Ft.Ctx K mg) : OkI P w K mg base "Body" (He.ga K "Body") 2 ["self", "mu", "oblateness", "turn"] Ft.ks_Body FI_Body := by
  refine Ft.mkI (Ft.f_Body_init C) (Ft.m_Body C) (Ft.g_Body C) rfl sc_Body_init (by rintro ds r ⟨mu, ob, rfl, _, _, _, _, rfl⟩; rfl) (fun _ _ _ _ _ _ us hl => match us, hl with | [_, _, _, _], _ => rfl) ?_
  rintro f cdv A outer s H E ds r xo hr ⟨mu, ob, rfl, h1, h2, h3, h4, rfl⟩
  have e30 : (10 : Int) ^ (30 : Int).toNat = M30 := by decide
  refine sds_cons (sd_drop (pd_call (ok_check C) (hr.mono (by decide)) (pad_cons (pd_lele pd_int (pd_var 1) (pd_pow pd_int pd_int ⟨by decide, by decide, by decide⟩)) (pad_cons pd_str pad_nil)) ⟨_, _, rfl, by rw [e30]; exact and_dec h1 h2, rfl⟩) ?_)
  refine sds_cons (sd_drop (pd_call (ok_check C) (hr.mono (by decide)) (pad_cons (pd_lele pd_int (pd_var 2) (pd_pow pd_int pd_int ⟨by decide, by decide, by decide⟩)) (pad_cons pd_str pad_nil)) ⟨_, _, rfl, by rw [e30]; exact and_dec h3 h4, rfl⟩) ?_)
  refine sds_cons (sd_asg (pd_var 3) (gd_tup rfl (gds_cons (gd_name 4 sc_Body_init.nd) (gds_cons (gd_name 5 sc_Body_init.nd) (gds_cons (gd_name 6 sc_Body_init.nd) gds_nil))) rfl) ?_)
  refine sds_cons (sd_drop (pd_call (ok_check C) (hr.mono (by decide)) (pad_cons (pd_and (pd_lele pd_int (pd_var 6) (pd_pow pd_int pd_int ⟨by decide, by decide, by decide⟩)) (pd_one (pd_eqI (pd_add (pd_mul (pd_var 4) (pd_var 4) (.inl (.inl ⟨by decide, by decide⟩))) (pd_mul (pd_var 5) (pd_var 5) (.inl (.inl ⟨by decide, by decide⟩)))) (pd_mul (pd_var 6) (pd_var 6) (.inl (.inl ⟨by decide, by decide⟩)))))) (pad_cons pd_str pad_nil)) ⟨_, _, rfl, by decide, rfl⟩) ?_)
  refine sds_cons (sd_fld (Ft.kc_Body C) rfl (pd_var 1) ?_)
  refine sds_cons (sd_fld (Ft.kc_Body C) rfl (pd_var 2) ?_)
  exact sds_one (sd_fld (Ft.kc_Body C) rfl (pd_var 3) rfl)
theorem sc_Burn_init : FnScope ["self", "begin", "end", "push"] ["self", "begin", "end", "push"] (defScope Tx.s_Burn_init) := ⟨rfl, rfl, rfl, by decide +kernel, rfl, by decide +kernel, by decide +kernel⟩
theorem ok_Burn (C : Ft.Ctx K mg) : OkI P w K mg base "Burn" (He.ga K "Burn") 2 ["self", "begin", "end", "push"] Ft.ks_Burn FI_Burn := by
  refine Ft.mkI (Ft.f_Burn_init C) (Ft.m_Burn C) (Ft.g_Burn C) rfl sc_Burn_init (by rintro ds r ⟨b, rfl, _, rfl⟩; rfl) (fun _ _ _ _ _ _ us hl => match us, hl with | [_, _, _, _], _ => rfl) ?_
  rintro f cdv A outer s H E ds r xo hr ⟨b, rfl, ⟨h1, h2, h3, h4⟩, rfl⟩
  have e12 : (10 : Int) ^ 12 = M12 := by decide
  refine sds_cons (sd_drop (pd_call (ok_check C) (hr.mono (by decide)) (pad_cons (pd_call (ok_is_tick C) (hr.mono (by decide)) (pad_cons (pd_var 1) pad_nil) ⟨b.1, rfl, rfl⟩) (pad_cons pd_str pad_nil)) ⟨_, _, rfl, tick_true h1 (by omega), rfl⟩) ?_)
  refine sds_cons (sd_drop (pd_call (ok_check C) (hr.mono (by decide)) (pad_cons (pd_and (pd_call (ok_is_tick C) (hr.mono (by decide)) (pad_cons (pd_var 2) pad_nil) ⟨b.2.1, rfl, rfl⟩) (pd_one (pd_lt (pd_var 1) (pd_var 2)))) (pad_cons pd_str pad_nil)) ⟨_, _, rfl, by rw [tick_true (by omega) h3, decide_eq_true h2]; rfl, rfl⟩) ?_)
  refine sds_cons (sd_drop (pd_call (ok_check C) (hr.mono (by decide)) (pad_cons (pd_call (ok_is_box C) (hr.mono (by decide)) (pad_cons (pd_var 3) (pad_cons (pd_gint (Ft.i_MOST_DRIFT C)) pad_nil)) ⟨b.2.2, _, rfl, by rw [e12]; exact h4, rfl⟩) (pad_cons pd_str pad_nil)) ⟨_, _, rfl, rfl, rfl⟩) ?_)
  refine sds_cons (sd_fld (Ft.kc_Burn C) rfl (pd_var 1) ?_)
  refine sds_cons (sd_fld (Ft.kc_Burn C) rfl (pd_var 2) ?_)
  exact sds_one (sd_fld (Ft.kc_Burn C) rfl (pd_var 3) rfl)
theorem sc_Sighting_init : FnScope ["self", "at", "place"] ["self", "at", "place"] (defScope Tx.s_Sighting_init) := ⟨rfl, rfl, rfl, by decide +kernel, rfl, by decide +kernel, by decide +kernel⟩
theorem ok_Sighting (C : Ft.Ctx K mg) : OkI P w K mg base "Sighting" (He.ga K "Sighting") 2 ["self", "at", "place"] Ft.ks_Sighting FI_Sighting := by
  refine Ft.mkI (Ft.f_Sighting_init C) (Ft.m_Sighting C) (Ft.g_Sighting C) rfl sc_Sighting_init (by rintro ds r ⟨b, rfl, _, rfl⟩; rfl) (fun _ _ _ _ _ _ us hl => match us, hl with | [_, _, _], _ => rfl) ?_
  rintro f cdv A outer s H E ds r xo hr ⟨b, rfl, ⟨h1, h2, h3⟩, rfl⟩
  have e15 : (10 : Int) ^ 15 = M15 := by decide
  refine sds_cons (sd_drop (pd_call (ok_check C) (hr.mono (by decide)) (pad_cons (pd_call (ok_is_tick C) (hr.mono (by decide)) (pad_cons (pd_var 1) pad_nil) ⟨b.1, rfl, rfl⟩) (pad_cons pd_str pad_nil)) ⟨_, _, rfl, tick_true h1 h2, rfl⟩) ?_)
  refine sds_cons (sd_drop (pd_call (ok_check C) (hr.mono (by decide)) (pad_cons (pd_call (ok_is_box C) (hr.mono (by decide)) (pad_cons (pd_var 2) (pad_cons (pd_gint (Ft.i_MOST C)) pad_nil)) ⟨b.2, _, rfl, by rw [e15]; exact h3, rfl⟩) (pad_cons pd_str pad_nil)) ⟨_, _, rfl, rfl, rfl⟩) ?_)
  refine sds_cons (sd_fld (Ft.kc_Sighting C) rfl (pd_var 1) ?_)
  exact sds_one (sd_fld (Ft.kc_Sighting C) rfl (pd_var 2) rfl)
theorem sc_Craft_init : FnScope ["self", "name", "start", "place", "speed", "drift", "burns", "sightings"] ["self", "name", "start", "place", "speed", "drift", "burns", "sightings"] (defScope Tx.s_Craft_init) := ⟨rfl, rfl, rfl, by decide +kernel, rfl, by decide +kernel, by decide +kernel⟩
theorem ok_Craft (C : Ft.Ctx K mg) : OkI P w K mg base "Craft" (He.ga K "Craft") 2 ["self", "name", "start", "place", "speed", "drift", "burns", "sightings"] Ft.ks_Craft (FI_Craft K) := by
  obtain ⟨fd, F1⟩ := Ft.f_Craft_init C
  refine ⟨_, fd, okI F1 sc_Craft_init (FI_Craft K) (by rintro ds r ⟨c, rfl, _, rfl⟩; rfl) ?_, ?_, Ft.m_Craft C, Ft.g_Craft C⟩
  · rintro cdv A outer s H E ds r xo hr ⟨c, rfl, hc, rfl⟩
    have e12 : (10 : Int) ^ 12 = M12 := by decide
    have e15 : (10 : Int) ^ 15 = M15 := by decide
    have hn := hc.name
    refine sds_cons (sd_drop (pd_call (ok_check C) (hr.mono (by decide)) (pad_cons (pd_call (ok_is_name C) (hr.mono (by decide)) (pad_cons (pd_var 1) pad_nil) ⟨by rw [hn], rfl⟩) (pad_cons pd_str pad_nil)) ⟨_, _, rfl, rfl, rfl⟩) ?_)
    refine sds_cons (sd_drop (pd_call (ok_check C) (hr.mono (by decide)) (pad_cons (pd_call (ok_is_tick C) (hr.mono (by decide)) (pad_cons (pd_var 2) pad_nil) ⟨c.start, rfl, rfl⟩) (pad_cons pd_str pad_nil)) ⟨_, _, rfl, tick_true hc.start0 hc.start1, rfl⟩) ?_)
    refine sds_cons (sd_drop (pd_call (ok_check C) (hr.mono (by decide)) (pad_cons (pd_call (ok_is_box C) (hr.mono (by decide)) (pad_cons (pd_var 3) (pad_cons (pd_gint (Ft.i_MOST C)) pad_nil)) ⟨c.place, _, rfl, by rw [e15]; exact hc.place, rfl⟩) (pad_cons pd_str pad_nil)) ⟨_, _, rfl, rfl, rfl⟩) ?_)
    refine sds_cons (sd_drop (pd_call (ok_check C) (hr.mono (by decide)) (pad_cons (pd_call (ok_is_box C) (hr.mono (by decide)) (pad_cons (pd_var 4) (pad_cons (pd_gint (Ft.i_MOST C)) pad_nil)) ⟨c.speed, _, rfl, by rw [e15]; exact hc.speed, rfl⟩) (pad_cons pd_str pad_nil)) ⟨_, _, rfl, rfl, rfl⟩) ?_)
    refine sds_cons (sd_drop (pd_call (ok_check C) (hr.mono (by decide)) (pad_cons (pd_lele pd_int (pd_var 5) (pd_gint (Ft.i_MOST_DRIFT C))) (pad_cons pd_str pad_nil)) ⟨_, _, rfl, by rw [e12]; exact and_dec hc.drift0 hc.drift1, rfl⟩) ?_)
    refine sds_cons (sd_fld (Ft.kc_Craft C) rfl (pd_var 1) ?_)
    refine sds_cons (sd_fld (Ft.kc_Craft C) rfl (pd_var 2) ?_)
    refine sds_cons (sd_fld (Ft.kc_Craft C) rfl (pd_var 3) ?_)
    refine sds_cons (sd_fld (Ft.kc_Craft C) rfl (pd_var 4) ?_)
    refine sds_cons (sd_fld (Ft.kc_Craft C) rfl (pd_var 5) ?_)
    refine sds_cons (sd_fld (Ft.kc_Craft C) rfl (pd_tupleL (Ft.z_tuple C) (pd_var 6)) ?_)
    exact sds_one (sd_fld (Ft.kc_Craft C) rfl (pd_tupleL (Ft.z_tuple C) (pd_var 7)) rfl)
  · obtain ⟨ds, v, b⟩ := F1.binds1 (ps := ["self", "name", "start", "place", "speed", "drift", "burns", "sightings"]) 8 2 (by intro z; cases z) rfl fun T kV doc pm an cdv ct us its h1 h2 => match us, h1, its, h2 with
      | [_, _, _, _, _, _, _, _], _, [_, _], _ => ⟨_, rfl, rfl⟩
    have e : ds = [] := by
      have v2 : Vals [] ds := v
      cases v2
      rfl
    rw [e] at b
    exact b
end
end Pr
/-! the law's small helpers -/
namespace Pr
open PySem PySem.Spec PyProof.Rows L2 DL Mi
def F_row (ds : List Dt) (r : Dt) : Prop := ∃ (ns : List Int) (k : Nat), ds = [.scr ns, .int (k : Int)] ∧ k < 1000 ∧ r = .int (rowM ns k)
def ptl (p : Pt) : Dt := .lst [.int p.1, .int p.2.1, .int p.2.2]
def F_spread (ds : List Dt) (r : Dt) : Prop := ∃ row span : Int, ds = [.int row, .int 3, .int span] ∧ 0 ≤ span ∧ span ≤ 1000000 ∧ r = ptl (spreadM row span)
def F_box (ds : List Dt) (r : Dt) : Prop := ∃ row span wide : Int, ds = [.int row, .int span, .int wide] ∧ 0 ≤ span ∧ span ≤ 1000000 ∧ 0 ≤ wide ∧ wide ≤ 1000000 ∧ r = bx (boxM row span wide)
def F_member (ds : List Dt) (r : Dt) : Prop := ∃ (b : Bx) (row : Int), ds = [bx b, .int row] ∧ BxIn M15 b ∧ r = pt (memberM b row)
def F_lroot (ds : List Dt) (r : Dt) : Prop := ∃ n : Int, ds = [.int n] ∧ 0 ≤ n ∧ Bn 200 n ∧ r = .int (isq n)
def PtB (n : Nat) (p : Pt) : Prop := Bn n p.1 ∧ Bn n p.2.1 ∧ Bn n p.2.2
def F_lpull (ds : List Dt) (r : Dt) : Prop := ∃ (mu ob : Int) (p : Pt), ds = [.int mu, .int ob, pt p] ∧ isZero p = false ∧ Bn 140 mu ∧ Bn 140 ob ∧ PtB 60 p ∧ r = pt (pullM mu ob p)
def btup (b : BurnT) : Dt := .tup [.int b.1, .int b.2.1, bx b.2.2]
def F_lpush (ds : List Dt) (r : Dt) : Prop := ∃ (burns : List BurnT) (t : Int), ds = [.lst (burns.map btup), .int t] ∧ r = bx (pushAt burns t)
def F_lin (ds : List Dt) (r : Dt) : Prop := ∃ (b : Bx) (p : Pt), ds = [bx b, pt p] ∧ r = .bl (bxHas b p)
theorem natAbs_lt {x : Int} {n : Nat} (h0 : 0 ≤ x) (h : x < (n : Int)) : x.natAbs < n := by omega
theorem divS {x y : Int} (h : 0 < y) (h2 : y < 1180591620717411303424) : CDivW x y := wide_div (b := 70) h (natAbs_lt (by omega) (by omega)) (by decide) (by decide)
theorem pt3_at (p : Pt) : ∀ {k : Nat}, k < 3 → ([.int p.1, .int p.2.1, .int p.2.2] : List Dt)[k]? = some (.int (pt3 p k))
  | 0, _ => rfl
  | 1, _ => rfl
  | 2, _ => rfl
  | k + 3, h => by omega
section
variable {P : Program} {w : World} {K : PySem.W.Frag} {mg : Str → Option Value} {base : Heap}
theorem sc_row : FnScope ["_law_script", "_law_k", "_law_row_here"] ["_law_script", "_law_k"] (defScope Tx.s__law_row) := ⟨rfl, rfl, rfl, by decide +kernel, rfl, by decide +kernel, by decide +kernel⟩
theorem ok_row (C : Ft.Ctx K mg) : OkF P w K mg base "_law_row" 1 ["_law_script", "_law_k"] F_row := by
  refine Ft.mkF (Ft.f__law_row C) (Ft.g__law_row C) rfl sc_row (by rintro ds r ⟨ns, k, rfl, _, rfl⟩; rfl) (fun _ _ _ _ _ _ us hl => match us, hl with | [_, _], _ => rfl) ?_
  rintro f cdv A outer s H E ds r hr ⟨ns, k, rfl, hk, rfl⟩
  refine sds_cons (sd_set 2 sc_row.nd pd_int ?_)
  refine sds_cons (sd_mid (fun δ => δ = [im (.scr ns), im (.int (k : Nat)), im (.int (ns.getD k 0))]) (sd_if (ptd_lt (pd_var 1) (pd_lenS (Ft.z_len C) (pd_var 0))) (fun h => ?_) (fun h => ?_)) ?_)
  · have hk2 : k < ns.length := by have := of_decide_eq_true h; omega
    refine sds_one (sd_set 2 sc_row.nd (pd_toInt (Ft.z_int C) (pd_ixS k (n := ns.getD k 0) (pd_var 0) (pd_var 1) rfl (by rw [List.getD_eq_getElem?_getD, List.getElem?_eq_getElem hk2]; rfl))) rfl)
  · have hk2 : ns.length ≤ k := by have := of_decide_eq_false h; omega
    refine sds_nil ?_
    have e : ns.getD k 0 = 0 := by rw [List.getD_eq_getElem?_getD, List.getElem?_eq_none hk2]; rfl
    rw [e]
    rfl
  · rintro δ' rfl
    unfold rowM
    generalize ns.getD k 0 = r0
    refine sds_cons (sd_mid (fun δ => δ = [im (.scr ns), im (.int (k : Nat)), im (.int (if r0 < 0 then 1 - 2 * r0 else r0))]) (sd_if (ptd_lt (pd_var 2) pd_int) (fun h => ?_) (fun h => ?_)) ?_)
    · refine sds_one (sd_set 2 sc_row.nd (pd_sub pd_int (pd_mul pd_int (pd_var 2) (.inl (.inl ⟨by decide, by decide⟩)))) ?_)
      rw [if_pos (of_decide_eq_true h)]
      rfl
    · refine sds_nil ?_
      rw [if_neg (of_decide_eq_false h)]
    · rintro δ' rfl
      dsimp only
      generalize (if r0 < 0 then 1 - 2 * r0 else r0) = r1
      have e9 : (10 : Int) ^ (9 : Int).toNat = 1000000000 := by decide
      have hm1 := Int.emod_nonneg ((r1 + 1) * 48271 + ((k : Int) + 1) * 69621) (show (2147483647 : Int) ≠ 0 by decide)
      have hm2 := Int.emod_lt_of_pos ((r1 + 1) * 48271 + ((k : Int) + 1) * 69621) (show (0 : Int) < 2147483647 by decide)
      refine sds_cons (sd_if (ptd_lt (pd_var 2) (pd_pow pd_int pd_int ⟨by decide, by decide, by decide⟩)) (fun h => ?_) (fun h => ?_))
      · have h1 : r1 < 1000000000 := by have := of_decide_eq_true h; omega
        rw [if_pos h1]
        refine sds_cons (sd_set 2 sc_row.nd (pd_mod (pd_toInt (Ft.z_int C) (pd_add (pd_mul (pd_add (pd_var 2) pd_int) pd_int (.inl (.inr ⟨by decide, by decide⟩))) (pd_mul (pd_add (pd_var 1) pd_int) pd_int (.inl (.inr ⟨by decide, by decide⟩))))) pd_int (by decide)) ?_)
        refine sds_one (sd_set 2 sc_row.nd (pd_add (pd_mul (pd_mod (pd_toInt (Ft.z_int C) (pd_add (pd_add (pd_mul (pd_var 2) pd_int (.inl (.inr ⟨by decide, by decide⟩))) (pd_mul (pd_var 1) pd_int (.inl (.inr ⟨by decide, by decide⟩)))) pd_int)) pd_int (by decide)) pd_int (.inl (.inr ⟨by decide, by decide⟩))) (pd_mod (pd_toInt (Ft.z_int C) (pd_mul (pd_var 2) (pd_var 2) (.inl (.inl ⟨by omega, by omega⟩)))) pd_int (by decide))) ?_)
        exact sds_one (sd_ret (pd_var 2) rfl)
      · have h1 : ¬ r1 < 1000000000 := by have := of_decide_eq_false h; omega
        rw [if_neg h1]
        refine sds_nil ?_
        exact sds_one (sd_ret (pd_var 2) rfl)
theorem sc_spread : FnScope ["_law_row_here", "_law_places", "_law_span", "_law_numbers", "_law_k"] ["_law_row_here", "_law_places", "_law_span"] (defScope Tx.s__law_spread) := ⟨rfl, rfl, rfl, by decide +kernel, rfl, by decide +kernel, by decide +kernel⟩
def downM (m row : Int) : Nat → Int
  | 0 => row
  | i + 1 => downM m row i / m
theorem ok_spread (C : Ft.Ctx K mg) : OkF P w K mg base "_law_spread" 1 ["_law_row_here", "_law_places", "_law_span"] F_spread := by
  refine Ft.mkF (Ft.f__law_spread C) (Ft.g__law_spread C) rfl sc_spread (by rintro ds r ⟨row, span, rfl, _, _, rfl⟩; rfl) (fun _ _ _ _ _ _ us hl => match us, hl with | [_, _, _], _ => rfl) ?_
  rintro f cdv A outer s H E ds r hr ⟨row, span, rfl, h0, h1, rfl⟩
  refine sds_cons (sd_new 3 sc_spread.nd pad_nil ?_)
  refine sds_cons (sd_forR1 PassesOwn.never rfl (Ft.z_range C) (pd_var 1) (by decide) (by decide)
    (fun i δ => ∃ y4, δ = [im (.int (downM (2 * span + 1) row i)), im (.int 3), im (.int span), some (.mls (accK (fun i => .int (downM (2 * span + 1) row i % (2 * span + 1) - span)) i)), y4]) ⟨_, rfl⟩ (fun i δ' hi hI => ?_) (fun δ' hI => ?_))
  · obtain ⟨y4, rfl⟩ := hI
    refine ⟨_, gd_name 4 sc_spread.nd, ?_⟩
    refine sds_cons (sd_append 3 rfl (pd_sub (pd_mod (pd_toInt (Ft.z_int C) (pd_var 0)) (pd_add (pd_mul pd_int (pd_var 2) (.inl (.inl ⟨by decide, by decide⟩))) pd_int) (by omega)) (pd_var 2)) (by rw [accK_len]; omega) ?_ (hp := pe_bm PySem.F.plainAttrs_list PySem.F.slot_list_append PySem.F.type_list_append mt_append (pv 3) (pa_cons (pe_w _) pa_nil)))
    refine sds_one (sd_set 0 sc_spread.nd (pd_fdiv (pd_var 0) (pd_add (pd_mul pd_int (pd_var 2) (.inl (.inl ⟨by decide, by decide⟩))) pd_int) (divS (by omega) (by omega))) ?_)
    exact ⟨_, by rw [accK_succ]; rfl⟩
  · obtain ⟨y4, rfl⟩ := hI
    refine sds_forget [4] (sds_frz 3 rfl ?_)
    exact sds_one (sd_ret (pd_var 3) rfl)
theorem sc_box : FnScope ["_law_row_here", "_law_span", "_law_wide", "_law_centres", "_law_box_here", "_law_k", "_law_half"] ["_law_row_here", "_law_span", "_law_wide"] (defScope Tx.s__law_box) := ⟨rfl, rfl, rfl, by decide +kernel, rfl, by decide +kernel, by decide +kernel⟩
theorem ok_box (C : Ft.Ctx K mg) : OkF P w K mg base "_law_box" 2 ["_law_row_here", "_law_span", "_law_wide"] F_box := by
  refine Ft.mkF (Ft.f__law_box C) (Ft.g__law_box C) rfl sc_box (by rintro ds r ⟨row, span, wide, rfl, _, _, _, _, rfl⟩; rfl) (fun _ _ _ _ _ _ us hl => match us, hl with | [_, _, _], _ => rfl) ?_
  rintro f cdv A outer s H E ds r hr ⟨row, span, wide, rfl, h0, h1, h2, h3, rfl⟩
  have m0 : 0 < 2 * span + 1 := by omega
  have m1 : 0 < (2 * span + 1) ^ (3 : Int).toNat := Int.pow_pos m0
  have mB : Bn 21 (2 * span + 1) := natAbs_lt (by omega) (by omega)
  have m2 : ((2 * span + 1) ^ (3 : Int).toNat).natAbs < 2 ^ 70 := by
    have e : (2 * span + 1) ^ (3 : Int).toNat = (2 * span + 1) * (2 * span + 1) * (2 * span + 1) := by
      show (2 * span + 1) ^ 3 = _
      rw [Int.pow_succ, Int.pow_succ, Int.pow_succ, Int.pow_zero, Int.one_mul]
    rw [e]
    exact ((mB.mul mB).mul mB).mono (by decide)
  refine sds_cons (sd_set 3 sc_box.nd (pd_call (ok_spread C) (hr.mono (by decide)) (pad_cons (pd_var 0) (pad_cons pd_int (pad_cons (pd_var 1) pad_nil))) ⟨row, span, rfl, h0, h1, rfl⟩) ?_)
  refine sds_cons (sd_set 0 sc_box.nd (pd_fdiv (pd_var 0) (pd_pow (pd_add (pd_mul pd_int (pd_var 1) (.inl (.inl ⟨by decide, by decide⟩))) pd_int) pd_int ⟨by decide, by decide, natAbs_lt (by omega) (by omega)⟩) (wide_div m1 m2 (by decide) (by decide))) ?_)
  refine sds_cons (sd_new 4 sc_box.nd pad_nil ?_)
  refine sds_cons (sd_forR1 PassesOwn.never rfl (Ft.z_range C) pd_int (by decide) (by decide)
    (fun i δ => ∃ y5 y6, δ = [im (.int (downM (wide + 1) (row / (2 * span + 1) ^ 3) i)), im (.int span), im (.int wide), im (ptl (spreadM row span)), some (.mls (accK (fun i => iv (around (pt3 (spreadM row span) i) (downM (wide + 1) (row / (2 * span + 1) ^ 3) i % (wide + 1)))) i)), y5, y6]) ⟨_, _, rfl⟩ (fun i δ' hi hI => ?_) (fun δ' hI => ?_))
  · obtain ⟨y5, y6, rfl⟩ := hI
    have hi3 : i < 3 := by omega
    refine ⟨_, gd_name 5 sc_box.nd, ?_⟩
    refine sds_cons (sd_set 6 sc_box.nd (pd_mod (pd_toInt (Ft.z_int C) (pd_var 0)) (pd_add (pd_var 2) pd_int) (by omega)) ?_)
    refine sds_cons (sd_set 0 sc_box.nd (pd_fdiv (pd_var 0) (pd_add (pd_var 2) pd_int) (divS (by omega) (by omega))) ?_)
    refine sds_one (sd_append 4 rfl (pd_tup (pad_cons (pd_sub (pd_ixL i (pd_var 3) (pd_var 5) rfl (pt3_at _ hi3)) (pd_var 6)) (pad_cons (pd_add (pd_ixL i (pd_var 3) (pd_var 5) rfl (pt3_at _ hi3)) (pd_var 6)) pad_nil))) (by rw [accK_len]; omega) ?_ (hp := pe_bm PySem.F.plainAttrs_list PySem.F.slot_list_append PySem.F.type_list_append mt_append (pv 4) (pa_cons (pe_w _) pa_nil)))
    exact ⟨_, _, by rw [accK_succ]; rfl⟩
  · obtain ⟨y5, y6, rfl⟩ := hI
    refine sds_forget [5, 6] (sds_frz 4 rfl ?_)
    exact sds_one (sd_ret (pd_tup (pad_cons (pd_ixL 0 (pd_var 4) pd_int) (pad_cons (pd_ixL 1 (pd_var 4) pd_int) (pad_cons (pd_ixL 2 (pd_var 4) pd_int) pad_nil)))) rfl)
theorem sc_member : FnScope ["_law_box_here", "_law_row_here", "_law_point", "_law_low", "_law_high"] ["_law_box_here", "_law_row_here"] (defScope Tx.s__law_member) := ⟨rfl, rfl, rfl, by decide +kernel, rfl, by decide +kernel, by decide +kernel⟩
def wid (b : Bx) (k : Nat) : Int := (bx3 b k).2 - (bx3 b k).1 + 1
def downB (b : Bx) (row : Int) : Nat → Int
  | 0 => row
  | i + 1 => downB b row i / wid b i
theorem bx3_in15 {b : Bx} (h : BxIn M15 b) : ∀ k, IvIn M15 (bx3 b k)
  | 0 => h.1
  | 1 => h.2.1
  | _ + 2 => h.2.2
theorem bx3_at2 (b : Bx) {k : Nat} {d : Dt} (h : ([iv b.1, iv b.2.1, iv b.2.2] : List Dt)[k]? = some d) : k < 3 ∧ d = iv (bx3 b k) := by
  have lt := (List.getElem?_eq_some_iff.mp h).1
  have lt3 : k < 3 := lt
  rw [bx3_at b lt3] at h
  exact ⟨lt3, (Option.some.inj h).symm⟩
theorem ok_member (C : Ft.Ctx K mg) : OkF P w K mg base "_law_member" 1 ["_law_box_here", "_law_row_here"] F_member := by
  refine Ft.mkF (Ft.f__law_member C) (Ft.g__law_member C) rfl sc_member (by rintro ds r ⟨b, row, rfl, _, rfl⟩; rfl) (fun _ _ _ _ _ _ us hl => match us, hl with | [_, _], _ => rfl) ?_
  rintro f cdv A outer s H E ds r hr ⟨b, row, rfl, hb, rfl⟩
  refine sds_cons (sd_new 2 sc_member.nd pad_nil ?_)
  refine sds_cons (sd_forT (ds := [iv b.1, iv b.2.1, iv b.2.2]) PassesOwn.never rfl (pd_var 0)
    (fun i δ => ∃ y3 y4, δ = [im (bx b), im (.int (downB b row i)), some (.mls (accK (fun i => .int ((bx3 b i).1 + downB b row i % wid b i)) i)), y3, y4]) ⟨_, _, rfl⟩ (fun i d δ' hd hI => ?_) (fun δ' hI => ?_))
  · obtain ⟨y3, y4, rfl⟩ := hI
    obtain ⟨hi3, rfl⟩ := bx3_at2 b hd
    obtain ⟨q1, q2, q3⟩ := bx3_in15 hb i
    rw [show M15 = 1000000000000000 from rfl] at q1 q3
    have w0 : 0 < (bx3 b i).2 - (bx3 b i).1 + 1 := by omega
    have w1 : (bx3 b i).2 - (bx3 b i).1 + 1 < 1180591620717411303424 := by omega
    refine ⟨_, gd_tup rfl (gds_cons (gd_name 3 sc_member.nd) (gds_cons (gd_name 4 sc_member.nd) gds_nil)) rfl, ?_⟩
    refine sds_cons (sd_append 2 rfl (pd_add (pd_var 3) (pd_mod (pd_toInt (Ft.z_int C) (pd_var 1)) (pd_add (pd_sub (pd_var 4) (pd_var 3)) pd_int) w0)) (by rw [accK_len]; omega) ?_ (hp := pe_bm PySem.F.plainAttrs_list PySem.F.slot_list_append PySem.F.type_list_append mt_append (pv 2) (pa_cons (pe_w _) pa_nil)))
    refine sds_one (sd_set 1 sc_member.nd (pd_fdiv (pd_var 1) (pd_add (pd_sub (pd_var 4) (pd_var 3)) pd_int) (divS w0 w1)) ?_)
    exact ⟨_, _, by rw [accK_succ]; rfl⟩
  · obtain ⟨y3, y4, rfl⟩ := hI
    refine sds_forget [3, 4] (sds_frz 2 rfl ?_)
    exact sds_one (sd_ret (pd_tup (pad_cons (pd_ixL 0 (pd_var 2) pd_int) (pad_cons (pd_ixL 1 (pd_var 2) pd_int) (pad_cons (pd_ixL 2 (pd_var 2) pd_int) pad_nil)))) rfl)
theorem sc_lpush : FnScope ["_law_burns", "_law_at", "_law_begin", "_law_end", "_law_box_here"] ["_law_burns", "_law_at"] (defScope Tx.s__law_push) := ⟨rfl, rfl, rfl, by decide +kernel, rfl, by decide +kernel, by decide +kernel⟩
theorem ok_lpush (C : Ft.Ctx K mg) : OkF P w K mg base "_law_push" 1 ["_law_burns", "_law_at"] F_lpush := by
  refine Ft.mkF (Ft.f__law_push C) (Ft.g__law_push C) rfl sc_lpush (by rintro ds r ⟨bs, t, rfl, rfl⟩; rfl) (fun _ _ _ _ _ _ us hl => match us, hl with | [_, _], _ => rfl) ?_
  rintro f cdv A outer s H E ds r hr ⟨bs, t, rfl, rfl⟩
  refine sds_cons (sd_forL PassesOwn.never rfl (pd_var 0) (fun i δ => ∃ y2 y3 y4, δ = [im (.lst (bs.map btup)), im (.int t), y2, y3, y4] ∧ ∀ b ∈ bs.take i, (decide (b.1 ≤ t) && decide (t < b.2.1)) = false) ⟨_, _, _, rfl, by simp⟩ (fun i d δ' hd hI => ?_) (fun δ' hI => ?_))
  · obtain ⟨y2, y3, y4, rfl, n⟩ := hI
    obtain ⟨b, hb, rfl⟩ := map_at hd
    refine ⟨_, gd_tup rfl (gds_cons (gd_name 2 sc_lpush.nd) (gds_cons (gd_name 3 sc_lpush.nd) (gds_cons (gd_name 4 sc_lpush.nd) gds_nil))) rfl, ?_⟩
    refine sds_one (sd_if (ptd_lelt (pd_var 2) (pd_var 1) (pd_var 3)) (fun h => ?_) (fun h => ?_))
    · exact sds_one (sd_ret (pd_var 4) (by unfold pushAt; rw [find_take hb n h]))
    · exact sds_nil ⟨_, _, _, rfl, take_next hb n h⟩
  · obtain ⟨y2, y3, y4, rfl, n⟩ := hI
    rw [List.length_map] at n
    exact sds_one (sd_ret (pd_tup (pad_cons (pd_tup (pad_cons pd_int (pad_cons pd_int pad_nil))) (pad_cons (pd_tup (pad_cons pd_int (pad_cons pd_int pad_nil))) (pad_cons (pd_tup (pad_cons pd_int (pad_cons pd_int pad_nil))) pad_nil)))) (by unfold pushAt; rw [find_none n]; rfl))
theorem sc_lin : FnScope ["_law_box_here", "_law_point", "_law_k"] ["_law_box_here", "_law_point"] (defScope Tx.s__law_in) := ⟨rfl, rfl, rfl, by decide +kernel, rfl, by decide +kernel, by decide +kernel⟩
theorem has3 {b : Bx} {p : Pt} : bxHas b p = (ivHas (bx3 b 0) (pt3 p 0) && (ivHas (bx3 b 1) (pt3 p 1) && ivHas (bx3 b 2) (pt3 p 2))) := rfl
theorem ok_lin (C : Ft.Ctx K mg) : OkF P w K mg base "_law_in" 1 ["_law_box_here", "_law_point"] F_lin := by
  refine Ft.mkF (Ft.f__law_in C) (Ft.g__law_in C) rfl sc_lin (by rintro ds r ⟨b, p, rfl, rfl⟩; rfl) (fun _ _ _ _ _ _ us hl => match us, hl with | [_, _], _ => rfl) ?_
  rintro f cdv A outer s H E ds r hr ⟨b, p, rfl, rfl⟩
  refine sds_cons (sd_forR1 PassesOwn.never rfl (Ft.z_range C) pd_int (by decide) (by decide) (fun i δ => ∃ y2, δ = [im (bx b), im (pt p), y2] ∧ ∀ j, j < i → ivHas (bx3 b j) (pt3 p j) = true) ⟨_, rfl, by simp⟩ (fun i δ' hi hI => ?_) (fun δ' hI => ?_))
  · obtain ⟨y2, rfl, n⟩ := hI
    have hi3 : i < 3 := by omega
    refine ⟨_, gd_name 2 sc_lin.nd, ?_⟩
    refine sds_one (sd_if (ptd_not (ptd_lele (pd_ixT 0 (pd_ixT (d := iv (bx3 b i)) i (pd_var 0) (pd_var 2) rfl (bx3_at b hi3)) pd_int) (pd_ixT i (pd_var 1) (pd_var 2) rfl (pt3_at p hi3)) (pd_ixT 1 (pd_ixT (d := iv (bx3 b i)) i (pd_var 0) (pd_var 2) rfl (bx3_at b hi3)) pd_int))) (fun h => ?_) (fun h => ?_))
    · have hf : ivHas (bx3 b i) (pt3 p i) = false := by
        have h' : (!(ivHas (bx3 b i) (pt3 p i))) = true := h
        cases e : ivHas (bx3 b i) (pt3 p i) with
        | false => rfl
        | true => rw [e] at h'; cases h'
      refine sds_one (sd_ret pd_bl ?_)
      have e : bxHas b p = false := by
        rw [has3]
        match i, hi3, hf with
        | 0, _, hf => rw [hf]; rfl
        | 1, _, hf => rw [hf, Bool.false_and, Bool.and_false]
        | 2, _, hf => rw [hf, Bool.and_false, Bool.and_false]
      rw [e]
    · have ht : ivHas (bx3 b i) (pt3 p i) = true := by
        have h' : (!(ivHas (bx3 b i) (pt3 p i))) = false := h
        cases e : ivHas (bx3 b i) (pt3 p i) with
        | true => rfl
        | false => rw [e] at h'; cases h'
      refine sds_nil ⟨_, rfl, fun j hj => ?_⟩
      by_cases e : j = i
      · rw [e]; exact ht
      · exact n j (by omega)
  · obtain ⟨y2, rfl, n⟩ := hI
    have n3 : ∀ j, j < 3 → ivHas (bx3 b j) (pt3 p j) = true := n
    exact sds_one (sd_ret pd_bl (by rw [has3, n3 0 (by decide), n3 1 (by decide), n3 2 (by decide)]; rfl))
end
end Pr
/-! the law's root and pull -/
namespace Pr
open PySem PySem.Spec PyProof.Rows L2 DL Mi
theorem isq_uniq {n a : Int} (h0 : 0 ≤ a) (h1 : a * a ≤ n) (h2 : n < (a + 1) * (a + 1)) : a = isq n := by
  have n0 : 0 ≤ n := Int.le_trans (Mi.sq_nonneg a) h1
  obtain ⟨b0, b1, b2⟩ := isq_spec n0
  rcases Int.lt_trichotomy a (isq n) with l | l | l
  · have := sq_mono (by omega : 0 ≤ a + 1) (by omega : a + 1 ≤ isq n)
    omega
  · exact l
  · have := sq_mono (by omega : 0 ≤ isq n + 1) (by omega : isq n + 1 ≤ a)
    omega
theorem bn2 (i : Nat) : Bn (i + 1) ((2 : Int) ^ i) := by
  show ((2 : Int) ^ i).natAbs < 2 ^ (i + 1)
  rw [Int.natAbs_pow]
  exact Nat.pow_lt_pow_right (by decide) (Nat.lt_succ_self i)
theorem two_sq (i : Nat) : (2 : Int) ^ i * 2 ^ i = 2 ^ (2 * i) := by rw [← Int.pow_add]; congr 1; omega
theorem two_pos (i : Nat) : (0 : Int) < 2 ^ i := Int.pow_pos (by decide)
theorem two_mono {i j : Nat} (h : i ≤ j) : (2 : Int) ^ i ≤ 2 ^ j := by
  obtain ⟨k, rfl⟩ := Nat.exists_eq_add_of_le h
  rw [Int.pow_add]
  have a := two_pos i
  have b := two_pos k
  have := Int.mul_le_mul_of_nonneg_left (show (1 : Int) ≤ 2 ^ k by omega) (Int.le_of_lt a)
  omega
theorem two_lt {i : Nat} {n : Int} (h : (2 : Int) ^ i * 2 ^ i ≤ n) (hb : Bn 200 n) : i < 100 := by
  rw [two_sq] at h
  rcases Nat.lt_or_ge i 100 with l | l
  · exact l
  · have m := two_mono (show 200 ≤ 2 * i by omega)
    have hb' : n.natAbs < 2 ^ 200 := hb
    have e : ((2 ^ 200 : Nat) : Int) = 2 ^ 200 := by norm_cast
    generalize (2 : Int) ^ (2 * i) = a at *
    generalize (2 : Int) ^ 200 = b at *
    generalize 2 ^ 200 = c at *
    omega
theorem bn_le {n : Nat} {x y : Int} (h : Bn n y) (h0 : 0 ≤ x) (h1 : x ≤ y) : Bn n x := by
  have h' : y.natAbs < 2 ^ n := h
  show x.natAbs < 2 ^ n
  omega
section
variable {P : Program} {w : World} {K : PySem.W.Frag} {mg : Str → Option Value} {base : Heap}
theorem sc_lroot : FnScope ["_law_n", "_law_low", "_law_high", "_law_k", "_law_middle"] ["_law_n"] (defScope Tx.s__law_root) := ⟨rfl, rfl, rfl, by decide +kernel, rfl, by decide +kernel, by decide +kernel⟩
theorem ok_lroot (C : Ft.Ctx K mg) : OkF P w K mg base "_law_root" 1 ["_law_n"] F_lroot := by
  refine Ft.mkF (Ft.f__law_root C) (Ft.g__law_root C) rfl sc_lroot (by rintro ds r ⟨n, rfl, _, _, rfl⟩; rfl) (fun _ _ _ _ _ _ us hl => match us, hl with | [_], _ => rfl) ?_
  rintro f cdv A outer s H E ds r hr ⟨n, rfl, h0, hb, rfl⟩
  refine sds_cons (sd_set 1 sc_lroot.nd pd_int ?_)
  refine sds_cons (sd_set 2 sc_lroot.nd pd_int ?_)
  refine sds_cons (sd_mid (fun δ => ∃ (i : Nat) (y3 y4 : Option SD), δ = [im (.int n), im (.int 0), im (.int (2 ^ i)), y3, y4] ∧ i ≤ 100 ∧ n < 2 ^ i * 2 ^ i)
    (sd_forR1 PassesOwn.never rfl (Ft.z_range C) pd_int (by decide) (by decide) (fun i δ => ∃ (y3 y4 : Option SD), δ = [im (.int n), im (.int 0), im (.int (2 ^ i)), y3, y4] ∧ i ≤ 100) ⟨_, _, rfl, by decide⟩ (fun i δ' hi hI => ?_) (fun δ' hI => ?_)) ?_)
  · obtain ⟨y3, y4, rfl, i1⟩ := hI
    have b2 : Bn 101 ((2 : Int) ^ i) := (bn2 i).mono (by omega)
    refine ⟨_, gd_name 3 sc_lroot.nd, ?_⟩
    refine sds_cons (sd_if (ptd_gt (pd_mul (pd_var 2) (pd_var 2) (mulB (b2.mono (by decide)) (b2.mono (by decide)))) (pd_var 0)) (fun h => ?_) (fun h => ?_))
    · exact sds_one (sd_break ⟨i, _, _, rfl, i1, of_decide_eq_true h⟩)
    · refine sds_nil ?_
      have l := two_lt (i := i) (by have := of_decide_eq_false h; omega) hb
      refine sds_one (sd_set 2 sc_lroot.nd (pd_mul (pd_var 2) pd_int (.inl (.inr ⟨by decide, by decide⟩))) ?_)
      exact ⟨_, _, by rw [Int.pow_succ]; rfl, by omega⟩
  · obtain ⟨y3, y4, rfl, i1⟩ := hI
    have : (600 : Int).toNat = 600 := rfl
    omega
  · rintro δ' ⟨i0, y3, y4, rfl, i1, i2⟩
    refine sds_cons (sd_mid (fun δ => ∃ (y2 y3 y4 : Option SD), δ = [im (.int n), im (.int (isq n)), y2, y3, y4])
      (sd_forR1 PassesOwn.never rfl (Ft.z_range C) pd_int (by decide) (by decide) (fun i δ => ∃ (lo hi : Int) (y3 y4 : Option SD), δ = [im (.int n), im (.int lo), im (.int hi), y3, y4] ∧ 0 ≤ lo ∧ lo < hi ∧ hi ≤ 2 ^ 100 ∧ lo * lo ≤ n ∧ n < hi * hi ∧ (hi - lo - 1) * 2 ^ i ≤ 2 ^ 100)
        ⟨0, 2 ^ i0, _, _, rfl, by decide, two_pos i0, two_mono i1, by omega, i2, by have := two_mono i1; rw [Int.pow_zero, Int.mul_one]; omega⟩ (fun i δ' hi hI => ?_) (fun δ' hI => ?_)) ?_)
    · obtain ⟨lo, hi, y3, y4, rfl, l0, l1, l2, l3, l4, l5⟩ := hI
      refine ⟨_, gd_name 3 sc_lroot.nd, ?_⟩
      refine sds_cons (sd_if (ptd_le (pd_sub (pd_var 2) (pd_var 1)) pd_int) (fun h => ?_) (fun h => ?_))
      · have e : hi = lo + 1 := by have := of_decide_eq_true h; omega
        rw [e] at l4
        exact sds_one (sd_break ⟨_, _, _, by rw [← isq_uniq l0 l3 l4]; rfl⟩)
      · refine sds_nil ?_
        have hw : ¬ hi - lo ≤ 1 := of_decide_eq_false h
        have bh : Bn 101 ((2 : Int) ^ 100) := bn2 100
        refine sds_cons (sd_set 4 sc_lroot.nd (pd_fdiv (pd_add (pd_var 1) (pd_var 2)) pd_int (divS (by decide) (by decide))) ?_)
        have m0 : 0 ≤ (lo + hi) / 2 := by omega
        have m1 : (lo + hi) / 2 ≤ 2 ^ 100 := by omega
        have bm : Bn 8000 ((lo + hi) / 2) := (bn_le bh m0 m1).mono (by decide)
        have hp := two_pos i
        have key : ∀ w : Int, 2 * w ≤ hi - lo - 1 → w * 2 ^ (i + 1) ≤ 2 ^ 100 := fun w hw => by
          have := Int.mul_le_mul_of_nonneg_right hw (Int.le_of_lt hp)
          have e : w * 2 ^ (i + 1) = 2 * w * 2 ^ i := by rw [Int.pow_succ, Int.mul_comm 2 w, Int.mul_assoc, Int.mul_comm (2 ^ i) 2]
          omega
        refine sds_one (sd_if (ptd_le (pd_mul (pd_var 4) (pd_var 4) (mulB bm bm)) (pd_var 0)) (fun h => ?_) (fun h => ?_))
        · refine sds_one (sd_set 1 sc_lroot.nd (pd_var 4) ?_)
          exact ⟨(lo + hi) / 2, hi, _, _, rfl, m0, by omega, l2, of_decide_eq_true h, l4, key _ (by omega)⟩
        · refine sds_one (sd_set 2 sc_lroot.nd (pd_var 4) ?_)
          exact ⟨lo, (lo + hi) / 2, _, _, rfl, l0, by omega, m1, l3, by have := of_decide_eq_false h; omega, key _ (by omega)⟩
    · obtain ⟨lo, hi, y3, y4, rfl, l0, l1, l2, l3, l4, l5⟩ := hI
      have e : hi = lo + 1 := by
        rcases (show hi - lo - 1 = 0 ∨ 1 ≤ hi - lo - 1 by omega) with z | z
        · omega
        · exfalso
          have := Int.mul_le_mul_of_nonneg_right z (Int.le_of_lt (two_pos (600 : Int).toNat))
          rw [Int.one_mul] at this
          have l6 := Int.le_trans this l5
          exact absurd l6 (by decide +kernel)
      rw [e] at l4
      exact ⟨_, _, _, by rw [← isq_uniq l0 l3 l4]⟩
    · rintro δ' ⟨y2, y3, y4, rfl⟩
      exact sds_one (sd_ret (pd_var 1) rfl)
theorem nz_pos {p : Pt} (h : isZero p = false) : 0 < p.1 * p.1 + p.2.1 * p.2.1 + p.2.2 * p.2.2 := by
  have h' : ¬ (p.1 = 0 ∧ p.2.1 = 0 ∧ p.2.2 = 0) := of_decide_eq_false h
  have a := Mi.sq_nonneg p.1
  have b := Mi.sq_nonneg p.2.1
  have c := Mi.sq_nonneg p.2.2
  have z : ∀ x : Int, x * x = 0 → x = 0 := fun x hx => by rcases Int.mul_eq_zero.mp hx with e | e <;> exact e
  rcases (show (p.1 * p.1 = 0 ∧ p.2.1 * p.2.1 = 0 ∧ p.2.2 * p.2.2 = 0) ∨ 0 < p.1 * p.1 + p.2.1 * p.2.1 + p.2.2 * p.2.2 by omega) with e | e
  · exact absurd ⟨z _ e.1, z _ e.2.1, z _ e.2.2⟩ h'
  · exact e
theorem pt3_b {n : Nat} {p : Pt} (h : PtB n p) : ∀ k, Bn n (pt3 p k)
  | 0 => h.1
  | 1 => h.2.1
  | _ + 2 => h.2.2
theorem fac_at3 (p : Pt) {k : Nat} {d : Dt} (h : ([.tup [.int p.1, .int 1], .tup [.int p.2.1, .int 1], .tup [.int p.2.2, .int 3]] : List Dt)[k]? = some d) : k < 3 ∧ d = .tup [.int (pt3 p k), .int (fac k)] := by
  have lt := (List.getElem?_eq_some_iff.mp h).1
  have lt3 : k < 3 := lt
  match k, lt3, h with
  | 0, _, h => exact ⟨by decide, (Option.some.inj h).symm⟩
  | 1, _, h => exact ⟨by decide, (Option.some.inj h).symm⟩
  | 2, _, h => exact ⟨by decide, (Option.some.inj h).symm⟩
theorem sc_lpull : FnScope ["_law_mu", "_law_bulge", "_law_place", "_law_x", "_law_y", "_law_z", "_law_s", "_law_r", "_law_pulls", "_law_c", "_law_k"] ["_law_mu", "_law_bulge", "_law_place"] (defScope Tx.s__law_pull) := ⟨rfl, rfl, rfl, by decide +kernel, rfl, by decide +kernel, by decide +kernel⟩
theorem ok_lpull (C : Ft.Ctx K mg) : OkF P w K mg base "_law_pull" 2 ["_law_mu", "_law_bulge", "_law_place"] F_lpull := by
  refine Ft.mkF (Ft.f__law_pull C) (Ft.g__law_pull C) rfl sc_lpull (by rintro ds r ⟨mu, ob, p, rfl, _, _, _, _, rfl⟩; rfl) (fun _ _ _ _ _ _ us hl => match us, hl with | [_, _, _], _ => rfl) ?_
  rintro f cdv A outer s0 H E ds r hr ⟨mu, ob, p, rfl, hz, hmu, hob, hp, rfl⟩
  have s1 := nz_pos hz
  have e : pullM mu ob p = (pullPt mu ob (p.1 * p.1 + p.2.1 * p.2.1 + p.2.2 * p.2.2) (isq (p.1 * p.1 + p.2.1 * p.2.1 + p.2.2 * p.2.2)) p.2.2 p.1 1, pullPt mu ob (p.1 * p.1 + p.2.1 * p.2.1 + p.2.2 * p.2.2) (isq (p.1 * p.1 + p.2.1 * p.2.1 + p.2.2 * p.2.2)) p.2.2 p.2.1 1, pullPt mu ob (p.1 * p.1 + p.2.1 * p.2.1 + p.2.2 * p.2.2) (isq (p.1 * p.1 + p.2.1 * p.2.1 + p.2.2 * p.2.2)) p.2.2 p.2.2 3) := rfl
  rw [e]
  have bs : Bn 122 (p.1 * p.1 + p.2.1 * p.2.1 + p.2.2 * p.2.2) := ((hp.1.mul hp.1).add (hp.2.1.mul hp.2.1)).add ((hp.2.2.mul hp.2.2).mono (by decide))
  have m8 : ∀ {x : Int} {n : Nat}, Bn n x → n ≤ 8000 → Bn 8000 x := fun h l => h.mono l
  refine sds_cons (sd_asg (pd_var 2) (gd_tup rfl (gds_cons (gd_name 3 sc_lpull.nd) (gds_cons (gd_name 4 sc_lpull.nd) (gds_cons (gd_name 5 sc_lpull.nd) gds_nil))) rfl) ?_)
  refine sds_cons (sd_set 6 sc_lpull.nd (pd_add (pd_add (pd_mul (pd_var 3) (pd_var 3) (mulB (m8 hp.1 (by decide)) (m8 hp.1 (by decide)))) (pd_mul (pd_var 4) (pd_var 4) (mulB (m8 hp.2.1 (by decide)) (m8 hp.2.1 (by decide))))) (pd_mul (pd_var 5) (pd_var 5) (mulB (m8 hp.2.2 (by decide)) (m8 hp.2.2 (by decide))))) ?_)
  generalize hS : p.1 * p.1 + p.2.1 * p.2.1 + p.2.2 * p.2.2 = S at *
  have r1 := isq_pos s1
  have br : Bn 122 (isq S) := bs.isq (Int.le_of_lt s1)
  refine sds_cons (sd_set 7 sc_lpull.nd (pd_call (ok_lroot C) (hr.mono (by decide)) (pad_cons (pd_var 6) pad_nil) ⟨S, rfl, Int.le_of_lt s1, bs.mono (by decide), rfl⟩) ?_)
  generalize isq S = R at *
  refine sds_cons (sd_new 8 sc_lpull.nd pad_nil ?_)
  refine sds_cons (sd_forL (ds := [.tup [.int p.1, .int 1], .tup [.int p.2.1, .int 1], .tup [.int p.2.2, .int 3]]) PassesOwn.never rfl (pd_lst (pad_cons (pd_tup (pad_cons (pd_var 3) (pad_cons pd_int pad_nil))) (pad_cons (pd_tup (pad_cons (pd_var 4) (pad_cons pd_int pad_nil))) (pad_cons (pd_tup (pad_cons (pd_var 5) (pad_cons pd_int pad_nil))) pad_nil))))
    (fun i δ => ∃ y9 y10, δ = [im (.int mu), im (.int ob), im (pt p), im (.int p.1), im (.int p.2.1), im (.int p.2.2), im (.int S), im (.int R), some (.mls (accK (fun i => .int (pullPt mu ob S R p.2.2 (pt3 p i) (fac i))) i)), y9, y10]) ⟨_, _, rfl⟩ (fun i d δ' hd hI => ?_) (fun δ' hI => ?_))
  · obtain ⟨y9, y10, rfl⟩ := hI
    obtain ⟨hi3, rfl⟩ := fac_at3 p hd
    have bc := pt3_b hp i
    have bf : Bn 140 (fac i) := fac_b i
    have b5 : Bn 3 (5 : Int) := by show (5 : Int).natAbs < 2 ^ 3; decide
    refine ⟨_, gd_tup rfl (gds_cons (gd_name 9 sc_lpull.nd) (gds_cons (gd_name 10 sc_lpull.nd) gds_nil)) rfl, ?_⟩
    refine sds_one (sd_append 8 rfl (pd_add
      (pd_fdiv (pd_mul (pd_neg (pd_var 0)) (pd_var 9) (mulB (m8 hmu.neg (by decide)) (m8 bc (by decide)))) (pd_mul (pd_var 6) (pd_var 7) (mulB (m8 bs (by decide)) (m8 br (by decide)))) (wide_div (Int.mul_pos s1 r1) (bs.mul br) (by decide) (by decide)))
      (pd_fdiv (pd_mul (pd_mul (pd_var 1) (pd_var 9) (mulB (m8 hob (by decide)) (m8 bc (by decide))))
          (pd_sub (pd_mul (pd_mul pd_int (pd_var 5) (mulB (m8 b5 (by decide)) (m8 hp.2.2 (by decide)))) (pd_var 5) (mulB (m8 (b5.mul hp.2.2) (by decide)) (m8 hp.2.2 (by decide)))) (pd_mul (pd_var 10) (pd_var 6) (mulB (m8 bf (by decide)) (m8 bs (by decide)))))
          (mulB (m8 (hob.mul bc) (by decide)) (m8 ((((b5.mul hp.2.2).mul hp.2.2).mono (show 3 + 60 + 60 ≤ 140 + 122 by decide)).sub (bf.mul bs)) (by decide))))
        (pd_mul (pd_mul (pd_mul (pd_var 6) (pd_var 6) (mulB (m8 bs (by decide)) (m8 bs (by decide)))) (pd_var 6) (mulB (m8 (bs.mul bs) (by decide)) (m8 bs (by decide)))) (pd_var 7) (mulB (m8 ((bs.mul bs).mul bs) (by decide)) (m8 br (by decide))))
        (wide_div (Int.mul_pos (Int.mul_pos (Int.mul_pos s1 s1) s1) r1) (((bs.mul bs).mul bs).mul br) (by decide) (by decide))))
      (by rw [accK_len]; omega) ?_ (hp := pe_bm PySem.F.plainAttrs_list PySem.F.slot_list_append PySem.F.type_list_append mt_append (pv 8) (pa_cons (pe_w _) pa_nil)))
    exact ⟨_, _, by rw [accK_succ]; rfl⟩
  · obtain ⟨y9, y10, rfl⟩ := hI
    refine sds_forget [9, 10] (sds_frz 8 rfl ?_)
    exact sds_one (sd_ret (pd_tup (pad_cons (pd_ixL 0 (pd_var 8) pd_int) (pad_cons (pd_ixL 1 (pd_var 8) pd_int) (pad_cons (pd_ixL 2 (pd_var 8) pd_int) pad_nil)))) rfl)
end
end Pr
/-! the law's world -/
namespace Pr
open PySem PySem.Spec PyProof.Rows L2 DL Mi
def worldD (W : Wld) : Dt := .tup [.int W.mu, .int W.bulge, .int W.drift, .int W.start, .int W.fineness, .int W.many, bx W.place, bx W.speed, .lst (W.burns.map btup)]
def F_world (ds : List Dt) (r : Dt) : Prop := ∃ ns : List Int, ds = [.scr ns] ∧ r = worldD (worldM ns)
theorem pick2_at (a b : Int) {i : Int} (h0 : 0 ≤ i) (h : i < 2) : ([.int a, .int b] : List Dt)[i.toNat]? = some (.int (pick2 a b i)) := by
  rcases (show i = 0 ∨ i = 1 by omega) with rfl | rfl <;> rfl
theorem pick3_at (a b c : Int) {i : Int} (h0 : 0 ≤ i) (h : i < 3) : ([.int a, .int b, .int c] : List Dt)[i.toNat]? = some (.int (pick3 a b c i)) := by
  rcases (show i = 0 ∨ i = 1 ∨ i = 2 by omega) with rfl | rfl | rfl <;> rfl
theorem pick2_or (a b i : Int) : pick2 a b i = a ∨ pick2 a b i = b := by
  unfold pick2
  split
  · exact .inl rfl
  · exact .inr rfl
theorem pick3_or (a b c i : Int) : pick3 a b c i = a ∨ pick3 a b c i = b ∨ pick3 a b c i = c := by
  unfold pick3
  split
  · exact .inl rfl
  · split
    · exact .inr (.inl rfl)
    · exact .inr (.inr rfl)
theorem m_nn (x : Int) {n : Int} (h : 0 < n) : 0 ≤ x % n := Int.emod_nonneg _ (by omega)
section
variable {X : Cx} {δ : EnvD} {a b c idx : Expr} {i x y z n m : Int}
theorem pd_at {d e : Dt} {ex : Expr} (h : PD X ex δ d) (q : d = e) : PD X ex δ e := q ▸ h
theorem pd_pick2 {p p' : Pos} (ha : PD X a δ (.int x)) (hb : PD X b δ (.int y)) (hi : PD X idx δ (.int i)) (h0 : 0 ≤ i) (h3 : i < 2) (hs : PlainIx idx := by exact fun _ _ => rfl) (hsa : notStar a = true := by rfl) (hsb : notStar b = true := by rfl) :
    PD X (.Subscript (.List [a, b] p) idx p') δ (.int (pick2 x y i)) :=
  pd_ixL i.toNat (pd_lst (pad_cons ha (pad_cons hb pad_nil hsb) hsa)) hi (Int.toNat_of_nonneg h0).symm (pick2_at x y h0 h3) hs
theorem pd_pick3 {p p' : Pos} (ha : PD X a δ (.int x)) (hb : PD X b δ (.int y)) (hc : PD X c δ (.int z)) (hi : PD X idx δ (.int i)) (h0 : 0 ≤ i) (h3 : i < 3) (hs : PlainIx idx := by exact fun _ _ => rfl) (hsa : notStar a = true := by rfl) (hsb : notStar b = true := by rfl) (hsc : notStar c = true := by rfl) :
    PD X (.Subscript (.List [a, b, c] p) idx p') δ (.int (pick3 x y z i)) :=
  pd_ixL i.toNat (pd_lst (pad_cons ha (pad_cons hb (pad_cons hc pad_nil hsc) hsb) hsa)) hi (Int.toNat_of_nonneg h0).symm (pick3_at x y z h0 h3) hs
/-- a quotient by a small number -/
theorem pd_q {j : Nat} {p p' : Pos} (ha : PD X a δ (.int x)) (h : 0 < n := by decide) (h2 : n < 1180591620717411303424 := by decide) : PD X (.BinOp a .FloorDiv (.Constant (.int n) j p) p') δ (.int (x / n)) := pd_fdiv ha pd_int (divS h h2)
/-- a rest by a small number -/
theorem pd_m {j : Nat} {p p' : Pos} (ha : PD X a δ (.int x)) (h : 0 < n := by decide) : PD X (.BinOp a .Mod (.Constant (.int n) j p) p') δ (.int (x % n)) := pd_mod ha pd_int h
theorem pd_powV {v : Int} {p : Pos} (ha : PD X a δ (.int i)) (hb : PD X b δ (.int x)) (hc : CPow i x) (e : i ^ x.toNat = v) : PD X (.BinOp a .Pow b p) δ (.int v) := e ▸ pd_pow ha hb hc
end
def worldR (r0 r1 r2 r3 r6 : Int) : Wld :=
  { mu := pick3 (1 + r0 / 7 % 1000) (1 + r0 / 7 % 10000000) (1 + r0 / 7 % 1000000000) (r0 % 3)
    bulge := pick2 0 (r0 / 11 % 1000000000000) (r0 / 3 % 2)
    drift := pick3 0 1 (r1 / 5 % 6) (r1 % 3)
    start := r1 / 31 % 9
    fineness := r1 / 279 % 3
    many := 3 + r1 / 837 % 9
    place := boxM (r2 / 3) (pick3 30 300 5000 (r2 % 3)) (pick3 0 3 40 (r2 / 17 % 3))
    speed := boxM (r3 / 3) (pick2 5 60 (r3 % 2)) (pick3 0 2 9 (r3 / 13 % 3))
    burns := burnsM r6 (r6 / 4 % 3).toNat 0 (r1 / 31 % 9 + r6 % 4) }
theorem worldM_eq (ns : List Int) : worldM ns = worldR (rowM ns 0) (rowM ns 1) (rowM ns 2) (rowM ns 3) (rowM ns 6) := rfl
section
variable {P : Program} {w : World} {K : PySem.W.Frag} {mg : Str → Option Value} {base : Heap}
theorem sc_world : FnScope ["_law_script", "_law_row_here", "_law_mu", "_law_bulge", "_law_drift", "_law_start", "_law_fineness", "_law_many", "_law_span", "_law_place", "_law_speed", "_law_burns", "_law_first", "_law_k", "_law_box_here"] ["_law_script"] (defScope Tx.s__law_world) := ⟨rfl, rfl, rfl, by decide +kernel, rfl, by decide +kernel, by decide +kernel⟩
theorem ok_world (C : Ft.Ctx K mg) : OkF P w K mg base "_law_world" 3 ["_law_script"] F_world := by
  refine Ft.mkF (Ft.f__law_world C) (Ft.g__law_world C) rfl sc_world (by rintro ds r ⟨ns, rfl, rfl⟩; rfl) (fun _ _ _ _ _ _ us hl => match us, hl with | [_], _ => rfl) ?_
  rintro f cdv A outer s H E ds r hr ⟨ns, rfl, rfl⟩
  rw [worldM_eq]
  generalize e0 : rowM ns 0 = r0
  generalize e1 : rowM ns 1 = r1
  generalize e2 : rowM ns 2 = r2
  generalize e3 : rowM ns 3 = r3
  generalize e6 : rowM ns 6 = r6
  refine sds_cons (sd_set 1 sc_world.nd (pd_call (ok_row C) (hr.mono (by decide)) (pad_cons (pd_var 0) (pad_cons pd_int pad_nil)) ⟨ns, 0, rfl, by decide, by rw [e0]⟩) ?_)
  refine sds_cons (sd_set 2 sc_world.nd (pd_pick3 (pd_add pd_int (pd_m (pd_q (pd_var 1)))) (pd_add pd_int (pd_mod (pd_q (pd_var 1)) (pd_powV (v := 10000000) pd_int pd_int ⟨by decide, by decide, by decide⟩ (by decide)) (by decide))) (pd_add pd_int (pd_mod (pd_q (pd_var 1)) (pd_powV (v := 1000000000) pd_int pd_int ⟨by decide, by decide, by decide⟩ (by decide)) (by decide))) (pd_m (pd_var 1)) (m_nn _ (by decide)) (Int.emod_lt_of_pos _ (by decide))) ?_)
  refine sds_cons (sd_set 3 sc_world.nd (pd_pick2 pd_int (pd_mod (pd_q (pd_var 1)) (pd_powV (v := 1000000000000) pd_int pd_int ⟨by decide, by decide, by decide⟩ (by decide)) (by decide)) (pd_m (pd_q (pd_var 1))) (m_nn _ (by decide)) (Int.emod_lt_of_pos _ (by decide))) ?_)
  refine sds_cons (sd_set 1 sc_world.nd (pd_call (ok_row C) (hr.mono (by decide)) (pad_cons (pd_var 0) (pad_cons pd_int pad_nil)) ⟨ns, 1, rfl, by decide, by rw [e1]⟩) ?_)
  refine sds_cons (sd_set 4 sc_world.nd (pd_pick3 pd_int pd_int (pd_m (pd_q (pd_var 1))) (pd_m (pd_var 1)) (m_nn _ (by decide)) (Int.emod_lt_of_pos _ (by decide))) ?_)
  refine sds_cons (sd_set 5 sc_world.nd (pd_m (pd_q (pd_var 1))) ?_)
  refine sds_cons (sd_set 6 sc_world.nd (pd_m (pd_q (pd_var 1))) ?_)
  refine sds_cons (sd_set 7 sc_world.nd (pd_add pd_int (pd_m (pd_q (pd_var 1)))) ?_)
  refine sds_cons (sd_set 1 sc_world.nd (pd_call (ok_row C) (hr.mono (by decide)) (pad_cons (pd_var 0) (pad_cons pd_int pad_nil)) ⟨ns, 2, rfl, by decide, by rw [e2]⟩) ?_)
  refine sds_cons (sd_set 8 sc_world.nd (pd_pick3 pd_int pd_int pd_int (pd_m (pd_var 1)) (m_nn _ (by decide)) (Int.emod_lt_of_pos _ (by decide))) ?_)
  have s8 : 0 ≤ pick3 30 300 5000 (r2 % 3) ∧ pick3 30 300 5000 (r2 % 3) ≤ 1000000 := by rcases pick3_or 30 300 5000 (r2 % 3) with h | h | h <;> rw [h] <;> decide
  have t8 : 0 ≤ pick3 0 3 40 (r2 / 17 % 3) ∧ pick3 0 3 40 (r2 / 17 % 3) ≤ 1000000 := by rcases pick3_or 0 3 40 (r2 / 17 % 3) with h | h | h <;> rw [h] <;> decide
  refine sds_cons (sd_set 9 sc_world.nd (pd_call (ok_box C) (hr.mono (by decide)) (pad_cons (pd_q (pd_var 1)) (pad_cons (pd_var 8) (pad_cons (pd_pick3 pd_int pd_int pd_int (pd_m (pd_q (pd_var 1))) (m_nn _ (by decide)) (Int.emod_lt_of_pos _ (by decide))) pad_nil))) ⟨_, _, _, rfl, s8.1, s8.2, t8.1, t8.2, rfl⟩) ?_)
  refine sds_cons (sd_set 1 sc_world.nd (pd_call (ok_row C) (hr.mono (by decide)) (pad_cons (pd_var 0) (pad_cons pd_int pad_nil)) ⟨ns, 3, rfl, by decide, by rw [e3]⟩) ?_)
  have s9 : 0 ≤ pick2 5 60 (r3 % 2) ∧ pick2 5 60 (r3 % 2) ≤ 1000000 := by rcases pick2_or 5 60 (r3 % 2) with h | h <;> rw [h] <;> decide
  have t9 : 0 ≤ pick3 0 2 9 (r3 / 13 % 3) ∧ pick3 0 2 9 (r3 / 13 % 3) ≤ 1000000 := by rcases pick3_or 0 2 9 (r3 / 13 % 3) with h | h | h <;> rw [h] <;> decide
  refine sds_cons (sd_set 10 sc_world.nd (pd_call (ok_box C) (hr.mono (by decide)) (pad_cons (pd_q (pd_var 1)) (pad_cons (pd_pick2 pd_int pd_int (pd_m (pd_var 1)) (m_nn _ (by decide)) (Int.emod_lt_of_pos _ (by decide))) (pad_cons (pd_pick3 pd_int pd_int pd_int (pd_m (pd_q (pd_var 1))) (m_nn _ (by decide)) (Int.emod_lt_of_pos _ (by decide))) pad_nil))) ⟨_, _, _, rfl, s9.1, s9.2, t9.1, t9.2, rfl⟩) ?_)
  refine sds_cons (sd_set 1 sc_world.nd (pd_call (ok_row C) (hr.mono (by decide)) (pad_cons (pd_var 0) (pad_cons pd_int pad_nil)) ⟨ns, 6, rfl, by decide, by rw [e6]⟩) ?_)
  refine sds_cons (sd_new 11 sc_world.nd pad_nil ?_)
  refine sds_cons (sd_set 12 sc_world.nd (pd_add (pd_var 5) (pd_m (pd_var 1))) ?_)
  generalize eW : worldR r0 r1 r2 r3 r6 = W
  refine sds_cons (sd_mid (fun δ => ∃ y1 y8 y12 y13 y14 : Dt, ∃ z13 z14 : Option SD, δ = [im (.scr ns), im y1, im (.int W.mu), im (.int W.bulge), im (.int W.drift), im (.int W.start), im (.int W.fineness), im (.int W.many), im y8, im (bx W.place), im (bx W.speed), some (.mls (W.burns.map btup)), im y12, z13, z14])
    (sd_forR1 PassesOwn.never rfl (Ft.z_range C) (pd_m (pd_q (pd_var 1))) (m_nn _ (by decide)) (Int.lt_trans (Int.emod_lt_of_pos _ (by decide)) (by decide))
    (fun i δ => ∃ (pre : List BurnT) (first y8 : Int) (z13 z14 : Option SD), δ = [im (.scr ns), im (.int r6), im (.int W.mu), im (.int W.bulge), im (.int W.drift), im (.int W.start), im (.int W.fineness), im (.int W.many), im (.int y8), im (bx W.place), im (bx W.speed), some (.mls (pre.map btup)), im (.int first), z13, z14] ∧ pre.length = i ∧ i ≤ (r6 / 4 % 3).toNat ∧ pre ++ burnsM r6 ((r6 / 4 % 3).toNat - i) i first = W.burns)
    ⟨[], r1 / 31 % 9 + r6 % 4, pick3 30 300 5000 (r2 % 3), none, none, by rw [← eW]; rfl, rfl, Nat.zero_le _, by rw [← eW]; rfl⟩ (fun i δ' hi hI => ?_) (fun δ' hI => ?_)) ?_)
  · obtain ⟨pre, first, y8, z13, z14, rfl, pl, il, eb⟩ := hI
    have eN : (r6 / 4 % 3).toNat - i = ((r6 / 4 % 3).toNat - (i + 1)) + 1 := by omega
    rw [eN] at eb
    unfold burnsM at eb
    have i3 : (i : Int) < 3 := Int.lt_trans hi (Int.emod_lt_of_pos _ (by decide))
    have t8 : 0 ≤ pick2 0 4 ((i : Int) % 2) ∧ pick2 0 4 ((i : Int) % 2) ≤ 1000000 := by rcases pick2_or 0 4 ((i : Int) % 2) with h | h <;> rw [h] <;> decide
    refine ⟨_, gd_name 13 sc_world.nd, ?_⟩
    refine sds_cons (sd_set 14 sc_world.nd (pd_call (ok_box C) (hr.mono (by decide)) (pad_cons (pd_add (pd_q (pd_var 1)) (pd_mul (pd_var 13) pd_int (.inl (.inr ⟨by decide, by decide⟩)))) (pad_cons pd_int (pad_cons (pd_pick2 pd_int pd_int (pd_m (pd_var 13)) (m_nn _ (by decide)) (Int.emod_lt_of_pos _ (by decide))) pad_nil))) ⟨_, 30, _, rfl, by decide, by decide, t8.1, t8.2, rfl⟩) ?_)
    refine sds_cons (sd_append 11 rfl (pd_tup (pad_cons (pd_var 12) (pad_cons (pd_add (pd_add (pd_var 12) pd_int) (pd_m (pd_q (pd_var 1)))) (pad_cons (pd_var 14) pad_nil)))) (by rw [List.length_map, pl]; omega) ?_ (hp := pe_bm PySem.F.plainAttrs_list PySem.F.slot_list_append PySem.F.type_list_append mt_append (pv 11) (pa_cons (pe_w _) pa_nil)))
    refine sds_one (sd_set 12 sc_world.nd (pd_add (pd_add (pd_add (pd_var 12) pd_int) (pd_m (pd_q (pd_var 1)))) (pd_m (pd_q (pd_var 1)))) ?_)
    refine ⟨pre ++ [(first, first + 1 + r6 / 5 % 3, boxM (r6 / 12 + (i : Int) * 7919) 30 (pick2 0 4 ((i : Int) % 2)))], _, _, _, _, by rw [List.map_append]; rfl, by rw [List.length_append, pl]; rfl, by omega, ?_⟩
    rw [List.append_assoc]
    exact eb
  · obtain ⟨pre, first, y8, z13, z14, rfl, pl, il, eb⟩ := hI
    rw [Nat.sub_self] at eb
    have eb2 : pre = W.burns := by rw [← eb]; unfold burnsM; rw [List.append_nil]
    rw [eb2]
    exact ⟨_, _, _, .non, .non, _, _, rfl⟩
  · rintro δ' ⟨y1, y8, y12, y13, y14, z13, z14, rfl⟩
    refine sds_forget [13, 14] (sds_frz 11 rfl ?_)
    exact sds_one (sd_ret (pd_tup (pad_cons (pd_var 2) (pad_cons (pd_var 3) (pad_cons (pd_var 4) (pad_cons (pd_var 5) (pad_cons (pd_var 6) (pad_cons (pd_var 7) (pad_cons (pd_var 9) (pad_cons (pd_var 10) (pad_cons (pd_var 11) pad_nil)))))))))) rfl)
end
end Pr
/-! the law's motion -/
namespace Pr
open PySem PySem.Spec PyProof.Rows L2 DL Mi
structure WOk (ns : List Int) (W : Wld) : Prop where
  mu : Bn 140 W.mu
  ob : Bn 140 W.bulge
  place : BxIn M15 W.place
  speed : BxIn M15 W.speed
  d0 : 0 ≤ W.drift
  d1 : W.drift ≤ 1000000
  push : ∀ t, BxIn M15 (pushAt W.burns t)
  many0 : 0 ≤ W.many
  many1 : W.many ≤ 100
  pts : ∀ m ∈ motionM ns W, PtB 60 m.1
def mvD (m : Pt × Pt) : Dt := .tup [pt m.1, pt m.2]
def F_motion (ds : List Dt) (r : Dt) : Prop := ∃ (ns : List Int) (W : Wld), ds = [.scr ns, .int W.mu, .int W.bulge, bx W.place, bx W.speed, .int W.drift, .lst (W.burns.map btup), .int W.start, .int W.many] ∧ WOk ns W ∧ r = .lst ((motionM ns W).map mvD)
section
variable {P : Program} {w : World} {K : PySem.W.Frag} {mg : Str → Option Value} {base : Heap}
abbrev nMotion : List Str := ["_law_script", "_law_mu", "_law_bulge", "_law_place", "_law_speed", "_law_drift", "_law_burns", "_law_start", "_law_many", "_law_at", "_law_fast", "_law_motion_here", "_law_k", "_law_row_here", "_law_box_here", "_law_push_here", "_law_more", "_law_pulls", "_law_j"]
theorem room_u {k : Nat} {A : Around} (r : Room k A) : A.units + 64 < cLine := by have := r.un; omega
theorem sc_motion : FnScope nMotion ["_law_script", "_law_mu", "_law_bulge", "_law_place", "_law_speed", "_law_drift", "_law_burns", "_law_start", "_law_many"] (defScope Tx.s__law_motion) := ⟨rfl, rfl, rfl, by decide +kernel, rfl, by decide +kernel, by decide +kernel⟩
theorem ok_motion (C : Ft.Ctx K mg) : OkF P w K mg base "_law_motion" 3 ["_law_script", "_law_mu", "_law_bulge", "_law_place", "_law_speed", "_law_drift", "_law_burns", "_law_start", "_law_many"] F_motion := by
  refine Ft.mkF (Ft.f__law_motion C) (Ft.g__law_motion C) rfl sc_motion (by rintro ds r ⟨ns, W, rfl, _, rfl⟩; rfl) (fun _ _ _ _ _ _ us hl => match us, hl with | [_, _, _, _, _, _, _, _, _], _ => rfl) ?_
  rintro f cdv A outer s H E ds r hr ⟨ns, W, rfl, hW, rfl⟩
  have hp := hW.pts
  unfold motionM at hp ⊢
  dsimp only at hp ⊢
  generalize ep : memberM W.place (rowM ns 4) = p0 at hp ⊢
  generalize ev : memberM W.speed (rowM ns 5) = v0 at hp ⊢
  generalize eF : ((p0, v0) :: motionFrom ns W W.many.toNat 0 p0 v0) = F at hp ⊢
  refine sds_cons (sd_set 9 sc_motion.nd (pd_call (ok_member C) (hr.mono (by decide)) (pad_cons (pd_var 3) (pad_cons (pd_call (ok_row C) (hr.mono (by decide)) (pad_cons (pd_var 0) (pad_cons pd_int pad_nil)) ⟨ns, 4, rfl, by decide, rfl⟩) pad_nil)) ⟨W.place, _, rfl, hW.place, by rw [ep]⟩) ?_)
  refine sds_cons (sd_set 10 sc_motion.nd (pd_call (ok_member C) (hr.mono (by decide)) (pad_cons (pd_var 4) (pad_cons (pd_call (ok_row C) (hr.mono (by decide)) (pad_cons (pd_var 0) (pad_cons pd_int pad_nil)) ⟨ns, 5, rfl, by decide, rfl⟩) pad_nil)) ⟨W.speed, _, rfl, hW.speed, by rw [ev]⟩) ?_)
  refine sds_cons (sd_new 11 sc_motion.nd (pad_cons (pd_tup (pad_cons (pd_var 9) (pad_cons (pd_var 10) pad_nil))) pad_nil) ?_)
  have hm := hW.many1
  refine sds_cons (sd_mid (fun δ => ∃ (y9 y10 : Dt) (z12 z13 z14 z15 z16 z17 z18 : Option SD), δ = [im (.scr ns), im (.int W.mu), im (.int W.bulge), im (bx W.place), im (bx W.speed), im (.int W.drift), im (.lst (W.burns.map btup)), im (.int W.start), im (.int W.many), im y9, im y10, some (.mls (F.map mvD)), z12, z13, z14, z15, z16, z17, z18])
    (sd_forR1 PassesOwn.never rfl (Ft.z_range C) (pd_var 8) hW.many0 (by omega)
      (fun i δ => ∃ (pre : List (Pt × Pt)) (p v : Pt) (z12 z13 z14 z15 z16 z17 z18 : Option SD), δ = [im (.scr ns), im (.int W.mu), im (.int W.bulge), im (bx W.place), im (bx W.speed), im (.int W.drift), im (.lst (W.burns.map btup)), im (.int W.start), im (.int W.many), im (pt p), im (pt v), some (.mls ((pre ++ [(p, v)]).map mvD)), z12, z13, z14, z15, z16, z17, z18] ∧ pre.length = i ∧ i ≤ W.many.toNat ∧ pre ++ (p, v) :: motionFrom ns W (W.many.toNat - i) i p v = F)
      ⟨[], p0, v0, none, none, none, none, none, none, none, rfl, rfl, Nat.zero_le _, eF⟩ (fun i δ' hi hI => ?_) (fun δ' hI => ?_)) ?_)
  · obtain ⟨pre, p, v, z12, z13, z14, z15, z16, z17, z18, rfl, pl, il, eb⟩ := hI
    have hpp : PtB 60 p := hp (p, v) (by rw [← eb]; simp)
    have eN : W.many.toNat - i = (W.many.toNat - (i + 1)) + 1 := by omega
    rw [eN] at eb
    unfold motionFrom at eb
    refine ⟨_, gd_name 12 sc_motion.nd, ?_⟩
    refine sds_cons (sd_if (ptd_eqT3 (room_u hr) (pd_var 9) (pd_tup (pad_cons pd_int (pad_cons pd_int (pad_cons pd_int pad_nil))))) (fun h => ?_) (fun h => ?_))
    · have hz : isZero p = true := h
      rw [if_pos hz] at eb
      refine sds_one (sd_break ?_)
      exact ⟨pt p, pt v, _, _, _, _, _, _, _, by rw [← eb]; rfl⟩
    · have hz : isZero p = false := h
      rw [if_neg (by rw [hz]; decide)] at eb
      dsimp only at eb
      refine sds_nil (sds_forget [18] ?_)
      refine sds_cons (sd_set 13 sc_motion.nd (pd_call (ok_row C) (hr.mono (by decide)) (pad_cons (pd_var 0) (pad_cons (pd_add pd_int (pd_var 12)) pad_nil)) ⟨ns, 8 + i, by rw [show ((8 + i : Nat) : Int) = 8 + (i : Int) by omega], by omega, rfl⟩) ?_)
      refine sds_cons (sd_set 14 sc_motion.nd (pd_call (ok_lpush C) (hr.mono (by decide)) (pad_cons (pd_var 6) (pad_cons (pd_add (pd_var 7) (pd_var 12)) pad_nil)) ⟨W.burns, _, rfl, rfl⟩) ?_)
      refine sds_cons (sd_set 15 sc_motion.nd (pd_call (ok_member C) (hr.mono (by decide)) (pad_cons (pd_var 14) (pad_cons (pd_var 13) pad_nil)) ⟨_, _, rfl, hW.push _, rfl⟩) ?_)
      refine sds_cons (sd_set 16 sc_motion.nd (pd_call (ok_spread C) (hr.mono (by decide)) (pad_cons (pd_fdiv (pd_var 13) (pd_powV (v := 1000000000) pd_int pd_int ⟨by decide, by decide, by decide⟩ (by decide)) (divS (by decide) (by decide))) (pad_cons pd_int (pad_cons (pd_var 5) pad_nil))) ⟨_, _, rfl, hW.d0, hW.d1, rfl⟩) ?_)
      refine sds_cons (sd_set 17 sc_motion.nd (pd_call (ok_lpull C) (hr.mono (by decide)) (pad_cons (pd_var 1) (pad_cons (pd_var 2) (pad_cons (pd_var 9) pad_nil))) ⟨W.mu, W.bulge, p, rfl, hz, hW.mu, hW.ob, hpp, rfl⟩) ?_)
      have ef : fastM ns W i p v = ptAdd (ptAdd (ptAdd v (pullM W.mu W.bulge p)) (memberM (pushAt W.burns (W.start + i)) (rowM ns (8 + i)))) (spreadM (rowM ns (8 + i) / 1000000000) W.drift) := rfl
      generalize memberM (pushAt W.burns (W.start + (i : Int))) (rowM ns (8 + i)) = b at ef ⊢
      generalize spreadM (rowM ns (8 + i) / 1000000000) W.drift = u at ef ⊢
      generalize pullM W.mu W.bulge p = q at ef ⊢
      generalize fastM ns W i p v = v' at ef eb
      refine sds_cons (sd_set (d := pt v') 10 sc_motion.nd (pd_at (pd_tupleL (Ft.z_tuple C) (pd_lcR (n := 3) (own := [("_law_j", 18)]) (g := gName 18) rfl sc_motion.nd (Ft.z_range C) pd_int (by decide) (blkOk_by (own := [("_law_j", 18)]) (N := nMotion) (sc := defScope Tx.s__law_motion) (by decide +kernel)) (fun _ _ _ _ _ => pg_name (i := 18) sc_motion.nd rfl (Or.inl rfl))
        (fun j : Nat => .int (pt3 v j + pt3 q j + pt3 b j + pt3 u j)) (fun j hj => ⟨_, gw_name 18 (by decide), fun _ _ _ _ _ => pd_add (pd_add (pd_add (pd_ixT j (pd_var 10) (pd_var 18) rfl (pt3_at v hj)) (pd_ixT j (pd_var 17) (pd_var 18) rfl (pt3_at q hj))) (pd_ixT j (pd_var 15) (pd_var 18) rfl (pt3_at b hj))) (pd_ixL j (pd_var 16) (pd_var 18) rfl (pt3_at u hj))⟩))) (by rw [ef]; rfl)) ?_)
      refine sds_cons (sd_set (d := pt (ptAdd p v')) 9 sc_motion.nd (pd_at (pd_tupleL (Ft.z_tuple C) (pd_lcR (n := 3) (own := [("_law_j", 18)]) (g := gName 18) rfl sc_motion.nd (Ft.z_range C) pd_int (by decide) (blkOk_by (own := [("_law_j", 18)]) (N := nMotion) (sc := defScope Tx.s__law_motion) (by decide +kernel)) (fun _ _ _ _ _ => pg_name (i := 18) sc_motion.nd rfl (Or.inl rfl))
        (fun j : Nat => .int (pt3 p j + pt3 v' j)) (fun j hj => ⟨_, gw_name 18 (by decide), fun _ _ _ _ _ => pd_add (pd_ixT j (pd_var 9) (pd_var 18) rfl (pt3_at p hj)) (pd_ixT j (pd_var 10) (pd_var 18) rfl (pt3_at v' hj))⟩))) rfl) ?_)
      refine sds_one (sd_append 11 rfl (pd_tup (pad_cons (pd_var 9) (pad_cons (pd_var 10) pad_nil))) (by rw [List.length_map, List.length_append, pl]; show i + 1 < 100000; omega) ?_ (hp := pe_bm PySem.F.plainAttrs_list PySem.F.slot_list_append PySem.F.type_list_append mt_append (pv 11) (pa_cons (pe_w _) pa_nil)))
      refine ⟨pre ++ [(p, v)], ptAdd p v', v', _, _, _, _, _, _, _, by rw [List.map_append (l₂ := [(ptAdd p v', v')])]; rfl, by rw [List.length_append, pl]; rfl, by omega, ?_⟩
      rw [List.append_assoc]
      exact eb
  · obtain ⟨pre, p, v, z12, z13, z14, z15, z16, z17, z18, rfl, pl, il, eb⟩ := hI
    rw [Nat.sub_self] at eb
    have eb2 : pre ++ [(p, v)] = F := eb
    rw [eb2]
    exact ⟨_, _, _, _, _, _, _, _, _, rfl⟩
  · rintro δ' ⟨y9, y10, z12, z13, z14, z15, z16, z17, z18, rfl⟩
    refine sds_forget [12, 13, 14, 15, 16, 17, 18] (sds_frz 11 rfl ?_)
    exact sds_one (sd_ret (pd_var 11) rfl)
end
end Pr
/-! what the law sees -/
namespace Pr
open PySem PySem.Spec PyProof.Rows L2 DL Mi
def mvd (m : Pt × Pt) : Dt := .tup [pt m.1, pt m.2]
def stup (s : SightT) : Dt := .tup [.int s.1, bx s.2]
def F_seen (ds : List Dt) (r : Dt) : Prop := ∃ (ns : List Int) (mo : List (Pt × Pt)) (start : Int), ds = [.scr ns, .lst (mo.map mvd), .int start] ∧ mo.length ≤ 1000 ∧ r = .lst ((seenM ns mo start).map stup)
section
variable {P : Program} {w : World} {K : PySem.W.Frag} {mg : Str → Option Value} {base : Heap}
abbrev nSeen : List Str := ["_law_script", "_law_motion_here", "_law_start", "_law_row_here", "_law_seen_here", "_law_k", "_law_wide", "_law_less", "_law_c"]
theorem sc_seen : FnScope nSeen ["_law_script", "_law_motion_here", "_law_start"] (defScope Tx.s__law_seen) := ⟨rfl, rfl, rfl, by decide +kernel, rfl, by decide +kernel, by decide +kernel⟩
theorem ok_seen (C : Ft.Ctx K mg) : OkF P w K mg base "_law_seen" 2 ["_law_script", "_law_motion_here", "_law_start"] F_seen := by
  refine Ft.mkF (Ft.f__law_seen C) (Ft.g__law_seen C) rfl sc_seen (by rintro ds r ⟨ns, mo, st, rfl, _, rfl⟩; rfl) (fun _ _ _ _ _ _ us hl => match us, hl with | [_, _, _], _ => rfl) ?_
  rintro f cdv A outer s H E ds r hr ⟨ns, mo, st, rfl, hl, rfl⟩
  unfold seenM
  refine sds_cons (sd_set 3 sc_seen.nd (pd_call (ok_row C) (hr.mono (by decide)) (pad_cons (pd_var 0) (pad_cons pd_int pad_nil)) ⟨ns, 7, rfl, by decide, rfl⟩) ?_)
  generalize rowM ns 7 = r7
  refine sds_cons (sd_new 4 sc_seen.nd pad_nil ?_)
  generalize eF : seenFrom st r7 0 mo = F
  refine sds_cons (sd_forR1 PassesOwn.never rfl (Ft.z_range C) (pd_lenL (Ft.z_len C) (pd_var 1)) (by omega) (by rw [List.length_map]; omega)
      (fun i δ => ∃ (pre : List SightT) (row : Int) (z5 z6 z7 z8 : Option SD), δ = [im (.scr ns), im (.lst (mo.map mvd)), im (.int st), im (.int row), some (.mls (pre.map stup)), z5, z6, z7, z8] ∧ pre.length ≤ i ∧ pre ++ seenFrom st row i (mo.drop i) = F)
      ⟨[], r7, none, none, none, none, rfl, Nat.zero_le _, eF⟩ (fun i δ' hi hI => ?_) (fun δ' hI => ?_))
  · obtain ⟨pre, row, z5, z6, z7, z8, rfl, pl, eb⟩ := hI
    rw [List.length_map] at hi
    have il : i < mo.length := by omega
    have em : mo[i]? = some mo[i] := List.getElem?_eq_getElem il
    rw [List.drop_eq_getElem_cons il] at eb
    generalize mo[i] = m at em eb
    unfold seenFrom at eb
    refine ⟨_, gd_name 5 sc_seen.nd, ?_⟩
    refine sds_cons (sd_mid (fun δ => ∃ (pre : List SightT) (z6 z7 z8 : Option SD), δ = [im (.scr ns), im (.lst (mo.map mvd)), im (.int st), im (.int row), some (.mls (pre.map stup)), im (.int (i : Int)), z6, z7, z8] ∧ pre.length ≤ i + 1 ∧ pre ++ seenFrom st (row / 15 + (i : Int) * 31) (i + 1) (mo.drop (i + 1)) = F)
      (sd_if (ptd_eqI (pd_m (pd_var 3)) pd_int) (fun h => ?_) (fun h => ?_)) ?_)
    · rw [if_pos (beq_iff_eq.mp h)] at eb
      refine sds_forget [8] ?_
      refine sds_cons (sd_set 6 sc_seen.nd (pd_pick3 pd_int (pd_m (pd_q (pd_var 3))) (pd_m (pd_q (pd_var 3))) (pd_m (pd_q (pd_var 3))) (m_nn _ (by decide)) (Int.emod_lt_of_pos _ (by decide))) ?_)
      refine sds_cons (sd_set 7 sc_seen.nd (pd_pick2 pd_int (pd_m (pd_q (pd_var 3))) (pd_m (pd_q (pd_var 3))) (m_nn _ (by decide)) (Int.emod_lt_of_pos _ (by decide))) ?_)
      have es : seenBox row m.1 = ((m.1.1 - pick3 0 (row / 3 % 5) (row / 3 % 400) (row / 5 % 3), m.1.1 + pick3 0 (row / 3 % 5) (row / 3 % 400) (row / 5 % 3) + pick2 0 (row / 7 % 3) (row / 2 % 2)), (m.1.2.1 - pick3 0 (row / 3 % 5) (row / 3 % 400) (row / 5 % 3), m.1.2.1 + pick3 0 (row / 3 % 5) (row / 3 % 400) (row / 5 % 3) + pick2 0 (row / 7 % 3) (row / 2 % 2)), (m.1.2.2 - pick3 0 (row / 3 % 5) (row / 3 % 400) (row / 5 % 3), m.1.2.2 + pick3 0 (row / 3 % 5) (row / 3 % 400) (row / 5 % 3) + pick2 0 (row / 7 % 3) (row / 2 % 2))) := rfl
      generalize pick3 0 (row / 3 % 5) (row / 3 % 400) (row / 5 % 3) = wide at es ⊢
      generalize pick2 0 (row / 7 % 3) (row / 2 % 2) = less at es ⊢
      refine sds_one (sd_append (d := stup (st + (i : Int), seenBox row m.1)) 4 rfl (pd_at (pd_tup (pad_cons (pd_add (pd_var 2) (pd_var 5)) (pad_cons (pd_tupleL (Ft.z_tuple C) (pd_lcT (ds := [.int m.1.1, .int m.1.2.1, .int m.1.2.2]) (own := [("_law_c", 8)]) (g := gName 8) rfl sc_seen.nd (pd_ixT 0 (pd_ixL (d := mvd m) i (pd_var 1) (pd_var 5) rfl (by rw [List.getElem?_map, em]; rfl)) pd_int) (by show 3 ≤ 100000; decide) (blkOk_by (own := [("_law_c", 8)]) (N := nSeen) (sc := defScope Tx.s__law_seen) (by decide +kernel)) (fun _ _ _ _ _ => pg_name (i := 8) sc_seen.nd rfl (Or.inl rfl))
          (fun j : Nat => iv (pt3 m.1 j - wide, pt3 m.1 j + wide + less)) (fun j d hd => ?_))) pad_nil))) (by rw [es]; rfl)) (by rw [List.length_map]; omega) ?_ (hp := pe_bm PySem.F.plainAttrs_list PySem.F.slot_list_append PySem.F.type_list_append mt_append (pv 4) (pa_cons (pe_w _) pa_nil)))
      · have j3 : j < 3 := (List.getElem?_eq_some_iff.mp hd).1
        rw [pt3_at m.1 j3] at hd
        cases hd
        exact ⟨_, gw_name 8 (by decide), fun _ _ _ _ _ => pd_tup (pad_cons (pd_sub (pd_var 8) (pd_var 6)) (pad_cons (pd_add (pd_add (pd_var 8) (pd_var 6)) (pd_var 7)) pad_nil))⟩
      · refine ⟨pre ++ [(st + (i : Int), seenBox row m.1)], _, _, _, by rw [List.map_append]; rfl, by rw [List.length_append]; show pre.length + 1 ≤ _; omega, ?_⟩
        rw [List.append_assoc]
        exact eb
    · rw [if_neg (fun z => by rw [z] at h; cases h)] at eb
      exact sds_nil ⟨pre, _, _, _, rfl, by omega, eb⟩
    · rintro δ' ⟨pre, z6, z7, z8, rfl, pl, eb⟩
      refine sds_one (sd_set 3 sc_seen.nd (pd_add (pd_q (pd_var 3)) (pd_mul (pd_var 5) pd_int (.inl (.inr ⟨by decide, by decide⟩)))) ?_)
      exact ⟨pre, _, _, _, _, _, rfl, pl, eb⟩
  · obtain ⟨pre, row, z5, z6, z7, z8, rfl, pl, eb⟩ := hI
    rw [List.length_map, Int.toNat_natCast, List.drop_length] at eb
    have eb2 : pre = F := by rw [← eb]; unfold seenFrom; rw [List.append_nil]
    rw [eb2]
    refine sds_forget [5, 6, 7, 8] (sds_frz 4 rfl ?_)
    exact sds_one (sd_ret (pd_var 4) rfl)
end
end Pr
/-! the law's craft -/
namespace Pr
open PySem PySem.Spec PyProof.Rows L2 DL Mi
def F_craft (K : PySem.W.Frag) (ds : List Dt) (r : Dt) : Prop := ∃ (W : Wld) (sights : List SightT), ds = [.str "a", .int W.start, bx W.place, bx W.speed, .int W.drift, .lst (W.burns.map btup), .lst (sights.map stup)] ∧ MadeOk (craftOf W sights) ∧ (∀ b ∈ W.burns, BurnOk b) ∧ (∀ s ∈ sights, SightOk s) ∧ W.burns.length ≤ 1000 ∧ sights.length ≤ 1000 ∧ r = craftD K (craftOf W sights)
theorem range_map {α β : Type} (g : α → β) (d0 : α) : ∀ l : List α, (List.range l.length).map (fun i => g (l.getD i d0)) = l.map g := fun l => by
  apply List.ext_getElem?
  intro i
  rw [List.getElem?_map, List.getElem?_map]
  by_cases h : i < l.length
  · rw [List.getElem?_range h, List.getElem?_eq_getElem h, Option.map_some, Option.map_some, List.getD_eq_getElem?_getD, List.getElem?_eq_getElem h]
    rfl
  · rw [List.getElem?_eq_none (by rw [List.length_range]; omega), List.getElem?_eq_none (by omega)]
    rfl
section
variable {P : Program} {w : World} {K : PySem.W.Frag} {mg : Str → Option Value} {base : Heap}
abbrev nCraft : List Str := ["_law_name", "_law_start", "_law_place", "_law_speed", "_law_drift", "_law_burns", "_law_seen_here", "_law_pushes", "_law_begin", "_law_end", "_law_box_here", "_law_sights", "_law_at"]
theorem sc_craft : FnScope nCraft ["_law_name", "_law_start", "_law_place", "_law_speed", "_law_drift", "_law_burns", "_law_seen_here"] (defScope Tx.s__law_craft) := ⟨rfl, rfl, rfl, by decide +kernel, rfl, by decide +kernel, by decide +kernel⟩
theorem ok_craft (C : Ft.Ctx K mg) : OkF P w K mg base "_law_craft" 5 ["_law_name", "_law_start", "_law_place", "_law_speed", "_law_drift", "_law_burns", "_law_seen_here"] (F_craft K) := by
  refine Ft.mkF (Ft.f__law_craft C) (Ft.g__law_craft C) rfl sc_craft (by rintro ds r ⟨W, l, rfl, _, _, _, _, _, rfl⟩; rfl) (fun _ _ _ _ _ _ us hl => match us, hl with | [_, _, _, _, _, _, _], _ => rfl) ?_
  rintro f cdv A outer s H E ds r hr ⟨W, l, rfl, hM, hB, hS, lB, lS, rfl⟩
  refine sds_cons (sd_setLcL (g := gTup K 3 (tgs [8, 9, 10])) (own := [("_law_begin", 8), ("_law_end", 9), ("_law_box_here", 10)]) 7 rfl sc_craft.nd (pd_var 5) (by rw [List.length_map]; omega) (blkOk_by (own := [("_law_begin", 8), ("_law_end", 9), ("_law_box_here", 10)]) (N := nCraft) (sc := defScope Tx.s__law_craft) (by decide +kernel))
    (fun _ _ _ _ _ => pg_tup rfl (pgs_cons (pg_name (i := 8) sc_craft.nd rfl (Or.inl rfl)) (pgs_cons (pg_name (i := 9) sc_craft.nd rfl (Or.inl rfl)) (pgs_cons (pg_name (i := 10) sc_craft.nd rfl (Or.inl rfl)) pgs_nil))))
    (fun i => burnD K (W.burns.getD i (0, 0, zeroBx))) (fun i d hd => ?_) ?_ (sw_true rfl rfl rfl (by decide +kernel)))
  · obtain ⟨b, hb, rfl⟩ := map_at hd
    refine ⟨_, gw_tup (ns := [8, 9, 10]) (ds := [.int b.1, .int b.2.1, bx b.2.2]) (by decide) rfl, fun _ _ _ _ _ => ?_⟩
    rw [show W.burns.getD i (0, 0, zeroBx) = b by rw [List.getD_eq_getElem?_getD, hb]; rfl]
    exact pd_make (ok_Burn C) (hr.mono (by decide)) (pad_cons (pd_var 8) (pad_cons (pd_var 9) (pad_cons (pd_var 10) pad_nil))) ⟨b, rfl, hB b (List.mem_of_getElem? hb), rfl⟩
  · rw [show (W.burns.map btup).length = W.burns.length from List.length_map _, range_map (burnD K)]
    refine sds_cons (sd_setLcL (g := gTup K 2 (tgs [12, 10])) (own := [("_law_at", 12), ("_law_box_here", 10)]) 11 rfl sc_craft.nd (pd_var 6) (by rw [List.length_map]; omega) (blkOk_by (own := [("_law_at", 12), ("_law_box_here", 10)]) (N := nCraft) (sc := defScope Tx.s__law_craft) (by decide +kernel))
      (fun _ _ _ _ _ => pg_tup rfl (pgs_cons (pg_name (i := 12) sc_craft.nd rfl (Or.inl rfl)) (pgs_cons (pg_name (i := 10) sc_craft.nd rfl (Or.inl rfl)) pgs_nil)))
      (fun i => sightD K (l.getD i (0, zeroBx))) (fun i d hd => ?_) ?_ (sw_true rfl rfl rfl (by decide +kernel)))
    · obtain ⟨b, hb, rfl⟩ := map_at hd
      refine ⟨_, gw_tup (ns := [12, 10]) (ds := [.int b.1, bx b.2]) (by decide) rfl, fun _ _ _ _ _ => ?_⟩
      rw [show l.getD i (0, zeroBx) = b by rw [List.getD_eq_getElem?_getD, hb]; rfl]
      exact pd_make (ok_Sighting C) (hr.mono (by decide)) (pad_cons (pd_var 12) (pad_cons (pd_var 10) pad_nil)) ⟨b, rfl, hS b (List.mem_of_getElem? hb), rfl⟩
    · rw [show (l.map stup).length = l.length from List.length_map _, range_map (sightD K)]
      exact sds_one (sd_ret (pd_make (ok_Craft C) (hr.mono (by decide)) (pad_cons (pd_var 0) (pad_cons (pd_var 1) (pad_cons (pd_var 2) (pad_cons (pd_var 3) (pad_cons (pd_var 4) (pad_cons (pd_var 7) (pad_cons (pd_var 11) pad_nil))))))) ⟨craftOf W l, rfl, hM, rfl⟩) rfl)
end
end Pr
/-! the law -/
namespace Pr
open PySem PySem.Spec PyProof.Rows L2 DL Mi
/-- all that the walk of the law asks of the plain side -/
structure LawOk (ns : List Int) (W : Wld) (mo : List (Pt × Pt)) (sg : List SightT) : Prop where
  wok : WOk ns W
  mu0 : 1 ≤ W.mu
  mu1 : W.mu ≤ M30
  ob0 : 0 ≤ W.bulge
  ob1 : W.bulge ≤ M30
  f0 : 0 ≤ W.fineness
  f1 : W.fineness ≤ 2
  s0 : 0 ≤ W.start
  s1 : W.start ≤ 8
  l0 : 1 ≤ mo.length
  l1 : mo.length ≤ 100
  made : MadeOk (craftOf W sg)
  burns : ∀ b ∈ W.burns, BurnOk b
  sights : ∀ s ∈ sg, SightOk s
  lB : W.burns.length ≤ 1000
  lS : sg.length ≤ 1000
  craft : CraftOk (craftOf W sg)
  holds : ∀ u : Int, W.start ≤ u → u - W.start < (mo.length : Int) → Holds W.start (journeyM W.mu W.bulge W.fineness.toNat (craftOf W sg) u).1 mo ∧
    ((journeyM W.mu W.bulge W.fineness.toNat (craftOf W sg) u).2.1 = "whole" ∧ (journeyM W.mu W.bulge W.fineness.toNat (craftOf W sg) u).1.length = (u - W.start).toNat + 1 ∨ (journeyM W.mu W.bulge W.fineness.toNat (craftOf W sg) u).2.1 = "lost" ∧ (journeyM W.mu W.bulge W.fineness.toNat (craftOf W sg) u).1.length ≤ (u - W.start).toNat + 1)
def F_law (ds : List Dt) (r : Dt) : Prop := ∃ ns : List Int, ds = [.scr ns] ∧ r = .bl true
theorem holds_at : ∀ {t : Int} {xs : List (Int × List Sta)} {ms : List (Pt × Pt)} {i : Nat} {x : Int × List Sta}, Holds t xs ms → xs[i]? = some x → ∃ m, ms[i]? = some m ∧ x.1 = t + (i : Int) ∧ x.2.length ≤ 4 ∧ Has x.2 m.1 m.2
  | _, [], _, _, _, _, e => by simp at e
  | _, _ :: _, [], _, _, h, _ => h.elim
  | t, y :: ys, m :: ms, 0, x, h, e => by
    obtain ⟨h1, _, h2, h3, _⟩ := h
    have e2 : y = x := by simpa using e
    subst e2
    exact ⟨m, rfl, by rw [h1]; simp, h2, h3⟩
  | t, y :: ys, m :: ms, i + 1, x, h, e => by
    obtain ⟨m', a, b, c, d⟩ := holds_at (i := i) (x := x) h.2.2.2.2 (by simpa using e)
    exact ⟨m', by simpa using a, by rw [b]; omega, c, d⟩
theorem sum_pos {n : Nat} {b : Nat → Bool} {i : Nat} (hi : i < n) (hb : b i = true) : ¬ (((List.range n).filter b).map (fun _ => (1 : Int))).sum = 0 := fun z => by
  have nn : ∀ l : List Nat, 0 ≤ (l.map (fun _ => (1 : Int))).sum ∧ (l ≠ [] → 0 < (l.map (fun _ => (1 : Int))).sum) := fun l => by
    induction l with
    | nil => exact ⟨by simp, fun h => absurd rfl h⟩
    | cons a r ih =>
      rw [List.map_cons, List.sum_cons]
      exact ⟨by omega, fun _ => by omega⟩
  have m : i ∈ (List.range n).filter b := List.mem_filter.mpr ⟨List.mem_range.mpr hi, hb⟩
  have := (nn ((List.range n).filter b)).2 (fun e => by rw [e] at m; cases m)
  omega
theorem has_i {l : List Sta} {p v : Pt} (h : Has l p v) : ∃ i, i < l.length ∧ staHas (l.getD i (zeroBx, zeroBx)) p v = true := by
  obtain ⟨s, hs, e⟩ := h
  obtain ⟨i, hi, ei⟩ := List.mem_iff_getElem.mp hs
  exact ⟨i, hi, by rw [List.getD_eq_getElem?_getD, List.getElem?_eq_getElem hi, ei]; exact e⟩
theorem has_place {l : List Sta} {p v : Pt} (h : Has l p v) : bxHas (hullOf (l.map (·.1))) p = true := by
  obtain ⟨s, hs, e⟩ := h
  exact inB_has.mpr (hullOf_in ⟨s.1, List.mem_map.mpr ⟨s, hs, rfl⟩, (sta_has.mp e).1⟩)
theorem has_speed {l : List Sta} {p v : Pt} (h : Has l p v) : bxHas (hullOf (l.map (·.2))) v = true := by
  obtain ⟨s, hs, e⟩ := h
  exact inB_has.mpr (hullOf_in ⟨s.2, List.mem_map.mpr ⟨s, hs, rfl⟩, (sta_has.mp e).2⟩)
theorem has_ne {l : List Sta} {p v : Pt} (h : Has l p v) : l ≠ [] := fun z => by
  obtain ⟨s, hs, _⟩ := h
  rw [z] at hs
  cases hs
theorem bn30 {x : Int} (h0 : 0 ≤ x) (h1 : x ≤ M30) : Bn 140 x := bn_le (y := M30) (show M30.natAbs < 2 ^ 140 by decide) h0 h1
section
variable {P : Program} {w : World} {K : PySem.W.Frag} {mg : Str → Option Value} {base : Heap}
abbrev nLaw : List Str := ["_law_script", "_law_mu", "_law_bulge", "_law_drift", "_law_start", "_law_fineness", "_law_many", "_law_place", "_law_speed", "_law_burns", "_law_body", "_law_motion_here", "_law_craft_here", "_law_until", "_law_way", "_law_k", "_law_moment", "_law_here", "_law_fast", "_law_state"]
theorem sc_law : FnScope nLaw ["_law_script"] (defScope Tx.s_law) := ⟨rfl, rfl, rfl, by decide +kernel, rfl, by decide +kernel, by decide +kernel⟩
theorem ok_law (hL : ∀ ns, LawOk ns (worldM ns) (motionM ns (worldM ns)) (seenM ns (motionM ns (worldM ns)) (worldM ns).start)) (C : Ft.Ctx K mg) {f : Addr} {fd : FuncData} {kws : List (Str × V)} (F1 : FunD K Tx.d_law.name Tx.d_law.qual Tx.d_law.params Tx.d_law.body Tx.d_law.scope [] kws f fd) : FnOk P w K mg base CX0 9 f fd ["_law_script"] (spD K F_law) := by
  refine okD F1 sc_law F_law (by rintro ds r ⟨ns, rfl, rfl⟩; rfl) ?_
  rintro cdv A outer s H E ds r hr ⟨ns, rfl, rfl⟩
  have L := hL ns
  generalize eW : worldM ns = W at L
  generalize eM : motionM ns W = mo at L
  generalize eS : seenM ns mo W.start = sg at L
  refine sds_cons (sd_asg (d := worldD W) (pd_call (ok_world C) (hr.mono (by decide)) (pad_cons (pd_var 0) pad_nil) ⟨ns, rfl, by rw [eW]⟩) (gd_tup rfl (gds_cons (gd_name 1 sc_law.nd) (gds_cons (gd_name 2 sc_law.nd) (gds_cons (gd_name 3 sc_law.nd) (gds_cons (gd_name 4 sc_law.nd) (gds_cons (gd_name 5 sc_law.nd) (gds_cons (gd_name 6 sc_law.nd) (gds_cons (gd_name 7 sc_law.nd) (gds_cons (gd_name 8 sc_law.nd) (gds_cons (gd_name 9 sc_law.nd) gds_nil))))))))) rfl) ?_)
  refine sds_cons (sd_set (d := bodyD K W.mu W.bulge (.tup [.int 1, .int 0, .int 1])) 10 sc_law.nd (pd_make (ok_Body C) (hr.mono (by decide)) (pad_cons (pd_var 1) (pad_cons (pd_var 2) (pad_cons (pd_tup (pad_cons pd_int (pad_cons pd_int (pad_cons pd_int pad_nil)))) pad_nil))) ⟨W.mu, W.bulge, rfl, L.mu0, L.mu1, L.ob0, L.ob1, rfl⟩) ?_)
  refine sds_cons (sd_set (d := .lst (mo.map mvD)) 11 sc_law.nd (pd_call (ok_motion C) (hr.mono (by decide)) (pad_cons (pd_var 0) (pad_cons (pd_var 1) (pad_cons (pd_var 2) (pad_cons (pd_var 7) (pad_cons (pd_var 8) (pad_cons (pd_var 3) (pad_cons (pd_var 9) (pad_cons (pd_var 4) (pad_cons (pd_var 6) pad_nil))))))))) ⟨ns, W, rfl, L.wok, by rw [eM]⟩) ?_)
  refine sds_cons (sd_set (d := craftD K (craftOf W sg)) 12 sc_law.nd (pd_call (ok_craft C) (hr.mono (by decide)) (pad_cons pd_str (pad_cons (pd_var 4) (pad_cons (pd_var 7) (pad_cons (pd_var 8) (pad_cons (pd_var 3) (pad_cons (pd_var 9) (pad_cons (pd_call (d := .lst (sg.map stup)) (ok_seen C) (hr.mono (by decide)) (pad_cons (pd_var 0) (pad_cons (pd_var 11) (pad_cons (pd_var 4) pad_nil))) ⟨ns, mo, W.start, rfl, by have := L.l1; omega, by rw [eS]⟩) pad_nil))))))) ⟨W, sg, rfl, L.made, L.burns, L.sights, L.lB, L.lS, rfl⟩) ?_)
  have l0 := L.l0
  have l1 := L.l1
  have u0 : 0 ≤ rowM ns 30 % (mo.length : Int) := m_nn _ (by omega)
  have u1 : rowM ns 30 % (mo.length : Int) < (mo.length : Int) := Int.emod_lt_of_pos _ (by omega)
  refine sds_cons (sd_set (d := .int (W.start + rowM ns 30 % (mo.length : Int))) 13 sc_law.nd (pd_add (pd_var 4) (pd_mod (pd_call (ok_row C) (hr.mono (by decide)) (pad_cons (pd_var 0) (pad_cons pd_int pad_nil)) ⟨ns, 30, rfl, by decide, rfl⟩) (pd_at (pd_lenL (Ft.z_len C) (pd_var 11)) (by rw [List.length_map])) (by omega))) ?_)
  generalize rowM ns 30 % (mo.length : Int) = u at u0 u1 ⊢
  obtain ⟨hH, hE⟩ := L.holds (W.start + u) (by omega) (by omega)
  have s0 := L.s0
  have s1 := L.s1
  have f0 := L.f0
  have f1 := L.f1
  generalize eJ : journeyM W.mu W.bulge W.fineness.toNat (craftOf W sg) (W.start + u) = J at hH hE
  refine sds_cons (sd_set (d := jrD K J) 14 sc_law.nd (pd_call (ok_journey C) (hr.mono (by decide)) (pad_cons (pd_var 10) (pad_cons (pd_var 5) (pad_cons (pd_var 12) (pad_cons (pd_var 13) pad_nil)))) ⟨W.mu, W.bulge, .tup [.int 1, .int 0, .int 1], W.fineness.toNat, craftOf W sg, W.start + u, by rw [Int.toNat_of_nonneg f0]; rfl, by omega, L.craft, bn30 (by have := L.mu0; omega) L.mu1, bn30 L.ob0 L.ob1, s0, (by show W.start + u ≤ W.start + 1000; omega), (by show W.start ≤ 100000; omega), by rw [eJ]; rfl⟩) ?_)
  refine sds_cons (sd_if (ptd_w (pwd_and (ptd_neS (pd_fld 1 (Ft.kc_Journey C) (pd_var 14)) pd_str) (pwd_and1 (ptd_neS (pd_fld 1 (Ft.kc_Journey C) (pd_var 14)) pd_str)))) (fun h => ?_) (fun _ => sds_nil ?_))
  · exfalso
    rcases hE with ⟨e, _⟩ | ⟨e, _⟩
    · rw [e] at h
      exact absurd h (by decide +kernel)
    · rw [e] at h
      exact absurd h (by decide +kernel)
  refine sds_cons (sd_if (ptd_w (pwd_and (ptd_eqS (pd_fld 1 (Ft.kc_Journey C) (pd_var 14)) pd_str) (pwd_and1 (ptd_neI (pd_lenL (Ft.z_len C) (pd_fld 0 (Ft.kc_Journey C) (pd_var 14))) (pd_add (pd_sub (pd_var 13) (pd_var 4)) pd_int))))) (fun h => ?_) (fun _ => sds_nil ?_))
  · exfalso
    rcases hE with ⟨e, el⟩ | ⟨e, _⟩
    · have e2 : ((((J.1.map (momD K)).length : Nat) : Int) == W.start + u - W.start + 1) = true := by
        rw [List.length_map, el]
        exact beq_iff_eq.mpr (by omega)
      rw [e2, Bool.not_true, Bool.and_false] at h
      cases h
    · have e2 : (J.2.1 == ("whole" : Str)) = false := by rw [e]; decide +kernel
      rw [e2, Bool.false_and] at h
      cases h
  have lJ : J.1.length ≤ 1000 := by rcases hE with ⟨_, e⟩ | ⟨_, e⟩ <;> omega
  refine sds_cons (sd_forR1 PassesOwn.never rfl (Ft.z_range C) (pd_lenL (Ft.z_len C) (pd_fld 0 (Ft.kc_Journey C) (pd_var 14))) (by omega) (by rw [List.length_map]; omega)
    (fun i δ => ∃ z15 z16 z17 z18 : Option SD, δ = [im (.scr ns), im (.int W.mu), im (.int W.bulge), im (.int W.drift), im (.int W.start), im (.int W.fineness), im (.int W.many), im (bx W.place), im (bx W.speed), im (.lst (W.burns.map btup)), im (bodyD K W.mu W.bulge (.tup [.int 1, .int 0, .int 1])), im (.lst (mo.map mvD)), im (craftD K (craftOf W sg)), im (.int (W.start + u)), im (jrD K J), z15, z16, z17, z18, none])
    ⟨none, none, none, none, rfl⟩ (fun i δ' hi hI => ?_) (fun δ' hI => ?_))
  · obtain ⟨z15, z16, z17, z18, rfl⟩ := hI
    rw [List.length_map] at hi
    have il : i < J.1.length := by omega
    have ex : J.1[i]? = some J.1[i] := List.getElem?_eq_getElem il
    generalize J.1[i] = x at ex
    obtain ⟨m, em, x1, x2, hm⟩ := holds_at hH ex
    obtain ⟨xt, xl⟩ := x
    dsimp only at x1 x2 hm
    subst x1
    have im1 : i < mo.length := (List.getElem?_eq_some_iff.mp em).1
    refine ⟨_, gd_name 15 sc_law.nd, ?_⟩
    refine sds_cons (sd_set (d := momD K (W.start + (i : Int), xl)) 16 sc_law.nd (pd_ixL (d := momD K (W.start + (i : Int), xl)) i (pd_fld 0 (Ft.kc_Journey C) (pd_var 14)) (pd_var 15) rfl (by rw [List.getElem?_map, ex]; rfl)) ?_)
    refine sds_cons (sd_if (ptd_w (pwd_or (ptd_neI (pd_fld 0 (Ft.kc_Moment C) (pd_var 16)) (pd_add (pd_var 4) (pd_var 15))) (pwd_or1 (ptd_ge (pd_var 15) (pd_lenL (Ft.z_len C) (pd_var 11)))))) (fun h => ?_) (fun _ => sds_nil ?_))
    · exfalso
      have e2 : decide ((((mo.map mvD).length : Nat) : Int) ≤ (i : Int)) = false := decide_eq_false (by rw [List.length_map]; omega)
      have e1 : ((W.start + (i : Int)) == W.start + (i : Int)) = true := beq_iff_eq.mpr rfl
      rw [e1, e2] at h
      cases h
    refine sds_cons (sd_asg (d := mvD m) (pd_ixL (d := mvD m) i (pd_var 11) (pd_var 15) rfl (by rw [List.getElem?_map, em]; rfl)) (gd_tup rfl (gds_cons (gd_name 17 sc_law.nd) (gds_cons (gd_name 18 sc_law.nd) gds_nil)) rfl) ?_)
    refine sds_cons (sd_if (ptd_eqI (pd_sum (ns := ((List.range xl.length).filter (fun j => staHas (xl.getD j (zeroBx, zeroBx)) m.1 m.2)).map (fun _ => (1 : Int))) rfl (Ft.z_sum C) (pd_at (pd_lcLt (own := [("_law_state", 19)]) (g := gName 19) (ds := xl.map (stt K)) rfl sc_law.nd (pd_fld 1 (Ft.kc_Moment C) (pd_var 16)) (by rw [List.length_map]; omega) (blkOk_by (own := [("_law_state", 19)]) (N := nLaw) (sc := defScope Tx.s_law) (by decide +kernel)) (fun _ _ _ _ _ => pg_name (i := 19) sc_law.nd rfl (Or.inl rfl))
        (fun j => staHas (xl.getD j (zeroBx, zeroBx)) m.1 m.2) (fun _ => .int 1) (fun j d hd => ?_)) (by unfold given; rw [List.length_map, List.map_map]; rfl))) pd_int) (fun h => ?_) (fun _ => sds_nil ?_))
    · obtain ⟨st, hst, rfl⟩ := map_at hd
      refine ⟨_, gw_name 19 (by decide), fun _ _ _ _ _ => ?_, fun _ _ _ _ _ => pd_int⟩
      rw [show xl.getD j (zeroBx, zeroBx) = st by rw [List.getD_eq_getElem?_getD, hst]; rfl]
      exact ptd_val (pd_call (ok_state_has C) (hr.mono (by decide)) (pad_cons (pd_var 19) (pad_cons (pd_var 17) (pad_cons (pd_var 18) pad_nil))) ⟨st, m.1, m.2, rfl, rfl⟩)
    · exfalso
      obtain ⟨j, hj, hb⟩ := has_i hm
      exact sum_pos (b := fun j => staHas (xl.getD j (zeroBx, zeroBx)) m.1 m.2) hj hb (beq_iff_eq.mp h)
    refine sds_one (sd_if (ptd_w (pwd_or (ptd_not (ptd_val (pd_call (d := .bl true) (ok_lin C) (hr.mono (by decide)) (pad_cons (pd_meth0 (d := bx (hullOf (xl.map (·.1)))) (ok_Moment_place C) (Ft.c_Moment C) (hr.mono (by decide)) (pd_var 16) (by decide +kernel) ⟨_, xl, rfl, has_ne hm, rfl⟩) (pad_cons (pd_var 17) pad_nil)) ⟨_, m.1, rfl, by rw [has_place hm]⟩)))
      (pwd_or1 (ptd_not (ptd_val (pd_call (d := .bl true) (ok_lin C) (hr.mono (by decide)) (pad_cons (pd_meth0 (d := bx (hullOf (xl.map (·.2)))) (ok_Moment_speed C) (Ft.c_Moment C) (hr.mono (by decide)) (pd_var 16) (by decide +kernel) ⟨_, xl, rfl, has_ne hm, rfl⟩) (pad_cons (pd_var 18) pad_nil)) ⟨_, m.2, rfl, by rw [has_speed hm]⟩)))))) (fun h => ?_) (fun _ => sds_nil ?_))
    · exact absurd h (by decide)
    exact ⟨_, _, _, _, rfl⟩
  · obtain ⟨z15, z16, z17, z18, rfl⟩ := hI
    exact sds_one (sd_ret pd_bl rfl)
end
end Pr
/-! the mathematics of the law's world -/
namespace Mx
open DL Mi Pr
/-! ### sizes -/
def Ab (B x : Int) : Prop := -B ≤ x ∧ x ≤ B
def Ab3 (B : Int) (p : Pt) : Prop := Ab B p.1 ∧ Ab B p.2.1 ∧ Ab B p.2.2
theorem Ab.mono {A B x : Int} (h : Ab A x) (l : A ≤ B) : Ab B x := ⟨by have := h.1; omega, by have := h.2; omega⟩
theorem Ab.add {A B x y : Int} (h : Ab A x) (h2 : Ab B y) : Ab (A + B) (x + y) := by
  obtain ⟨a, b⟩ := h
  obtain ⟨c, d⟩ := h2
  exact ⟨by omega, by omega⟩
theorem Ab.nn {B x : Int} (h : Ab B x) : 0 ≤ B := by
  obtain ⟨a, b⟩ := h
  omega
theorem Ab.mul {A B x y : Int} (h : Ab A x) (h2 : Ab B y) : Ab (A * B) (x * y) := by
  have a0 := h.nn
  have b0 := h2.nn
  obtain ⟨p1, p2⟩ := mul_between (x := x) h2.1 h2.2
  have q1 := Int.mul_le_mul_of_nonneg_right h.1 b0
  have q2 := Int.mul_le_mul_of_nonneg_right h.2 b0
  rw [Int.mul_neg] at p1 p2
  rw [Int.neg_mul] at q1
  exact ⟨by omega, by omega⟩
theorem Ab.neg {A x : Int} (h : Ab A x) : Ab A (-x) := by
  obtain ⟨a, b⟩ := h
  exact ⟨by omega, by omega⟩
theorem Ab.div {B n d : Int} (hd : 0 < d) (h : Ab (B * d) n) : Ab B (n / d) := by
  obtain ⟨a, b⟩ := h
  refine ⟨Int.le_ediv_of_mul_le hd (by rw [Int.neg_mul]; exact a), ?_⟩
  have := Int.ediv_le_ediv hd b
  rw [Int.mul_ediv_cancel _ (Int.ne_of_gt hd)] at this
  exact this
/-- a coordinate is no longer than the root of the square length -/
theorem ab_isq {c s : Int} (h : c * c ≤ s) : Ab (isq s) c := by
  have s0 : 0 ≤ s := Int.le_trans (Mi.sq_nonneg c) h
  obtain ⟨r0, r1, r2⟩ := isq_spec s0
  refine ⟨?_, ?_⟩
  · rcases (show c < -isq s ∨ -isq s ≤ c by omega) with l | l
    · exfalso
      have := sq_mono (by omega : 0 ≤ isq s + 1) (by omega : isq s + 1 ≤ -c)
      rw [Int.neg_mul_neg] at this
      omega
    · exact l
  · rcases (show isq s < c ∨ c ≤ isq s by omega) with l | l
    · exfalso
      have := sq_mono (by omega : 0 ≤ isq s + 1) (by omega : isq s + 1 ≤ c)
      omega
    · exact l
theorem le_mul {a b : Int} (ha : 0 ≤ a) (hb : 1 ≤ b) : a ≤ b * a := by
  have := Int.mul_le_mul_of_nonneg_right hb ha
  rw [Int.one_mul] at this
  exact this
theorem pullPt_ab {mu ob s r z c k : Int} (hmu : 0 ≤ mu) (hob : 0 ≤ ob) (hs : 0 < s) (hr : 0 < r) (hc : Ab r c) (hz : 0 ≤ z * z) (hz2 : z * z ≤ s) (hk : k = 1 ∨ k = 3) : Ab (mu + 5 * ob) (pullPt mu ob s r z c k) := by
  have e : 5 * z * z - k * s = 5 * (z * z) - k * s := by rw [Int.mul_assoc]
  have h5 : Ab (5 * s) (5 * z * z - k * s) := by
    rw [e]
    generalize z * z = y at *
    rcases hk with rfl | rfl
    · exact ⟨by omega, by omega⟩
    · exact ⟨by omega, by omega⟩
  refine Ab.add (Ab.div (Int.mul_pos hs hr) ?_) (Ab.div (Int.mul_pos (Int.mul_pos (Int.mul_pos hs hs) hs) hr) ?_)
  · have m : Ab mu (-mu) := ⟨by omega, by omega⟩
    exact (m.mul hc).mono (Int.mul_le_mul_of_nonneg_left (le_mul (Int.le_of_lt hr) (by omega)) hmu)
  · have m : Ab ob ob := ⟨by omega, by omega⟩
    refine ((m.mul hc).mul h5).mono ?_
    have h1 : r * s ≤ s * s * s * r := by
      have a := le_mul (Int.le_of_lt hs) (show 1 ≤ s by omega)
      have b := le_mul (show 0 ≤ s * s from Mi.sq_nonneg s) (show 1 ≤ s by omega)
      have c : s ≤ s * s * s := by rw [Int.mul_assoc]; omega
      have d := Int.mul_le_mul_of_nonneg_right c (Int.le_of_lt hr)
      rw [Int.mul_comm r s]
      exact d
    have h2 := Int.mul_le_mul_of_nonneg_left h1 (show 0 ≤ 5 * ob by omega)
    have e2 : ob * r * (5 * s) = 5 * ob * (r * s) := by
      rw [Int.mul_assoc, Int.mul_comm 5 ob, Int.mul_assoc ob 5, Int.mul_left_comm r 5 s]
    rw [e2]
    exact h2
theorem pull_ab {mu ob : Int} {p : Pt} (hmu : 0 ≤ mu) (hob : 0 ≤ ob) (hz : isZero p = false) : Ab3 (mu + 5 * ob) (pullM mu ob p) := by
  have s1 := nz_pos hz
  have a := Mi.sq_nonneg p.1
  have b := Mi.sq_nonneg p.2.1
  have c := Mi.sq_nonneg p.2.2
  have r1 := isq_pos s1
  refine ⟨pullPt_ab hmu hob s1 r1 (ab_isq ?_) c ?_ (.inl rfl), pullPt_ab hmu hob s1 r1 (ab_isq ?_) c ?_ (.inl rfl), pullPt_ab hmu hob s1 r1 (ab_isq ?_) c ?_ (.inr rfl)⟩ <;> omega
theorem Ab3.add {A B : Int} {p q : Pt} (h : Ab3 A p) (h2 : Ab3 B q) : Ab3 (A + B) (ptAdd p q) := ⟨h.1.add h2.1, h.2.1.add h2.2.1, h.2.2.add h2.2.2⟩
theorem Ab3.mono {A B : Int} {p : Pt} (h : Ab3 A p) (l : A ≤ B) : Ab3 B p := ⟨h.1.mono l, h.2.1.mono l, h.2.2.mono l⟩
theorem _root_.Pr.BxIn.mono {m n : Int} {b : Bx} (h : BxIn m b) (l : m ≤ n) : BxIn n b := by
  have f : ∀ {a : Iv}, IvIn m a → IvIn n a := fun h => ⟨by have := h.1; omega, h.2.1, by have := h.2.2; omega⟩
  exact ⟨f h.1, f h.2.1, f h.2.2⟩
/-! ### the law's boxes -/
theorem sp1 (x : Int) {span : Int} (h : 0 ≤ span) : Ab span (x % (2 * span + 1) - span) := by
  have a := Int.emod_nonneg x (show 2 * span + 1 ≠ 0 by omega)
  have b := Int.emod_lt_of_pos x (show 0 < 2 * span + 1 by omega)
  exact ⟨by omega, by omega⟩
theorem spread_ab (row : Int) {span : Int} (h : 0 ≤ span) : Ab3 span (spreadM row span) := ⟨sp1 _ h, sp1 _ h, sp1 _ h⟩
theorem spread_in (row : Int) {span : Int} (h : 0 ≤ span) : inD span (spreadM row span) := spread_ab row h
theorem around_in {c span r wide : Int} (h : Ab span c) (hw : 0 ≤ wide) : IvIn (span + wide) (around c (r % (wide + 1))) := by
  have a := Int.emod_nonneg r (show wide + 1 ≠ 0 by omega)
  have b := Int.emod_lt_of_pos r (show 0 < wide + 1 by omega)
  obtain ⟨c1, c2⟩ := h
  exact ⟨by show _ ≤ c - r % (wide + 1); omega, by show c - r % (wide + 1) ≤ c + r % (wide + 1); omega, by show c + r % (wide + 1) ≤ _; omega⟩
theorem box_in (row : Int) {span wide : Int} (h : 0 ≤ span) (hw : 0 ≤ wide) : BxIn (span + wide) (boxM row span wide) :=
  have s := spread_ab row h
  ⟨around_in s.1 hw, around_in s.2.1 hw, around_in s.2.2 hw⟩
theorem mem1 {a : Iv} (x : Int) (h : a.1 ≤ a.2) : inI a (a.1 + x % (a.2 - a.1 + 1)) := by
  have p := Int.emod_nonneg x (show a.2 - a.1 + 1 ≠ 0 by omega)
  have q := Int.emod_lt_of_pos x (show 0 < a.2 - a.1 + 1 by omega)
  exact ⟨by omega, by omega⟩
theorem member_in {m : Int} {b : Bx} (row : Int) (h : BxIn m b) : inB b (memberM b row) := ⟨mem1 _ h.1.2.1, mem1 _ h.2.1.2.1, mem1 _ h.2.2.2.1⟩
theorem in_ab {m : Int} {b : Bx} {p : Pt} (h : BxIn m b) (i : inB b p) : Ab3 m p := by
  have f : ∀ {a : Iv} {x : Int}, IvIn m a → inI a x → Ab m x := fun h i => ⟨Int.le_trans h.1 i.1, Int.le_trans i.2 h.2.2⟩
  exact ⟨f h.1 i.1, f h.2.1 i.2.1, f h.2.2 i.2.2⟩
theorem _root_.Pr.BxIn.v {m : Int} {b : Bx} (h : BxIn m b) : BxV b := ⟨h.1.2.1, h.2.1.2.1, h.2.2.2.1⟩
theorem _root_.Pr.BxIn.ok {m : Int} {b : Bx} (h : BxIn m b) (l : m ≤ LIM) : BxOk b := by
  have f : ∀ {a : Iv}, IvIn m a → IvOk a := fun h => ⟨h.2.1, by have := h.1; omega, by have := h.2.2; omega⟩
  exact ⟨f h.1, f h.2.1, f h.2.2⟩
theorem burns_in (row : Int) : ∀ (n k : Nat) (first : Int), ∀ b ∈ burnsM row n k first, first ≤ b.1 ∧ b.1 < b.2.1 ∧ b.2.1 ≤ first + 4 * (n : Int) ∧ BxIn 34 b.2.2
  | 0, k, first, b, h => by cases h
  | n + 1, k, first, b, h => by
    have a1 := m_nn (row / 5) (show (0 : Int) < 3 by decide)
    have a2 := Int.emod_lt_of_pos (row / 5) (show (0 : Int) < 3 by decide)
    have a3 := m_nn (row / 7) (show (0 : Int) < 2 by decide)
    have a4 := Int.emod_lt_of_pos (row / 7) (show (0 : Int) < 2 by decide)
    rcases List.mem_cons.mp (show b ∈ (first, first + 1 + row / 5 % 3, boxM (row / 12 + (k : Int) * 7919) 30 (pick2 0 4 ((k : Int) % 2))) :: burnsM row n (k + 1) (first + 1 + row / 5 % 3 + row / 7 % 2) from h) with rfl | h
    · refine ⟨Int.le_refl _, ?_, ?_, ?_⟩
      · show first < first + 1 + row / 5 % 3
        omega
      · show first + 1 + row / 5 % 3 ≤ _
        omega
      · have t : 0 ≤ pick2 0 4 ((k : Int) % 2) ∧ pick2 0 4 ((k : Int) % 2) ≤ 4 := by rcases pick2_or 0 4 ((k : Int) % 2) with h | h <;> rw [h] <;> decide
        exact (box_in (row / 12 + (k : Int) * 7919) (span := 30) (by decide) t.1).mono (by omega)
    · obtain ⟨b1, b2, b3, b4⟩ := burns_in row n (k + 1) _ b h
      exact ⟨by omega, b2, by omega, b4⟩
theorem burns_len (row : Int) : ∀ (n k : Nat) (first : Int), (burnsM row n k first).length = n
  | 0, k, first => rfl
  | n + 1, k, first => by
    show (burnsM row n (k + 1) _).length + 1 = n + 1
    rw [burns_len row n]
/-- what holds of the law's world -/
structure WB (W : Wld) : Prop where
  mu0 : 1 ≤ W.mu
  mu1 : W.mu ≤ 1000000000
  ob0 : 0 ≤ W.bulge
  ob1 : W.bulge ≤ 1000000000000
  d0 : 0 ≤ W.drift
  d1 : W.drift ≤ 5
  s0 : 0 ≤ W.start
  s1 : W.start ≤ 8
  f0 : 0 ≤ W.fineness
  f1 : W.fineness ≤ 2
  n0 : 3 ≤ W.many
  n1 : W.many ≤ 11
  place : BxIn 5040 W.place
  speed : BxIn 69 W.speed
  burns : ∀ b ∈ W.burns, 0 ≤ b.1 ∧ b.1 < b.2.1 ∧ b.2.1 ≤ 100 ∧ BxIn 34 b.2.2
  lB : W.burns.length ≤ 2
theorem world_b (r0 r1 r2 r3 r6 : Int) : WB (worldR r0 r1 r2 r3 r6) := by
  have mb : ∀ (x : Int) {n : Int}, 0 < n → 0 ≤ x % n ∧ x % n < n := fun x n h => ⟨m_nn x h, Int.emod_lt_of_pos x h⟩
  have a1 := mb (r0 / 7) (show (0 : Int) < 1000 by decide)
  have a2 := mb (r0 / 7) (show (0 : Int) < 10000000 by decide)
  have a3 := mb (r0 / 7) (show (0 : Int) < 1000000000 by decide)
  have a4 := mb (r0 / 11) (show (0 : Int) < 1000000000000 by decide)
  have a5 := mb (r1 / 5) (show (0 : Int) < 6 by decide)
  have a6 := mb (r1 / 31) (show (0 : Int) < 9 by decide)
  have a7 := mb (r1 / 279) (show (0 : Int) < 3 by decide)
  have a8 := mb (r1 / 837) (show (0 : Int) < 9 by decide)
  have a9 := mb (r6 / 4) (show (0 : Int) < 3 by decide)
  have a10 := mb r6 (show (0 : Int) < 4 by decide)
  have emu : (worldR r0 r1 r2 r3 r6).mu = pick3 (1 + r0 / 7 % 1000) (1 + r0 / 7 % 10000000) (1 + r0 / 7 % 1000000000) (r0 % 3) := rfl
  have eob : (worldR r0 r1 r2 r3 r6).bulge = pick2 0 (r0 / 11 % 1000000000000) (r0 / 3 % 2) := rfl
  have edr : (worldR r0 r1 r2 r3 r6).drift = pick3 0 1 (r1 / 5 % 6) (r1 % 3) := rfl
  have est : (worldR r0 r1 r2 r3 r6).start = r1 / 31 % 9 := rfl
  have efi : (worldR r0 r1 r2 r3 r6).fineness = r1 / 279 % 3 := rfl
  have ema : (worldR r0 r1 r2 r3 r6).many = 3 + r1 / 837 % 9 := rfl
  have epl : (worldR r0 r1 r2 r3 r6).place = boxM (r2 / 3) (pick3 30 300 5000 (r2 % 3)) (pick3 0 3 40 (r2 / 17 % 3)) := rfl
  have esp : (worldR r0 r1 r2 r3 r6).speed = boxM (r3 / 3) (pick2 5 60 (r3 % 2)) (pick3 0 2 9 (r3 / 13 % 3)) := rfl
  have ebu : (worldR r0 r1 r2 r3 r6).burns = burnsM r6 (r6 / 4 % 3).toNat 0 (r1 / 31 % 9 + r6 % 4) := rfl
  have hmu : 1 ≤ pick3 (1 + r0 / 7 % 1000) (1 + r0 / 7 % 10000000) (1 + r0 / 7 % 1000000000) (r0 % 3) ∧ pick3 (1 + r0 / 7 % 1000) (1 + r0 / 7 % 10000000) (1 + r0 / 7 % 1000000000) (r0 % 3) ≤ 1000000000 := by
    rcases pick3_or (1 + r0 / 7 % 1000) (1 + r0 / 7 % 10000000) (1 + r0 / 7 % 1000000000) (r0 % 3) with h | h | h <;> rw [h] <;> omega
  have hob : 0 ≤ pick2 0 (r0 / 11 % 1000000000000) (r0 / 3 % 2) ∧ pick2 0 (r0 / 11 % 1000000000000) (r0 / 3 % 2) ≤ 1000000000000 := by
    rcases pick2_or 0 (r0 / 11 % 1000000000000) (r0 / 3 % 2) with h | h <;> rw [h] <;> omega
  have hdr : 0 ≤ pick3 0 1 (r1 / 5 % 6) (r1 % 3) ∧ pick3 0 1 (r1 / 5 % 6) (r1 % 3) ≤ 5 := by
    rcases pick3_or 0 1 (r1 / 5 % 6) (r1 % 3) with h | h | h <;> rw [h] <;> omega
  have hp1 : 0 ≤ pick3 30 300 5000 (r2 % 3) ∧ pick3 30 300 5000 (r2 % 3) ≤ 5000 := by rcases pick3_or 30 300 5000 (r2 % 3) with h | h | h <;> rw [h] <;> decide
  have hp2 : 0 ≤ pick3 0 3 40 (r2 / 17 % 3) ∧ pick3 0 3 40 (r2 / 17 % 3) ≤ 40 := by rcases pick3_or 0 3 40 (r2 / 17 % 3) with h | h | h <;> rw [h] <;> decide
  have hs1 : 0 ≤ pick2 5 60 (r3 % 2) ∧ pick2 5 60 (r3 % 2) ≤ 60 := by rcases pick2_or 5 60 (r3 % 2) with h | h <;> rw [h] <;> decide
  have hs2 : 0 ≤ pick3 0 2 9 (r3 / 13 % 3) ∧ pick3 0 2 9 (r3 / 13 % 3) ≤ 9 := by rcases pick3_or 0 2 9 (r3 / 13 % 3) with h | h | h <;> rw [h] <;> decide
  refine ⟨by rw [emu]; exact hmu.1, by rw [emu]; exact hmu.2, by rw [eob]; exact hob.1, by rw [eob]; exact hob.2, by rw [edr]; exact hdr.1, by rw [edr]; exact hdr.2, by rw [est]; omega, by rw [est]; omega, by rw [efi]; omega, by rw [efi]; omega, by rw [ema]; omega, by rw [ema]; omega, ?_, ?_, ?_, ?_⟩
  · rw [epl]
    exact (box_in _ hp1.1 hp2.1).mono (by omega)
  · rw [esp]
    exact (box_in _ hs1.1 hs2.1).mono (by omega)
  · rw [ebu]
    intro b hb
    obtain ⟨b1, b2, b3, b4⟩ := burns_in _ _ _ _ b hb
    exact ⟨by omega, b2, by omega, b4⟩
  · rw [ebu, burns_len]
    omega
/-! ### the motion -/
section
variable {ns : List Int} {W : Wld}
theorem push_in (h : WB W) (t : Int) : BxIn 34 (pushAt W.burns t) := by
  unfold pushAt
  cases e : W.burns.find? fun b => decide (b.1 ≤ t) && decide (t < b.2.1) with
  | none => exact ⟨⟨by decide, by decide, by decide⟩, ⟨by decide, by decide, by decide⟩, ⟨by decide, by decide, by decide⟩⟩
  | some b => exact (h.burns b (List.mem_of_find?_eq_some e)).2.2.2
theorem fast_ab (h : WB W) {k : Nat} {p v : Pt} {B : Int} (hz : isZero p = false) (hv : Ab3 B v) : Ab3 (B + 5001000000039) (fastM ns W k p v) := by
  have a := pull_ab (p := p) (show 0 ≤ W.mu by have := h.mu0; omega) h.ob0 hz
  have b := in_ab (push_in h (W.start + k)) (member_in (rowM ns (8 + k)) (push_in h (W.start + k)))
  have c := spread_ab (rowM ns (8 + k) / 1000000000) h.d0
  refine (((hv.add a).add b).add c).mono ?_
  have := h.mu1
  have := h.ob1
  have := h.d1
  omega
theorem motion_ab (h : WB W) (n : Nat) : ∀ (k : Nat) (p v : Pt), k + n ≤ 11 → Ab3 (69 + (k : Int) * 5001000000039) v → Ab3 (5040 + (k : Int) * 55011000000498) p → ∀ m ∈ motionFrom ns W n k p v, Ab3 605121000010518 m.1 := by
  induction n with
  | zero =>
    intro k p v _ _ _ m hm
    exact absurd hm List.not_mem_nil
  | succ n ih =>
    intro k p v hk hv hp m hm
    unfold motionFrom at hm
    cases hz : isZero p with
    | true =>
      rw [hz] at hm
      cases hm
    | false =>
      rw [hz, if_neg (by decide)] at hm
      dsimp only at hm
      have hv' := fast_ab (ns := ns) (k := k) h hz hv
      generalize fastM ns W k p v = v' at hm hv'
      have hp' := hp.add hv'
      have v2 : Ab3 (69 + ((k + 1 : Nat) : Int) * 5001000000039) v' := hv'.mono (by omega)
      have p2 : Ab3 (5040 + ((k + 1 : Nat) : Int) * 55011000000498) (ptAdd p v') := hp'.mono (by omega)
      rcases List.mem_cons.mp hm with rfl | hm
      · exact p2.mono (by omega)
      · exact ih (k + 1) _ _ (by omega) v2 p2 m hm
theorem motion_all (h : WB W) : ∀ m ∈ motionM ns W, Ab3 605121000010518 m.1 := fun m hm => by
  have p0 := in_ab h.place (member_in (rowM ns 4) h.place)
  have v0 := in_ab h.speed (member_in (rowM ns 5) h.speed)
  rcases List.mem_cons.mp (show m ∈ (memberM W.place (rowM ns 4), memberM W.speed (rowM ns 5)) :: motionFrom ns W W.many.toNat 0 (memberM W.place (rowM ns 4)) (memberM W.speed (rowM ns 5)) from hm) with rfl | hm
  · exact p0.mono (by omega)
  · exact motion_ab h _ 0 _ _ (by have := h.n1; omega) (v0.mono (by omega)) (p0.mono (by omega)) m hm
theorem motion_len : ∀ (n k : Nat) (p v : Pt), (motionFrom ns W n k p v).length ≤ n
  | 0, k, p, v => Nat.le_refl _
  | n + 1, k, p, v => by
    unfold motionFrom
    split
    · exact Nat.zero_le _
    · have := motion_len n (k + 1) (ptAdd p (fastM ns W k p v)) (fastM ns W k p v)
      show (motionFrom ns W n (k + 1) _ _).length + 1 ≤ n + 1
      omega
/-! ### what is seen -/
theorem seenBox_in {m : Int} {p : Pt} (row : Int) (h : Ab3 m p) : inB (seenBox row p) p ∧ BxIn (m + 402) (seenBox row p) := by
  have mb : ∀ (x : Int) {n : Int}, 0 < n → 0 ≤ x % n ∧ x % n < n := fun x n h => ⟨m_nn x h, Int.emod_lt_of_pos x h⟩
  have a1 := mb (row / 3) (show (0 : Int) < 5 by decide)
  have a2 := mb (row / 3) (show (0 : Int) < 400 by decide)
  have a3 := mb (row / 7) (show (0 : Int) < 3 by decide)
  have hw : 0 ≤ pick3 0 (row / 3 % 5) (row / 3 % 400) (row / 5 % 3) ∧ pick3 0 (row / 3 % 5) (row / 3 % 400) (row / 5 % 3) ≤ 400 := by
    rcases pick3_or 0 (row / 3 % 5) (row / 3 % 400) (row / 5 % 3) with h | h | h <;> rw [h] <;> omega
  have hl : 0 ≤ pick2 0 (row / 7 % 3) (row / 2 % 2) ∧ pick2 0 (row / 7 % 3) (row / 2 % 2) ≤ 2 := by
    rcases pick2_or 0 (row / 7 % 3) (row / 2 % 2) with h | h <;> rw [h] <;> omega
  have e : seenBox row p = ((p.1 - pick3 0 (row / 3 % 5) (row / 3 % 400) (row / 5 % 3), p.1 + pick3 0 (row / 3 % 5) (row / 3 % 400) (row / 5 % 3) + pick2 0 (row / 7 % 3) (row / 2 % 2)), (p.2.1 - pick3 0 (row / 3 % 5) (row / 3 % 400) (row / 5 % 3), p.2.1 + pick3 0 (row / 3 % 5) (row / 3 % 400) (row / 5 % 3) + pick2 0 (row / 7 % 3) (row / 2 % 2)), (p.2.2 - pick3 0 (row / 3 % 5) (row / 3 % 400) (row / 5 % 3), p.2.2 + pick3 0 (row / 3 % 5) (row / 3 % 400) (row / 5 % 3) + pick2 0 (row / 7 % 3) (row / 2 % 2))) := rfl
  rw [e]
  generalize pick3 0 (row / 3 % 5) (row / 3 % 400) (row / 5 % 3) = wd at *
  generalize pick2 0 (row / 7 % 3) (row / 2 % 2) = ls at *
  have f : ∀ x : Int, Ab m x → inI (x - wd, x + wd + ls) x ∧ IvIn (m + 402) (x - wd, x + wd + ls) := fun x hx => by
    obtain ⟨x1, x2⟩ := hx
    exact ⟨⟨by show x - wd ≤ x; omega, by show x ≤ x + wd + ls; omega⟩, ⟨by show _ ≤ x - wd; omega, by show x - wd ≤ x + wd + ls; omega, by show x + wd + ls ≤ _; omega⟩⟩
  exact ⟨⟨(f _ h.1).1, (f _ h.2.1).1, (f _ h.2.2).1⟩, ⟨(f _ h.1).2, (f _ h.2.1).2, (f _ h.2.2).2⟩⟩
theorem seen_at (start : Int) : ∀ (mo : List (Pt × Pt)) (row : Int) (k : Nat), ∀ s ∈ seenFrom start row k mo, ∃ (j : Nat) (m : Pt × Pt) (r : Int), mo[j]? = some m ∧ s.1 = start + ((k + j : Nat) : Int) ∧ s.2 = seenBox r m.1
  | [], row, k, s, h => by cases h
  | m :: mo, row, k, s, h => by
    have h2 : s ∈ (if row % 3 = 0 then [(start + (k : Int), seenBox row m.1)] else []) ++ seenFrom start (row / 15 + (k : Int) * 31) (k + 1) mo := h
    rcases List.mem_append.mp h2 with h2 | h2
    · split at h2
      · have e : s = (start + (k : Int), seenBox row m.1) := by simpa using h2
        exact ⟨0, m, row, rfl, by rw [e]; rfl, by rw [e]⟩
      · cases h2
    · obtain ⟨j, m', r, e1, e2, e3⟩ := seen_at start mo _ (k + 1) s h2
      exact ⟨j + 1, m', r, by simpa using e1, by rw [e2]; congr 1; omega, e3⟩
theorem seen_len (start : Int) : ∀ (mo : List (Pt × Pt)) (row : Int) (k : Nat), (seenFrom start row k mo).length ≤ mo.length
  | [], row, k => Nat.le_refl _
  | m :: mo, row, k => by
    show ((if row % 3 = 0 then [(start + (k : Int), seenBox row m.1)] else []) ++ seenFrom start (row / 15 + (k : Int) * 31) (k + 1) mo).length ≤ mo.length + 1
    rw [List.length_append]
    have := seen_len start mo (row / 15 + (k : Int) * 31) (k + 1)
    split
    · show 1 + _ ≤ _
      omega
    · show 0 + _ ≤ _
      omega
theorem sight_in {mo : List (Pt × Pt)} {start : Int} {B : Int} (hB : ∀ m ∈ mo, Ab3 B m.1) {j : Nat} {m : Pt × Pt} (hj : mo[j]? = some m) {b : Bx} (e : sightAt (seenM ns mo start) (start + (j : Int)) = some b) : inB b m.1 := by
  unfold sightAt at e
  cases q : (seenM ns mo start).find? fun b => b.1 == start + (j : Int) with
  | none =>
    rw [q] at e
    cases e
  | some s =>
    rw [q] at e
    cases e
    have e1 : s.1 = start + (j : Int) := by
      have := List.find?_some q
      exact beq_iff_eq.mp this
    obtain ⟨i, m', r, e2, e3, e4⟩ := seen_at start mo _ 0 s (List.mem_of_find?_eq_some q)
    have ij : i = j := by omega
    subst ij
    rw [e2] at hj
    cases hj
    show inB s.2 m.1
    rw [e4]
    exact (seenBox_in r (hB _ (List.mem_of_getElem? e2))).1
theorem obeys_from (h : WB W) {sg : List SightT} {mo : List (Pt × Pt)} (hs : ∀ (j : Nat) (m : Pt × Pt), mo[j]? = some m → ∀ b, sightAt sg (W.start + (j : Int)) = some b → inB b m.1) : ∀ (n k : Nat) (p v : Pt) (pre : List (Pt × Pt)), pre.length = k → mo = pre ++ (p, v) :: motionFrom ns W n k p v →
    Obeys W.mu W.bulge (craftOf W sg) (W.start + (k : Int)) ((p, v) :: motionFrom ns W n k p v)
  | 0, k, p, v, pre, pl, e => by
    show Obeys W.mu W.bulge (craftOf W sg) (W.start + (k : Int)) [(p, v)]
    refine ⟨fun b hb => hs k (p, v) ?_ b hb, fun m' hm => (by cases hm), trivial⟩
    rw [e, List.getElem?_append_right (by omega), pl, Nat.sub_self]
    rfl
  | n + 1, k, p, v, pre, pl, e => by
    have hk : mo[k]? = some (p, v) := by
      rw [e, List.getElem?_append_right (by omega), pl, Nat.sub_self]
      rfl
    have ef : motionFrom ns W (n + 1) k p v = if isZero p then [] else (ptAdd p (fastM ns W k p v), fastM ns W k p v) :: motionFrom ns W n (k + 1) (ptAdd p (fastM ns W k p v)) (fastM ns W k p v) := rfl
    rw [ef] at e ⊢
    by_cases hz : isZero p = true
    · rw [if_pos hz] at e ⊢
      exact ⟨fun b hb => hs k (p, v) hk b hb, fun m' hm => (by cases hm), trivial⟩
    · rw [if_neg hz] at e ⊢
      refine ⟨fun b hb => hs k (p, v) hk b hb, fun m' hm => ?_, ?_⟩
      · have e2 : m' = (ptAdd p (fastM ns W k p v), fastM ns W k p v) := (Option.some.inj hm).symm
        subst e2
        exact ⟨memberM (pushAt W.burns (W.start + (k : Int))) (rowM ns (8 + k)), spreadM (rowM ns (8 + k) / 1000000000) W.drift, member_in _ (push_in h _), spread_in _ h.d0, rfl, rfl⟩
      · have := obeys_from h hs n (k + 1) (ptAdd p (fastM ns W k p v)) (fastM ns W k p v) (pre ++ [(p, v)]) (by rw [List.length_append, pl]; rfl) (by rw [e, List.append_assoc]; rfl)
        rw [show W.start + (k : Int) + 1 = W.start + ((k + 1 : Nat) : Int) by omega]
        exact this
end
/-! ### all that the walk asks -/
theorem law_ok (ns : List Int) : LawOk ns (worldM ns) (motionM ns (worldM ns)) (seenM ns (motionM ns (worldM ns)) (worldM ns).start) := by
  have h : WB (worldM ns) := by
    rw [worldM_eq]
    exact world_b _ _ _ _ _
  generalize worldM ns = W at h
  have hm := motion_all (ns := ns) h
  have em : motionM ns W = (memberM W.place (rowM ns 4), memberM W.speed (rowM ns 5)) :: motionFrom ns W W.many.toNat 0 (memberM W.place (rowM ns 4)) (memberM W.speed (rowM ns 5)) := rfl
  have lf := motion_len (ns := ns) (W := W) W.many.toNat 0 (memberM W.place (rowM ns 4)) (memberM W.speed (rowM ns 5))
  have n0 := h.n0
  have n1 := h.n1
  have ll : 1 ≤ (motionM ns W).length ∧ (motionM ns W).length ≤ 12 := by
    rw [em, List.length_cons]
    omega
  have hp : ∀ m ∈ motionM ns W, PtB 60 m.1 := fun m i => by
    have f : ∀ x : Int, Ab 605121000010518 x → Bn 60 x := fun x hx => by
      obtain ⟨x1, x2⟩ := hx
      show x.natAbs < 1152921504606846976
      omega
    obtain ⟨a, b, c⟩ := hm m i
    exact ⟨f _ a, f _ b, f _ c⟩
  have hS : ∀ s ∈ seenM ns (motionM ns W) W.start, SightOk s := fun s i => by
    obtain ⟨j, m, r, e1, e2, e3⟩ := seen_at W.start (motionM ns W) _ 0 s i
    have jl : j < (motionM ns W).length := (List.getElem?_eq_some_iff.mp e1).1
    have s0 := h.s0
    have s1 := h.s1
    refine ⟨by omega, by omega, ?_⟩
    rw [e3]
    exact (seenBox_in r (hm m (List.mem_of_getElem? e1))).2.mono (by decide)
  have lS := seen_len W.start (motionM ns W) (rowM ns 7) 0
  have hc : CraftOk (craftOf W (seenM ns (motionM ns W) W.start)) := ⟨h.place.ok (by decide), h.speed.ok (by decide), h.d0, fun t => (push_in h t).v⟩
  have hs : ∀ (j : Nat) (m : Pt × Pt), (motionM ns W)[j]? = some m → ∀ b, sightAt (seenM ns (motionM ns W) W.start) (W.start + (j : Int)) = some b → inB b m.1 := fun j m e b => sight_in hm e
  have ho := obeys_from (ns := ns) h hs W.many.toNat 0 (memberM W.place (rowM ns 4)) (memberM W.speed (rowM ns 5)) [] rfl em
  have hb : ∀ {x : Int} {B : Int}, 0 ≤ x → x ≤ B → B ≤ M30 → Bn 140 x := fun h0 h1 h2 => bn30 h0 (Int.le_trans h1 h2)
  have mu0 := h.mu0
  have mu1 := h.mu1
  have ob0 := h.ob0
  have ob1 := h.ob1
  have s0 := h.s0
  have s1 := h.s1
  have f1 := h.f1
  have d1 := h.d1
  refine ⟨⟨hb (by omega) mu1 (by decide), hb ob0 ob1 (by decide), h.place.mono (by decide), h.speed.mono (by decide), h.d0, by omega, fun t => (push_in h t).mono (by decide), by omega, by omega, hp⟩,
    mu0, Int.le_trans mu1 (by decide), ob0, Int.le_trans ob1 (by decide), h.f0, f1, s0, s1, ll.1, by omega, ⟨rfl, s0, by show W.start ≤ 100000; omega, h.place.mono (by decide), h.speed.mono (by decide), h.d0, Int.le_trans d1 (by decide)⟩,
    fun b i => ?_, hS, by have := h.lB; omega, ?_, hc, fun u u0 u1 => ?_⟩
  · obtain ⟨b1, b2, b3, b4⟩ := h.burns b i
    exact ⟨b1, b2, by omega, b4.mono (by decide)⟩
  · have e : (seenM ns (motionM ns W) W.start).length = (seenFrom W.start (rowM ns 7) 0 (motionM ns W)).length := rfl
    omega
  · have z : W.start + ((0 : Nat) : Int) = W.start := by omega
    rw [z] at ho
    rw [em] at u1 ⊢
    exact journey_holds (c := craftOf W (seenM ns (motionM ns W) W.start)) hc (by omega) u0 (member_in _ h.place) (member_in _ h.speed) ho (by rw [List.length_cons] at u1; show (u - W.start).toNat ≤ _; omega)
end Mx
namespace Ed
open PySem PySem.Spec PyProof.Rows L2 DL
theorem fin {P : Program} {w : World} {K : PySem.W.Frag} {h : Heap} {mg : Str → Option Value} {f : Addr} (X : K.In h) (G : h.Ns mainGlobals mg) (hfa : mg ("law" : Str) = some (.ref f)) (c : Hd.Says K) :
    ∃ fd : FuncData, (∀ (s : Shared) (v : Value), BindsTo s fd ⟨[v], []⟩ [("_law_script", v)]) ∧ ∀ base : Heap, K.In base → base.Ns mainGlobals mg → FnOk P w K mg base CX0 9 f fd ["_law_script"] (spD K Pr.F_law) := by
  have C : Ft.Ctx K mg := ⟨c.1, c.2, h, X, G⟩
  obtain ⟨fd, F⟩ := Ft.f_law C
  have e := hfa.symm.trans (Ft.g_law C)
  cases e
  have F1 : FunD K Tx.d_law.name Tx.d_law.qual Tx.d_law.params Tx.d_law.body Tx.d_law.scope [] (Tx.d_law.kws K) (He.fAd K Tx.d_law.at_) fd := F
  have b := FunD.bindsA (ps := ["_law_script"]) F1 fun _ _ _ _ _ _ us hl => match us, hl with | [_], _ => rfl
  exact ⟨fd, fun s v => b s [v] rfl, fun base _ _ => Pr.ok_law Mx.law_ok C F1⟩
theorem entry {K : PySem.W.Frag} (H : Hp) (a : Addr) (ns : List Int) (hS : SqL K H a (ns.map V.int)) : spD K Pr.F_law [.ref a] H (fun v _ => v = .bl true) fun _ _ _ => False :=
  ⟨H, [.scr ns], .bl true, Same.refl H, ⟨ns, rfl, rfl⟩, .cons (.scr hS) .nil, fun v G' H' s r => by cases r; rfl⟩
end Ed
open PySem PySem.W PySem.Calls PyProof.Rows
theorem PySem.Challenge.cw_orrery_k14_whole_journeys_hold_every_mot_holds : PySem.Challenge.rw_orrery_k14_whole_journeys_hold_every_mot.Holds := by
  w_on; o_law
  refine HandSHeadRun.head_imp (r := OpenLaw.row PySem.Challenge.rw_orrery_k14_whole_journeys_hold_every_mot) (q := Hd.qv) (H := Hd.hk) (ob := Hd.ob) (M := 4000) (loose := Hd.names) (d := HandSHeadRun.topDef (OpenLaw.row PySem.Challenge.rw_orrery_k14_whole_journeys_hold_every_mot).prog 76) (kwd := []) Hd.ob_eq Hd.run
    (by kernel_rfl) (by kernel_rfl) (by kernel_rfl) (by rfl) (by first | assumption | decide +kernel) (by decide +kernel) ⟨rfl, rfl, rfl, rfl, rfl, by decide +kernel⟩ ?hw ?hc
  case hw => w_witness2
  case hc =>
    refine L2.walk_ofE (l := PySem.Challenge.rw_orrery_k14_whole_journeys_hold_every_mot) (n := 63) (k := 9) (x := "_law_script") (CX := L2.CX0) rfl (by decide) (by kernel_rfl) ⟨rfl, by decide, by decide⟩ ?F (fun _ _ _ _ z => z)
    intro w mg fa h Y G hmg0
    obtain ⟨K, KX, c⟩ := Y
    have hmg : mg ("law" : PySem.Str) = some (.ref fa) := by
      have e : (HandSHeadRun.topDef (OpenLaw.row PySem.Challenge.rw_orrery_k14_whole_journeys_hold_every_mot).prog 76).name = ("law" : PySem.Str) := by kernel_rfl
      rw [← e]
      exact hmg0
    obtain ⟨fd, hb, hF⟩ := Ed.fin (P := (PySem.Challenge.rw_orrery_k14_whole_journeys_hold_every_mot).prog) (w := w) KX G hmg c
    exact ⟨K, fd, DL.spD K Pr.F_law, KX, hb, fun H a ns _ _ hS => Ed.entry H a ns hS, hF⟩
